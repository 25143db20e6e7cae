/- FnExactHandle, a part. -/
import Derived.Test.YtcmhjdkpbgncfaaGreatDoorP1
import Derived.Test.YtcmhjdkpbgncfaaGreatDoorFw4
set_option maxRecDepth 100000
set_option maxHeartbeats 4000000
namespace Go.Av
abbrev aK:=S8×Int×Int×Unit
abbrev cM:=S8×S8×List (Int×Unit)×Unit
abbrev fz:=Int×Int×List (Int×Unit)×List (Int×Unit)×Unit
def cI(a lo hi:Int):Bool:=cond (bT lo a) (bT a hi) false
theorem bD{a lo hi:Int}:cI a lo hi=true↔lo<=a/\a<=hi:=by unfold cI bT;by_cases h:lo<=a <;> simp[h]
theorem mK(a lo hi:Int):rR a lo hi=zR (cI a lo hi):=rfl
theorem j9(a lo hi:Int):gY a lo hi=zR (cI a lo hi):=rfl
def bM(a:Int):Bool:=cI a 0 4611686018427387904
theorem na(a:Int):A2 a=zR (bM a):=rfl
theorem Bb(a:Int):Ki a=zR (bM a):=rfl
def bd(a:Int):Bool:=cI a 0 1000000000
theorem gN(a:Int):GB a=zR (bd a):=rfl
theorem gM(a:Int):Ib a=zR (bd a):=rfl
def eM(x:UInt8):Bool:=cond (aD (x.toNat:Int) 48) false (!(aD 57 (x.toNat:Int)))
theorem cK{x:UInt8}:eM x=true↔48<=x.toNat/\x.toNat<=57:=by
 unfold eM aD;by_cases h:(x.toNat:Int)<48
 . simp[h]; omega
 . by_cases h2:(57:Int)<x.toNat
   . simp[h,h2]; omega
   . simp[h,h2]; omega
def aF(s:S8):Bool:=cond (s.all eM) (aD 0 (ae s)) false
theorem fg(s:S8)(hs:s.length<=bN):Eh s=zR (aF s):=by
 unfold Eh;have h:=aQ (step:=x3 x5) s (fun i (_:Unit)=>(s,((i:Nat):Int),())) (fun _ x _=>bif eM x then Sum.inl ()else .inr (.inr (false,()))) (fun _=> .inl (s,(s.length:Int),())) (a0:=()) (fun i x a hx=>by
  have hlt:=ai hx;show x5 s (i:Int)=_;unfold x5 eM;rw[aM hx,aC hx,e8 hx,aU (by omega)];dsimp only[oT];cases aD (x.toNat:Int) 48 <;> cases aD 57 (x.toNat:Int) <;> rfl) (fun a=>by
  show x5 s (s.length:Int)=_;unfold x5;rw[aA rfl];try rfl)
 rw[je]at h;have h':RL s 0=_:=h;rw[h'];unfold aF;cases s.all eM <;> rfl
theorem gW(s:S8)(hs:s.length<=bN):tO s=zR (aF s):=by
 unfold tO;have h:=aQ (step:=fY ql) s (fun i (_:Unit)=>(s,ae s,((i:Nat):Int),())) (fun _ x _=>bif eM x then Sum.inl ()else .inr (.inr (false,()))) (fun _=> .inl (s,ae s,(s.length:Int),())) (a0:=()) (fun i x a hx=>by
  have hlt:=ai hx;show ql s (ae s) (i:Int)=_;unfold ql eM;rw[aM hx,aC hx,e8 hx,aU (by omega)];dsimp only[oT];cases aD (x.toNat:Int) 48 <;> cases aD 57 (x.toNat:Int) <;> rfl) (fun a=>by
  show ql s (ae s) (s.length:Int)=_;unfold ql;rw[aA rfl];try rfl)
 rw[je]at h;have h':Oc s (ae s) 0=_:=h;rw[h'];unfold aF;cases s with
 | nil=>rfl
 | cons x r =>
   have e1:aD 0 (ae (x::r))=true:=aP (by unfold ae; simp only[aeC]; omega);have e2:bw (x::r) []=false:=rfl;cases(x::r).all eM
   . rfl
   . dsimp only[oT,oF,oB,oL];rw[e1,e2];try rfl
def jK(x:UInt8):Bool:=cond (aD (x.toNat:Int) 48) (cond (aD (x.toNat:Int) 97) false (!(aD 122 (x.toNat:Int)))) (cond (aD 57 (x.toNat:Int)) (cond (aD (x.toNat:Int) 97) false (!(aD 122 (x.toNat:Int)))) true)
def bf(s:S8):Bool:=cond (s.all jK) (cI (ae s) 1 6) false
theorem kT(s:S8)(hs:s.length<=bN):JI s=zR (bf s):=by
 unfold JI;have h:=aQ (step:=x3 rA) s (fun i (_:Unit)=>(s,((i:Nat):Int),())) (fun _ x _=>bif jK x then Sum.inl ()else .inr (.inr (false,()))) (fun _=> .inl (s,(s.length:Int),())) (a0:=()) (fun i x a hx=>by
  have hlt:=ai hx;show rA s (i:Int)=_;unfold rA jK;rw[aM hx,aC hx,e8 hx,aU (by omega)];dsimp only[oT];cases aD (x.toNat:Int) 48 <;> cases aD 57 (x.toNat:Int) <;> cases aD (x.toNat:Int) 97 <;> cases aD 122 (x.toNat:Int) <;> rfl) (fun a=>by
  show rA s (s.length:Int)=_;unfold rA;rw[aA rfl];try rfl)
 rw[je]at h;have h':Kh s 0=_:=h;rw[h'];unfold bf;cases s.all jK <;> rfl
theorem kW(s:S8)(hs:s.length<=bN):Dy s=zR (bf s):=by
 unfold Dy;have h:=aQ (step:=fY rm) s (fun i (_:Unit)=>(s,ae s,((i:Nat):Int),())) (fun _ x _=>bif jK x then Sum.inl ()else .inr (.inr (false,()))) (fun _=> .inl (s,ae s,(s.length:Int),())) (a0:=()) (fun i x a hx=>by
  have hlt:=ai hx;show rm s (ae s) (i:Int)=_;unfold rm jK;rw[aM hx,aC hx,e8 hx,aU (by omega)];dsimp only[oT];cases aD (x.toNat:Int) 48 <;> cases aD 57 (x.toNat:Int) <;> cases aD (x.toNat:Int) 97 <;> cases aD 122 (x.toNat:Int) <;> rfl) (fun a=>by
  show rm s (ae s) (s.length:Int)=_;unfold rm;rw[aA rfl];try rfl)
 rw[je]at h;have h':MJ s (ae s) 0=_:=h;rw[h'];unfold bf;cases s.all jK <;> rfl
def lD(h:aK):Bool:=cond (bf h.1) (cond (cI h.2.1 1 9007199254740992) (bd h.2.2.1) false) false
theorem Wf(h:aK)(hs:h.1.length<=bN):Po h=zR (lD h):=by unfold Po lD;simp only[kT _ hs,mK,gN,oB];cases bf h.1 <;> cases cI h.2.1 1 9007199254740992 <;> rfl
theorem UJ(h:aK)(hs:h.1.length<=bN):Rp h=zR (lD h):=by unfold Rp lD;simp only[kW _ hs,j9,gM,oB];cases bf h.1 <;> cases cI h.2.1 1 9007199254740992 <;> rfl
def fe(xs:List aK)(i:Nat)(x:aK):Bool:=cond (lD x) (cond (aD 0 (i:Int)) (yK (gt ([],0,0,()) xs ((i:Int)-1)).1 x.1) true) false
def cN(xs:List aK):Bool:=cond (allI (fe xs) 0 xs) (bT (ae xs) 4) false
theorem pQ:∀(s t:S8),(Op.bytesLess s t||bw s t)= !(Op.bytesLess t s)
 | [],[]=>rfl
 | [],_::_=>rfl
 | _::_,[]=>rfl
 | a::s,b::t=>by
   have ih:=pQ s t;have e:bw (a::s) (b::t)=(a == b&&bw s t):=rfl;show((decide (a<b)||(a == b&&Op.bytesLess s t))||bw (a::s) (b::t))= !(decide (b<a)||(b == a&&Op.bytesLess t s));rw[e];rcases agV a.toNat b.toNat with h | h | h
   . have h1:a<b:=agq.2 h;have h2:¬ b<a:=fun hh=>by have:=agq.1 hh; omega
     have h3:(b == a)=false:=by rw[beq_eq_false_iff_ne]; intro hh; subst hh; omega
     simp[h1,h2,h3]
   . have h1:a=b:=UInt8.toNat_inj.1 h;subst h1;have h2:¬ a<a:=fun hh=>by have:=agq.1 hh; omega
     simpa[h2]using ih
   . have h1:¬ a<b:=fun hh=>by have:=agq.1 hh; omega
     have h2:b<a:=agq.2 h;have h3:(a == b)=false:=by rw[beq_eq_false_iff_ne]; intro hh; subst hh; omega
     simp[h1,h2,h3]
theorem HJ(s t:S8):leS s t= !(yK t s):=pQ s t
def qf(xs:List aK):Prop:=xs.length<=bN/\∀ y∈xs,y.1.length<=bN
theorem mA{α:Type}{xs:List α}{i:Nat}{x:α}(hx:xs[i]? = some x)(h:0<i):aZ ((i:Int)-1) xs=true:=by
 have:=ai hx;have e:(i:Int)-1=((i-1:Nat):Int):=by omega
 rw[e]; exact gv (by omega)
theorem AX(xs:List aK)(hb:qf xs):EV xs=zR (cN xs):=by
 have hbig:=bh;unfold EV;have h:=aQ (step:=dJ rD) xs (fun i (_:Unit)=>(xs,xs,ae xs,((i:Nat):Int),())) (fun i x _=>bif fe xs i x then Sum.inl ()else .inr (.inr (false,()))) (fun _=> .inl (xs,xs,ae xs,(xs.length:Int),())) (a0:=()) (fun i x a hx=>by
  have hlt:=ai hx;have hl:=hb.1;show rD xs xs (ae xs) (i:Int)=_;unfold rD fe;rw[aM hx,aC hx,aO _ hx];dsimp only[oT];rw[Wf x (hb.2 x (aet hx)),aU (by omega)];dsimp only[oB];cases lD x with
  | false=>rfl
  | true =>
    by_cases h0:0<i
    . rw[aP (show(0:Int)<i by omega),bA (by omega) (by omega),mA hx h0];dsimp only[oT,oF,oN];have e:gt d192 xs ((i:Int)-1)=gt ([],0,0,()) xs ((i:Int)-1):=rfl;rw[e];cases yK (gt ([],0,0,()) xs ((i:Int)-1)).1 x.1 <;> rfl
    . rw[aG (show ¬ (0:Int)<i by omega)];try rfl) (fun a=>by
  show rD xs xs (ae xs) (xs.length:Int)=_;unfold rD;rw[aA rfl];try rfl)
 rw[jd]at h;have h':Mv xs xs (ae xs) 0=_:=h;rw[h'];unfold cN;cases allI (fe xs) 0 xs <;> rfl
theorem AN(xs:List aK)(hb:qf xs):Jr xs=zR (cN xs):=by
 have hbig:=bh;unfold Jr;have h:=aQ (step:=dJ qh) xs (fun i (_:Unit)=>(xs,xs,ae xs,((i:Nat):Int),())) (fun i x _=>bif fe xs i x then Sum.inl ()else .inr (.inr (false,()))) (fun _=> .inl (xs,xs,ae xs,(xs.length:Int),())) (a0:=()) (fun i x a hx=>by
  have hlt:=ai hx;have hl:=hb.1;show qh xs xs (ae xs) (i:Int)=_;unfold qh fe;rw[aM hx,aC hx,aO _ hx];dsimp only[oT];rw[UJ x (hb.2 x (aet hx)),aU (by omega)];dsimp only[oB];cases lD x with
  | false=>rfl
  | true =>
    by_cases h0:0<i
    . rw[aP (show(0:Int)<i by omega),bA (by omega) (by omega),mA hx h0];dsimp only[oT,oF,oN];rw[HJ];have e:gt d192 xs ((i:Int)-1)=gt ([],0,0,()) xs ((i:Int)-1):=rfl;rw[e];cases yK (gt ([],0,0,()) xs ((i:Int)-1)).1 x.1 <;> rfl
    . rw[aG (show ¬ (0:Int)<i by omega)];try rfl) (fun a=>by
  show qh xs xs (ae xs) (xs.length:Int)=_;unfold qh;rw[aA rfl];try rfl)
 rw[jd]at h;have h':LS xs xs (ae xs) 0=_:=h;rw[h'];unfold cN;cases allI (fe xs) 0 xs <;> rfl
def fW(dbl:Bool)(x:UInt8):Int:=cond dbl (cond (aD 9 (2 * ((x.toNat:Int)-48))) (2 * ((x.toNat:Int)-48)-9) (2 * ((x.toNat:Int)-48))) ((x.toNat:Int)-48)
theorem vJ(b:Bool){x:UInt8}(h:eM x=true):0<=fW b x/\fW b x<=9:=by
 obtain⟨h1,h2⟩:=cK.1 h;unfold fW aD;cases b
 . dsimp only[oF]; omega
 . dsimp only[oT];by_cases h9:9<2 * ((x.toNat:Int)-48)
   . rw[aeq h9]; dsimp only[oT]; omega
   . rw[aeL h9]; dsimp only[oF]; omega
def AF(xs:S8)(a:Int×Bool):Int×Bool:=xs.foldl (fun a x=>(a.1+fW a.2 x,!a.2)) a
def MT(xs:S8)(a:Int×Bool):Int×Bool:=xs.foldl (fun a x=>((a.1+fW a.2 x) % 10,!a.2)) a
theorem HD:∀(xs:S8) (a:Int) (b:Bool),MT xs (a % 10,b)=((AF xs (a,b)).1 % 10,(AF xs (a,b)).2)
 | [],a,b=>rfl
 | x::r,a,b=>by
   have e:(a % 10+fW b x) % 10=(a+fW b x) % 10:=by omega
   show MT r ((a % 10+fW b x) % 10,!b)=((AF r (a+fW b x,!b)).1 % 10,(AF r (a+fW b x,!b)).2);rw[e];exact HD r _ _
def DL(s:S8):Int:=cond (aF s) ((10-(AF s.reverse (0,true)).1 % 10) % 10) (-1)
theorem iR{s:S8}(h:aF s=true):∀ x∈s,eM x=true:=by
 unfold aF at h;cases hs:s.all eM with
 | true=>exact fun x hx=>aeE.1 hs x hx
 | false=>rw[hs]at h; simp at h
theorem AA{s:S8}{i:Nat}{x:UInt8}(h:s.reverse[i]? = some x):i<s.length/\s[s.length-1-i]? = some x:=by
 have hl:i<s.length:=by simpa using ai h
 refine⟨hl,?_⟩;rwa [List.getElem?_reverse hl]at h
theorem SH{x:UInt8}(h:eM x=true):ba .i64 (cW .i64 (x.toNat:Int)) 48=(x.toNat:Int)-48:=by obtain⟨h1,h2⟩:=cK.1 h;have e:cW .i64 (x.toNat:Int)=(x.toNat:Int):=IntWalk.i64_in _ (by omega);rw[e]; exact bA (by omega) (by omega)
theorem RE{x:UInt8}(h:eM x=true):cW .i64 (ba .u8 (x.toNat:Int) 48)=(x.toNat:Int)-48:=by obtain⟨h1,h2⟩:=cK.1 h;have e:ba .u8 (x.toNat:Int) 48=(x.toNat:Int)-48:=IntWalk.u8_in _ (by omega);rw[e]; exact IntWalk.i64_in _ (by omega)
theorem HA{a b:Int}(h1 : -4611686018427387904<=a * b)(h2:a * b<=4611686018427387904):vB .i64 a b=a * b:=by unfold vB; rw[IntWalk.i64_in _ (by omega)]
theorem pc{a:Int}(h:0<=a):dP a 10=a % 10:=by unfold dP; exact afD h
theorem WJ(s:S8)(hs:s.length<=bN):Rv s=zR (DL s):=by
 have hbig:=bh;unfold Rv DL;rw[fg s hs];dsimp only[oB];cases hd:aF s with
 | false=>rfl
 | true =>
 have hall:=iR hd
 have h:=aT (step:=dJ tK) s.reverse (fun i (a:Int×Bool)=>(s,a.1,a.2,(s.length:Int)-1-((i:Nat):Int),())) (fun _ x a=>Sum.inl ((a.1+fW a.2 x) % 10,!a.2)) (fun a=> .inl (s,a.1,a.2,(-1:Int),()))
  (fun _ a=>0<=a.1/\a.1<10) (a0:=(0,true)) ⟨by decide,by decide⟩ (fun i x a hx ha=>by
    obtain⟨hlt,hx'⟩:=AA hx;have hdx:=hall x (aet hx');have hbd:=vJ a.2 hdx;have hdd:=cK.1 hdx;have e:(s.length:Int)-1-(i:Int)=((s.length-1-i:Nat):Int):=by omega
    have e':(s.length:Int)-1-((i+1:Nat):Int)=((s.length-1-i:Nat):Int)-1:=by omega
    obtain⟨a1,a2⟩:=a;show tK s a1 a2 ((s.length:Int)-1-(i:Int))=some (.inl (s,(a1+fW a2 x) % 10,!a2,(s.length:Int)-1-((i+1:Nat):Int),()));rw[e,e'];have hle:bT 0 ((s.length-1-i:Nat):Int)=true:=aeq (by omega);have ha:0<=a1/\a1<10:=ha;unfold tK;rw[hle,aC hx',e8 hx',SH hdx,bA (a:=((s.length-1-i:Nat):Int)) (b:=1) (by omega) (by omega)];have hb:(0<=fW a2 x/\fW a2 x<=9):=hbd;cases a2 with
    | false => have hv:fW false x=(x.toNat:Int)-48:=rfl;dsimp only[oT,oF,oM];rw[a8 (by omega) (by omega),pc (by omega),hv]
    | true =>
      dsimp only[oT,oF,oM,oN];rw[HA (by omega) (by omega)];by_cases h9:9<2 * ((x.toNat:Int)-48)
      . have hv:fW true x=2 * ((x.toNat:Int)-48)-9:=by unfold fW; rw[aP h9];try rfl
        rw[aP h9]; dsimp only[oT,oF,oM]; rw[bA (by omega) (by omega),a8 (by omega) (by omega),pc (by omega),hv]
      . have hv:fW true x=2 * ((x.toNat:Int)-48):=by unfold fW; rw[aG h9];try rfl
        rw[aG h9]; dsimp only[oT,oF,oM]; rw[a8 (by omega) (by omega),pc (by omega),hv]) (fun i x a a' hx ha hf=>by
    simp only[aeK]at hf;subst hf;show 0<=(a.1+fW a.2 x) % 10/\(a.1+fW a.2 x) % 10<10;omega) (fun a ha=>by
    have e:(s.length:Int)-1-((s.reverse.length:Nat):Int) = -1:=by simp; omega
    show tK s a.1 a.2 ((s.length:Int)-1-((s.reverse.length:Nat):Int))=_;rw[e];try rfl)
 rw[bQ (fun x a=>((a.1+fW a.2 x) % 10,!a.2))]at h;have h':LL s 0 true ((s.length:Int)-1-((0:Nat):Int))=some (.inl (s,(MT s.reverse (0,true)).1,(MT s.reverse (0,true)).2,(-1:Int),())):=h;have e0:(s.length:Int)-1-((0:Nat):Int)=ba .i64 (ae s) 1:=by rw[bA (by unfold ae; omega) (by unfold ae; omega)]; unfold ae; omega
 have eT:(MT s.reverse (0,true)).1=(AF s.reverse (0,true)).1 % 10:=by have:=HD s.reverse 0 true;rw[show(0:Int) % 10=0 from rfl]at this;rw[this]
 rw[e0]at h';rw[h',eT];dsimp only[oB,oL,oT,oF,oN];rw[bA (by omega) (by omega),pc (by omega)];try rfl
theorem UG(s:S8)(hs:s.length<=bN):Rz s=zR (DL s):=by
 have hbig:=bh;unfold Rz DL;rw[gW s hs];dsimp only[oB];cases hd:aF s with
 | false=>rfl
 | true =>
 have hall:=iR hd
 have h:=aT (step:=dJ uO) s.reverse (fun i (a:Int×Bool)=>(s,a.1,a.2,(s.length:Int)-1-((i:Nat):Int),())) (fun _ x a=>Sum.inl (a.1+fW a.2 x,!a.2)) (fun a=> .inl (s,a.1,a.2,(-1:Int),()))
  (fun i a=>0<=a.1/\a.1<=9 * i) (a0:=(0,true)) ⟨by decide,by decide⟩ (fun i x a hx ha=>by
    obtain⟨hlt,hx'⟩:=AA hx;have hdx:=hall x (aet hx');have hbd:=vJ a.2 hdx;have hdd:=cK.1 hdx;have e:(s.length:Int)-1-(i:Int)=((s.length-1-i:Nat):Int):=by omega
    have e':(s.length:Int)-1-((i+1:Nat):Int)=((s.length-1-i:Nat):Int)-1:=by omega
    obtain⟨a1,a2⟩:=a;show uO s a1 a2 ((s.length:Int)-1-(i:Int))=some (.inl (s,a1+fW a2 x,!a2,(s.length:Int)-1-((i+1:Nat):Int),()));rw[e,e'];have hle:bT 0 ((s.length-1-i:Nat):Int)=true:=aeq (by omega);have ha:0<=a1/\a1<=9 * i:=ha;unfold uO;rw[hle,aC hx',e8 hx',RE hdx,bA (a:=((s.length-1-i:Nat):Int)) (b:=1) (by omega) (by omega)];have hb:(0<=fW a2 x/\fW a2 x<=9):=hbd;cases a2 with
    | false => have hv:fW false x=(x.toNat:Int)-48:=rfl;dsimp only[oT,oF,oM];rw[a8 (by omega) (by omega),hv]
    | true =>
      dsimp only[oT,oF,oM,oN];have em:vB .i64 ((x.toNat:Int)-48) 2=2 * ((x.toNat:Int)-48):=by rw[HA (by omega) (by omega)]; omega
      rw[em];by_cases h9:9<2 * ((x.toNat:Int)-48)
      . have hv:fW true x=2 * ((x.toNat:Int)-48)-9:=by unfold fW; rw[aP h9];try rfl
        rw[aP h9]; dsimp only[oT,oF,oM]; rw[bA (by omega) (by omega),a8 (by omega) (by omega),hv]
      . have hv:fW true x=2 * ((x.toNat:Int)-48):=by unfold fW; rw[aG h9];try rfl
        rw[aG h9]; dsimp only[oT,oF,oM]; rw[a8 (by omega) (by omega),hv]) (fun i x a a' hx ha hf=>by
    have hbd:=vJ a.2 (hall x (aet (AA hx).2));simp only[aeK]at hf;subst hf;show 0<=a.1+fW a.2 x/\a.1+fW a.2 x<=9 * ((i+1:Nat):Int);omega) (fun a ha=>by
    have e:(s.length:Int)-1-((s.reverse.length:Nat):Int) = -1:=by simp; omega
    show uO s a.1 a.2 ((s.length:Int)-1-((s.reverse.length:Nat):Int))=_;rw[e];try rfl)
 rw[bQ (fun x a=>(a.1+fW a.2 x,!a.2))]at h;have h':LU s 0 true ((s.length:Int)-1-((0:Nat):Int))=some (.inl (s,(AF s.reverse (0,true)).1,(AF s.reverse (0,true)).2,(-1:Int),())):=h;have e0:(s.length:Int)-1-((0:Nat):Int)=ba .i64 (ae s) 1:=by rw[bA (by unfold ae; omega) (by unfold ae; omega)]; unfold ae; omega
 have hS:∀(xs:S8) (a:Int×Bool),(∀ x∈xs,eM x=true)->0<=a.1->0<=(AF xs a).1:=by
  intro xs;induction xs with
  | nil=>intro a _ h; exact h
  | cons x r ih => intro a hx h;have:=vJ a.2 (hx x (aeH ..));exact ih (a.1+fW a.2 x,!a.2) (fun y hy=>hx y (aeD _ hy)) (by show 0<=a.1+fW a.2 x; omega)
 have h0:=hS s.reverse (0,true) (fun x hx=>hall x (List.mem_reverse.1 hx)) (by decide);rw[e0]at h';rw[h'];dsimp only[oB,oL,oT,oF,oN];rw[pc h0,bA (by omega) (by omega),pc (by omega)];try rfl
def tr(s:S8):Bool:=cond (aF s) (cond (bT 2 (ae s)) (aj (DL (sub s 0 (ae s-1))) (et s (ae s-1)-48)) false) false
theorem TF{s:S8}(hd:aF s=true)(h:2<=s.length):∃ x,eM x=true/\aZ (ae s-1) s=true/\et s (ae s-1)=(x.toNat:Int)/\ea 0 (ae s-1) s=true/\(sub s 0 (ae s-1)).length<=s.length:=by
 have e:ae s-1=((s.length-1:Nat):Int):=by unfold ae; omega
 obtain⟨x,hx⟩:∃ x,s[s.length-1]? = some x:=⟨s[s.length-1]'(by omega),by simp⟩;refine⟨x,iR hd x (aet hx),?_,?_,?_,?_⟩
 . rw[e]; exact aC hx
 . rw[e]; exact e8 hx
 . rw[e]; unfold ea iP bT;rw[aeq (by decide),aeq (by omega),aeq (by omega)];try rfl
 . rw[e]; unfold sub; simp
theorem NU(s:S8)(hs:s.length<=bN):QA s=zR (tr s):=by
 have hbig:=bh;unfold QA tr;rw[fg s hs];dsimp only[oB];cases hd:aF s with
 | false=>rfl
 | true =>
   by_cases h2:2<=s.length
   . obtain⟨x,h3,h4,h5,h6,h7⟩:=TF hd h2;have e1:bT 2 (ae s)=true:=aeq (by unfold ae; omega);have e2:ba .i64 (ae s) 1=ae s-1:=bA (by unfold ae; omega) (by unfold ae; omega);rw[aG (show ¬ ae s<2 by unfold ae; omega),e1,e2];dsimp only[oT,oF,oN];rw[h6,h4,WJ _ (aeu h7 hs),h5,SH h3];try rfl
   . have e1:bT 2 (ae s)=false:=aeL (by unfold ae; omega);rw[aP (show ae s<2 by unfold ae; omega),e1];try rfl
theorem Lw(s:S8)(hs:s.length<=bN):Qc s=zR (tr s):=by
 have hbig:=bh;unfold Qc tr;have e2:ba .i64 (ae s) 1=ae s-1:=bA (by unfold ae; omega) (by unfold ae; omega);dsimp only;rw[gW s hs,e2];dsimp only[oB];by_cases h2:2<=s.length
 . have e1:bT 2 (ae s)=true:=aeq (by unfold ae; omega);have e3:bT 1 (ae s-1)=true:=aeq (by unfold ae; omega);rw[e1,e3];cases hd:aF s with
   | false=>rfl
   | true => obtain⟨x,h3,h4,h5,h6,h7⟩:=TF hd h2;dsimp only[oT,oF,oN];rw[h6,h4,UG _ (aeu h7 hs),h5,RE h3];try rfl
 . have e1:bT 2 (ae s)=false:=aeL (by unfold ae; omega);have e3:bT 1 (ae s-1)=false:=aeL (by unfold ae; omega);rw[e1,e3];cases aF s <;> rfl
def e9(s:S8):Bool:=cond (bT (ae s) 19) (tr s) false
theorem xI(s:S8)(hs:s.length<=bN):tV s=zR (e9 s):=by unfold tV e9;rw[NU s hs];cases bT (ae s) 19 <;> rfl
theorem yb(s:S8)(hs:s.length<=bN):uC s=zR (e9 s):=by unfold uC e9;rw[Lw s hs];cases bT (ae s) 19 <;> rfl
def dG(a:Int):Int:=if a<0 then 0 else if 4611686018427387904<a then 4611686018427387904 else a
theorem gH(a:Int):0<=dG a/\dG a<=4611686018427387904:=by
 unfold dG;split
 . omega
 . split <;> omega
def eD(a b:Int):Int:=if 4611686018427387904-dG b<dG a then 4611686018427387904 else dG a+dG b
theorem vR(a b:Int):0<=eD a b/\eD a b<=4611686018427387904:=by have:=gH a; have:=gH b;unfold eD; split <;> omega
theorem G6(a:Int):K8 a 0 4611686018427387904=zR (dG a):=by
 unfold K8 dG;by_cases h:a<0
 . rw[aP h,if_pos h];try rfl
 . by_cases h2:4611686018427387904<a
   . rw[aG h,if_neg h,aP h2,if_pos h2];try rfl
   . rw[aG h,if_neg h,aG h2,if_neg h2];try rfl
theorem xf{a:Int}(h:0<=a/\a<=4611686018427387904):bM a=true:=bD.2 h
theorem vm(a b:Int):wC a b=zR (eD a b):=by
 unfold wC UC eD;have h1:=gH a;have h2:=gH b;rw[G6,G6];dsimp only[oB];rw[na,na,xf h1,xf h2,bA (by omega) (by omega)];dsimp only[oB,oN,oF];by_cases h:4611686018427387904-dG b<dG a
 . rw[aP h,if_pos h];try rfl
 . rw[aG h,if_neg h,a8 (by omega) (by omega)];try rfl
theorem wR(a b:Int):yP a b=zR (eD a b):=by
 have e:∀ x:Int,El 0 (OM x 4611686018427387904)=dG x:=fun x=>by unfold El OM dG;split <;> split <;> (try split) <;> omega
 have h1:=gH a;have h2:=gH b;unfold yP eD;dsimp only;rw[e,e,bA (by omega) (by omega)];by_cases h:4611686018427387904-dG b<dG a
 . rw[aP h,if_pos h];try rfl
 . rw[aG h,if_neg h,a8 (by omega) (by omega)];try rfl
def sP(xs:List aK):Int:=xs.foldl (fun a h=>eD a h.2.1) 0
theorem CL(xs:List aK)(hs:xs.length<=bN):LW xs=zR (sP xs):=by
 unfold LW;have h:=aQ (step:=dJ qx) xs (fun i (a:Int)=>(a,xs,ae xs,((i:Nat):Int),())) (fun _ x a=>Sum.inl (eD a x.2.1)) (fun a=> .inl (a,xs,ae xs,(xs.length:Int),())) (a0:=0) (fun i x a hx=>by
  have hlt:=ai hx;show qx a xs (ae xs) (i:Int)=_;unfold qx;rw[aM hx,aC hx,aO _ hx,aU (by omega),vm];try rfl) (fun a=>by
  show qx a xs (ae xs) (xs.length:Int)=_;unfold qx;rw[aA rfl];try rfl)
 rw[bQ (fun(x:aK) a=>eD a x.2.1)]at h;have h':Ms 0 xs (ae xs) 0=_:=h;rw[h'];try rfl
theorem CR(xs:List aK)(hs:xs.length<=bN):L5 xs=zR (sP xs):=by
 unfold L5;have h:=aQ (step:=dJ rf) xs (fun i (a:Int)=>(a,xs,ae xs,((i:Nat):Int),())) (fun _ x a=>Sum.inl (eD a x.2.1)) (fun a=> .inl (a,xs,ae xs,(xs.length:Int),())) (a0:=0) (fun i x a hx=>by
  have hlt:=ai hx;show rf a xs (ae xs) (i:Int)=_;unfold rf;rw[aM hx,aC hx,aO _ hx,aU (by omega),wR];try rfl) (fun a=>by
  show rf a xs (ae xs) (xs.length:Int)=_;unfold rf;rw[aA rfl];try rfl)
 rw[bQ (fun(x:aK) a=>eD a x.2.1)]at h;have h':LG 0 xs (ae xs) 0=_:=h;rw[h'];try rfl
def gk(r:fz):Bool:=cond (cI r.1 1 1000) (cond (cI (ae r.2.2.1) 1 8) (cond (aj (ae r.2.2.2.1) (ae r.2.2.1)) (cond (bd r.2.1) (r.2.2.1.all (fun x=>bM x.1)&&r.2.2.2.1.all (fun x=>bM x.1)) false) false) false) false
def jm(r:fz):Prop:=r.2.2.1.length<=1048576/\r.2.2.2.1.length<=1048576
theorem bu{a b:Int}:aj a b=true↔a=b:=by simp[aj]
theorem Ao(r:fz)(hb:jm r):Db r=zR (gk r):=by
 have hbig:=bh;obtain⟨hb1,hb2⟩:=hb;unfold Db gk;dsimp only;rw[mK,mK,gN];dsimp only[oB];cases cI r.1 1 1000 with
 | false=>rfl
 | true =>
 cases cI (ae r.2.2.1) 1 8 with
 | false=>rfl
 | true =>
 cases he:aj (ae r.2.2.2.1) (ae r.2.2.1)with
 | false=>rfl
 | true =>
 cases bd r.2.1 with
 | false=>rfl
 | true =>
 have hlen:r.2.2.2.1.length=r.2.2.1.length:=by have:=bu.1 he;unfold ae at this; omega
 dsimp only[oT,oF,oN];have h:=aQ (step:=fY q9) (r.2.2.1.zip r.2.2.2.1) (fun i (_:Unit)=>(ae r.2.2.1,((i:Nat):Int),r,())) (fun _ x _=>bif bM x.1.1&&bM x.2.1 then Sum.inl ()else .inr (.inr (false,()))) (fun _=> .inl (ae r.2.2.1,(r.2.2.1.length:Int),r,())) (a0:=()) (fun i x a hx=>by
  have hx':=List.getElem?_zip_eq_some.1 hx;have hlt:=ai hx'.1;show q9 (ae r.2.2.1) (i:Int) r=_;unfold q9;rw[aM hx'.1,aC hx'.1,aC hx'.2,aO _ hx'.1,aO _ hx'.2,na,na,aU (by omega)];dsimp only[oT,oB];cases bM x.1.1 <;> cases bM x.2.1 <;> rfl) (fun a=>by
  have e:(r.2.2.1.zip r.2.2.2.1).length=r.2.2.1.length:=by rw[List.length_zip,hlen,Nat.min_self]
  rw[e];show q9 (ae r.2.2.1) (r.2.2.1.length:Int) r=_;unfold q9;rw[aA rfl];try rfl)
 rw[je (fun(x:(Int×Unit)×(Int×Unit))=>bM x.1.1&&bM x.2.1)]at h;have h':Kv (ae r.2.2.1) 0 r=_:=h;rw[h'];have hz:∀(a b:List (Int×Unit)),b.length=a.length->(a.zip b).all (fun x=>bM x.1.1&&bM x.2.1)=(a.all (fun x=>bM x.1)&&b.all (fun x=>bM x.1)):=by
  intro a;induction a with
  | nil=>intro b hb; cases b with | nil=>rfl | cons _ _=>simp at hb
  | cons x a ih =>
    intro b hb;cases b with
    | nil=>simp at hb
    | cons y b => simp only[List.zip_cons_cons,afh];rw[ih b (by simpa using hb)];cases bM x.1 <;> cases bM y.1 <;> simp
 rw[hz _ _ hlen];cases r.2.2.1.all (fun x=>bM x.1)&&r.2.2.2.1.all (fun x=>bM x.1) <;> rfl
theorem Nj(a b:List (Int×Unit))(ha:a.length<=1048576)(hb:b.length<=1048576):Pq [(a,()),(b,())]=zR (a++b):=by
 have hbig:=bh;unfold Pq;have hlen:((a.length+b.length:Nat):Int)=(a.length:Int)+b.length:=by omega
 have h:FU [(a,()),(b,())] 0 [(a,()),(b,())] 2 0=some (.inl ([(a,()),(b,())],(a.length:Int)+b.length,[(a,()),(b,())],2,2,())):=by
  refine dN _ (x':=([(a,()),(b,())],(a.length:Int),[(a,()),(b,())],2,1,())) ?_ (dN _ (x':=([(a,()),(b,())],(a.length:Int)+b.length,[(a,()),(b,())],2,2,())) ?_ (dh _ ?_))
  . show tM [(a,()),(b,())] 0 [(a,()),(b,())] 2 0=_;unfold tM;have e:ak .i64 0 (ae (gt d52 [(a,()),(b,())] 0).1)=(a.length:Int):=by
     show ak .i64 0 (ae a)=_;rw[a8 (by unfold ae; omega) (by unfold ae; omega)]; unfold ae; omega
    dsimp only;rw[e,aG (a:=(a.length:Int)) (b:=0) (by omega)];try rfl
  . show tM [(a,()),(b,())] (a.length:Int) [(a,()),(b,())] 2 1=_;unfold tM;have e:ak .i64 (a.length:Int) (ae (gt d52 [(a,()),(b,())] 1).1)=(a.length:Int)+b.length:=by
     show ak .i64 (a.length:Int) (ae b)=_;rw[a8 (by unfold ae; omega) (by unfold ae; omega)]; unfold ae; omega
    dsimp only;rw[e,aG (a:=(a.length:Int)+b.length) (b:=0) (by omega)];try rfl
  . rfl
 have h1:FU [(a,()),(b,())] 0 [(a,()),(b,())] (ae [(a,()),(b,())]) 0=_:=h;have hg:OV ((a.length:Int)+b.length)=zR []:=by
  unfold OV;dsimp only;rw[aG (by omega),bA (a:=0) (b:=0) (by decide) (by decide),bA (by omega) (by omega)];by_cases h0:(0:Int)<(a.length:Int)+b.length-(0-0)
  . have e2:mzB 8 ((a.length:Int)+b.length-(0-0))=true:=by
     unfold mzB bT;rw[aeq (by omega),aeq (by rw[hbig]; omega)];try rfl
    have e3:ea 0 0 (vE d3 ((a.length:Int)+b.length-(0-0)))=true:=by unfold ea iP bT;rw[aeq (by decide),aeq (by omega)];try rfl
    rw[aP h0,e2,e3];try rfl
  . rw[aG h0];try rfl
 have h2:Ek [] [(a,()),(b,())] 2 0=some (.inl (a++b,[(a,()),(b,())],2,2,())):=by
  refine dN _ (x':=(a,[(a,()),(b,())],2,1,())) ?_ (dN _ (x':=(a++b,[(a,()),(b,())],2,2,())) ?_ (dh _ ?_))
  . show uE [] [(a,()),(b,())] 2 0=_;unfold uE;have e:bj 8 ([]:List (Int×Unit)) (gt d52 [(a,()),(b,())] 0).1=true:=aex (by show(0+a.length) * 8<=bN; omega);rw[e];try rfl
  . show uE a [(a,()),(b,())] 2 1=_;unfold uE;have e:bj 8 a (gt d52 [(a,()),(b,())] 1).1=true:=aex (by show(a.length+b.length) * 8<=bN; omega);rw[e];try rfl
  . rfl
 have h2':Ek [] [(a,()),(b,())] (ae [(a,()),(b,())]) 0=_:=h2;rw[h1];dsimp only[oB,oL];rw[hg];dsimp only[oB,oL];rw[h2'];try rfl
theorem xl(r:fz)(hb:jm r):AP r=zR (gk r):=by
 have hbig:=bh;obtain⟨hb1,hb2⟩:=hb;unfold AP;rw[Nj _ _ hb1 hb2];dsimp only[oB];have h:=aQ (step:=nM rI) (r.2.2.1++r.2.2.2.1) (fun i (_:Unit)=>(ae r.2.2.1,r.2.2.1++r.2.2.2.1,ae (r.2.2.1++r.2.2.2.1),((i:Nat):Int),r,())) (fun _ x _=>bif bM x.1 then Sum.inl ()else .inr (.inr (false,()))) (fun _=> .inl (ae r.2.2.1,r.2.2.1++r.2.2.2.1,ae (r.2.2.1++r.2.2.2.1),((r.2.2.1++r.2.2.2.1).length:Int),r,())) (a0:=()) (fun i x a hx=>by
  have hlt:=ai hx;rw[aeo]at hlt;show rI (ae r.2.2.1) (r.2.2.1++r.2.2.2.1) (ae (r.2.2.1++r.2.2.2.1)) (i:Int) r=_;unfold rI;rw[aM hx,aC hx,aO _ hx,Bb,aU (by omega)];dsimp only[oT,oB];cases bM x.1 <;> rfl) (fun a=>by
  show rI (ae r.2.2.1) (r.2.2.1++r.2.2.2.1) (ae (r.2.2.1++r.2.2.2.1)) ((r.2.2.1++r.2.2.2.1).length:Int) r=_;unfold rI;rw[aA rfl];try rfl)
 rw[je (fun(x:Int×Unit)=>bM x.1)]at h;have h':LZ (ae r.2.2.1) (r.2.2.1++r.2.2.2.1) (ae (r.2.2.1++r.2.2.2.1)) 0 r=_:=h;rw[h',List.all_append];unfold gk;cases r.2.2.1.all (fun x=>bM x.1)&&r.2.2.2.1.all (fun x=>bM x.1)with
 | false => cases cI r.1 1 1000 <;> cases cI (ae r.2.2.1) 1 8 <;> cases aj (ae r.2.2.2.1) (ae r.2.2.1) <;> cases bd r.2.1 <;> rfl
 | true => dsimp only[oT,oB,oL];rw[j9,j9,gM];dsimp only[oB];cases cI r.1 1 1000 <;> cases cI (ae r.2.2.1) 1 8 <;> cases aj (ae r.2.2.2.1) (ae r.2.2.1) <;> cases bd r.2.1 <;> rfl
theorem kO{r:fz}(h:gk r=true):(1<=r.1/\r.1<=1000)/\(1<=r.2.2.1.length/\r.2.2.1.length<=8)/\r.2.2.2.1.length=r.2.2.1.length/\(0<=r.2.1/\r.2.1<=1000000000):=by
 unfold gk at h;cases h1:cI r.1 1 1000 with
 | false=>rw[h1]at h; simp at h
 | true =>
 cases h2:cI (ae r.2.2.1) 1 8 with
 | false=>rw[h1,h2]at h; simp at h
 | true =>
 cases h3:aj (ae r.2.2.2.1) (ae r.2.2.1)with
 | false=>rw[h1,h2,h3]at h; simp at h
 | true =>
 cases h4:bd r.2.1 with
 | false=>rw[h1,h2,h3,h4]at h; simp at h
 | true =>
 have a:=bD.1 h1;have b:=bD.1 h2;have c:=bu.1 h3;have d:=bD.1 h4;unfold ae at b c;exact⟨a,⟨by omega,by omega⟩,by omega,d⟩
def nP(s:cM):Bool:=cond (cond (aF s.1) (aj (ae s.1) 6) false) (cond (cond (aF s.2.1) (aj (ae s.2.1) 4) false) (cI (ae s.2.2.1) 1 200) false) false
def KJ(s:cM):Prop:=s.1.length<=bN/\s.2.1.length<=bN
theorem WV(s:cM)(hb:KJ s):QI s=zR (nP s):=by unfold QI nP;rw[fg _ hb.1,fg _ hb.2];dsimp only[oB];rw[mK];cases cond (aF s.1) (aj (ae s.1) 6) false <;> cases cond (aF s.2.1) (aj (ae s.2.1) 4) false <;> rfl
theorem Uv(s:cM)(hb:KJ s):P4 s=zR (nP s):=by unfold P4 vD nP;rw[gW _ hb.1,gW _ hb.2];dsimp only[oB];rw[j9];cases cond (aF s.1) (aj (ae s.1) 6) false <;> cases cond (aF s.2.1) (aj (ae s.2.1) 4) false <;> rfl
def gS(a b:cM):Bool:=cond (bw a.1 b.1) (bw a.2.1 b.2.1) false
def eF(xs:List cM)(i:Nat)(x:cM):Bool:=cond (nP x) ((xs.take i).all (fun y=> !gS y x)) false
def fZ(xs:List cM):Bool:=cond (allI (eF xs) 0 xs) (bT (ae xs) 6) false
def EY(xs:List cM):Prop:=xs.length<=1048576/\∀ y∈xs,KJ y
theorem xL{α:Type}(xs:List α)(i:Nat):sub xs 0 (i:Int)=xs.take i:=by unfold sub; simp
theorem jB{α:Type}{xs:List α}{i:Nat}(h:i<=xs.length):ea 0 (i:Int) xs=true:=by unfold ea iP bT;rw[aeq (by decide),aeq (by omega),aeq (by omega)];try rfl
theorem GO(xs:List cM)(hb:EY xs):g99 xs=zR (fZ xs):=by
 have hbig:=bh;have hb1:=hb.1;unfold g99;have inner:∀(i:Nat) (x:cM),i<=xs.length->TU xs xs (ae xs) (i:Int) (xs.take i) (ae (xs.take i)) 0 x=some (bif (xs.take i).all (fun y=> !gS y x)then .inl (xs,xs,ae xs,(i:Int),xs.take i,ae (xs.take i),((xs.take i).length:Int),x,())else .inr (false,())):=fun i x hi=>by
  have hti:(xs.take i).length<=xs.length:=by rw[afe]; exact Nat.min_le_right _ _
  have h:=aQ (step:=Rj yp) (xs.take i) (fun j (_:Unit)=>(xs,xs,ae xs,(i:Int),xs.take i,ae (xs.take i),((j:Nat):Int),x,())) (fun _ y _=>bif !gS y x then Sum.inl ()else .inr (.inr (false,()))) (fun _=> .inl (xs,xs,ae xs,(i:Int),xs.take i,ae (xs.take i),((xs.take i).length:Int),x,())) (a0:=()) (fun j y a hy=>by
   have hlt:=ai hy;show yp xs xs (ae xs) (i:Int) (xs.take i) (ae (xs.take i)) (j:Int) x=_;unfold yp gS;rw[aM hy,aC hy,aO _ hy,aU (by omega)];dsimp only[oT];cases cond (bw y.1 x.1) (bw y.2.1 x.2.1) false <;> rfl) (fun a=>by
   show yp xs xs (ae xs) (i:Int) (xs.take i) (ae (xs.take i)) ((xs.take i).length:Int) x=_;unfold yp;rw[aA rfl];try rfl)
  rw[je (fun y=> !gS y x)]at h;exact h
 have h:=aQ (step:=dJ yg) xs (fun i (_:Unit)=>(xs,xs,ae xs,((i:Nat):Int),())) (fun i x _=>bif eF xs i x then Sum.inl ()else .inr (.inr (false,()))) (fun _=> .inl (xs,xs,ae xs,(xs.length:Int),())) (a0:=()) (fun i x a hx=>by
  have hlt:=ai hx;show yg xs xs (ae xs) (i:Int)=_;unfold yg eF;rw[aM hx,aC hx,aO _ hx];dsimp only[oT];rw[WV x (hb.2 x (aet hx)),jB (agD hlt),xL];dsimp only[oT,oB];rw[inner i x (agD hlt)];cases nP x with
  | false=>rfl
  | true =>
    cases(xs.take i).all (fun y=> !gS y x)with
    | false=>rfl
    | true =>
      dsimp only[oT,oF,oN,oB,oL];rw[aU (by omega)];try rfl) (fun a=>by
  show yg xs xs (ae xs) (xs.length:Int)=_;unfold yg;rw[aA rfl];try rfl)
 rw[jd]at h;have h':R7 xs xs (ae xs) 0=_:=h;rw[h'];unfold fZ;cases allI (eF xs) 0 xs <;> rfl
def dk{α:Type}(p:α->Bool):Nat->List α->Int
 | _,[] => -1
 | i,x::r=>bif p x then (i:Int)else dk p (i+1) r
theorem gf{α Y:Type}(p:α->Bool)(y:Int->Y)(z:Y)(out:Y->Int)(hy:∀ n,out (y n)=n)(hz:out z = -1):∀(xs:List α) (i:Nat),out (jO (fun i x _=>bif p x then Sum.inr (y (i:Int))else .inl ()) (fun _=>z) i xs ())=dk p i xs
 | [],_=>hz
 | x::r,i=>by
   rw[jO,dk];cases hp:p x with
   | true=>exact hy _
   | false=>exact gf p y z out hy hz r (i+1)
theorem tw{α:Type}(p:α->Bool):∀(xs:List α) (i:Nat),dk p i xs = -1∨((i:Int)<=dk p i xs/\dk p i xs<i+xs.length)
 | [],_=> .inl rfl
 | x::r,i=>by
   rw[dk];cases p x with
   | true=>right; simp only[oT,aeC]; omega
   | false =>
     rcases tw p r (i+1)with h | h
     . exact .inl h
     . right; simp only[oF,aeC]; omega
theorem DI{α:Type}(p:α->Bool):∀ {xs:List α} {i:Nat} {x:α} (k:Nat),xs[i]? = some x->p x=true->(dk p k xs=((k+i:Nat):Int)↔(xs.take i).all (fun y=> !p y)=true)
 | [],i,x,k,h,_=>by simp at h
 | y::r,0,x,k,h,hp=>by simp only[aes,aem]at h;subst h;rw[dk,hp]; simp
 | y::r,i+1,x,k,h,hp=>by
   have ih:=DI p (xs:=r) (i:=i) (x:=x) (k+1) (by simpa using h) hp;rw[dk,aha,afh];cases hy:p y with
   | true => simp only[oT,oN,Bool.false_and,ae5,iff_false];omega
   | false => simp only[oF,oM,agd];rw[<- ih,show k+1+i=k+(i+1)by omega]
theorem DE(xs:List cM)(a b:S8)(hs:xs.length<=1048576):Oq xs a b=zR (dk (fun y=>cond (bw y.1 a) (bw y.2.1 b) false) 0 xs):=by
 have hbig:=bh;unfold Oq Vu;have h:=aQ (step:=dJ pW) xs (fun i (_:Unit)=>(xs,((a,()),(b,()),()),ae xs,((i:Nat):Int),())) (fun i y _=>bif cond (bw y.1 a) (bw y.2.1 b) false then Sum.inr (.inr ((i:Int),()))else Sum.inl ()) (fun _=> .inl (xs,((a,()),(b,()),()),ae xs,(xs.length:Int),())) (a0:=()) (fun i y u hy=>by
  have hlt:=ai hy;show pW xs ((a,()),(b,()),()) (ae xs) (i:Int)=_;unfold pW UR;rw[aM hy,aC hy,aO _ hy,aU (by omega)];dsimp only[oT,oB];cases cond (bw y.1 a) (bw y.2.1 b) false <;> rfl) (fun u=>by
  show pW xs ((a,()),(b,()),()) (ae xs) (xs.length:Int)=_;unfold pW;rw[aA rfl];try rfl)
 have h':Ke xs ((a,()),(b,()),()) (ae xs) 0=_:=h;rw[h'];have hf:=gf (Y:=Sum ((List cM)×(R9×R9×Unit)×Int×Int×Unit) (Int×Unit)) (fun(y:cM)=>cond (bw y.1 a) (bw y.2.1 b) false) (fun n=> .inr (n,())) (.inl (xs,((a,()),(b,()),()),ae xs,(xs.length:Int),())) (fun y=>match y with | .inl _ => -1 | .inr z=>z.1) (fun _=>rfl) rfl xs 0;rw[<- hf];dsimp only[oB];cases jO _ _ 0 xs () <;> rfl
theorem Gp(xs:List cM)(hb:EY xs):Lt xs=zR (fZ xs):=by
 have hbig:=bh;have hb1:=hb.1;unfold Lt;have h:=aQ (step:=dJ qE) xs (fun i (_:Unit)=>(xs,xs,ae xs,((i:Nat):Int),())) (fun i x _=>bif eF xs i x then Sum.inl ()else .inr (.inr (false,()))) (fun _=> .inl (xs,xs,ae xs,(xs.length:Int),())) (a0:=()) (fun i x a hx=>by
  have hlt:=ai hx;show qE xs xs (ae xs) (i:Int)=_;unfold qE eF;rw[aM hx,aC hx,aO _ hx];dsimp only[oT];rw[Uv x (hb.2 x (aet hx))];dsimp only[oT,oB];rw[DE xs _ _ hb1,aU (by omega)];have hp:cond (bw x.1 x.1) (bw x.2.1 x.2.1) false=true:=by rw[hO,hO];try rfl
  have hk:=DI (fun(y:cM)=>cond (bw y.1 x.1) (bw y.2.1 x.2.1) false) 0 hx hp;rw[aey,<- bu]at hk;have hk':aj (dk (fun(y:cM)=>cond (bw y.1 x.1) (bw y.2.1 x.2.1) false) 0 xs) (i:Int)=(xs.take i).all (fun y=> !gS y x):=by rw[Bool.eq_iff_iff]; exact hk
  cases nP x with
  | false=>rfl
  | true =>
    dsimp only[oT,oF,oN,oB];rw[hk'];cases(xs.take i).all (fun y=> !gS y x) <;> rfl) (fun a=>by
  show qE xs xs (ae xs) (xs.length:Int)=_;unfold qE;rw[aA rfl];try rfl)
 rw[jd]at h;have h':MO xs xs (ae xs) 0=_:=h;rw[h'];unfold fZ;cases allI (eF xs) 0 xs <;> rfl
abbrev ay:=S8×Int×Int×Int×Int×List aK×Int×Int×List (Int×Unit)×List (Int×Unit)×List cM×Unit
def cX(a:ay):fz:=(a.2.2.2.2.2.2.1,a.2.2.2.2.2.2.2.1,a.2.2.2.2.2.2.2.2.1,a.2.2.2.2.2.2.2.2.2.1,())
def bE(a:ay):Prop:=a.1.length<=1048576/\(a.2.2.2.2.2.1.length<=1048576/\∀ y∈a.2.2.2.2.2.1,y.1.length<=1048576)/\jm (cX a)/\a.2.2.2.2.2.2.2.2.2.2.1.length<=1048576/\∀ y∈a.2.2.2.2.2.2.2.2.2.2.1,y.1.length<=1048576/\y.2.1.length<=1048576/\y.2.2.1.length<=1048576
theorem bO{n:Nat}(h:n<=1048576):n<=bN:=aeu h (by decide)
theorem bE.hs{a:ay}(h:bE a):qf a.2.2.2.2.2.1:=⟨bO h.2.1.1,fun y hy=>bO (h.2.1.2 y hy)⟩
theorem bE.ss{a:ay}(h:bE a):EY a.2.2.2.2.2.2.2.2.2.2.1:=⟨h.2.2.2.1,fun y hy=>⟨bO (h.2.2.2.2 y hy).1,bO (h.2.2.2.2 y hy).2.1⟩⟩
def bg(a:ay):Bool:=cond (e9 a.1) (cond (cI a.2.1 0 9007199254740992) (cond (cI a.2.2.2.1 0 1000) (cond (cI a.2.2.2.2.1 0 9007199254740992) (cond (bM a.2.2.1) (cond (cN a.2.2.2.2.2.1) (cond (gk (cX a)) (cond (fZ a.2.2.2.2.2.2.2.2.2.2.1) (bT (eD a.2.2.1 (sP a.2.2.2.2.2.1)) a.2.1) false) false) false) false) false) false) false) false
theorem lg(a:ay)(hb:bE a):OH a=zR (bg a):=by
 have h1:=xI a.1 (bO hb.1);have h2:=AX _ hb.hs;have h3:Db (a.2.2.2.2.2.2.1,a.2.2.2.2.2.2.2.1,a.2.2.2.2.2.2.2.2.1,a.2.2.2.2.2.2.2.2.2.1,())=_:=Ao (cX a) hb.2.2.1;have h4:=GO _ hb.ss;have h5:=CL _ hb.hs.1;unfold OH bg;rw[h1,h2,h3,h4,h5,mK,mK,mK,na];dsimp only[oB];rw[vm];dsimp only[oB];cases e9 a.1 <;> first | rfl | skip
 cases cI a.2.1 0 9007199254740992 <;> first | rfl | skip
 cases cI a.2.2.2.1 0 1000 <;> first | rfl | skip
 cases cI a.2.2.2.2.1 0 9007199254740992 <;> first | rfl | skip
 cases bM a.2.2.1 <;> first | rfl | skip
 cases cN a.2.2.2.2.2.1 <;> first | rfl | skip
 cases gk (cX a) <;> first | rfl | skip
 cases fZ a.2.2.2.2.2.2.2.2.2.2.1 <;> rfl
theorem lZ(a:ay)(hb:bE a):Fz a=zR (bg a):=by
 have h1:=yb a.1 (bO hb.1);have h2:=AN _ hb.hs;have h3:AP (a.2.2.2.2.2.2.1,a.2.2.2.2.2.2.2.1,a.2.2.2.2.2.2.2.2.1,a.2.2.2.2.2.2.2.2.2.1,())=_:=xl (cX a) hb.2.2.1;have h4:=Gp _ hb.ss;have h5:=CR _ hb.hs.1;unfold Fz bg;rw[h1,h2,h3,h4,h5,j9,j9,j9,Bb];dsimp only[oB];rw[wR];dsimp only[oB];cases e9 a.1 <;> first | rfl | skip
 cases cI a.2.1 0 9007199254740992 <;> first | rfl | skip
 cases cI a.2.2.2.1 0 1000 <;> first | rfl | skip
 cases cI a.2.2.2.2.1 0 9007199254740992 <;> first | rfl | skip
 cases bM a.2.2.1 <;> first | rfl | skip
 cases cN a.2.2.2.2.2.1 <;> first | rfl | skip
 cases gk (cX a) <;> first | rfl | skip
 cases fZ a.2.2.2.2.2.2.2.2.2.2.1 <;> rfl
theorem ia{α:Type}{b:Nat}{xs:List α}(h:xs.length * b<=bN):bj b ([]:List α) xs=true:=aex (by simpa using h)
theorem yj(r:fz)(hb:jm r):A7 r=some ((),(r,())):=by have hbig:=bh;obtain⟨h1,h2⟩:=hb;unfold A7;rw[ia (by omega),ia (by omega)];try rfl
theorem wZ(r:fz)(hb:jm r):BF r=some ((),(r,())):=by have hbig:=bh;obtain⟨h1,h2⟩:=hb;unfold BF Im;rw[ia (by omega),ia (by omega)];try rfl
theorem uo(xs:List cM)(hs:xs.length<=1048576)(hb:∀ y∈xs,y.2.2.1.length<=1048576):Wz xs=zR xs:=by
 have hbig:=bh;unfold Wz;have h:=aT (step:=dJ xF) xs (fun i (a:List cM)=>(a,xs,ae xs,((i:Nat):Int),())) (fun _ x a=>Sum.inl (a++[x])) (fun a=> .inl (a,xs,ae xs,(xs.length:Int),())) (fun i a=>a.length=i) (a0:=[]) rfl (fun i x a hx ha=>by
  have hlt:=ai hx;have hm:=hb x (aet hx);show xF a xs (ae xs) (i:Int)=_;unfold xF;have e:∀ y:cM,bj 56 a [y]=true:=fun y=>aex (by simp; omega)
  rw[aM hx,aC hx,aO _ hx];dsimp only[oT];rw[ia (by omega),e,aU (by omega)];try rfl) (fun i x a a' hx ha hf=>by
  simp only[aeK]at hf;rw[<- hf,aeo,ha];try rfl) (fun a ha=>by
  show xF a xs (ae xs) (xs.length:Int)=_;unfold xF;rw[aA rfl];try rfl)
 rw[ma]at h;have h':RM [] xs (ae xs) 0=_:=h;rw[h'];try rfl
theorem Af(xs:List cM)(hs:xs.length<=1048576)(hb:∀ y∈xs,y.2.2.1.length<=1048576):Jd xs=zR xs:=by
 have hbig:=bh;unfold Jd;have h:=aT (step:=dJ pZ) xs (fun i (a:List cM)=>(a,xs,ae xs,((i:Nat):Int),())) (fun _ x a=>Sum.inl (a++[x])) (fun a=> .inl (a,xs,ae xs,(xs.length:Int),())) (fun i a=>a.length=i) (a0:=[]) rfl (fun i x a hx ha=>by
  have hlt:=ai hx;have hm:=hb x (aet hx);show pZ a xs (ae xs) (i:Int)=_;unfold pZ FC;have e:∀ y:cM,bj 56 a [y]=true:=fun y=>aex (by simp; omega)
  rw[aM hx,aC hx,aO _ hx];dsimp only[oT];rw[ia (by omega),aU (by omega)];dsimp only[oT,oB];rw[e];try rfl) (fun i x a a' hx ha hf=>by
  simp only[aeK]at hf;rw[<- hf,aeo,ha];try rfl) (fun a ha=>by
  show pZ a xs (ae xs) (xs.length:Int)=_;unfold pZ;rw[aA rfl];try rfl)
 rw[ma]at h;have h':MI [] xs (ae xs) 0=_:=h;rw[h'];try rfl
theorem mi(a:ay)(hb:bE a):LR a=some ((),(a,())):=by have hbig:=bh;have h1:=hb.2.1.1;have h2:A7 (a.2.2.2.2.2.2.1,a.2.2.2.2.2.2.2.1,a.2.2.2.2.2.2.2.2.1,a.2.2.2.2.2.2.2.2.2.1,())=_:=yj (cX a) hb.2.2.1;have h3:=uo _ hb.2.2.2.1 (fun y hy=>(hb.2.2.2.2 y hy).2.2);unfold LR;rw[ia (by omega),h2,h3];try rfl
theorem Cr(a:ay)(hb:bE a):Of a=some ((),(a,())):=by have hbig:=bh;have h1:=hb.2.1.1;have h2:BF (a.2.2.2.2.2.2.1,a.2.2.2.2.2.2.2.1,a.2.2.2.2.2.2.2.2.1,a.2.2.2.2.2.2.2.2.2.1,())=_:=wZ (cX a) hb.2.2.1;have h3:=Af _ hb.2.2.2.1 (fun y hy=>(hb.2.2.2.2 y hy).2.2);unfold Of A3;rw[ia (by omega),h2,h3];try rfl
theorem pU{α Y:Type}(p:α->Bool)(z:List α->Y):∀(xs:List α) (i:Nat) (d:List α),jO (fun _ x (a:List α)=>Sum.inl (bif p x then a++[x]else a)) z i xs d=z (d++xs.filter p)
 | [],_,d=>by simp[jO]
 | x::r,i,d=>by
   rw[jO];simp only;rw[pU p z r (i+1)];cases hp:p x with
   | true=>simp[hp]
   | false=>simp[hp]
def fL(now:Int)(h:aK):Bool:=aD now h.2.2.1
theorem KL(xs:List aK)(now:Int)(hs:xs.length<=1048576):M1 xs now=zR (xs.filter (fL now)):=by
 have hbig:=bh;unfold M1;have h:=aT (step:=nM re) xs (fun i (a:List aK)=>(now,a,xs,ae xs,((i:Nat):Int),())) (fun _ x a=>Sum.inl (bif fL now x then a++[x]else a)) (fun a=> .inl (now,a,xs,ae xs,(xs.length:Int),())) (fun i a=>a.length<=i) (a0:=[]) (oR _) (fun i x a hx ha=>by
  have hlt:=ai hx;show re now a xs (ae xs) (i:Int)=_;unfold re Ux fL;have e:∀ y:aK,bj 32 a [y]=true:=fun y=>aex (by simp; omega)
  rw[aM hx,aC hx,aO _ hx];dsimp only[oT,oB];rw[e,aU (by omega)];cases aD now x.2.2.1 <;> rfl) (fun i x a a' hx ha hf=>by
  simp only[aeK]at hf;rw[<- hf];cases fL now x with
  | true=>simp; omega
  | false=>simp; omega) (fun a ha=>by
  show re now a xs (ae xs) (xs.length:Int)=_;unfold re;rw[aA rfl];try rfl)
 rw[pU]at h;have h':Kw now [] xs (ae xs) 0=_:=h;rw[h'];try rfl
theorem J0(xs:List aK)(now:Int)(hs:xs.length<=1048576):Qv xs (now,())=zR (dk (fun y=> !fL now y) 0 xs):=by
 have hbig:=bh;unfold Qv;have h:=aQ (step:=dJ qR) xs (fun i (_:Unit)=>(xs,((now,()),()),ae xs,((i:Nat):Int),())) (fun i y _=>bif !fL now y then Sum.inr (.inr ((i:Int),()))else Sum.inl ()) (fun _=> .inl (xs,((now,()),()),ae xs,(xs.length:Int),())) (a0:=()) (fun i y u hy=>by
  have hlt:=ai hy;show qR xs ((now,()),()) (ae xs) (i:Int)=_;unfold qR Ns Qi fL;rw[aM hy,aC hy,aO _ hy,aU (by omega)];dsimp only[oT,oB];cases aD now y.2.2.1 <;> rfl) (fun u=>by
  show qR xs ((now,()),()) (ae xs) (xs.length:Int)=_;unfold qR;rw[aA rfl];try rfl)
 have h':J9 xs ((now,()),()) (ae xs) 0=_:=h;rw[h'];have hf:=gf (Y:=Sum ((List aK)×((Int×Unit)×Unit)×Int×Int×Unit) (Int×Unit)) (fun(y:aK)=> !fL now y) (fun n=> .inr (n,())) (.inl (xs,((now,()),()),ae xs,(xs.length:Int),())) (fun y=>match y with | .inl _ => -1 | .inr z=>z.1) (fun _=>rfl) rfl xs 0;rw[<- hf];dsimp only[oB];cases jO _ _ 0 xs () <;> rfl
theorem rb{α:Type}(p:α->Bool):∀(xs:List α) (k:Nat),dk p k xs = -1->xs.filter (fun y=> !p y)=xs
 | [],_,_=>rfl
 | x::r,k,h=>by
   rw[dk]at h;cases hp:p x with
   | true=>rw[hp]at h; simp only[oT]at h; omega
   | false => rw[hp]at h;simp only[oF]at h;rw[agT (by simp[hp]),rb p r (k+1) h]
theorem ln{α:Type}(p:α->Bool):∀(xs:List α) (k:Nat),dk p k xs ≠ -1->∃ i x,dk p k xs=((k+i:Nat):Int)/\xs[i]? = some x/\p x=true/\(xs.take i).filter (fun y=> !p y)=xs.take i
 | [],_,h=>absurd rfl h
 | x::r,k,h=>by
   rw[dk]at h ⊢;cases hp:p x with
   | true=>exact⟨0,x,by simp,rfl,hp,rfl⟩
   | false => rw[hp]at h;simp only[oF]at h ⊢;obtain⟨i,y,h1,h2,h3,h4⟩:=ln p r (k+1) h;refine⟨i+1,y,by rw[h1]; omega,by simpa using h2,h3,?_⟩;rw[aha,agT (by simp[hp]),h4]
theorem HT{α:Type}{done:List α}{x y:α}{r:List α}{i:Nat}(h:done.length=i):(done++x::r).set i y=done++y::r:=by subst h; simp[List.set_append]
theorem Mt(xs:List aK)(now:Int)(hs:xs.length<=1048576):NA xs (now,())=zR (xs.filter (fL now)):=by
 have hbig:=bh;have hnn:(fun y:aK=> !(!fL now y))=fL now:=by funext y; simp
 unfold NA;rw[J0 xs now hs];dsimp only[oB];by_cases hf:dk (fun y=> !fL now y) 0 xs = -1
 . have:=rb _ _ _ hf;rw[hnn]at this;rw[hf,this];try rfl
 . obtain⟨k,x0,h1,h2,h3,h4⟩:=ln _ _ _ hf;rw[hnn]at h4;rw[aey]at h1;have hk:=ai h2;have he:aj (k:Int) (-1)=false:=by unfold aj; rw[beq_eq_false_iff_ne]; omega
   rw[h1,he,aU (by omega)];dsimp only[oF];obtain⟨⟨cur,i⟩,hI,hl⟩:=mm (step:=dJ oA) xs (fun j (a:List aK×Nat)=>(a.1,((now,()),()),(a.2:Int),((j:Nat):Int),())) (fun a=> .inl (a.1,((now,()),()),(a.2:Int),(xs.length:Int),())) (fun j a=>a.1.length=xs.length/\a.2<j/\a.1.take a.2=(xs.take j).filter (fL now)/\a.1.drop j=xs.drop j) (fun j x a hx ha=>by
    obtain⟨cur,i⟩:=a;obtain⟨ha1,ha2,ha3,ha4⟩:=ha;simp only at ha1 ha2 ha3 ha4;have hlt:=ai hx;have hcx:cur[j]? = some x:=by
     have e1:(cur.drop j)[0]? = some x:=by rw[ha4,aft,aeR]; exact hx
     rw[aft,aeR]at e1;exact e1
    have hdr:cur.drop (j+1)=xs.drop (j+1):=by have:=aeU List.tail ha4;simpa using this
    have hst:oA cur ((now,()),()) (i:Int) (j:Int)=some (.inl (bif fL now x then (cur.set i x,((now,()),()),((i+1:Nat):Int),((j+1:Nat):Int),())else (cur,((now,()),()),(i:Int),((j+1:Nat):Int),()))):=by
     unfold oA Ns Qi fL;have hi:i<cur.length:=by omega
     have hsp:cur=cur.take i++cur[i]::cur.drop (i+1):=by rw[<- agt hi,af8]
     have htl:(cur.take i).length=i:=by rw[afe]; omega
     rw[aM hcx,aC hcx,aO _ hcx,gv hi,aU (show j<=bN by omega),aU (show i<=bN by omega)];dsimp only[oT,oB];cases aD now x.2.2.1 with
     | false=>rfl
     | true => dsimp only[oT,oF,oN,oM];generalize hci:cur[i]=ci at hsp;generalize hD:cur.drop (i+1)=D at hsp;generalize hT:cur.take i=T at hsp htl;rw[hsp];simp only[oG _ htl,eJ htl,HT htl];try rfl
    cases hlv:fL now x with
    | true =>
      rw[hlv]at hst;refine⟨(cur.set i x,i+1),hst,by simp[ha1],by omega,?_,?_⟩
      . show(cur.set i x).take (i+1)=_;have hi:i<cur.length:=by omega
        rw[afJ,agY hi,List.take_set_of_le (oR _),ha3,afJ,hx];simp[af1,hlv]
      . show(cur.set i x).drop (j+1)=_;rw[List.drop_set_of_lt (by omega),hdr]
    | false =>
      rw[hlv]at hst;refine⟨(cur,i),hst,ha1,by omega,?_,hdr⟩;show cur.take i=_;rw[ha3,afJ,hx];simp[af1,hlv]) (fun a ha=>by
    show oA a.1 ((now,()),()) (a.2:Int) (xs.length:Int)=_;unfold oA;rw[aA ha.1];try rfl) (xs.length-(k+1)) (k+1) (xs,k) (by omega) ⟨rfl,by omega,by
    show xs.take k=_;have hx0:fL now x0=false:=by simpa using h3
    rw[afJ,h2,af1,h4];simp[hx0],rfl⟩
   obtain⟨i1,i2,i3,_⟩:=hI;simp only at i1 i2 i3;have hl':BD xs ((now,()),()) (k:Int) ((k+1:Nat):Int)=some (.inl (cur,((now,()),()),(i:Int),(xs.length:Int),())):=hl;rw[hl'];dsimp only[oB,oL];have c1:ea (i:Int) (ae cur) cur=true:=by unfold ea iP bT ae;rw[aeq (by omega),aeq (by omega),aeq (by omega)];try rfl
   have c0:(l5 ([],0,0,()) cur (i:Int))=cur.take i++List.replicate (cur.length-i) ([],0,0,()):=by unfold l5 OJ; simp
   have c3:Ps (l5 d192 cur (i:Int)) (i:Int)=cur.take i:=by
    show Ps (l5 ([],0,0,()) cur (i:Int)) (i:Int)=_;rw[c0]; unfold Ps;have:(cur.take i).length=i:=by rw[afe]; omega
    simp only[afr];rw[age (by omega),afU (by omega)]
   have c2:ea 0 (i:Int) (l5 d192 cur (i:Int))=true:=by show ea 0 (i:Int) (l5 ([],0,0,()) cur (i:Int))=true;rw[c0]; exact jB (by simp; omega)
   rw[c1];dsimp only[oT];rw[c2,c3,i3,agJ];try rfl
theorem L3(xs:List aK)(now:Int)(hs:xs.length<=1048576):LP xs now=zR (xs.filter (fL now)):=by have hbig:=bh;unfold LP A3;rw[ia (by omega)];dsimp only[oT,oB];rw[Mt xs now hs];try rfl
def az(a:ay)(now:Int):ay:=cond (bg a) (cond (bd now) (a.1,a.2.1,a.2.2.1,a.2.2.2.1,a.2.2.2.2.1,a.2.2.2.2.2.1.filter (fL now),a.2.2.2.2.2.2.1,a.2.2.2.2.2.2.2.1,a.2.2.2.2.2.2.2.2.1,a.2.2.2.2.2.2.2.2.2.1,a.2.2.2.2.2.2.2.2.2.2.1,()) a) a
theorem nu(a:ay)(now:Int)(hb:bE a):yQ a now=some ((),(az a now,())):=by unfold yQ az;rw[mi a hb,lg a hb,gN,KL _ now hb.2.1.1];dsimp only[oB];cases bg a <;> cases bd now <;> rfl
theorem nA(a:ay)(now:Int)(hb:bE a):Qx a now=some ((),(az a now,())):=by unfold Qx az;rw[Cr a hb,lZ a hb,gM,L3 _ now hb.2.1.1];dsimp only[oB];cases bg a <;> cases bd now <;> rfl
theorem dD{a:ay}(now:Int)(hb:bE a):bE (az a now):=by
 unfold az;cases bg a with
 | false=>exact hb
 | true =>
   cases bd now with
   | false=>exact hb
   | true => obtain⟨h1,⟨h2,h3⟩,h4,h5,h6⟩:=hb;exact⟨h1,⟨aeu (afc _ _) h2,fun y hy=>h3 y (afy.1 hy).1⟩,h4,h5,h6⟩
def ax(xs:List aK)(id:S8):Int:=dk (fun y=>bw y.1 id) 0 xs
theorem mh(xs:List aK)(id:S8)(hs:xs.length<=1048576):A6 xs id=zR (ax xs id):=by
 have hbig:=bh;unfold A6 ax;have h:=aQ (step:=dJ qa) xs (fun i (_:Unit)=>(id,xs,ae xs,((i:Nat):Int),())) (fun i y _=>bif bw y.1 id then Sum.inr (.inr ((i:Int),()))else Sum.inl ()) (fun _=> .inl (id,xs,ae xs,(xs.length:Int),())) (a0:=()) (fun i y u hy=>by
  have hlt:=ai hy;show qa id xs (ae xs) (i:Int)=_;unfold qa;rw[aM hy,aC hy,aO _ hy,aU (by omega)];dsimp only[oT];cases bw y.1 id <;> rfl) (fun u=>by
  show qa id xs (ae xs) (xs.length:Int)=_;unfold qa;rw[aA rfl];try rfl)
 have h':KZ id xs (ae xs) 0=_:=h;rw[h'];have hf:=gf (Y:=Sum (S8×(List aK)×Int×Int×Unit) (Int×Unit)) (fun(y:aK)=>bw y.1 id) (fun n=> .inr (n,())) (.inl (id,xs,ae xs,(xs.length:Int),())) (fun y=>match y with | .inl _ => -1 | .inr z=>z.1) (fun _=>rfl) rfl xs 0;rw[<- hf];dsimp only[oB];cases jO _ _ 0 xs () <;> rfl
theorem hU(xs:List aK)(id:S8)(hs:xs.length<=1048576):FQ xs id=zR (ax xs id):=by
 have hbig:=bh;unfold FQ FT ax;have h:=aQ (step:=dJ lq) xs (fun i (_:Unit)=>(xs,((id,()),()),ae xs,((i:Nat):Int),())) (fun i y _=>bif bw y.1 id then Sum.inr (.inr ((i:Int),()))else Sum.inl ()) (fun _=> .inl (xs,((id,()),()),ae xs,(xs.length:Int),())) (a0:=()) (fun i y u hy=>by
  have hlt:=ai hy;show lq xs ((id,()),()) (ae xs) (i:Int)=_;unfold lq Uy;rw[aM hy,aC hy,aO _ hy,aU (by omega)];dsimp only[oT,oB];cases bw y.1 id <;> rfl) (fun u=>by
  show lq xs ((id,()),()) (ae xs) (xs.length:Int)=_;unfold lq;rw[aA rfl];try rfl)
 have h':Cy xs ((id,()),()) (ae xs) 0=_:=h;rw[h'];have hf:=gf (Y:=Sum ((List aK)×(R9×Unit)×Int×Int×Unit) (Int×Unit)) (fun(y:aK)=>bw y.1 id) (fun n=> .inr (n,())) (.inl (xs,((id,()),()),ae xs,(xs.length:Int),())) (fun y=>match y with | .inl _ => -1 | .inr z=>z.1) (fun _=>rfl) rfl xs 0;rw[<- hf];dsimp only[oB];cases jO _ _ 0 xs () <;> rfl
def sO(xs:List aK)(now:Int):Int:=sP (xs.filter (fL now))
theorem Ij(xs:List aK)(now:Int)(hs:xs.length<=1048576):P8 xs now=zR (sO xs now):=by unfold P8;rw[KL xs now hs];dsimp only[oB];rw[CL _ (bO (aeu (afc _ _) hs))];try rfl
theorem Jn(xs:List aK)(now:Int)(hs:xs.length<=1048576):Ry xs now=zR (sO xs now):=by unfold Ry;rw[L3 xs now hs];dsimp only[oB];rw[CR _ (bO (aeu (afc _ _) hs))];try rfl
def gx(a:ay)(now:Int):Int:=cond (bg a) (cond (bd now) (ba .i64 (ba .i64 a.2.1 a.2.2.1) (sO a.2.2.2.2.2.1 now)) 0) 0
theorem Fs(a:ay)(now:Int)(hb:bE a):H3 a now=zR (gx a now):=by unfold H3 gx;rw[lg a hb,gN,Ij _ now hb.2.1.1];dsimp only[oB];cases bg a <;> cases bd now <;> rfl
theorem EE(a:ay)(now:Int)(hb:bE a):Jj a now=zR (gx a now):=by unfold Jj gx;rw[lZ a hb,gM,Jn _ now hb.2.1.1];dsimp only[oB];cases bg a <;> cases bd now <;> rfl
def shE(n:Int)(xs:List (Int×Unit))(j:Nat):Int×Unit:=cond (bT n (j:Int)) (gt (0,()) xs ((j:Int)-n)) (0,())
def dz(n:Int)(xs:List (Int×Unit)):List (Int×Unit):=(List.range xs.length).map (shE n xs)
theorem eP(n:Int)(xs:List (Int×Unit)):(dz n xs).length=xs.length:=by simp[dz]
theorem qT{n:Int}{xs:List (Int×Unit)}{j:Nat}(h:j<xs.length):(dz n xs)[j]? = some (shE n xs j):=by simp[dz,h]
theorem tD{α:Type}{xs:List α}{i:Nat}{x:α}(h:xs[i]? = some x):xs.take (i+1)=xs.take i++[x]:=by rw[afJ,h];try rfl
theorem zj(n:Int)(xs:List (Int×Unit))(hs:xs.length<=1048576)(hn:0<=n/\n<=1000000000):M8 xs n=zR (dz n xs):=by
 have hbig:=bh;unfold M8;dsimp only;rw[uJ (by decide) (by omega),mI];obtain⟨u,_,hl⟩:=mm (A:=Unit) (step:=nM qm) xs (fun j _=>(xs,n,(dz n xs).take j++List.replicate (xs.length-j) (0,()),ae xs,((j:Nat):Int),())) (fun _=> .inl (xs,n,dz n xs,ae xs,(xs.length:Int),())) (fun _ _=>True) (fun j x a hx _=>by
  have hlt:=ai hx;have hsh:=qT (n:=n) hlt;have htl:((dz n xs).take j).length=j:=by rw[afe,eP]; omega
  refine⟨(),?_,trivial⟩;show qm xs n ((dz n xs).take j++List.replicate (xs.length-j) (0,())) (ae xs) (j:Int)=some (.inl (xs,n,(dz n xs).take (j+1)++List.replicate (xs.length-(j+1)) (0,()),ae xs,((j+1:Nat):Int),()));obtain⟨q,hq⟩:∃ q,xs.length-j=q+1:=⟨xs.length-j-1,by omega⟩;have hq':xs.length-(j+1)=q:=by omega
  rw[hq,hq',agh,tD hsh];unfold qm shE;rw[aM hx,fC htl,aU (by omega)];dsimp only[oT];by_cases hle:n<=(j:Int)
  . have e1:bT n (j:Int)=true:=aeq hle;have e2:aZ ((j:Int)-n) xs=true:=by
     have e:(j:Int)-n=(((j:Int)-n).toNat:Int):=by omega
     rw[e]; exact gv (by omega)
    rw[e1,bA (by omega) (by omega),e2];dsimp only[oT];rw[eJ htl,aeO];try rfl
  . have e1:bT n (j:Int)=false:=aeL hle;rw[e1];dsimp only[oF];rw[aeO];try rfl) (fun a _=>by
  show qm xs n ((dz n xs).take xs.length++List.replicate (xs.length-xs.length) (0,())) (ae xs) (xs.length:Int)=_;unfold qm;rw[aA rfl,agb,agi,afd,afU (by rw[eP]; exact oR _)];try rfl) xs.length 0 () (by omega) trivial
 have hl':Nn xs n (List.replicate xs.length (0,())) (ae xs) 0=_:=hl;rw[show(List.replicate xs.length d3)=List.replicate xs.length (0,())from rfl,hl'];try rfl
def jt(r:fz)(now:Int):fz:=cond (gk r) (cond (bd now) (cond (bT (now / r.1) r.2.1) r (r.1,now / r.1,dz (now / r.1-r.2.1) r.2.2.1,dz (now / r.1-r.2.1) r.2.2.2.1,())) r) r
theorem tS{a b:Int}(h:a≠b):aj a b=false:=by unfold aj; rw[beq_eq_false_iff_ne]; exact h
theorem Nz{now s:Int}(h:0<=now/\now<=1000000000)(h2:1<=s):jr .i64 now s=now / s/\0<=now / s/\now / s<=1000000000:=by have h3:0<=now / s:=agz h.1 (by omega);have h4:now / s<=now:=Int.ediv_le_self _ h.1;refine⟨?_,h3,by omega⟩;unfold jr;rw[afS h.1];exact IntWalk.i64_in _ (by omega)
theorem FV(r:fz)(now:Int)(hb:jm r):Io r now=some ((),(jt r now,())):=by
 unfold Io jt;rw[wZ r hb,xl r hb,gM];dsimp only[oB];cases hr:gk r with
 | false=>rfl
 | true =>
 cases ht:bd now with
 | false=>rfl
 | true =>
 obtain⟨s1,s2,s3,s4⟩:=kO hr;have tn:=bD.1 ht;obtain⟨q1,q2,q3⟩:=Nz tn s1.1;dsimp only[oT,oF,oN];rw[tS (show r.1≠0 by omega),q1]
 try dsimp only[oT,oF,oN,oM]
 by_cases hle:now / r.1<=r.2.1
 . rw[show bT (now / r.1) r.2.1=true from aeq hle];try rfl
 . rw[show bT (now / r.1) r.2.1=false from aeL hle];dsimp only[oT,oF,oN];rw[bA (by omega) (by omega),zj _ _ hb.1 (by omega),zj _ _ hb.2 (by omega)];try rfl
theorem Oh(r:fz)(now:Int)(hb:jm r):KS r now=some ((),(jt r now,())):=by
 have hbig:=bh;unfold KS jt;rw[yj r hb,Ao r hb,gN];dsimp only[oB];cases hr:gk r with
 | false=>rfl
 | true =>
 cases ht:bd now with
 | false=>rfl
 | true =>
 obtain⟨s1,s2,s3,s4⟩:=kO hr;have tn:=bD.1 ht;obtain⟨q1,q2,q3⟩:=Nz tn s1.1;dsimp only[oT,oF,oN];rw[tS (show r.1≠0 by omega),q1]
 try dsimp only[oT,oF,oN,oM]
 by_cases hle:now / r.1<=r.2.1
 . rw[show bT (now / r.1) r.2.1=true from aeq hle];try rfl
 . rw[show bT (now / r.1) r.2.1=false from aeL hle];dsimp only[oT,oF,oN];rw[bA (a:=now / r.1) (b:=r.2.1) (by omega) (by omega)];obtain⟨sp,hd,cs,ss,u⟩:=r;obtain⟨⟩:=u;simp only at s1 s2 s3 s4 q1 q2 q3 hle ⊢;have hn:0<=now / sp-hd/\now / sp-hd<=1000000000:=by omega
   generalize hnn:now / sp-hd=n at hn ⊢;obtain⟨u,_,hl⟩:=mm (A:=Unit) (step:=Ft rM) cs (fun j _=>(now,n,ae cs,((j:Nat):Int),(sp,hd,cs,ss,()),(0,0,[],[],()),(sp,hd,(dz n cs).take j++cs.drop j,(dz n ss).take j++ss.drop j,()),())) (fun _=> .inl (now,n,ae cs,(cs.length:Int),(sp,hd,cs,ss,()),(0,0,[],[],()),(sp,hd,dz n cs,dz n ss,()),())) (fun _ _=>True) (fun j x a hx _=>by
    have hlt:=ai hx;obtain⟨y,hy⟩:∃ y,ss[j]? = some y:=⟨ss[j]'(by omega),aer (by omega)⟩;have hsh:=qT (n:=n) hlt;have hsh2:=qT (n:=n) (ai hy);have htl:((dz n cs).take j).length=j:=by rw[afe,eP]; omega
    have htl2:((dz n ss).take j).length=j:=by rw[afe,eP]; omega
    refine⟨(),?_,trivial⟩;show rM now n (ae cs) (j:Int) (sp,hd,cs,ss,()) (0,0,[],[],()) (sp,hd,(dz n cs).take j++cs.drop j,(dz n ss).take j++ss.drop j,())=some (.inl (now,n,ae cs,((j+1:Nat):Int),(sp,hd,cs,ss,()),(0,0,[],[],()),(sp,hd,(dz n cs).take (j+1)++cs.drop (j+1),(dz n ss).take (j+1)++ss.drop (j+1),()),()));rw[jT hx,jT hy,tD hsh,tD hsh2];unfold rM shE;dsimp only;rw[aM hx,fC htl,fC htl2,aU (by omega),eJ htl,eJ htl2];dsimp only[oT];by_cases hle:n<=(j:Int)
    . have e1:bT n (j:Int)=true:=aeq hle;have e:(j:Int)-n=(((j:Int)-n).toNat:Int):=by omega
      have e2:aZ ((j:Int)-n) cs=true:=by rw[e]; exact gv (by omega)
      have e3:aZ ((j:Int)-n) ss=true:=by rw[e]; exact gv (by omega)
      rw[e1,bA (by omega) (by omega),e2,e3];dsimp only[oT];rw[fC htl,fC htl2,eJ htl,eJ htl2,aeO,aeO];try rfl
    . have e1:bT n (j:Int)=false:=aeL hle;rw[e1];dsimp only[oF];rw[aeO,aeO];try rfl) (fun a _=>by
    show rM now n (ae cs) (cs.length:Int) (sp,hd,cs,ss,()) (0,0,[],[],()) (sp,hd,(dz n cs).take cs.length++cs.drop cs.length,(dz n ss).take cs.length++ss.drop cs.length,())=_;unfold rM;rw[aA rfl,agj,<- s3,agj,afd,afd,afU (by rw[eP]; omega),afU (by rw[eP]; omega)];try rfl) cs.length 0 () (by omega) trivial
   have hl':Nf now n (ae cs) 0 (sp,hd,cs,ss,()) (0,0,[],[],()) (sp,hd,cs,ss,())=_:=hl;rw[hl'];dsimp only[oB,oL];rw[tS (show sp≠0 by omega),q1];try rfl
theorem Fc{r:fz}(now:Int)(hb:jm r):jm (jt r now):=by
 unfold jt;cases gk r with
 | false=>exact hb
 | true =>
   cases bd now with
   | false=>exact hb
   | true =>
     cases bT (now / r.1) r.2.1 with
     | true=>exact hb
     | false=>exact⟨by show(dz _ _).length<=_; rw[eP]; exact hb.1,by show(dz _ _).length<=_; rw[eP]; exact hb.2⟩
theorem rY(r:fz)(now:Int):(jt r now).2.2.1.length=r.2.2.1.length/\(jt r now).2.2.2.1.length=r.2.2.2.1.length:=by unfold jt;cases gk r <;> cases bd now <;> cases bT (now / r.1) r.2.1 <;> first | exact⟨rfl,rfl⟩ | exact⟨eP _ _,eP _ _⟩
def Lr(xs:List (Int×Unit)):Int:=xs.foldl (fun a x=>eD a x.1) 0
theorem HC(xs:List (Int×Unit))(hs:xs.length<=1048576):K7 xs=zR (Lr xs):=by
 have hbig:=bh;unfold K7;have h:=aQ (step:=dJ ru) xs (fun i (a:Int)=>(a,xs,ae xs,((i:Nat):Int),())) (fun _ x a=>Sum.inl (eD a x.1)) (fun a=> .inl (a,xs,ae xs,(xs.length:Int),())) (a0:=0) (fun i x a hx=>by
  have hlt:=ai hx;show ru a xs (ae xs) (i:Int)=_;unfold ru;rw[aM hx,aC hx,aO _ hx,aU (by omega),wR];try rfl) (fun a=>by
  show ru a xs (ae xs) (xs.length:Int)=_;unfold ru;rw[aA rfl];try rfl)
 rw[bQ (fun(x:Int×Unit) a=>eD a x.1)]at h;have h':MR 0 xs (ae xs) 0=_:=h;rw[h'];try rfl
def pF(r:fz)(now:Int)(sums:Bool):Int:=cond (gk r) (cond (bd now) (Lr (cond sums (jt r now).2.2.2.1 (jt r now).2.2.1)) 0) 0
theorem Hf(r:fz)(now:Int)(b:Bool)(hb:jm r):L2 r now b=zR (pF r now b):=by
 have hbig:=bh;unfold L2 pF;rw[Ao r hb,gN,Oh r now hb];dsimp only[oB];cases hr:gk r with
 | false=>rfl
 | true =>
 cases ht:bd now with
 | false=>rfl
 | true =>
 dsimp only[oT,oF,oN];obtain⟨s1,s2,s3,s4⟩:=kO hr;have hlen:=rY r now;have hrb:=Fc now hb;generalize jt r now=q at hlen hrb ⊢;obtain⟨l1,l2⟩:=hlen;obtain⟨hb1,hb2⟩:=hrb;have hq:q.2.2.2.1.length=q.2.2.1.length:=by omega
 cases b with
 | false =>
   have h:=aQ (step:=nM kg) q.2.2.1 (fun i (a:Int)=>(false,a,ae q.2.2.1,((i:Nat):Int),q,())) (fun _ x a=>Sum.inl (eD a x.1)) (fun a=> .inl (false,a,ae q.2.2.1,(q.2.2.1.length:Int),q,())) (a0:=0) (fun i x a hx=>by
    have hlt:=ai hx;show kg false a (ae q.2.2.1) (i:Int) q=_;unfold kg;rw[aM hx,aC hx,aO _ hx,aU (by omega)];dsimp only[oT,oF];rw[vm];try rfl) (fun a=>by
    show kg false a (ae q.2.2.1) (q.2.2.1.length:Int) q=_;unfold kg;rw[aA rfl];try rfl)
   rw[bQ (fun(x:Int×Unit) a=>eD a x.1)]at h;have h':E7 false 0 (ae q.2.2.1) 0 q=_:=h;rw[h'];try rfl
 | true =>
   have hl:ae q.2.2.1=ae q.2.2.2.1:=by unfold ae; omega
   rw[hl];have h:=aQ (step:=nM kg) q.2.2.2.1 (fun i (a:Int)=>(true,a,ae q.2.2.2.1,((i:Nat):Int),q,())) (fun _ x a=>Sum.inl (eD a x.1)) (fun a=> .inl (true,a,ae q.2.2.2.1,(q.2.2.2.1.length:Int),q,())) (a0:=0) (fun i x a hx=>by
    have hlt:=ai hx;show kg true a (ae q.2.2.2.1) (i:Int) q=_;unfold kg;rw[aM hx,aC hx,aO _ hx,aU (by omega)];dsimp only[oT,oF];rw[vm];try rfl) (fun a=>by
    show kg true a (ae q.2.2.2.1) (q.2.2.2.1.length:Int) q=_;unfold kg;rw[aA rfl];try rfl)
   rw[bQ (fun(x:Int×Unit) a=>eD a x.1)]at h;have h':E7 true 0 (ae q.2.2.2.1) 0 q=_:=h;rw[h'];try rfl
theorem Rs(r:fz)(now:Int)(hb:jm r):Kk r now=zR (pF r now false):=by unfold Kk; rw[Hf r now false hb];try rfl
theorem XK(r:fz)(now:Int)(hb:jm r):M7 r now=zR (pF r now true):=by unfold M7; rw[Hf r now true hb];try rfl
theorem Pn(r:fz)(now:Int)(hb:jm r):L4 r now=zR (pF r now false):=by unfold L4 pF;rw[xl r hb,gM,FV r now hb];dsimp only[oB];rw[HC _ (Fc now hb).1];cases gk r <;> cases bd now <;> rfl
theorem XN(r:fz)(now:Int)(hb:jm r):Kr r now=zR (pF r now true):=by unfold Kr pF;rw[xl r hb,gM,FV r now hb];dsimp only[oB];rw[HC _ (Fc now hb).2];cases gk r <;> cases bd now <;> rfl
def gn(a:ay)(amt now:Int):Int:=cond (aD (gx a now) amt) 7 (cond (aD a.2.2.2.1 (eD (pF (cX a) now false) 1)) 8 (cond (aD a.2.2.2.2.1 (eD (pF (cX a) now true) amt)) 9 0))
theorem Np(a:ay)(amt now:Int)(hb:bE a):MG a amt now=zR (gn a amt now):=by
 have h1:Kk (a.2.2.2.2.2.2.1,a.2.2.2.2.2.2.2.1,a.2.2.2.2.2.2.2.2.1,a.2.2.2.2.2.2.2.2.2.1,()) now=_:=Rs (cX a) now hb.2.2.1;have h2:M7 (a.2.2.2.2.2.2.1,a.2.2.2.2.2.2.2.1,a.2.2.2.2.2.2.2.2.1,a.2.2.2.2.2.2.2.2.2.1,()) now=_:=XK (cX a) now hb.2.2.1;unfold MG gn;rw[Fs a now hb,h1,h2];dsimp only[oB];rw[vm,vm];dsimp only[oB];cases aD (gx a now) amt <;> first | rfl | skip
 cases aD a.2.2.2.1 (eD (pF (cX a) now false) 1) <;> first | rfl | skip
 cases aD a.2.2.2.2.1 (eD (pF (cX a) now true) amt) <;> rfl
theorem N7(a:ay)(amt now:Int)(hb:bE a):LQ a amt now=zR (gn a amt now):=by
 have h1:L4 (a.2.2.2.2.2.2.1,a.2.2.2.2.2.2.2.1,a.2.2.2.2.2.2.2.2.1,a.2.2.2.2.2.2.2.2.2.1,()) now=_:=Pn (cX a) now hb.2.2.1;have h2:Kr (a.2.2.2.2.2.2.1,a.2.2.2.2.2.2.2.1,a.2.2.2.2.2.2.2.2.1,a.2.2.2.2.2.2.2.2.2.1,()) now=_:=XN (cX a) now hb.2.2.1;unfold LQ gn;rw[EE a now hb,h1,h2];dsimp only[oB];rw[wR,wR];dsimp only[oB];cases aD (gx a now) amt <;> first | rfl | skip
 cases aD a.2.2.2.1 (eD (pF (cX a) now false) 1) <;> first | rfl | skip
 cases aD a.2.2.2.2.1 (eD (pF (cX a) now true) amt) <;> rfl
def cR(r:fz)(now amt:Int):fz:=cond (gk r) (cond (bd now) (cond (bM amt) ((jt r now).1,(jt r now).2.1,cO (jt r now).2.2.1 0 (eD (gt (0,()) (jt r now).2.2.1 0).1 1,()),cO (jt r now).2.2.2.1 0 (eD (gt (0,()) (jt r now).2.2.2.1 0).1 amt,()),()) r) r) r
theorem Ho{α:Type}{xs:List α}(h:1<=xs.length):aZ 0 xs=true:=gv (i:=0) (by omega)
theorem zM(r:fz)(now amt:Int)(hb:jm r):F3 r now amt=some ((),(cR r now amt,())):=by
 unfold F3 cR;rw[Ao r hb,gN,na,yj r hb,Oh r now hb];dsimp only[oB];cases hr:gk r with
 | false=>rfl
 | true =>
 cases bd now with
 | false=>rfl
 | true =>
 cases bM amt with
 | false=>rfl
 | true =>
 obtain⟨s1,s2,s3,s4⟩:=kO hr;have hlen:=rY r now;dsimp only[oT,oF,oN];rw[Ho (by omega),Ho (by omega),vm,vm];try rfl
theorem Ak(r:fz)(now amt:Int)(hb:jm r):BK r now amt=some ((),(cR r now amt,())):=by
 unfold BK cR;rw[xl r hb,gM,Bb,wZ r hb,FV r now hb];dsimp only[oB];cases hr:gk r with
 | false=>rfl
 | true =>
 cases bd now with
 | false=>rfl
 | true =>
 cases bM amt with
 | false=>rfl
 | true =>
 obtain⟨s1,s2,s3,s4⟩:=kO hr;have hlen:=rY r now;dsimp only[oT,oF,oN];rw[Ho (by omega),Ho (by omega),wR,wR];try rfl
theorem ow(r:fz)(now amt:Int):(cR r now amt).2.2.1.length=r.2.2.1.length/\(cR r now amt).2.2.2.1.length=r.2.2.2.1.length:=by unfold cR;have h:=rY r now;cases gk r <;> cases bd now <;> cases bM amt <;> first | exact⟨rfl,rfl⟩ | exact⟨by show(cO _ _ _).length=_; simp only[cO,afz]; exact h.1,by show(cO _ _ _).length=_; simp only[cO,afz]; exact h.2⟩
def aL:ay:=([],0,0,0,0,[],0,0,[],[],[],())
theorem iO{xs:List aK}{id:S8}(h:¬ ax xs id<0):aZ (ax xs id) xs=true:=by
 rcases tw (fun(y:aK)=>bw y.1 id) xs 0 with h1 | h1
 . exfalso; apply h; show dk _ 0 xs<0; omega
 . have e:ax xs id=((ax xs id).toNat:Int):=by omega
   rw[e];have:ax xs id<xs.length:=by have:=h1.2; simp only[ax]; omega
   exact gv (by omega)
def kt(a:ay)(id:S8)(amt now:Int):ay×Int :=
 cond (cond (bg a) (cond (bd now) (bf id) false) false)
  (cond (cI amt 1 9007199254740992)
    (cond (aD (ax (az a now).2.2.2.2.2.1 id) 0) (aL,5)
      (cond (aj (gn (az a now) amt now) 0)
        (((az a now).1,(az a now).2.1,(az a now).2.2.1,(az a now).2.2.2.1,(az a now).2.2.2.2.1,
          cO (az a now).2.2.2.2.2.1 (ax (az a now).2.2.2.2.2.1 id) ((gt ([],0,0,()) (az a now).2.2.2.2.2.1 (ax (az a now).2.2.2.2.2.1 id)).1,ak .i64 (gt ([],0,0,()) (az a now).2.2.2.2.2.1 (ax (az a now).2.2.2.2.2.1 id)).2.1 amt,(gt ([],0,0,()) (az a now).2.2.2.2.2.1 (ax (az a now).2.2.2.2.2.1 id)).2.2.1,()),
          (cR (cX (az a now)) now amt).1,(cR (cX (az a now)) now amt).2.1,(cR (cX (az a now)) now amt).2.2.1,(cR (cX (az a now)) now amt).2.2.2.1,(az a now).2.2.2.2.2.2.2.2.2.2.1,()),0)
        (aL,gn (az a now) amt now)))
    (aL,4))
  (aL,1)
theorem Wu(a:ay)(id:S8)(amt now:Int)(hb:bE a)(hi:id.length<=1048576):Qy a id amt now=some ((),((kt a id amt now).1,((kt a id amt now).2,()),())):=by
 have hsb:=dD now hb;unfold Qy xz kt;rw[lg a hb,gN,kT id (bO hi),mK,nu a now hb];dsimp only[oB];generalize az a now=s at hsb ⊢;have h1:F3 (s.2.2.2.2.2.2.1,s.2.2.2.2.2.2.2.1,s.2.2.2.2.2.2.2.2.1,s.2.2.2.2.2.2.2.2.2.1,()) now amt=_:=zM (cX s) now amt hsb.2.2.1;rw[mh _ id hsb.2.1.1,Np s amt now hsb];dsimp only[oB];rw[h1];cases bg a <;> first | rfl | skip
 cases bd now <;> first | rfl | skip
 cases bf id <;> first | rfl | skip
 cases cI amt 1 9007199254740992 <;> first | rfl | skip
 dsimp only[oT,oF,oN,oB];by_cases hat:ax s.2.2.2.2.2.1 id<0
 . rw[aP hat];try rfl
 . rw[aG hat,iO hat];dsimp only[oT,oF];cases aj (gn s amt now) 0 <;> rfl
theorem Ub(a:ay)(id:S8)(amt now:Int)(hb:bE a)(hi:id.length<=1048576):LD a id amt now=some ((),((kt a id amt now).1,((kt a id amt now).2,()),())):=by
 have hsb:=dD now hb;unfold LD Fg sd kt;rw[lZ a hb,gM,kW id (bO hi),j9,nA a now hb];dsimp only[oB];generalize az a now=s at hsb ⊢;have h1:BK (s.2.2.2.2.2.2.1,s.2.2.2.2.2.2.2.1,s.2.2.2.2.2.2.2.2.1,s.2.2.2.2.2.2.2.2.2.1,()) now amt=_:=Ak (cX s) now amt hsb.2.2.1;have h2:=hU s.2.2.2.2.2.1 id hsb.2.1.1;have h3:=N7 s amt now hsb;have h0:=hU [] id (by decide);cases bg a with
 | false => simp only[oT,oF,oN,oM,oB];rw[h0];try rfl
 | true =>
 cases bd now with
 | false => simp only[oT,oF,oN,oM,oB];rw[h0];try rfl
 | true =>
 simp only[oT,oF,oN,oM,oB];rw[h2];dsimp only[oB];cases bf id with
 | false=>rfl
 | true =>
 cases cI amt 1 9007199254740992 with
 | false=>rfl
 | true =>
 by_cases hat:ax s.2.2.2.2.2.1 id<0
 . rw[aP hat];try rfl
 . have e00:aj 0 0=true:=rfl;rw[aG hat,e00];simp only[oT,oF,oN,oM,oB];rw[h3];simp only[oT,oF,oN,oM,oB];rw[h1,iO hat,e00];cases aj (gn s amt now) 0 <;> rfl
theorem Dg:∀ s:S8,Op.bytesLess s s=false
 | []=>rfl
 | x::r=>by simp[Op.bytesLess,Dg r]
theorem qq:∀ s t u:S8,Op.bytesLess s t=true->Op.bytesLess t u=true->Op.bytesLess s u=true
 | [],[],u,h,_=>by simp[Op.bytesLess]at h
 | _::_,[],u,h,_=>by simp[Op.bytesLess]at h
 | _,_::_,[],_,h=>by simp[Op.bytesLess]at h
 | [],_::_,_::_,_,_=>by simp[Op.bytesLess]
 | x::r,y::t,z::u,h1,h2=>by
   simp only[Op.bytesLess,afx,afH,aen,beq_iff_eq]at h1 h2 ⊢;rcases h1 with h1 | ⟨rfl,h1⟩
   . rcases h2 with h2 | ⟨rfl,h2⟩
     . exact .inl (UInt8.lt_trans h1 h2)
     . exact .inl h1
   . rcases h2 with h2 | ⟨rfl,h2⟩
     . exact .inl h2
     . exact .inr ⟨rfl,qq r t u h1 h2⟩
theorem mR{xs:List aK}(h:cN xs=true):xs.length<=4:=by
 unfold cN at h;cases ha:allI (fe xs) 0 xs with
 | false=>rw[ha]at h; simp at h
 | true => rw[ha]at h;have:(ae xs)<=4:=afI h;unfold ae at this; omega
theorem pL{xs:List aK}(h:cN xs=true):xs.Pairwise fun a b=>yK a.1 b.1=true:=by
 unfold cN at h;cases ha:allI (fe xs) 0 xs with
 | false=>rw[ha]at h; simp at h
 | true =>
   have adj:∀ i (h1:i+1<xs.length),yK (xs[i]'(by omega)).1 xs[i+1].1=true:=fun i h1=>by
    have:=j4 _ ha (i:=i+1) (x:=xs[i+1]) (aer h1);unfold fe at this;cases hm:lD xs[i+1]with
    | false=>rw[hm]at this; simp at this
    | true => rw[hm,aey,aP (show(0:Int)<((i+1:Nat):Int)by omega)]at this;simp only[oT]at this;rw[show((i+1:Nat):Int)-1=((i:Nat):Int)by omega,aO _ (aer (show i<xs.length by omega))]at this;exact this
   rw[agL];intro i j hi hj hij;obtain⟨d,rfl⟩:∃ d,j=i+1+d:=⟨j-i-1,by omega⟩;induction d with
   | zero=>exact adj i hj
   | succ d ih=>exact qq _ _ _ (ih (by omega) (by omega)) (adj (i+1+d) hj)
theorem qD{xs:List aK}(h:cN xs=true):∀ x∈xs,lD x=true:=fun x hx=>by
 unfold cN at h;cases ha:allI (fe xs) 0 xs with
 | false=>rw[ha]at h; simp at h
 | true =>
   obtain⟨i,hi,e⟩:=List.getElem_of_mem hx;have:=j4 _ ha (i:=i) (x:=x) (by rw[aer hi,e]);unfold fe at this;cases hm:lD x with
   | false=>rw[hm]at this; simp at this
   | true=>rfl
theorem AY{α:Type}(p:Nat->α->Bool):∀(xs:List α) (k:Nat),(∀ i x,xs[i]? = some x->p (k+i) x=true)->allI p k xs=true
 | [],_,_=>rfl
 | x::r,k,h=>by unfold allI;have h0:=h 0 x rfl;rw[aeR]at h0;rw[h0,AY p r (k+1) fun i y hy=>by have:=h (i+1) y hy; rwa [show k+(i+1)=k+1+i by omega]at this];try rfl
theorem I5{xs:List aK}(h1:∀ x∈xs,lD x=true)(h2:xs.Pairwise fun a b=>yK a.1 b.1=true)(h3:xs.length<=4):cN xs=true:=by
 unfold cN;rw[AY _ xs 0 fun i x hx => ?_]
 . simp only[oT]; exact aeq (by unfold ae; omega)
 . have hi:=ai hx;have hxx:xs[i]=x:=by have:=aer hi; rw[this]at hx; exact ae9 hx
   unfold fe;rw[h1 x (hxx ▸ List.getElem_mem hi),aey,oT];cases i with
   | zero=>rfl
   | succ i => rw[aP (show(0:Int)<((i+1:Nat):Int)by omega),oT,show((i+1:Nat):Int)-1=((i:Nat):Int)by omega,aO _ (aer (show i<xs.length by omega)),<- hxx];exact agL.1 h2 i (i+1) (by omega) hi (by omega)
theorem yX{xs:List aK}(p:aK->Bool)(h:cN xs=true):cN (xs.filter p)=true :=
 I5 (fun x hx=>qD h x (afy.1 hx).1) ((pL h).filter _) (aeu (afc _ _) (mR h))
def bR(id:S8)(h:aK):Bool:= !bw h.1 id
theorem Jf(xs:List aK)(id:S8)(hs:xs.length<=1048576):Bf xs (id,())=zR (dk (fun y=> !bR id y) 0 xs):=by
 have hbig:=bh;unfold Bf;have h:=aQ (step:=dJ kY) xs (fun i (_:Unit)=>(xs,((id,()),()),ae xs,((i:Nat):Int),())) (fun i y _=>bif !bR id y then Sum.inr (.inr ((i:Int),()))else Sum.inl ()) (fun _=> .inl (xs,((id,()),()),ae xs,(xs.length:Int),())) (a0:=()) (fun i y u hy=>by
  have hlt:=ai hy;show kY xs ((id,()),()) (ae xs) (i:Int)=_;unfold kY Lk bR;rw[aM hy,aC hy,aO _ hy,aU (by omega)];dsimp only[oT,oB];cases bw y.1 id <;> rfl) (fun u=>by
  show kY xs ((id,()),()) (ae xs) (xs.length:Int)=_;unfold kY;rw[aA rfl];try rfl)
 have h':CM xs ((id,()),()) (ae xs) 0=_:=h;rw[h'];have hf:=gf (Y:=Sum ((List aK)×((S8×Unit)×Unit)×Int×Int×Unit) (Int×Unit)) (fun(y:aK)=> !bR id y) (fun n=> .inr (n,())) (.inl (xs,((id,()),()),ae xs,(xs.length:Int),())) (fun y=>match y with | .inl _ => -1 | .inr z=>z.1) (fun _=>rfl) rfl xs 0;rw[<- hf];dsimp only[oB];cases jO _ _ 0 xs () <;> rfl
theorem A9(xs:List aK)(id:S8)(hs:xs.length<=1048576):xR xs (id,())=zR (xs.filter (bR id)):=by
 have hbig:=bh;have hnn:(fun y:aK=> !(!bR id y))=bR id:=by funext y; simp
 unfold xR;rw[Jf xs id hs];dsimp only[oB];by_cases hf:dk (fun y=> !bR id y) 0 xs = -1
 . have:=rb _ _ _ hf;rw[hnn]at this;rw[hf,this];try rfl
 . obtain⟨k,x0,h1,h2,h3,h4⟩:=ln _ _ _ hf;rw[hnn]at h4;rw[aey]at h1;have hk:=ai h2;have he:aj (k:Int) (-1)=false:=by unfold aj; rw[beq_eq_false_iff_ne]; omega
   rw[h1,he,aU (by omega)];dsimp only[oF];obtain⟨⟨cur,i⟩,hI,hl⟩:=mm (step:=dJ jX) xs (fun j (a:List aK×Nat)=>(a.1,((id,()),()),(a.2:Int),((j:Nat):Int),())) (fun a=> .inl (a.1,((id,()),()),(a.2:Int),(xs.length:Int),())) (fun j a=>a.1.length=xs.length/\a.2<j/\a.1.take a.2=(xs.take j).filter (bR id)/\a.1.drop j=xs.drop j) (fun j x a hx ha=>by
    obtain⟨cur,i⟩:=a;obtain⟨ha1,ha2,ha3,ha4⟩:=ha;simp only at ha1 ha2 ha3 ha4;have hlt:=ai hx;have hcx:cur[j]? = some x:=by
     have e1:(cur.drop j)[0]? = some x:=by rw[ha4,aft,aeR]; exact hx
     rw[aft,aeR]at e1;exact e1
    have hdr:cur.drop (j+1)=xs.drop (j+1):=by have:=aeU List.tail ha4;simpa using this
    have hst:jX cur ((id,()),()) (i:Int) (j:Int)=some (.inl (bif bR id x then (cur.set i x,((id,()),()),((i+1:Nat):Int),((j+1:Nat):Int),())else (cur,((id,()),()),(i:Int),((j+1:Nat):Int),()))):=by
     unfold jX Lk bR;have hi:i<cur.length:=by omega
     have hsp:cur=cur.take i++cur[i]::cur.drop (i+1):=by rw[<- agt hi,af8]
     have htl:(cur.take i).length=i:=by rw[afe]; omega
     rw[aM hcx,aC hcx,aO _ hcx,gv hi,aU (show j<=bN by omega),aU (show i<=bN by omega)];dsimp only[oT,oB];cases bw x.1 id with
     | true=>rfl
     | false =>
       try dsimp only[oT,oF,oN,oM]
       generalize hci:cur[i]=ci at hsp;generalize hD:cur.drop (i+1)=D at hsp;generalize hT:cur.take i=T at hsp htl;rw[hsp];simp only[oG _ htl,eJ htl,HT htl];try rfl
    cases hlv:bR id x with
    | true =>
      rw[hlv]at hst;refine⟨(cur.set i x,i+1),hst,by simp[ha1],by omega,?_,?_⟩
      . show(cur.set i x).take (i+1)=_;have hi:i<cur.length:=by omega
        rw[afJ,agY hi,List.take_set_of_le (oR _),ha3,afJ,hx];simp[af1,hlv]
      . show(cur.set i x).drop (j+1)=_;rw[List.drop_set_of_lt (by omega),hdr]
    | false =>
      rw[hlv]at hst;refine⟨(cur,i),hst,ha1,by omega,?_,hdr⟩;show cur.take i=_;rw[ha3,afJ,hx];simp[af1,hlv]) (fun a ha=>by
    show jX a.1 ((id,()),()) (a.2:Int) (xs.length:Int)=_;unfold jX;rw[aA ha.1];try rfl) (xs.length-(k+1)) (k+1) (xs,k) (by omega) ⟨rfl,by omega,by
    show xs.take k=_;have hx0:bR id x0=false:=by simpa using h3
    rw[afJ,h2,af1,h4];simp[hx0],rfl⟩
   obtain⟨i1,i2,i3,_⟩:=hI;simp only at i1 i2 i3;have hl':sD xs ((id,()),()) (k:Int) ((k+1:Nat):Int)=some (.inl (cur,((id,()),()),(i:Int),(xs.length:Int),())):=hl;rw[hl'];dsimp only[oB,oL];have c1:ea (i:Int) (ae cur) cur=true:=by unfold ea iP bT ae;rw[aeq (by omega),aeq (by omega),aeq (by omega)];try rfl
   have c0:(l5 ([],0,0,()) cur (i:Int))=cur.take i++List.replicate (cur.length-i) ([],0,0,()):=by unfold l5 OJ; simp
   have c3:Ps (l5 d192 cur (i:Int)) (i:Int)=cur.take i:=by
    show Ps (l5 ([],0,0,()) cur (i:Int)) (i:Int)=_;rw[c0]; unfold Ps;have:(cur.take i).length=i:=by rw[afe]; omega
    simp only[afr];rw[age (by omega),afU (by omega)]
   have c2:ea 0 (i:Int) (l5 d192 cur (i:Int))=true:=by show ea 0 (i:Int) (l5 ([],0,0,()) cur (i:Int))=true;rw[c0]; exact jB (by simp; omega)
   rw[c1];dsimp only[oT];rw[c2,c3,i3,agJ];try rfl
theorem BJ(xs:List aK)(id:S8)(hs:xs.length<=1048576):AW xs id=zR (xs.filter (bR id)):=by have hbig:=bh;unfold AW A3;rw[ia (by omega)];dsimp only[oT,oB];rw[A9 xs id hs];try rfl
def lC(h x:aK):Bool:=yK x.1 h.1
theorem CU{h x:aK}(hl:lC h x=true):bR h.1 x=true:=by
 unfold lC yK at hl;unfold bR bw;by_cases e:x.1=h.1
 . rw[e,Dg]at hl; simp at hl
 . simp[e]
def iV(xs:List aK)(h:aK):List aK:=xs.takeWhile (lC h)++h::(xs.dropWhile (lC h)).filter (bR h.1)
def dX(xs:List aK)(h:aK):List aK×Bool:=cond (cN xs) (cond (cN (iV xs h)) (iV xs h,true) ([],false)) ([],false)
theorem vy{h:aK}:∀ {xs:List aK},(xs.Pairwise fun a b=>yK a.1 b.1=true)->(xs.filter (bR h.1)).takeWhile (lC h)=xs.takeWhile (lC h)/\(xs.filter (bR h.1)).dropWhile (lC h)=(xs.dropWhile (lC h)).filter (bR h.1)
 | [],_=>⟨rfl,rfl⟩
 | x::r,hp=>by
   obtain⟨h1,h2⟩:=List.pairwise_cons.1 hp;cases hx:lC h x with
   | true => obtain⟨i1,i2⟩:=vy h2;rw[aff,if_pos (CU hx),afG,afG,afV,afV,hx];simp only[if_true];exact⟨by rw[i1],i2⟩
   | false =>
     have hno:∀ y∈(x::r).filter (bR h.1),lC h y=false:=fun y hy=>by
      rcases aew.1 (afy.1 hy).1 with e | e
      . subst e; exact hx
      . cases hyl:lC h y with
        | false=>rfl
        | true => have:=qq _ _ _ (h1 y e) hyl;unfold lC yK at hx;rw[this]at hx;simp at hx
     have hF:∀ F:List aK,(∀ y∈F,lC h y=false)->F.takeWhile (lC h)=[]/\F.dropWhile (lC h)=F:=fun F hF=>by
      cases F with
      | nil=>exact⟨rfl,rfl⟩
      | cons y F=>rw[afG,afV,hF y (aeH ..)]; exact⟨rfl,rfl⟩
     obtain⟨f1,f2⟩:=hF _ hno;rw[f1,f2,afG,afV,hx];exact⟨rfl,rfl⟩
def jb(h x:aK)(a:List aK×Bool):List aK×Bool:=((cond (cond (!a.2) (!lC h x) false) (a.1++[h]) a.1)++(cond (bR h.1 x) [x] []),cond (cond (!a.2) (!lC h x) false) true a.2)
theorem Dl{h:aK}:∀(xs:List aK) (out:List aK),xs.foldl (fun a x=>jb h x a) (out,true)=(out++xs.filter (bR h.1),true)
 | [],out=>by simp
 | x::r,out=>by rw[afg,aff];have:jb h x (out,true)=(out++(cond (bR h.1 x) [x] []),true):=rfl;rw[this,Dl r];cases bR h.1 x <;> simp
theorem DQ{h:aK}:∀(xs:List aK) (out:List aK),xs.foldl (fun a x=>jb h x a) (out,false)=(if xs.all (lC h)then (out++xs,false)else (out++iV xs h,true))
 | [],out=>by simp
 | x::r,out=>by
   rw[afg,afh];cases hx:lC h x with
   | true =>
     have:jb h x (out,false)=(out++[x],false):=by unfold jb; simp only[hx,CU hx];try rfl
     rw[this,DQ r];have hp:iV (x::r) h=x::iV r h:=by unfold iV; rw[afG,afV,hx];try rfl
     rw[hp];simp only[agd,aeO,agp]
   | false =>
     have:jb h x (out,false)=(out++[h]++(cond (bR h.1 x) [x] []),true):=by unfold jb; simp only[hx];try rfl
     rw[this,Dl];have hp:iV (x::r) h=h::(x::r).filter (bR h.1):=by unfold iV; rw[afG,afV,hx];try rfl
     rw[hp,aff];cases bR h.1 x <;> simp
theorem Nl{h:aK}{xs:List aK}(ha:xs.all (lC h)=true):iV xs h=xs++[h]:=by
 have:=aeE.1 ha;have e1:∀ ys:List aK,(∀ y∈ys,lC h y=true)->ys.takeWhile (lC h)=ys/\ys.dropWhile (lC h)=[]:=by
  intro ys;induction ys with
  | nil=>intro _; exact⟨rfl,rfl⟩
  | cons y ys ih =>
    intro hy;obtain⟨i1,i2⟩:=ih fun z hz=>hy z (aeD _ hz)
    rw[afG,afV,hy y (aeH ..)];exact⟨by simp[i1],by simp[i2]⟩
 obtain⟨f1,f2⟩:=e1 xs this;unfold iV;rw[f1,f2];try rfl
theorem Gg(xs:List aK)(h:aK):(iV xs h).length<=xs.length+1:=by
 unfold iV;have h1:=afc (bR h.1) (xs.dropWhile (lC h));have h2:(xs.takeWhile (lC h)).length+(xs.dropWhile (lC h)).length=xs.length:=by rw[<- aeo,ag2]
 simp only[aeo,aeC];omega
theorem Qr{xs:List aK}{h y:aK}(hy:y∈iV xs h):y=h∨y∈xs:=by
 unfold iV at hy;rcases afN.1 hy with hy | hy
 . exact .inr ((List.takeWhile_prefix _).subset hy)
 . rcases aew.1 hy with hy | hy
   . exact .inl hy
   . exact .inr ((List.dropWhile_suffix _).subset (afy.1 hy).1)
theorem S7{xs:List aK}{h:aK}(hb:qf xs)(hl:xs.length<=1048576)(hh:h.1.length<=bN):qf (iV xs h):=by
 have hbig:=bh;refine⟨by have:=Gg xs h; omega,fun y hy => ?_⟩;rcases Qr hy with e | e
 . rw[e]; exact hh
 . exact hb.2 y e
theorem TB(xs:List aK)(h:aK)(hb:qf xs)(hl:xs.length<=1048576)(hh:h.1.length<=bN):L6 xs h=some ((),(((dX xs h).1,()),((dX xs h).2,()),())):=by
 have hbig:=bh;unfold L6 dX;rw[AX xs hb];dsimp only[oB];cases hm:cN xs with
 | false=>rfl
 | true =>
   have hl4:=mR hm;simp only[oT,oN,oF];have hp:=AX (iV xs h) (S7 hb hl hh);have h':=aT (step:=J7 rC) xs (fun i (a:List aK×Bool)=>(a.1,a.2,xs,ae xs,((i:Nat):Int),h,())) (fun _ x a=>Sum.inl (jb h x a)) (fun a=> .inl (a.1,a.2,xs,ae xs,(xs.length:Int),h,())) (fun i a=>a.1.length<=2 * i) (a0:=([],false)) (oR _) (fun i x a hx ha=>by
    have hlt:=ai hx;show rC a.1 a.2 xs (ae xs) (i:Int) h=_;have e:∀(o:List aK) (y:aK),o.length<=100->bj 32 o [y]=true:=fun o y ho=>aex (by simp; omega)
    have e1:=e a.1 h (by omega);have e2:=e a.1 x (by omega);have e3:=e (fy a.1 [h]) x (by unfold fy; simp; omega);unfold rC jb;rw[aM hx,aC hx,aU (by omega)];dsimp only[oT];have eg:gt d192 xs (i:Int)=x:=aO _ hx;rw[eg];have q1:lC h x=yK x.1 h.1:=rfl;have q2:bR h.1 x= !bw x.1 h.1:=rfl;rw[q1,q2,e1,e2,e3];cases a.2 <;> cases yK x.1 h.1 <;> cases bw x.1 h.1 <;> simp[fy]) (fun i x a a' hx ha hf=>by
    simp only[aeK]at hf;rw[<- hf];unfold jb;cases(cond (!a.2) (!lC h x) false) <;> cases bR h.1 x <;> simp <;> omega) (fun a ha=>by
    show rC a.1 a.2 xs (ae xs) (xs.length:Int) h=_;unfold rC;rw[aA rfl];try rfl)
   rw[bQ (fun x a=>jb h x a),DQ]at h';have h'':Kx [] false xs (ae xs) 0 h=_:=h';rw[h''];by_cases ha:xs.all (lC h)=true
   . rw[if_pos ha];simp only[oB,oL,af4,oM,oT];have e1:bj 32 xs [h]=true:=aex (by simp; omega);have e2:fy xs [h]=iV xs h:=(Nl ha).symm;rw[e1,e2,hp];simp only[oT,oB];cases cN (iV xs h) <;> rfl
   . rw[if_neg ha];simp only[oB,oL,af4,oN,oF];rw[hp];simp only[oB];cases cN (iV xs h) <;> rfl
theorem KI{α Y:Type}(p:α->Bool)(y:Nat->Y):∀(xs:List α) (i n:Nat),n=i+xs.length->jO (fun i x (_:Unit)=>bif p x then Sum.inl ()else .inr (y i)) (fun _=>y n) i xs ()=y (i+(xs.takeWhile p).length)
 | [],i,n,h=>by simp at h; subst h; simp[jO]
 | x::r,i,n,h=>by
   rw[jO,afG];cases hp:p x with
   | true => simp only[oT,if_true];rw[KI p y r (i+1) n (by simp only[aeC]at h; omega)];congr 1;simp only[aeC]; omega
   | false=>simp
theorem GF{α:Type}(p:α->Bool):∀(xs:List α),xs.take (xs.takeWhile p).length=xs.takeWhile p/\xs.drop (xs.takeWhile p).length=xs.dropWhile p
 | []=>⟨rfl,rfl⟩
 | x::r=>by
   rw[afG,afV];cases hp:p x with
   | true=>obtain⟨h1,h2⟩:=GF p r; simp only[if_true,aeC,aha,List.drop_succ_cons]; exact⟨by rw[h1],h2⟩
   | false=>exact⟨rfl,rfl⟩
theorem Th(xs:List aK)(h:aK)(hb:qf xs)(hl:xs.length<=1048576)(hh:h.1.length<=bN):Ob xs h=some ((),(((dX xs h).1,()),((dX xs h).2,()),())):=by
 have hbig:=bh;unfold Ob dX;rw[AN xs hb,BJ xs h.1 hl];dsimp only[oB];cases hm:cN xs with
 | false=>rfl
 | true =>
   have hl4:=mR hm;simp only[oT,oN,oF];have hp:=AN (iV xs h) (S7 hb hl hh);obtain⟨s1,s2⟩:=vy (h:=h) (pL hm);have hFl:=afc (bR h.1) xs;generalize hF:xs.filter (bR h.1)=F at s1 s2 hFl;obtain⟨t1,t2⟩:=GF (lC h) F;have htl:(F.takeWhile (lC h)).length<=F.length:=(List.takeWhile_prefix _).length_le;have h':=aQ (step:=fY qX) F (fun i (_:Unit)=>(F,((i:Nat):Int),h,())) (fun i x _=>bif lC h x then Sum.inl ()else .inr (.inl (F,((i:Nat):Int),h,()))) (fun _=> .inl (F,(F.length:Int),h,())) (a0:=()) (fun i x a hx=>by
    have hlt:=ai hx;show qX F (i:Int) h=_;have eg:gt d192 F (i:Int)=x:=aO _ hx;have q1:lC h x=yK x.1 h.1:=rfl;unfold qX;rw[aM hx,aC hx,aU (by omega),eg,q1];dsimp only[oT];cases yK x.1 h.1 <;> rfl) (fun a=>by
    show qX F (F.length:Int) h=_;unfold qX;rw[aA rfl];try rfl)
   rw[KI (lC h) (fun i=>Sum.inl (F,((i:Nat):Int),h,())) F 0 F.length (by omega),aey]at h';have h'':Lj F 0 h=_:=h';rw[h''];simp only[oB,oL];have hi:Rm F ((F.takeWhile (lC h)).length:Int) [h]=zR (iV xs h):=by unfold Rm Le;have e1:bT 0 ((F.takeWhile (lC h)).length:Int)=true:=aeq (Int.natCast_nonneg _);have e2:bT ((F.takeWhile (lC h)).length:Int) (F.length:Int)=true:=aeq (by omega);have e3:Nat.ble ((F.length+[h].length) * 32) bN=true:=aex (by simp; omega);rw[e1,e2,e3];simp only[Bool.and_self,oT,afr];rw[t1,t2,s1,s2];unfold iV;simp
   rw[hi];simp only[oB];rw[hp];simp only[oB];cases cN (iV xs h) <;> rfl
theorem Fw(xs:List aK)(id:S8)(hs:xs.length<=1048576):ET xs id=zR (xs.filter (bR id)):=by
 have hbig:=bh;unfold ET;have h:=aT (step:=nM rB) xs (fun i (a:List aK)=>(id,a,xs,ae xs,((i:Nat):Int),())) (fun _ x a=>Sum.inl (bif bR id x then a++[x]else a)) (fun a=> .inl (id,a,xs,ae xs,(xs.length:Int),())) (fun i a=>a.length<=i) (a0:=[]) (oR _) (fun i x a hx ha=>by
  have hlt:=ai hx;show rB id a xs (ae xs) (i:Int)=_;unfold rB bR;have e:∀ y:aK,bj 32 a [y]=true:=fun y=>aex (by simp; omega)
  rw[aM hx,aC hx,aO _ hx];dsimp only[oT,oB];rw[e,aU (by omega)];cases bw x.1 id <;> rfl) (fun i x a a' hx ha hf=>by
  simp only[aeK]at hf;rw[<- hf];cases bR id x with
  | true=>simp; omega
  | false=>simp; omega) (fun a ha=>by
  show rB id a xs (ae xs) (xs.length:Int)=_;unfold rB;rw[aA rfl];try rfl)
 rw[pU]at h;have h':Md id [] xs (ae xs) 0=_:=h;rw[h'];try rfl
def kq(a:ay)(id:S8)(amt ttl now:Int):ay×Int :=
 cond (cond (bg a) (cond (bd now) (bf id) false) false)
  (cond (cI amt 1 9007199254740992)
    (cond (cond (!cI ttl 1 9999) true (aD 1000000000 (ak .i64 now ttl))) (aL,4)
      (cond (bT 0 (ax (az a now).2.2.2.2.2.1 id)) (aL,6)
        (cond (aj (ae (az a now).2.2.2.2.2.1) 4) (aL,10)
          (cond (aj (gn (az a now) amt now) 0)
            (((az a now).1,(az a now).2.1,(az a now).2.2.1,(az a now).2.2.2.1,(az a now).2.2.2.2.1,
              (dX (az a now).2.2.2.2.2.1 (id,amt,ak .i64 now ttl,())).1,
              (cR (cX (az a now)) now amt).1,(cR (cX (az a now)) now amt).2.1,(cR (cX (az a now)) now amt).2.2.1,(cR (cX (az a now)) now amt).2.2.2.1,(az a now).2.2.2.2.2.2.2.2.2.2.1,()),0)
            (aL,gn (az a now) amt now)))))
    (aL,4))
  (aL,1)
theorem Vf(a:ay)(id:S8)(amt ttl now:Int)(hb:bE a)(hi:id.length<=1048576):QZ a id amt ttl now=some ((),((kq a id amt ttl now).1,((kq a id amt ttl now).2,()),())):=by
 have hsb:=dD now hb;unfold QZ xz kq;rw[lg a hb,gN,kT id (bO hi),mK,mK,nu a now hb];dsimp only[oB];generalize az a now=s at hsb ⊢;have h1:F3 (s.2.2.2.2.2.2.1,s.2.2.2.2.2.2.2.1,s.2.2.2.2.2.2.2.2.1,s.2.2.2.2.2.2.2.2.2.1,()) now amt=_:=zM (cX s) now amt hsb.2.2.1;rw[mh _ id hsb.2.1.1,Np s amt now hsb,TB _ (id,amt,ak .i64 now ttl,()) hsb.hs hsb.2.1.1 (bO hi)];dsimp only[oB];rw[h1];cases bg a <;> first | rfl | skip
 cases bd now <;> first | rfl | skip
 cases bf id <;> first | rfl | skip
 cases cI amt 1 9007199254740992 <;> first | rfl | skip
 dsimp only[oT,oF,oN,oB];cases(cond (!cI ttl 1 9999) true (aD 1000000000 (ak .i64 now ttl))) <;> first | rfl | skip
 dsimp only[oT,oF,oN,oB];cases bT 0 (ax s.2.2.2.2.2.1 id) <;> first | rfl | skip
 cases aj (ae s.2.2.2.2.2.1) 4 <;> first | rfl | skip
 dsimp only[oT,oF,oN,oB];cases aj (gn s amt now) 0 <;> rfl
theorem VN(a:ay)(id:S8)(amt ttl now:Int)(hb:bE a)(hi:id.length<=1048576):Mi a id amt ttl now=some ((),((kq a id amt ttl now).1,((kq a id amt ttl now).2,()),())):=by
 have hsb:=dD now hb;unfold Mi sd kq;rw[lZ a hb,gM,kW id (bO hi),j9,j9,nA a now hb];dsimp only[oB];generalize az a now=s at hsb ⊢;have h1:BK (s.2.2.2.2.2.2.1,s.2.2.2.2.2.2.2.1,s.2.2.2.2.2.2.2.2.1,s.2.2.2.2.2.2.2.2.2.1,()) now amt=_:=Ak (cX s) now amt hsb.2.2.1;have h2:=hU s.2.2.2.2.2.1 id hsb.2.1.1;have h3:=N7 s amt now hsb;have h4:=Th s.2.2.2.2.2.1 (id,amt,ak .i64 now ttl,()) hsb.hs hsb.2.1.1 (bO hi);cases bg a <;> first | rfl | skip
 cases bd now <;> first | rfl | skip
 have e00:aj 0 0=true:=rfl;simp only[oT,oF,oN,oM,oB,e00];cases bf id <;> first | rfl | skip
 cases cI amt 1 9007199254740992 <;> first | rfl | skip
 simp only[oT,oF,oN,oM,oB];cases(cond (!cI ttl 1 9999) true (aD 1000000000 (ak .i64 now ttl))) <;> first | rfl | skip
 simp only[oT,oF,oN,oM,oB];rw[h2,h3,h4];dsimp only[oB];rw[h1];cases bT 0 (ax s.2.2.2.2.2.1 id) <;> first | rfl | skip
 cases aj (ae s.2.2.2.2.2.1) 4 <;> first | rfl | skip
 dsimp only[oT,oF,oN,oB];cases aj (gn s amt now) 0 <;> rfl
def EG(a:ay)(l:List aK):ay:=(a.1,a.2.1,a.2.2.1,a.2.2.2.1,a.2.2.2.2.1,l,a.2.2.2.2.2.2.1,a.2.2.2.2.2.2.2.1,a.2.2.2.2.2.2.2.2.1,a.2.2.2.2.2.2.2.2.2.1,a.2.2.2.2.2.2.2.2.2.2.1,())
def nL:aK:=([],0,0,())
def fA(a b:ay)(id:S8)(now:Int):ay×ay×Int :=
 cond (cond (bg a) (cond (bd now) (bf id) false) false)
  (cond (bg b)
    (cond (bw a.1 b.1) (aL,aL,4)
      (cond (aD (ax (az a now).2.2.2.2.2.1 id) 0) (aL,aL,5)
        (cond (bT 0 (ax (az b now).2.2.2.2.2.1 id)) (aL,aL,6)
          (cond (aj (ae (az b now).2.2.2.2.2.1) 4) (aL,aL,10)
            (cond (aD (gx (az b now) now) (gt nL (az a now).2.2.2.2.2.1 (ax (az a now).2.2.2.2.2.1 id)).2.1) (aL,aL,7)
              (EG (az a now) ((az a now).2.2.2.2.2.1.filter (bR id)),EG (az b now) (dX (az b now).2.2.2.2.2.1 (gt nL (az a now).2.2.2.2.2.1 (ax (az a now).2.2.2.2.2.1 id))).1,0))))))
    (aL,aL,1))
  (aL,aL,1)
theorem CN{xs:List aK}{k:Int}(hb:∀ y∈xs,y.1.length<=1048576):(gt nL xs k).1.length<=1048576:=by
 unfold gt;rw[afn];cases h:xs[k.toNat]? with
 | none=>exact aeA _
 | some y=>exact hb y (aet h)
theorem VK(a b:ay)(id:S8)(now:Int)(hb:bE a)(hc:bE b)(hi:id.length<=1048576):KV a b id now=some ((),((fA a b id now).1,((fA a b id now).2.1,((fA a b id now).2.2,()),()))):=by
 have hsb:=dD now hb;have hsc:=dD now hc;unfold KV xz fA;rw[lg a hb,gN,kT id (bO hi),lg b hc,nu a now hb,nu b now hc];dsimp only[oB];generalize az a now=s at hsb ⊢;generalize az b now=t at hsc ⊢;rw[mh _ id hsb.2.1.1,mh _ id hsc.2.1.1,Fs t now hsc,Fw _ id hsb.2.1.1];dsimp only[oB];have hgt:∀ k:Int,gt d192 s.2.2.2.2.2.1 k=gt nL s.2.2.2.2.2.1 k:=fun _=>rfl
 rw[hgt,TB _ _ hsc.hs hsc.2.1.1 (bO (CN hsb.2.1.2))];dsimp only[oB];cases bg a <;> first | rfl | skip
 cases bd now <;> first | rfl | skip
 cases bf id <;> first | rfl | skip
 cases bg b <;> first | rfl | skip
 cases bw a.1 b.1 <;> first | rfl | skip
 by_cases hat:ax s.2.2.2.2.2.1 id<0
 . rw[aP hat];try rfl
 . rw[aG hat,iO hat];cases bT 0 (ax t.2.2.2.2.2.1 id) <;> first | rfl | skip
   cases aj (ae t.2.2.2.2.2.1) 4 <;> first | rfl | skip
   dsimp only[oT,oF,oN,oB];cases aD (gx t now) (gt nL s.2.2.2.2.2.1 (ax s.2.2.2.2.2.1 id)).2.1 <;> rfl
theorem Ue(a b:ay)(id:S8)(now:Int)(hb:bE a)(hc:bE b)(hi:id.length<=1048576):JH a b id now=some ((),((fA a b id now).1,((fA a b id now).2.1,((fA a b id now).2.2,()),()))):=by
 have hsb:=dD now hb;have hsc:=dD now hc;unfold JH sd fA;rw[lZ a hb,gM,kW id (bO hi),lZ b hc,nA a now hb,nA b now hc];dsimp only[oB];generalize az a now=s at hsb ⊢;generalize az b now=t at hsc ⊢;have h0:=hU [] id (by decide);have h1:=hU s.2.2.2.2.2.1 id hsb.2.1.1;have h2:=hU t.2.2.2.2.2.1 id hsc.2.1.1;have h3:=EE t now hsc;have h4:=BJ s.2.2.2.2.2.1 id hsb.2.1.1;have hgt:∀ k:Int,gt d192 s.2.2.2.2.2.1 k=gt nL s.2.2.2.2.2.1 k:=fun _=>rfl
 have h5:=Th t.2.2.2.2.2.1 (gt nL s.2.2.2.2.2.1 (ax s.2.2.2.2.2.1 id)) hsc.hs hsc.2.1.1 (bO (CN hsb.2.1.2));have e00:aj 0 0=true:=rfl;have e10:aj 1 0=false:=rfl;cases bg a with
 | false => simp only[oT,oF,oN,oM,oB,e00,e10];cases bg b <;> cases bd now <;> (simp only[oT,oF,oN,oM,oB,h0];try rfl)
 | true =>
 cases bd now with
 | false => cases bg b <;> (simp only[oT,oF,oN,oM,oB,h0];try rfl)
 | true =>
 cases bg b with
 | false => simp only[oT,oF,oN,oM,oB,h1,e00,e10];cases bf id <;> rfl
 | true =>
 simp only[oT,oF,oN,oM,oB,h1,h2,h3,h4,e00,e10,hgt,h5];cases bf id <;> first | rfl | skip
 cases bw a.1 b.1 <;> first | rfl | skip
 by_cases hat:ax s.2.2.2.2.2.1 id<0
 . rw[aP hat];try rfl
 . rw[aG hat,iO hat];cases bT 0 (ax t.2.2.2.2.2.1 id) <;> first | rfl | skip
   cases aj (ae t.2.2.2.2.2.1) 4 <;> first | rfl | skip
   simp only[oT,oF,oN,oM,oB];cases aD (gx t now) (gt nL s.2.2.2.2.2.1 (ax s.2.2.2.2.2.1 id)).2.1 <;> rfl
theorem ZP(d:Nat)(h:d<=9):strOf [(cW .u8 (ak .i64 48 (d:Int)),())]=[UInt8.ofNat (48+d)]:=by
 rw[a8 (by omega) (by omega)];have:cW .u8 (48+(d:Int))=48+(d:Int):=by unfold cW; rw[IntKind.wrap_u8]; omega
 rw[this];show [UInt8.ofNat (Int.toNat (48+(d:Int)))]=_;rw[show Int.toNat (48+(d:Int))=48+d by omega]
theorem lQ{s t:S8}(h:s.length+t.length<=bN):iJ s t=true:=aex h
theorem PU{u:Nat}(h:u<18446744073709551616):(Lib.decDigits u).length<=20:=by rw[Lib.decDigits_length]; exact Lib.nDigits_le20 u h
theorem Hp:∀(f u:Nat) (s:S8),u<=f->u<=4611686018427387904->(Lib.decDigits u).length+s.length<=40->∃(u':Nat) (s':S8),Mb (u:Int) s=some (.inl ((u':Int),s',()))/\u'<=9/\UInt8.ofNat (48+u')::s'=Lib.decDigits u++s
 | 0,u,s,hf,hm,hl=>by
   refine⟨u,s,dh _ ?_,by omega,?_⟩
   . show oE (u:Int) s=_;unfold oE;rw[aG (by omega)];try rfl
   . rw[Lib.decDigits,dif_pos (by omega)];try rfl
 | f+1,u,s,hf,hm,hl=>by
   by_cases hu:u<10
   . refine⟨u,s,dh _ ?_,by omega,?_⟩
     . show oE (u:Int) s=_;unfold oE;rw[aG (by omega)];try rfl
     . rw[Lib.decDigits,dif_pos hu];try rfl
   . have hd:Lib.decDigits u=Lib.decDigits (u / 10)++[UInt8.ofNat (48+u % 10)]:=by rw[Lib.decDigits,dif_neg hu]
     have hbig:=bh;have hl2:(Lib.decDigits (u / 10)).length+(UInt8.ofNat (48+u % 10)::s).length<=40:=by rw[hd,aeo]at hl;simp only[aeC,ae7]at hl ⊢;omega
     obtain⟨u',s',h1,h2,h3⟩:=Hp f (u / 10) (UInt8.ofNat (48+u % 10)::s) (by omega) (by omega) hl2;refine⟨u',s',dN _ (x':=(((u / 10:Nat):Int),UInt8.ofNat (48+u % 10)::s,())) ?_ h1,h2,by rw[h3,hd,aeO];try rfl⟩;show oE (u:Int) s=_;unfold oE;have hr:dP (u:Int) 10=((u % 10:Nat):Int):=by unfold dP;rw[afD (by omega)];omega
     have hq:jr .i64 (u:Int) 10=((u / 10:Nat):Int):=by unfold jr;rw[afS (by omega),IntKind.wrap_i64];omega
     rw[aP (by omega),hr,hq,ZP _ (by omega)];dsimp only[oT];rw[lQ (by simp only[aeC,ae7]; omega)];try rfl
def Ws(n:Int):S8:=cond (bM n) (Lib.itoa n) []
theorem aaO(n:Int):QG n=zR (Ws n):=by
 have hbig:=bh;unfold QG Ws;rw[na];dsimp only[oB];cases hm:bM n with
 | false=>rfl
 | true => have hb:=bD.1 hm;obtain⟨u,rfl⟩:∃ u:Nat,n=u:=⟨n.toNat,by omega⟩;have hlen:=PU (u:=u) (by omega);obtain⟨u',s',h1,h2,h3⟩:=Hp u u [] (oR _) (by omega) (by simp only[ae7]; omega);refine(bn h1).trans ?_;show cond (iJ (strOf [(cW .u8 (ak .i64 48 (u':Int)),())]) s') (zR (rN (strOf [(cW .u8 (ak .i64 48 (u':Int)),())]) s')) none=_;rw[ZP _ h2];have hl:=aeU List.length h3;simp only[aeC,afd]at hl h3;rw[lQ (by simp only[aeC,ae7]; omega)];rw[Lib.itoa_nonneg,<- h3];try rfl
theorem As(x:UInt8):∀ n:Nat,Lib.repeatL [x] n=List.replicate n x
 | 0=>rfl
 | n+1=>by rw[Lib.repeatL,As x n];try rfl
def dL(n w:Int):S8:=cond (bM n&&cI w 1 18&&bT (ae (Lib.itoa n)) w) (List.replicate (w-ae (Lib.itoa n)).toNat 48++Lib.itoa n) []
theorem Dr(w:Nat)(hw:w<=18):∀(d:Nat) (s:S8),s.length+d=w->Ng (w:Int) s=some (.inl ((w:Int),List.replicate d 48++s,()))
 | 0,s,h=>by refine dh _ ?_;show tE (w:Int) s=_;unfold tE;rw[aG (by unfold ae; omega)];try rfl
 | d+1,s,h=>by
   have hbig:=bh;have ih:=Dr w hw d (48::s) (by simp only[aeC]; omega);have e:List.replicate (d+1) (48:UInt8)++s=List.replicate d 48++(48::s):=by rw[List.replicate_succ',aeO];try rfl
   rw[e];refine dN _ (x':=((w:Int),48::s,())) ?_ ih;show tE (w:Int) s=_;unfold tE;rw[aP (by unfold ae; omega),lQ (by simp only[aeC,ae7]; omega)];try rfl
theorem Ok{n:Int}(h:0<=n):1<=(Lib.itoa n).length:=by obtain⟨u,rfl⟩:∃ u:Nat,n=u:=⟨n.toNat,by omega⟩;rw[Lib.itoa_nonneg,Lib.decDigits_length]; exact Lib.nDigits_pos u
theorem Fl(n w:Int):JM n w=zR (dL n w):=by
 unfold JM dL;rw[aaO];dsimp only[oB];unfold Ws;cases hm:bM n with
 | false=>rfl
 | true =>
   have hb:=bD.1 hm;have hp:=Ok hb.1;have he:bw (Lib.itoa n) []=false:=by
    cases hi:Lib.itoa n with
    | nil=>rw[hi]at hp; simp at hp
    | cons x r=>rfl
   rw[oT,he];dsimp only[oF,Bool.true_and];by_cases h1:w<1
   . rw[aP h1,show cI w 1 18=false by unfold cI bT; rw[aeL (by omega)];try rfl];try rfl
   . by_cases h2:18<w
     . rw[aG h1,aP h2,show cI w 1 18=false by unfold cI bT; rw[aeq (show(1:Int)<=w by omega),aeL (by omega)];try rfl];try rfl
     . rw[aG h1,aG h2,bD.2 ⟨by omega,by omega⟩];dsimp only[oF,Bool.true_and];by_cases h3:w<ae (Lib.itoa n)
       . rw[aP h3,show bT (ae (Lib.itoa n)) w=false from aeL (by omega)];try rfl
       . rw[aG h3,show bT (ae (Lib.itoa n)) w=true from aeq (by omega)];obtain⟨W,rfl⟩:∃ W:Nat,w=W:=⟨w.toNat,by omega⟩;have h3:(Lib.itoa n).length<=W:=by unfold ae at h3; omega
         have:=Dr W (by omega) (W-(Lib.itoa n).length) (Lib.itoa n) (by omega);dsimp only[oF,oT];rw[this];dsimp only[oB,oL];rw[show((W:Int)-ae (Lib.itoa n)).toNat=W-(Lib.itoa n).length by unfold ae; omega];try rfl
theorem Lm{n:Int}(h:4611686018427387904<n)(h2:n<=9223372036854775807):(Lib.itoa n).length=19:=by obtain⟨u,rfl⟩:∃ u:Nat,n=u:=⟨n.toNat,by omega⟩;rw[Lib.itoa_nonneg,Lib.decDigits_length];exact Lib.nDigits_unique 18 u (by omega) (by omega)
theorem EI(n w:Int)(hn : -9223372036854775808<=n/\n<=9223372036854775807):IY n w=zR (dL n w):=by
 have hbig:=bh;unfold IY VQ Gi dL;dsimp only[oB];rw[j9];by_cases h0:n<0
 . rw[aP h0,show bM n=false by unfold bM cI bT; rw[aeL (by omega)];try rfl];try rfl
 rw[aG h0];dsimp only[oF,oB];cases hw:cI w 1 18 with
 | false=>rw[Bool.and_false];try rfl
 | true =>
   have hwb:=bD.1 hw;rw[agZ];by_cases h3:w<ae (Lib.itoa n)
   . rw[aP h3,show bT (ae (Lib.itoa n)) w=false from aeL (by omega),Bool.and_false];try rfl
   . have hm:bM n=true:=by
      by_cases hh:4611686018427387904<n
      . have:=Lm hh hn.2;unfold ae at h3; omega
      . exact bD.2 ⟨by omega,by omega⟩
     have hlen:(Lib.itoa n).length<=18:=by unfold ae at h3; omega
     rw[aG h3,hm,show bT (ae (Lib.itoa n)) w=true from aeq (by omega)];have hs:ba .i64 w (ae (Lib.itoa n))=w-ae (Lib.itoa n):=bA (by unfold ae; omega) (by unfold ae; omega);rw[hs];unfold E5 po;rw[show bT 0 (w-ae (Lib.itoa n))=true from aeq (by omega),show Nat.ble (([48]:S8).length * (w-ae (Lib.itoa n)).toNat) bN=true from aex (by simp only[aeC,ae7]; unfold ae; omega)];show cond (iJ (Lib.repeatL [48] (w-ae (Lib.itoa n)).toNat) (Lib.itoa n)) (zR (rN (Lib.repeatL [48] (w-ae (Lib.itoa n)).toNat) (Lib.itoa n))) none=_;rw[As,lQ (by simp only[afu]; unfold ae; omega)];try rfl
theorem iT(n w:Int):(dL n w).length<=18:=by
 unfold dL;cases hc:bM n&&cI w 1 18&&bT (ae (Lib.itoa n)) w with
 | false=>simp
 | true => simp only[aen]at hc;have h1:=bD.1 hc.1.2;have h2:ae (Lib.itoa n)<=w:=afI hc.2;simp only[oT,aeo,afu];unfold ae at h2 ⊢; omega
theorem Mg{a b x:Int}(h0:0<=a)(h:a<=b)(hb:b<=4611686018427387904):eD a x<=eD b x:=by
 have hx:=gH x;generalize hcx:dG x=c at hx;have e1:dG a=a:=by unfold dG; rw[if_neg (by omega),if_neg (by omega)]
 have e2:dG b=b:=by unfold dG; rw[if_neg (by omega),if_neg (by omega)]
 unfold eD; rw[e1,e2,hcx]; split <;> split <;> omega
theorem Vc{a x:Int}(h0:0<=a)(hb:a<=4611686018427387904):a<=eD a x:=by
 have:=gH x;have e1:dG a=a:=by unfold dG; rw[if_neg (by omega),if_neg (by omega)]
 unfold eD; rw[e1]; split <;> omega
theorem fold_filter(p:aK->Bool):∀(xs:List aK) (a b:Int),0<=a->a<=b->b<=4611686018427387904->(xs.filter p).foldl (fun a h=>eD a h.2.1) a<=xs.foldl (fun a h=>eD a h.2.1) b
 | [],_,_,_,h,_=>h
 | x::r,a,b,h0,h,hb=>by
   have e1:=vR b x.2.1;have e2:=vR a x.2.1;have e3:=Mg (x:=x.2.1) h0 h hb;have e4:=Vc (x:=x.2.1) (show 0<=b by omega) hb;rw[aff];split
   . exact fold_filter p r _ _ e2.1 e3 e1.2
   . exact fold_filter p r a (eD b x.2.1) h0 (by omega) e1.2
theorem uh:∀(xs:List aK) (a:Int),0<=a->a<=4611686018427387904->0<=xs.foldl (fun a h=>eD a h.2.1) a/\xs.foldl (fun a h=>eD a h.2.1) a<=4611686018427387904
 | [],_,h0,h=>⟨h0,h⟩
 | x::r,a,h0,h=>uh r _ (vR a x.2.1).1 (vR a x.2.1).2
theorem ID{a x y:Int}(h0:0<=x)(h:x<=y)(hb:y<=4611686018427387904):eD a x<=eD a y:=by
 have:=gH a;have e1:dG x=x:=by unfold dG; rw[if_neg (by omega),if_neg (by omega)]
 have e2:dG y=y:=by unfold dG; rw[if_neg (by omega),if_neg (by omega)]
 unfold eD; rw[e1,e2]; split <;> split <;> omega
theorem CZ{a:ay}(now:Int)(h:bg a=true):bg (az a now)=true:=by
 unfold az;rw[h];cases bd now with
 | false=>exact h
 | true =>
   simp only[oT];unfold bg at h ⊢;revert h;cases e9 a.1 <;> first | exact fun h=>h | skip
   cases cI a.2.1 0 9007199254740992 <;> first | exact fun h=>h | skip
   cases cI a.2.2.2.1 0 1000 <;> first | exact fun h=>h | skip
   cases cI a.2.2.2.2.1 0 9007199254740992 <;> first | exact fun h=>h | skip
   cases bM a.2.2.1 <;> first | exact fun h=>h | skip
   simp only[oT];cases hh:cN a.2.2.2.2.2.1 with
   | false=>intro h; simp at h
   | true =>
     rw[yX _ hh];simp only[oT];have hr:cX (a.1,a.2.1,a.2.2.1,a.2.2.2.1,a.2.2.2.2.1,a.2.2.2.2.2.1.filter (fL now),a.2.2.2.2.2.2.1,a.2.2.2.2.2.2.2.1,a.2.2.2.2.2.2.2.2.1,a.2.2.2.2.2.2.2.2.2.1,a.2.2.2.2.2.2.2.2.2.2.1,())=cX a:=rfl;rw[hr];cases gk (cX a) <;> first | exact fun h=>h | skip
     cases fZ a.2.2.2.2.2.2.2.2.2.2.1 <;> first | exact fun h=>h | skip
     simp only[oT];intro h;have h1:eD a.2.2.1 (sP a.2.2.2.2.2.1)<=a.2.1:=afI h;have h2:=fold_filter (fL now) a.2.2.2.2.2.1 0 0 (Int.le_refl _) (Int.le_refl _) (by decide);have h3:=uh a.2.2.2.2.2.1 0 (Int.le_refl _) (by decide);have h4:=uh (a.2.2.2.2.2.1.filter (fL now)) 0 (Int.le_refl _) (by decide);exact aeq (Int.le_trans (ID h4.1 h2 h3.2) h1)
theorem FW{a:ay}(now:Int)(h:bg a=true):gx (az a now) now=gx a now:=by
 have h2:=CZ now h;unfold gx;rw[h2,h];unfold az;rw[h];cases bd now with
 | false=>rfl
 | true => simp only[oT];unfold sO;rw[List.filter_filter];simp only[Bool.and_self]
theorem Bw(a:ay)(now:Int):(az a now).2.2.1=a.2.2.1:=by
 unfold az; cases bg a <;> first | rfl | skip
 cases bd now <;> rfl
def uL(a:ay)(now:Int):S8×Int:=cond (bg a) (cond (bd now) ((dL (gx a now) 16++[32])++dL a.2.2.1 16,0) ([],1)) ([],1)
theorem YT(a:ay)(now:Int)(hb:bE a):Qa a now=some ((),((uL a now).1,()),((uL a now).2,()),()):=by
 have hbig:=bh;have w1:=iT (gx a now) 16;have w2:=iT a.2.2.1 16;unfold Qa uL;rw[lg a hb,gN,Fs a now hb];dsimp only[oB];rw[Fl,Fl];cases bg a <;> first | rfl | skip
 cases bd now <;> first | rfl | skip
 dsimp only[oB,oN,oF,oT,rN];rw[lQ (by simp only[aeC,ae7]; omega),lQ (by simp only[aeo,aeC,ae7]; omega)];try rfl
theorem Nk(a:ay)(now:Int) : -9223372036854775808<=gx a now/\gx a now<=9223372036854775807:=by
 unfold gx;have z:(-9223372036854775808:Int)<=0/\(0:Int)<=9223372036854775807:=by decide
 cases bg a <;> first | exact z | skip
 cases bd now <;> first | exact z | skip
 have e:∀ x:Int,-9223372036854775808<=IntKind.i64.wrap x/\IntKind.i64.wrap x<=9223372036854775807:=fun x=>by rw[IntKind.wrap_i64]; omega
 exact e _
theorem JY{a:ay}(ha:bg a=true) : -9223372036854775808<=a.2.2.1/\a.2.2.1<=9223372036854775807:=by
 unfold bg at ha;cases hm:bM a.2.2.1 with
 | true=>have:=bD.1 hm; omega
 | false => rw[hm]at ha;revert ha;cases e9 a.1 <;> cases cI a.2.1 0 9007199254740992 <;> cases cI a.2.2.2.1 0 1000 <;> cases cI a.2.2.2.2.1 0 9007199254740992 <;> simp
theorem Hl(a:ay)(now:Int)(hb:bE a):sd a now=cond (bg a) (cond (bd now) (some ((),(az a now,((0,()),())))) (some ((),(([],0,0,0,0,[],0,0,[],[],[],()),((1,()),()))))) (some ((),(([],0,0,0,0,[],0,0,[],[],[],()),((1,()),())))):=by
 unfold sd;rw[lZ a hb,gM,nA a now hb];dsimp only[oB];cases bg a <;> first | rfl | skip
 cases bd now <;> rfl
theorem Zh(a:ay)(now:Int)(hb:bE a):On a now=some ((),((uL a now).1,()),((uL a now).2,()),()):=by
 have hbig:=bh;have w1:=iT (gx a now) 16;have w2:=iT a.2.2.1 16;have hbeg:=Hl a now hb;unfold On uL;cases ha:bg a with
 | false=>rw[ha]at hbeg; rw[hbeg];try rfl
 | true =>
 cases ht:bd now with
 | false=>rw[ha,ht]at hbeg; rw[hbeg];try rfl
 | true =>
 rw[ha,ht]at hbeg;rw[hbeg];have hr:=EE (az a now) now (dD now hb);rw[FW now ha]at hr;have h0:aj 0 0=true:=rfl;have hw:=EI _ 16 (Nk a now);have hw2:=EI _ 16 (JY ha);dsimp only[oT,oB];rw[h0,hr,Bw];dsimp only[oT,oF,oB,oN];rw[hw,hw2];dsimp only[oB,oN,oF,oT,rN];rw[lQ (by simp only[aeC,ae7]; omega),lQ (by simp only[aeo,aeC,ae7]; omega)];try rfl
def Pe(h:Nat)(c:UInt8):Nat:=((h ^^^ c.toNat) * 16777619) % 4294967296
def adI(s:S8):Nat:=s.foldl Pe 2166136261
def QB(s:S8)(n:Int):Int:=cond (aD n 1) 0 (dP ((adI s:Nat):Int) n)
def gR(xs:List ay)(i:Nat)(x:ay):Bool:=cond (bg x) (cond (decide (0<i)) (yK (gt ([],0,0,0,0,[],0,0,[],[],[],()) xs ((i:Int)-1)).1 x.1) true) false
def jV(b:List ay):Bool:=cond (allI (gR b) 0 b) (bT (ae b) 6) false
def lJ(b:List ay):Prop:=b.length<=1048576/\∀ a∈b,bE a
theorem KE(b:List ay)(hb:lJ b):X8 (b,())=zR (jV b):=by
 have hbig:=bh;have hl:=hb.1;unfold X8;have h:=aQ (step:=dJ xe) b (fun i (_:Unit)=>(b,ae b,((i:Nat):Int),(b,()),())) (fun i x _=>bif gR b i x then Sum.inl ()else .inr (.inr (false,()))) (fun _=> .inl (b,ae b,(b.length:Int),(b,()),())) (a0:=()) (fun i x a hx=>by
  have hlt:=ai hx;show xe b (ae b) (i:Int) (b,())=_;unfold xe gR;rw[aM hx,aC hx,aO _ hx];dsimp only[oT];rw[lg x (hb.2 x (aet hx)),aU (by omega)];dsimp only[oB];cases bg x with
  | false=>rfl
  | true =>
    by_cases h0:0<i
    . rw[aP (show(0:Int)<i by omega),bA (by omega) (by omega),mA hx h0];dsimp only[oT,oF,oN];have e:gt d94 b ((i:Int)-1)=gt ([],0,0,0,0,[],0,0,[],[],[],()) b ((i:Int)-1):=rfl;rw[e,aeq h0];cases yK (gt ([],0,0,0,0,[],0,0,[],[],[],()) b ((i:Int)-1)).1 x.1 <;> rfl
    . rw[aG (show ¬ (0:Int)<i by omega),aeL h0];try rfl) (fun a=>by
  show xe b (ae b) (b.length:Int) (b,())=_;unfold xe;rw[aA rfl];try rfl)
 rw[jd]at h;have h':Tq b (ae b) 0 (b,())=_:=h;dsimp only;rw[h'];unfold jV;cases allI (gR b) 0 b <;> rfl
theorem Kz(b:List ay)(hb:lJ b):Zt (b,())=zR (jV b):=by
 have hbig:=bh;have hl:=hb.1;unfold Zt;have h:=aQ (step:=dJ xk) b (fun i (_:Unit)=>(b,ae b,((i:Nat):Int),(b,()),())) (fun i x _=>bif gR b i x then Sum.inl ()else .inr (.inr (false,()))) (fun _=> .inl (b,ae b,(b.length:Int),(b,()),())) (a0:=()) (fun i x a hx=>by
  have hlt:=ai hx;show xk b (ae b) (i:Int) (b,())=_;unfold xk gR;rw[aM hx,aC hx,aO _ hx];dsimp only[oT];rw[lZ x (hb.2 x (aet hx)),aU (by omega)];dsimp only[oB];cases bg x with
  | false=>rfl
  | true =>
    by_cases h0:0<i
    . rw[aP (show(0:Int)<i by omega),bA (by omega) (by omega),mA hx h0];dsimp only[oT,oF,oN];rw[HJ];have e:gt d94 b ((i:Int)-1)=gt ([],0,0,0,0,[],0,0,[],[],[],()) b ((i:Int)-1):=rfl;rw[e,aeq h0];cases yK (gt ([],0,0,0,0,[],0,0,[],[],[],()) b ((i:Int)-1)).1 x.1 <;> rfl
    . rw[aG (show ¬ (0:Int)<i by omega),aeL h0];try rfl) (fun a=>by
  show xk b (ae b) (b.length:Int) (b,())=_;unfold xk;rw[aA rfl];try rfl)
 rw[jd]at h;have h':RJ b (ae b) 0 (b,())=_:=h;dsimp only;rw[h'];unfold jV;cases allI (gR b) 0 b <;> rfl
abbrev Px:=Int×List ay×Unit
def sp(n:Nat)(m:Int)(b:List ay):List Px:=(List.range n).map fun(k:Nat)=>((-1:Int),b.filter (fun a=>aj (QB a.1 m) (k:Int)),())
def au(xs:List ay)(id:S8):Int:=dk (fun y=>bw y.1 id) 0 xs
theorem xa(xs:List ay)(id:S8)(hs:xs.length<=1048576):Xc (xs,()) id=zR (au xs id):=by
 have hbig:=bh;unfold Xc au;have h:=aQ (step:=dJ yF) xs (fun i (_:Unit)=>(id,xs,ae xs,((i:Nat):Int),())) (fun i y _=>bif bw y.1 id then Sum.inr (.inr ((i:Int),()))else Sum.inl ()) (fun _=> .inl (id,xs,ae xs,(xs.length:Int),())) (a0:=()) (fun i y u hy=>by
  have hlt:=ai hy;show yF id xs (ae xs) (i:Int)=_;unfold yF;rw[aM hy,aC hy,aO _ hy,aU (by omega)];dsimp only[oT];cases bw y.1 id <;> rfl) (fun u=>by
  show yF id xs (ae xs) (xs.length:Int)=_;unfold yF;rw[aA rfl];try rfl)
 have h':SG id xs (ae xs) 0=_:=h;rw[h'];have hf:=gf (Y:=Sum (S8×(List ay)×Int×Int×Unit) (Int×Unit)) (fun(y:ay)=>bw y.1 id) (fun n=> .inr (n,())) (.inl (id,xs,ae xs,(xs.length:Int),())) (fun y=>match y with | .inl _ => -1 | .inr z=>z.1) (fun _=>rfl) rfl xs 0;rw[<- hf];dsimp only[oB];cases jO _ _ 0 xs () <;> rfl
theorem v7(xs:List ay)(id:S8)(hs:xs.length<=1048576):W4 (xs,()) id=zR (au xs id):=by
 have hbig:=bh;unfold W4 Uq au;have h:=aQ (step:=dJ qd) xs (fun i (_:Unit)=>(xs,((id,()),()),ae xs,((i:Nat):Int),())) (fun i y _=>bif bw y.1 id then Sum.inr (.inr ((i:Int),()))else Sum.inl ()) (fun _=> .inl (xs,((id,()),()),ae xs,(xs.length:Int),())) (a0:=()) (fun i y u hy=>by
  have hlt:=ai hy;show qd xs ((id,()),()) (ae xs) (i:Int)=_;unfold qd WH;rw[aM hy,aC hy,aO _ hy,aU (by omega)];dsimp only[oT,oB];cases bw y.1 id <;> rfl) (fun u=>by
  show qd xs ((id,()),()) (ae xs) (xs.length:Int)=_;unfold qd;rw[aA rfl];try rfl)
 have h':Nv xs ((id,()),()) (ae xs) 0=_:=h;rw[h'];have hf:=gf (Y:=Sum ((List ay)×(R9×Unit)×Int×Int×Unit) (Int×Unit)) (fun(y:ay)=>bw y.1 id) (fun n=> .inr (n,())) (.inl (xs,((id,()),()),ae xs,(xs.length:Int),())) (fun y=>match y with | .inl _ => -1 | .inr z=>z.1) (fun _=>rfl) rfl xs 0;rw[<- hf];dsimp only[oB];cases jO _ _ 0 xs () <;> rfl
theorem Cq(xs:List ay)(hb:lJ xs):W5 (xs,())=zR xs:=by
 have hbig:=bh;have hs:=hb.1;unfold W5;have h:=aT (step:=nM yu) xs (fun i (a:List ay)=>(xs,ae xs,((i:Nat):Int),([],()),(a,()),())) (fun _ x a=>Sum.inl (a++[x])) (fun a=> .inl (xs,ae xs,(xs.length:Int),([],()),(a,()),())) (fun i a=>a.length=i) (a0:=[]) rfl (fun i x a hx ha=>by
  have hlt:=ai hx;have hm:=hb.2 x (aet hx);show yu xs (ae xs) (i:Int) ([],()) (a,())=_;unfold yu;have e:∀ y:ay,bj 160 a [y]=true:=fun y=>aex (by simp; omega)
  have e0:gt d94 xs (i:Int)=x:=aO _ hx;rw[aM hx,aC hx,e0];dsimp only[oT];rw[mi x hm];dsimp only[oB];rw[e,aU (by omega)];try rfl) (fun i x a a' hx ha hf=>by
  simp only[aeK]at hf;rw[<- hf,aeo,ha];try rfl) (fun a ha=>by
  show yu xs (ae xs) (xs.length:Int) ([],()) (a,())=_;unfold yu;rw[aA rfl];try rfl)
 rw[ma]at h;have h':TH xs (ae xs) 0 ([],()) ([],())=_:=h;rw[h'];try rfl
theorem Dw(xs:List ay)(hb:lJ xs):Hg (xs,())=zR xs:=by
 have hbig:=bh;have hs:=hb.1;unfold Hg Wr;have h:=aT (step:=J7 qj) xs (fun i (a:List ay)=>((),xs,ae xs,((i:Nat):Int),([],()),(a,()),())) (fun _ x a=>Sum.inl (a++[x])) (fun a=> .inl ((),xs,ae xs,(xs.length:Int),([],()),(a,()),())) (fun i a=>a.length=i) (a0:=[]) rfl (fun i x a hx ha=>by
  have hlt:=ai hx;have hm:=hb.2 x (aet hx);show qj () xs (ae xs) (i:Int) ([],()) (a,())=_;unfold qj;have e:∀ y:ay,bj 160 a [y]=true:=fun y=>aex (by simp; omega)
  have e0:gt d94 xs (i:Int)=x:=aO _ hx;rw[aM hx,aC hx,e0];dsimp only[oT];rw[Cr x hm];dsimp only[oB];rw[e,aU (by omega)];try rfl) (fun i x a a' hx ha hf=>by
  simp only[aeK]at hf;rw[<- hf,aeo,ha];try rfl) (fun a ha=>by
  show qj () xs (ae xs) (xs.length:Int) ([],()) (a,())=_;unfold qj;rw[aA rfl];try rfl)
 rw[ma]at h;have h':Ov () xs (ae xs) 0 ([],()) ([],())=_:=h;rw[h'];try rfl
abbrev ft:=Int×S8×S8×S8×S8×S8×Int×Int×Unit
theorem Fk(xs:List (Int×Unit))(v:Int)(hs:xs.length<=1048576):QE xs v=zR (bT 0 (dk (fun y=>aj v y.1) 0 xs)):=by
 have hbig:=bh;unfold QE UI;have h:=aQ (step:=dJ qV) xs (fun i (_:Unit)=>(xs,v,ae xs,((i:Nat):Int),())) (fun i y _=>bif aj v y.1 then Sum.inr (.inr ((i:Int),()))else Sum.inl ()) (fun _=> .inl (xs,v,ae xs,(xs.length:Int),())) (a0:=()) (fun i y u hy=>by
  have hlt:=ai hy;show qV xs v (ae xs) (i:Int)=_;unfold qV;rw[aM hy,aC hy,aO _ hy,aU (by omega)];dsimp only[oT];cases aj v y.1 <;> rfl) (fun u=>by
  show qV xs v (ae xs) (xs.length:Int)=_;unfold qV;rw[aA rfl];try rfl)
 have h':No xs v (ae xs) 0=_:=h;rw[h'];have hf:=gf (Y:=Sum ((List (Int×Unit))×Int×Int×Int×Unit) (Int×Unit)) (fun(y:Int×Unit)=>aj v y.1) (fun n=> .inr (n,())) (.inl (xs,v,ae xs,(xs.length:Int),())) (fun y=>match y with | .inl _ => -1 | .inr z=>z.1) (fun _=>rfl) rfl xs 0;rw[<- hf];dsimp only[oB];cases jO _ _ 0 xs () <;> rfl
def Mo(op:Int):S8:=gt ([],()) [([],()),([48,49,48,48],()),([48,49,48,48],()),([48,50,50,48],()),([48,50,50,48],()),([48,50,50,48],()),([48,50,48,48],()),([48,49,48,48],()),([48,50,48,48],())] op |>.1
def kf(q:ft):Bool:=cI q.1 1 8&&bw q.2.2.2.2.2.1 (Mo q.1)&&e9 q.2.1&&aF q.2.2.2.2.1&&aj (ae q.2.2.2.2.1) 6&&(cond (aD q.1 7) (bf q.2.2.2.1) (bw q.2.2.2.1 []))&&(cond (aD q.1 5) (cI q.2.2.2.2.2.2.1 0 999999999999) (aj q.2.2.2.2.2.2.1 0))&&(cond (aj q.1 1) (cI q.2.2.2.2.2.2.2.1 0 9999) (aj q.2.2.2.2.2.2.2.1 0))&&(cond (aj q.1 6) (e9 q.2.2.1) (bw q.2.2.1 []))
def DC(q:ft):Prop:=q.2.1.length<=1048576/\q.2.2.1.length<=1048576/\q.2.2.2.1.length<=1048576/\q.2.2.2.2.1.length<=1048576/\q.2.2.2.2.2.1.length<=1048576
theorem nW{op:Int}(h:cI op 1 8=true):op=1∨op=2∨op=3∨op=4∨op=5∨op=6∨op=7∨op=8:=by have:=bD.1 h;omega
theorem S4(q:ft)(hb:DC q):yS q=zR (kf q):=by
 obtain⟨op,acct,other,hold,trace,mti,amt,ttl,_⟩:=q;obtain⟨b1,b2,b3,b4,b5⟩:=hb;cases hop:cI op 1 8 with
 | false => unfold yS B6 kf;rw[mK,hop];try rfl
 | true =>
   have k1:=xI acct (bO b1);have k2:=xI other (bO b2);have k3:=kT hold (bO b3);have k4:=fg trace (bO b4);have k5:B6 op=zR true:=by unfold B6; rw[mK,hop];try rfl
   have k6:JJ op=zR (Mo op):=by unfold JJ;rw[k5];rcases nW hop with h | h | h | h | h | h | h | h <;> subst h <;> rfl
   have k7:WY op=zR (aD op 7):=by unfold WY; rw[k5];try rfl
   have k8:TG op=zR (aD op 5):=by unfold TG;rw[mK];rcases nW hop with h | h | h | h | h | h | h | h <;> subst h <;> rfl
   have k9:=mK amt 0 999999999999;have k10:=mK ttl 0 9999;unfold yS kf;dsimp only;rw[k5,k6,k1,k4,k7,k8,k3,k9,k10,k2];dsimp only[oB];rw[hop];cases bw mti (Mo op) <;> first | rfl | skip
   cases e9 acct <;> first | rfl | skip
   cases aF trace <;> first | rfl | skip
   cases aj (ae trace) 6 <;> first | rfl | skip
   cases aD op 7 <;> cases bf hold <;> cases bw hold [] <;> first | rfl | skip
   all_goals (cases aD op 5 <;> cases cI amt 0 999999999999 <;> cases aj amt 0 <;> first | rfl | skip)
   all_goals (cases aj op 1 <;> cases cI ttl 0 9999 <;> cases aj ttl 0 <;> first | rfl | skip)
   all_goals (cases aj op 6 <;> cases e9 other <;> rfl)
theorem VB{op:Int}(hop:cI op 1 8=true):l7 op 38=zR (aD op 7)/\l7 op 4=zR (aD op 5)/\l7 op 14=zR (aj op 1)/\l7 op 103=zR (aj op 6):=by unfold l7 AU;rw[j9,hop];rcases nW hop with h | h | h | h | h | h | h | h <;> subst h <;> refine⟨?_,?_,?_,?_⟩ <;> (refine(aeU (fun z=>Option.bind z fun y2=>some ((),(y2.2.1,()))) (Fk _ _ ?_)).trans ?_) <;> first | rfl | decide
theorem UO{op:Int}(hop:cI op 1 8=true):∃(nm:S8×S8) (fs:List (Int×Unit)),AU op=some ((),((Mo op,nm.1,nm.2,fs,()),()))/\bw nm.2 []=false:=by unfold AU;rw[j9,hop];rcases nW hop with h | h | h | h | h | h | h | h <;> subst h <;> exact⟨(_,_),_,rfl,rfl⟩
theorem T4(q:ft)(hb:DC q):JA q=zR (kf q):=by
 obtain⟨op,acct,other,hold,trace,mti,amt,ttl,_⟩:=q;obtain⟨b1,b2,b3,b4,b5⟩:=hb;cases hop:cI op 1 8 with
 | false => unfold JA AU kf;rw[j9,hop];try rfl
 | true =>
   have k1:=yb acct (bO b1);have k2:=yb other (bO b2);have k3:=kW hold (bO b3);have k4:vD trace 6=zR (cond (aF trace) (aj (ae trace) 6) false):=by unfold vD; rw[gW trace (bO b4)];try rfl
   obtain⟨nm,fs,k5,k6⟩:=UO hop;obtain⟨u1,u2,u3,u4⟩:=VB hop;have k9:=j9 amt 0 999999999999;have k10:=j9 ttl 0 9999;unfold JA kf;dsimp only;rw[k5,k1,k4,u1,u2,u3,u4,k3,k9,k10,k2];dsimp only[oB];rw[hop,k6];cases bw mti (Mo op) <;> first | rfl | skip
   cases e9 acct <;> first | rfl | skip
   cases aF trace <;> first | rfl | skip
   cases aj (ae trace) 6 <;> first | rfl | skip
   cases aD op 7 <;> cases bf hold <;> cases bw hold [] <;> cases aD op 5 <;> cases cI amt 0 999999999999 <;> cases aj amt 0 <;> cases aj op 1 <;> cases cI ttl 0 9999 <;> cases aj ttl 0 <;> cases aj op 6 <;> cases e9 other <;> cases bw other [] <;> rfl
def Hs(a:ay)(p:Int)(l:List aK):ay:=(a.1,a.2.1,p,a.2.2.2.1,a.2.2.2.2.1,l,a.2.2.2.2.2.2.1,a.2.2.2.2.2.2.2.1,a.2.2.2.2.2.2.2.2.1,a.2.2.2.2.2.2.2.2.2.1,a.2.2.2.2.2.2.2.2.2.2.1,())
def nb(a:ay)(id:S8)(amt:Int)(last:Bool)(now:Int):ay×Int :=
 cond (cond (bg a) (cond (bd now) (bf id) false) false)
  (cond (cI amt 1 9007199254740992)
    (cond (aD (ax (az a now).2.2.2.2.2.1 id) 0) (aL,5)
      (cond (aD (gt nL (az a now).2.2.2.2.2.1 (ax (az a now).2.2.2.2.2.1 id)).2.1 amt) (aL,7)
        (cond (cond last true (aj amt (gt nL (az a now).2.2.2.2.2.1 (ax (az a now).2.2.2.2.2.1 id)).2.1))
          (Hs (az a now) (ak .i64 (az a now).2.2.1 amt) ((az a now).2.2.2.2.2.1.filter (bR id)),0)
          (Hs (az a now) (ak .i64 (az a now).2.2.1 amt) (cO (az a now).2.2.2.2.2.1 (ax (az a now).2.2.2.2.2.1 id) ((gt nL (az a now).2.2.2.2.2.1 (ax (az a now).2.2.2.2.2.1 id)).1,ba .i64 (gt nL (az a now).2.2.2.2.2.1 (ax (az a now).2.2.2.2.2.1 id)).2.1 amt,(gt nL (az a now).2.2.2.2.2.1 (ax (az a now).2.2.2.2.2.1 id)).2.2.1,())),0))))
    (aL,4))
  (aL,1)
theorem Yw(a:ay)(id:S8)(amt:Int)(last:Bool)(now:Int)(hb:bE a)(hi:id.length<=1048576):ME a id amt last now=some ((),((nb a id amt last now).1,((nb a id amt last now).2,()),())):=by
 have hsb:=dD now hb;unfold ME xz nb;rw[lg a hb,gN,kT id (bO hi),mK,nu a now hb];dsimp only[oB];generalize az a now=s at hsb ⊢;rw[mh _ id hsb.2.1.1,Fw _ id hsb.2.1.1];dsimp only[oB];cases bg a <;> first | rfl | skip
 cases bd now <;> first | rfl | skip
 cases bf id <;> first | rfl | skip
 cases cI amt 1 9007199254740992 <;> first | rfl | skip
 dsimp only[oT,oF,oN,oB];by_cases hat:ax s.2.2.2.2.2.1 id<0
 . rw[aP hat];try rfl
 . rw[aG hat,iO hat];dsimp only[oT,oF];have eh:gt d192 s.2.2.2.2.2.1 (ax s.2.2.2.2.2.1 id)=gt nL s.2.2.2.2.2.1 (ax s.2.2.2.2.2.1 id):=rfl;rw[eh];cases aD (gt nL s.2.2.2.2.2.1 (ax s.2.2.2.2.2.1 id)).2.1 amt <;> first | rfl | skip
   cases last <;> first | rfl | skip
   cases aj amt (gt nL s.2.2.2.2.2.1 (ax s.2.2.2.2.2.1 id)).2.1 <;> rfl
theorem F2{xs:List aK}{id:S8}(h:¬ ax xs id<0):∃(i:Nat) (y:aK),ax xs id=(i:Int)/\xs[i]? = some y/\y.1=id:=by
 have hne:dk (fun(y:aK)=>bw y.1 id) 0 xs ≠ -1:=fun e=>by unfold ax at h; rw[e]at h; omega
 obtain⟨i,y,h1,h2,h3,_⟩:=ln _ _ _ hne;refine⟨i,y,by unfold ax; rw[h1,aey],h2,by simpa[bw]using h3⟩
theorem xb{id:S8}:∀(xs:List aK) (i:Nat) (y z:aK),xs[i]? = some y->y.1=id->z.1=id->(xs.set i z).filter (bR id)=xs.filter (bR id)
 | [],i,y,z,h,_,_=>by simp at h
 | x::r,0,y,z,h,h1,h2=>by
   simp only[aes,aem]at h;subst h;have e1:bR id x=false:=by unfold bR bw; rw[h1]; simp
   have e2:bR id z=false:=by unfold bR bw; rw[h2]; simp
   rw[List.set_cons_zero,aff,aff,e1,e2];try rfl
 | x::r,i+1,y,z,h,h1,h2=>by rw[ahc,aff,aff,xb r i y z (by simpa using h) h1 h2]
theorem ZK(a:ay)(id:S8)(amt:Int)(last:Bool)(now:Int)(hb:bE a)(hi:id.length<=1048576):FD a id amt last now=some ((),((nb a id amt last now).1,((nb a id amt last now).2,()),())):=by
 have hsb:=dD now hb;have hok:=fun h=>CZ (a:=a) now h
 unfold FD Fg sd nb;rw[lZ a hb,gM,kW id (bO hi),j9,nA a now hb];dsimp only[oB];generalize az a now=s at hsb hok ⊢;have h2:=hU s.2.2.2.2.2.1 id hsb.2.1.1;have h0:=hU [] id (by decide);cases hac:bg a with
 | false => simp only[oT,oF,oN,oM,oB];rw[h0];try rfl
 | true =>
 cases bd now with
 | false => simp only[oT,oF,oN,oM,oB];rw[h0];try rfl
 | true =>
 simp only[oT,oF,oN,oM,oB];rw[h2];dsimp only[oB];cases bf id with
 | false=>rfl
 | true =>
 cases ham:cI amt 1 9007199254740992 with
 | false=>rfl
 | true =>
 by_cases hat:ax s.2.2.2.2.2.1 id<0
 . rw[aP hat];try rfl
 . have e00:aj 0 0=true:=rfl;rw[aG hat,e00];simp only[oT,oF,oN,oM,oB];have hin:=iO hat;obtain⟨i,y,q1,q2,q3⟩:=F2 hat;have eh:gt d192 s.2.2.2.2.2.1 (ax s.2.2.2.2.2.1 id)=y:=by rw[q1]; exact aO _ q2
   have eh2:gt nL s.2.2.2.2.2.1 (ax s.2.2.2.2.2.1 id)=y:=by rw[q1]; exact aO _ q2
   have hyb:1<=y.2.1/\y.2.1<=9007199254740992:=by
    have hs:=hok hac;have hh:cN s.2.2.2.2.2.1=true:=by
     unfold bg at hs;cases hm:cN s.2.2.2.2.2.1 with
     | true=>rfl
     | false => rw[hm]at hs;revert hs;cases e9 s.1 <;> cases cI s.2.1 0 9007199254740992 <;> cases cI s.2.2.2.1 0 1000 <;> cases cI s.2.2.2.2.1 0 9007199254740992 <;> cases bM s.2.2.1 <;> simp
    have hm:=qD hh y (aet q2);unfold lD at hm;cases hi1:cI y.2.1 1 9007199254740992 with
    | true=>exact bD.1 hi1
    | false=>rw[hi1]at hm; revert hm; cases bf y.1 <;> simp
   have hamb:=bD.1 ham;rw[eh,eh2,hin];simp only[oT,oF];by_cases hlt:y.2.1<amt
   . rw[aP hlt];try rfl
   . rw[aG hlt];simp only[oT,oF];have hsub:ba .i64 y.2.1 amt=y.2.1-amt:=bA (by omega) (by omega);have hst:cO s.2.2.2.2.2.1 (ax s.2.2.2.2.2.1 id) (y.1,ba .i64 y.2.1 amt,y.2.2.1,())=s.2.2.2.2.2.1.set i (y.1,ba .i64 y.2.1 amt,y.2.2.1,()):=by
      rw[q1];try rfl
     have hil:=ai q2;have hget:(s.2.2.2.2.2.1.set i (y.1,ba .i64 y.2.1 amt,y.2.2.1,()))[i]? = some (y.1,ba .i64 y.2.1 amt,y.2.2.1,()):=by rw[agY hil]
     have hin2:aZ (ax s.2.2.2.2.2.1 id) (cO s.2.2.2.2.2.1 (ax s.2.2.2.2.2.1 id) (y.1,ba .i64 y.2.1 amt,y.2.2.1,()))=true:=by rw[hst,q1]; exact aC hget
     have hg2:gt d192 (cO s.2.2.2.2.2.1 (ax s.2.2.2.2.2.1 id) (y.1,ba .i64 y.2.1 amt,y.2.2.1,())) (ax s.2.2.2.2.2.1 id)=(y.1,ba .i64 y.2.1 amt,y.2.2.1,()):=by rw[hst,q1]; exact aO _ hget
     have hdr:AW (cO s.2.2.2.2.2.1 (ax s.2.2.2.2.2.1 id) (y.1,ba .i64 y.2.1 amt,y.2.2.1,())) id=zR (s.2.2.2.2.2.1.filter (bR id)):=by rw[hst,BJ _ id (by rw[afz]; exact hsb.2.1.1),xb _ i y (y.1,ba .i64 y.2.1 amt,y.2.2.1,()) q2 q3 q3]
     have hz:aj (ba .i64 y.2.1 amt) 0=aj amt y.2.1:=by
      rw[hsub];by_cases e:amt=y.2.1
      . rw[bu.2 e,bu.2 (by omega)]
      . rw[tS e,tS (by omega)]
     rw[e00,hin2,hg2];simp only[oT,oF,oN];rw[hdr,hz];cases aj amt y.2.1 <;> cases last <;> rfl
def kr(a:ay)(id:S8)(now:Int):ay×Int :=
 cond (cond (bg a) (cond (bd now) (bf id) false) false)
  (cond (aD (ax (az a now).2.2.2.2.2.1 id) 0) (aL,5)
    (Hs (az a now) (az a now).2.2.1 ((az a now).2.2.2.2.2.1.filter (bR id)),0))
  (aL,1)
theorem UM(a:ay)(id:S8)(now:Int)(hb:bE a)(hi:id.length<=1048576):O3 a id now=some ((),((kr a id now).1,((kr a id now).2,()),())):=by
 have hsb:=dD now hb;unfold O3 xz kr;rw[lg a hb,gN,kT id (bO hi),nu a now hb];dsimp only[oB];generalize az a now=s at hsb ⊢;rw[mh _ id hsb.2.1.1,Fw _ id hsb.2.1.1];dsimp only[oB];cases bg a <;> first | rfl | skip
 cases bd now <;> first | rfl | skip
 cases bf id <;> first | rfl | skip
 dsimp only[oT,oF,oN,oB];cases aD (ax s.2.2.2.2.2.1 id) 0 <;> rfl
theorem Uk(a:ay)(id:S8)(now:Int)(hb:bE a)(hi:id.length<=1048576):KU a id now=some ((),((kr a id now).1,((kr a id now).2,()),())):=by
 have hsb:=dD now hb;unfold KU Fg sd kr;rw[lZ a hb,gM,kW id (bO hi),j9,nA a now hb];dsimp only[oB];generalize az a now=s at hsb ⊢;have h2:=hU s.2.2.2.2.2.1 id hsb.2.1.1;have h3:=BJ s.2.2.2.2.2.1 id hsb.2.1.1;have h0:=hU [] id (by decide);have e1:cI 1 1 9007199254740992=true:=rfl;cases bg a with
 | false => simp only[oT,oF,oN,oM,oB];rw[h0];try rfl
 | true =>
 cases bd now with
 | false => simp only[oT,oF,oN,oM,oB];rw[h0];try rfl
 | true =>
 simp only[oT,oF,oN,oM,oB];rw[h2];dsimp only[oB];cases bf id with
 | false=>rfl
 | true =>
 have e00:aj 0 0=true:=rfl;rw[e00,e1];simp only[oT,oF,oN,oM,oB];cases aD (ax s.2.2.2.2.2.1 id) 0 with
 | true=>rfl
 | false => simp only[oT,oF,oN,oM,oB];rw[e00];simp only[oT,oF,oN,oM,oB];rw[h3];try rfl
def gP(a:ay)(now:Int):ay×Int:=cond (bg a) (cond (bd now) (az a now,0) (aL,1)) (aL,1)
theorem Rl(a:ay)(now:Int)(hb:bE a):Qm a now=some ((),((gP a now).1,((gP a now).2,()),())):=by
 unfold Qm gP;rw[lg a hb,gN,nu a now hb];dsimp only[oB];cases bg a <;> first | rfl | skip
 cases bd now <;> rfl
theorem P0(a:ay)(now:Int)(hb:bE a):Kp a now=some ((),((gP a now).1,((gP a now).2,()),())):=by
 unfold Kp gP;rw[Hl a now hb];cases bg a <;> first | rfl | skip
 cases bd now <;> rfl
theorem ew{b:List ay}{id:S8}(h:¬ au b id<0):∃(i:Nat) (y:ay),au b id=(i:Int)/\b[i]? = some y:=by
 have hne:dk (fun(y:ay)=>bw y.1 id) 0 b ≠ -1:=fun e=>by unfold au at h; rw[e]at h; omega
 obtain⟨i,y,h1,h2,h3,_⟩:=ln _ _ _ hne;exact⟨i,y,by unfold au; rw[h1,aey],h2⟩
theorem IH{y:aK}(h:lD y=true):y.1.length<=1048576:=by
 unfold lD at h;cases hi:bf y.1 with
 | false=>rw[hi]at h; simp at h
 | true =>
   unfold bf at hi;cases ha:y.1.all jK with
   | false=>rw[ha]at hi; simp at hi
   | true => rw[ha]at hi;have:=bD.1 (show cI (ae y.1) 1 6=true from hi);unfold ae at this; omega
theorem NO(xs:List aK)(h:aK):(dX xs h).1.length<=1048576/\∀ y∈(dX xs h).1,y.1.length<=1048576:=by
 unfold dX;cases cN xs with
 | false=>exact⟨aeA _,fun y hy=>by simp at hy⟩
 | true =>
   cases hp:cN (iV xs h)with
   | false=>exact⟨aeA _,fun y hy=>by simp at hy⟩
   | true => have:=mR hp;exact⟨by show(iV xs h).length<=_; omega,fun y hy=>IH (qD hp y hy)⟩
theorem Ae{r:fz}(now amt:Int)(h:jm r):jm (cR r now amt):=by have:=ow r now amt;unfold jm at h ⊢;rw[this.1,this.2]; exact h
theorem er:bE aL:=⟨by decide,⟨by decide,fun y hy=>by simp[aL]at hy⟩,⟨by decide,by decide⟩,by decide,fun y hy=>by simp[aL]at hy⟩
theorem Vr{a:ay}(id:S8)(amt ttl now:Int)(hb:bE a):bE (kq a id amt ttl now).1:=by
 have hsb:=dD now hb;unfold kq;generalize az a now=s at hsb ⊢;have hp:=NO s.2.2.2.2.2.1 (id,amt,ak .i64 now ttl,());have hr:=Ae now amt hsb.2.2.1;cases cond (bg a) (cond (bd now) (bf id) false) false <;> first | exact er | skip
 cases cI amt 1 9007199254740992 <;> first | exact er | skip
 dsimp only[oT];cases(cond (!cI ttl 1 9999) true (aD 1000000000 (ak .i64 now ttl))) <;> first | exact er | skip
 cases bT 0 (ax s.2.2.2.2.2.1 id) <;> first | exact er | skip
 cases aj (ae s.2.2.2.2.2.1) 4 <;> first | exact er | skip
 cases aj (gn s amt now) 0 <;> first | exact er | skip
 exact⟨hsb.1,hp,hr,hsb.2.2.2.1,hsb.2.2.2.2⟩
theorem TZ{xs:List aK}{k:Int}{z:aK}(h:xs.length<=1048576/\∀ y∈xs,y.1.length<=1048576)(hz:z.1.length<=1048576):(cO xs k z).length<=1048576/\∀ y∈cO xs k z,y.1.length<=1048576:=by
 unfold cO;refine⟨by rw[afz]; exact h.1,fun y hy => ?_⟩;rcases List.mem_or_eq_of_mem_set hy with hy | hy
 . exact h.2 y hy
 . rw[hy]; exact hz
theorem xG{xs:List aK}(p:aK->Bool)(h:xs.length<=1048576/\∀ y∈xs,y.1.length<=1048576):(xs.filter p).length<=1048576/\∀ y∈xs.filter p,y.1.length<=1048576 :=
 ⟨aeu (afc _ _) h.1,fun y hy=>h.2 y (afy.1 hy).1⟩
theorem Ww{a:ay}(id:S8)(amt now:Int)(hb:bE a):bE (kt a id amt now).1:=by
 have hsb:=dD now hb;unfold kt;generalize az a now=s at hsb ⊢;have hg:=CN (k:=ax s.2.2.2.2.2.1 id) hsb.2.1.2;have hp:=fun v=>TZ (k:=ax s.2.2.2.2.2.1 id) (z:=((gt nL s.2.2.2.2.2.1 (ax s.2.2.2.2.2.1 id)).1,v,(gt nL s.2.2.2.2.2.1 (ax s.2.2.2.2.2.1 id)).2.2.1,())) hsb.2.1 hg
 have hr:=Ae now amt hsb.2.2.1;cases cond (bg a) (cond (bd now) (bf id) false) false <;> first | exact er | skip
 cases cI amt 1 9007199254740992 <;> first | exact er | skip
 cases aD (ax s.2.2.2.2.2.1 id) 0 <;> first | exact er | skip
 cases aj (gn s amt now) 0 <;> first | exact er | skip
 exact⟨hsb.1,hp _,hr,hsb.2.2.2.1,hsb.2.2.2.2⟩
theorem TL{a:ay}(id:S8)(amt:Int)(last:Bool)(now:Int)(hb:bE a):bE (nb a id amt last now).1:=by
 have hsb:=dD now hb;unfold nb;generalize az a now=s at hsb ⊢;have hg:=CN (k:=ax s.2.2.2.2.2.1 id) hsb.2.1.2;have hp:=fun v=>TZ (k:=ax s.2.2.2.2.2.1 id) (z:=((gt nL s.2.2.2.2.2.1 (ax s.2.2.2.2.2.1 id)).1,v,(gt nL s.2.2.2.2.2.1 (ax s.2.2.2.2.2.1 id)).2.2.1,())) hsb.2.1 hg
 have hf:=xG (bR id) hsb.2.1;cases cond (bg a) (cond (bd now) (bf id) false) false <;> first | exact er | skip
 cases cI amt 1 9007199254740992 <;> first | exact er | skip
 cases aD (ax s.2.2.2.2.2.1 id) 0 <;> first | exact er | skip
 cases aD (gt nL s.2.2.2.2.2.1 (ax s.2.2.2.2.2.1 id)).2.1 amt <;> first | exact er | skip
 dsimp only[oT,oF];cases(cond last true (aj amt (gt nL s.2.2.2.2.2.1 (ax s.2.2.2.2.2.1 id)).2.1))
 . exact⟨hsb.1,hp _,hsb.2.2.1,hsb.2.2.2.1,hsb.2.2.2.2⟩
 . exact⟨hsb.1,hf,hsb.2.2.1,hsb.2.2.2.1,hsb.2.2.2.2⟩
theorem UP{a:ay}(id:S8)(now:Int)(hb:bE a):bE (kr a id now).1:=by
 have hsb:=dD now hb;unfold kr;generalize az a now=s at hsb ⊢;have hf:=xG (bR id) hsb.2.1;cases cond (bg a) (cond (bd now) (bf id) false) false <;> first | exact er | skip
 cases aD (ax s.2.2.2.2.2.1 id) 0 <;> first | exact er | skip
 exact⟨hsb.1,hf,hsb.2.2.1,hsb.2.2.2.1,hsb.2.2.2.2⟩
theorem Ut{a b:ay}(id:S8)(now:Int)(hb:bE a)(hc:bE b):bE (fA a b id now).1/\bE (fA a b id now).2.1:=by
 have hsb:=dD now hb;have hsc:=dD now hc;have h00:bE aL/\bE aL:=⟨er,er⟩;unfold fA;generalize az a now=s at hsb ⊢;generalize az b now=t at hsc ⊢;have hf:=xG (bR id) hsb.2.1;have hp:=NO t.2.2.2.2.2.1 (gt nL s.2.2.2.2.2.1 (ax s.2.2.2.2.2.1 id));cases cond (bg a) (cond (bd now) (bf id) false) false <;> first | exact h00 | skip
 cases bg b <;> first | exact h00 | skip
 cases bw a.1 b.1 <;> first | exact h00 | skip
 cases aD (ax s.2.2.2.2.2.1 id) 0 <;> first | exact h00 | skip
 cases bT 0 (ax t.2.2.2.2.2.1 id) <;> first | exact h00 | skip
 cases aj (ae t.2.2.2.2.2.1) 4 <;> first | exact h00 | skip
 cases aD (gx t now) (gt nL s.2.2.2.2.2.1 (ax s.2.2.2.2.2.1 id)).2.1 <;> first | exact h00 | skip
 exact⟨⟨hsb.1,hf,hsb.2.2.1,hsb.2.2.2.1,hsb.2.2.2.2⟩,⟨hsc.1,hp,hsc.2.2.1,hsc.2.2.2.1,hsc.2.2.2.2⟩⟩
theorem Qe{a:ay}(now:Int)(hb:bE a):bE (gP a now).1:=by
 have hsb:=dD now hb;unfold gP;cases bg a <;> first | exact er | skip
 cases bd now <;> first | exact er | exact hsb
def lN(a b:ay)(q:ft)(now:Int):ay×ay×Int×S8 :=
 cond (aj q.1 1) ((kq a q.2.2.2.1 q.2.2.2.2.2.2.1 q.2.2.2.2.2.2.2.1 now).1,b,(kq a q.2.2.2.1 q.2.2.2.2.2.2.1 q.2.2.2.2.2.2.2.1 now).2,[])
  (cond (aj q.1 2) ((kt a q.2.2.2.1 q.2.2.2.2.2.2.1 now).1,b,(kt a q.2.2.2.1 q.2.2.2.2.2.2.1 now).2,[])
    (cond (aj q.1 3) ((nb a q.2.2.2.1 q.2.2.2.2.2.2.1 (aj q.1 4) now).1,b,(nb a q.2.2.2.1 q.2.2.2.2.2.2.1 (aj q.1 4) now).2,[])
      (cond (aj q.1 4) ((nb a q.2.2.2.1 q.2.2.2.2.2.2.1 (aj q.1 4) now).1,b,(nb a q.2.2.2.1 q.2.2.2.2.2.2.1 (aj q.1 4) now).2,[])
        (cond (aj q.1 5) ((kr a q.2.2.2.1 now).1,b,(kr a q.2.2.2.1 now).2,[])
          (cond (aj q.1 6) ((fA a b q.2.2.2.1 now).1,(fA a b q.2.2.2.1 now).2.1,(fA a b q.2.2.2.1 now).2.2,[])
            (cond (aj q.1 7) (a,b,(uL a now).2,(uL a now).1)
              ((gP a now).1,b,(gP a now).2,[])))))))
theorem ZX(a b:ay)(q:ft)(now:Int)(hb:bE a)(hc:bE b)(hi:q.2.2.2.1.length<=1048576):Xa a b q now=some ((),((lN a b q now).1,(lN a b q now).2.1,((lN a b q now).2.2.1,()),((lN a b q now).2.2.2,()),())):=by
 unfold Xa lN;rw[Vf a _ _ _ now hb hi,Wu a _ _ now hb hi,Yw a _ _ _ now hb hi,UM a _ now hb hi,VK a b _ now hb hc hi,YT a now hb,Rl a now hb];cases aj q.1 1 <;> first | rfl | skip
 cases aj q.1 2 <;> first | rfl | skip
 cases aj q.1 3 <;> first | rfl | skip
 cases aj q.1 4 <;> first | rfl | skip
 cases aj q.1 5 <;> first | rfl | skip
 cases aj q.1 6 <;> first | rfl | skip
 cases aj q.1 7 <;> rfl
theorem abe{a b:ay}(q:ft)(now:Int)(hb:bE a)(hc:bE b):bE (lN a b q now).1/\bE (lN a b q now).2.1:=by
 unfold lN;cases aj q.1 1 <;> first | exact⟨Vr _ _ _ now hb,hc⟩ | skip
 cases aj q.1 2 <;> first | exact⟨Ww _ _ now hb,hc⟩ | skip
 cases aj q.1 3 <;> first | exact⟨TL _ _ _ now hb,hc⟩ | skip
 cases aj q.1 4 <;> first | exact⟨TL _ _ _ now hb,hc⟩ | skip
 cases aj q.1 5 <;> first | exact⟨UP _ now hb,hc⟩ | skip
 cases aj q.1 6 <;> first | exact Ut _ now hb hc | skip
 cases aj q.1 7 <;> first | exact⟨hb,hc⟩ | exact⟨Qe now hb,hc⟩
def cV(b:List ay)(q:ft)(now:Int):(List ay)×Int×S8 :=
 cond (jV b) (cond (kf q) (cond (bd now)
  (cond (aj q.1 6)
    (cond (cond (aD (au b q.2.1) 0) true (aD (au b q.2.2.1) 0)) ([],3,[])
      (cond (aj (lN (gt aL b (au b q.2.1)) (gt aL b (au b q.2.2.1)) q now).2.2.1 0)
        (cO (cO b (au b q.2.2.1) (lN (gt aL b (au b q.2.1)) (gt aL b (au b q.2.2.1)) q now).2.1) (au b q.2.1) (lN (gt aL b (au b q.2.1)) (gt aL b (au b q.2.2.1)) q now).1,0,(lN (gt aL b (au b q.2.1)) (gt aL b (au b q.2.2.1)) q now).2.2.2)
        ([],(lN (gt aL b (au b q.2.1)) (gt aL b (au b q.2.2.1)) q now).2.2.1,[])))
    (cond (aD (au b q.2.1) 0) ([],3,[])
      (cond (aj (lN (gt aL b (au b q.2.1)) (gt aL b (au b q.2.1)) q now).2.2.1 0)
        (cO b (au b q.2.1) (lN (gt aL b (au b q.2.1)) (gt aL b (au b q.2.1)) q now).1,0,(lN (gt aL b (au b q.2.1)) (gt aL b (au b q.2.1)) q now).2.2.2)
        ([],(lN (gt aL b (au b q.2.1)) (gt aL b (au b q.2.1)) q now).2.2.1,[]))))
  ([],1,[])) ([],1,[])) ([],1,[])
theorem Wp(b:List ay)(q:ft)(now:Int)(hb:lJ b)(hq:DC q):ZE (b,()) q now=some ((),(((cV b q now).1,()),((cV b q now).2.1,()),((cV b q now).2.2,()),())):=by
 have hi:=hq.2.2.1;have a1:=xa b q.2.1 hb.1;have a2:=xa b q.2.2.1 hb.1;have a3:=Cq b hb;unfold ZE cV;rw[KE b hb,S4 q hq,gN,a1,a2];dsimp only[oB];cases jV b <;> first | rfl | skip
 cases kf q <;> first | rfl | skip
 cases bd now <;> first | rfl | skip
 dsimp only[oT,oF,oN];cases h6:aj q.1 6 with
 | true =>
   dsimp only[oT];by_cases n1:au b q.2.1<0
   . rw[aP n1];try rfl
   by_cases n2:au b q.2.2.1<0
   . rw[aG n1,aP n2];try rfl
   obtain⟨i,y,i1,i2⟩:=ew n1;obtain⟨k,z,j1,j2⟩:=ew n2;have hy:=hb.2 y (aet i2);have hz:=hb.2 z (aet j2);have e1:gt d94 b (i:Int)=y:=aO _ i2;have e2:gt d94 b (k:Int)=z:=aO _ j2;have e3:gt aL b (i:Int)=y:=aO _ i2;have e4:gt aL b (k:Int)=z:=aO _ j2;have ho:=ZX y z q now hy hz hi;obtain⟨ob1,ob2⟩:=abe (a:=y) (b:=z) q now hy hz;rw[aG n1,aG n2,i1,j1,aC i2,aC j2,e1,e2,e3,e4];generalize lN y z q now=r at ho ob1 ob2 ⊢;dsimp only[oT,oF];rw[ho];dsimp only[oB];cases aj r.2.2.1 0 with
   | false=>rfl
   | true =>
     dsimp only[oT,oF,oN];rw[a3,mi r.1 ob1,mi r.2.1 ob2];dsimp only[oB];have hlen:(cO b (k:Int) r.2.1).length=b.length:=by unfold cO; rw[afz]
     have hin:aZ (i:Int) (cO b (k:Int) r.2.1)=true:=gv (by rw[hlen]; exact ai i2);by_cases hk:(k:Int)=(i:Int)
     . rw[bu.2 hk,aC i2];have:cO (cO b (k:Int) r.2.1) (i:Int) r.1=cO b (i:Int) r.1:=by rw[hk]; unfold cO; exact List.set_set ..
       rw[this];try rfl
     . rw[tS hk,aC j2,hin];try rfl
 | false =>
   dsimp only[oF];by_cases n1:au b q.2.1<0
   . rw[aP n1];try rfl
   obtain⟨i,y,i1,i2⟩:=ew n1;have hy:=hb.2 y (aet i2);have e1:gt d94 b (i:Int)=y:=aO _ i2;have e3:gt aL b (i:Int)=y:=aO _ i2;have ho:=ZX y y q now hy hy hi;obtain⟨ob1,ob2⟩:=abe (a:=y) (b:=y) q now hy hy;rw[aG n1,i1,aC i2,e1,e3];generalize lN y y q now=r at ho ob1 ob2 ⊢;dsimp only[oT,oF];rw[ho];dsimp only[oB];cases aj r.2.2.1 0 with
   | false=>rfl
   | true => dsimp only[oT,oF,oN];rw[a3,mi r.1 ob1,mi r.2.1 ob2,bZ];dsimp only[oB,oT,oF,oN];rw[aC i2];try rfl
theorem E4(n:Nat)(i:Int):G4 n i i=true:=by
 unfold G4;induction n with
 | zero=>rfl
 | succ n ih=>exact(Bool.and_eq_true_iff (x:=Nat.beq i.toNat i.toNat)).2 ⟨Nat.beq_refl _,ih⟩
theorem VX(b:List ay)(q:ft)(now:Int)(hb:lJ b)(hq:DC q):YQ (b,()) q now=some ((),(((cV b q now).1,()),((cV b q now).2.1,()),((cV b q now).2.2,()),())):=by
 have hi:=hq.2.2.1;have a1:=v7 b q.2.1 hb.1;have a2:=v7 b q.2.2.1 hb.1;have a3:=Dw b hb;unfold YQ cV;rw[Kz b hb,T4 q hq,gM,a1,a2];dsimp only[oB];cases jV b <;> first | rfl | skip
 cases kf q <;> first | rfl | skip
 cases bd now <;> first | rfl | skip
 dsimp only[oT,oF,oN];obtain⟨op,acct,other,hold,trace,mti,amt,ttl,_⟩:=q;dsimp only at hi ⊢;cases h6:aj op 6 with
 | true =>
   obtain rfl:=bu.1 h6;have t1:aj (6:Int) 1=false:=rfl;have t2:aj (6:Int) 2=false:=rfl;have t3:aj (6:Int) 3=false:=rfl;have t4:aj (6:Int) 4=false:=rfl;have t5:aj (6:Int) 5=false:=rfl;have t6:aj (6:Int) 6=true:=rfl;dsimp only[oT];by_cases n1:au b acct<0
   . rw[aP n1];try rfl
   by_cases n2:au b other<0
   . rw[aG n1,aP n2];try rfl
   obtain⟨i,y,i1,i2⟩:=ew n1;obtain⟨k,z,j1,j2⟩:=ew n2;have hy:=hb.2 y (aet i2);have hz:=hb.2 z (aet j2);have e1:gt d94 b (i:Int)=y:=aO _ i2;have e2:gt d94 b (k:Int)=z:=aO _ j2;have e3:gt aL b (i:Int)=y:=aO _ i2;have e4:gt aL b (k:Int)=z:=aO _ j2;have ho:=Ue y z hold now hy hz hi;have hop:lN y z (6,acct,other,hold,trace,mti,amt,ttl,()) now=((fA y z hold now).1,(fA y z hold now).2.1,(fA y z hold now).2.2,[]):=rfl;rw[aG n1,aG n2,i1,j1,t1,t2,t3,t4,t5,a3,e3,e4,hop];generalize fA y z hold now=r at ho ⊢;dsimp only[oB,oT,oF];rw[aC i2,aC j2,e1,e2,ho];dsimp only[oB,oT,oF];cases aj r.2.2 0 with
   | false=>rfl
   | true =>
     have hlen:(cO b (k:Int) r.2.1).length=b.length:=by unfold cO; rw[afz]
     have hin:aZ (i:Int) (cO b (k:Int) r.2.1)=true:=gv (by rw[hlen]; exact ai i2);dsimp only[oT,oF,oN];rw[hin];try rfl
 | false =>
   dsimp only[oF];by_cases n1:au b acct<0
   . rw[aP n1];try rfl
   obtain⟨i,y,i1,i2⟩:=ew n1;have hy:=hb.2 y (aet i2);have e1:gt d94 b (i:Int)=y:=aO _ i2;have e3:gt aL b (i:Int)=y:=aO _ i2;rw[aG n1,i1,a3,e3];dsimp only[oB,oT,oF];rw[aC i2,e1,VN y _ _ _ now hy hi,Ub y _ _ now hy hi,ZK y _ _ _ now hy hi,Uk y _ now hy hi,Zh y now hy,P0 y now hy,E4];unfold lN;dsimp only[oB,oT,oF];rw[h6];cases aj op 1 with
   | true=>dsimp only[oT]; cases aj (kq y hold amt ttl now).2 0 <;> rfl
   | false =>
   cases aj op 2 with
   | true=>dsimp only[oT,oF]; cases aj (kt y hold amt now).2 0 <;> rfl
   | false =>
   cases aj op 3 with
   | true=>dsimp only[oT,oF]; cases aj (nb y hold amt (aj op 4) now).2 0 <;> rfl
   | false =>
   cases h4:aj op 4 with
   | true=>dsimp only[oT,oF]; cases aj (nb y hold amt true now).2 0 <;> rfl
   | false =>
   cases aj op 5 with
   | true=>dsimp only[oT,oF]; cases aj (kr y hold now).2 0 <;> rfl
   | false =>
   cases aj op 7 with
   | true=>dsimp only[oT,oF]; cases aj (uL y now).2 0 <;> rfl
   | false=>dsimp only[oT,oF]; cases aj (gP y now).2 0 <;> rfl
abbrev aI:=List (Int×Unit)
def Ai(b:aI):Prop:=b.length<=1048576/\∀ x∈b,0<=x.1/\x.1<=255
def fR(b:aI)(a k:Nat):aI:=(b.drop a).take k
theorem MF(b:aI)(a k:Nat):sub b (a:Int) ((a+k:Nat):Int)=fR b a k:=by unfold sub fR;rw[afr,afr,List.drop_take,afa]
theorem mW{b:aI}{a k:Nat}(h:a+k<=b.length):(fR b a k).length=k:=by unfold fR;rw[afe,af5];omega
theorem M4{b:aI}{a k i:Nat}{x:Int×Unit}(h:(fR b a k)[i]? = some x):i<k/\b[a+i]? = some x:=by
 unfold fR at h;rw[afs]at h;split at h
 . rw[aft]at h;exact⟨by assumption,h⟩
 . simp at h
theorem UZ{b:aI}{a k:Nat}{x:Int×Unit}(h:x∈fR b a k):x∈b:=agH (ag4 h)
theorem Hk{b:aI}{a k:Nat}(h:a+k<=b.length):ea (a:Int) ((a+k:Nat):Int) b=true:=by show(decide ((0:Int)<=(a:Int))&&(decide ((a:Int)<=((a+k:Nat):Int))&&decide (((a+k:Nat):Int)<=(b.length:Int))))=true;rw[aeq (by omega),aeq (by omega),aeq (by omega)];try rfl
theorem BM(b:aI)(a k:Nat)(hb:b.length<=1048576)(ha:a<=b.length)(hk:k<=1048576):BG b a k=some ((),(if a+k<=b.length then ((fR b a k,()),(true,()),())else (([],()),(false,()),()))):=by
 unfold BG;have e:ba .i64 (ae b) (a:Int)=(b.length:Int)-a:=bA (by show -4611686018427387904<=(b.length:Int)-a; omega) (by show(b.length:Int)-a<=_; omega);have i1:cI (a:Int) 0 (ae b)=true:=bD.2 ⟨by omega,by show(a:Int)<=(b.length:Int); omega⟩;have e2:ak .i64 (a:Int) (k:Int)=((a+k:Nat):Int):=by rw[a8 (by omega) (by omega)]; omega
 dsimp only;rw[j9,e,e2];dsimp only[oB];rw[i1,aG (a:=(k:Int)) (b:=0) (by omega)];by_cases h:a+k<=b.length
 . rw[aG (by omega),if_pos h,Hk h,MF];try rfl
 . rw[aP (by omega),if_neg h];try rfl
def de(s:S8):Bool:=s.all fun x=>cond (aD (x.toNat:Int) 32) false (!(aD 126 (x.toNat:Int)))
theorem G3(s:S8)(hs:s.length<=bN):Bg s=zR (de s):=by
 unfold Bg;have h:=aQ (step:=x3 pV) s (fun i (_:Unit)=>(s,((i:Nat):Int),())) (fun _ x _=>bif cond (aD (x.toNat:Int) 32) false (!(aD 126 (x.toNat:Int)))then Sum.inl ()else .inr (.inr (false,()))) (fun _=> .inl (s,(s.length:Int),())) (a0:=()) (fun i x a hx=>by
  have hlt:=ai hx;show pV s (i:Int)=_;unfold pV;rw[aM hx,aC hx,e8 hx,aU (by omega)];dsimp only[oT];cases aD (x.toNat:Int) 32 <;> cases aD 126 (x.toNat:Int) <;> rfl) (fun a=>by
  show pV s (s.length:Int)=_;unfold pV;rw[aA rfl];try rfl)
 rw[je]at h;have h':L8 s 0=_:=h;rw[h'];unfold de;cases s.all _ <;> rfl
theorem QW(s:S8)(hs:s.length<=bN):Ju s=zR (de s):=by
 unfold Ju;have h:=aQ (step:=fY qC) s (fun i (_:Unit)=>(s,ae s,((i:Nat):Int),())) (fun _ x _=>bif cond (aD (x.toNat:Int) 32) false (!(aD 126 (x.toNat:Int)))then Sum.inl ()else .inr (.inr (false,()))) (fun _=> .inl (s,ae s,(s.length:Int),())) (a0:=()) (fun i x a hx=>by
  have hlt:=ai hx;show qC s (ae s) (i:Int)=_;unfold qC;rw[aM hx,aC hx,e8 hx,aU (by omega)];dsimp only[oT];cases aD (x.toNat:Int) 32 <;> cases aD 126 (x.toNat:Int) <;> rfl) (fun a=>by
  show qC s (ae s) (s.length:Int)=_;unfold qC;rw[aA rfl];try rfl)
 rw[je]at h;have h':MZ s (ae s) 0=_:=h;rw[h'];unfold de;cases s.all _ <;> rfl
def mx(acc:Nat)(s:S8):Nat:=s.foldl (fun n x=>n * 10+(x.toNat-48)) acc
theorem BA:∀(s:S8) (acc k:Nat),s.all eM=true->acc<10 ^ k->mx acc s<10 ^ (k+s.length)
 | [],acc,k,_,h=>h
 | x::s,acc,k,hd,h=>by simp only[afh,aen]at hd;have:=cK.1 hd.1;have h2:=BA s (acc * 10+(x.toNat-48)) (k+1) hd.2 (by rw[Nat.pow_succ]; omega);rw[aeC,show k+(s.length+1)=k+1+s.length by omega];exact h2
theorem Ce:∀(s:S8) (acc:Nat),s.all eM=true->mx acc s<1844674407370955162->Lib.parseUint10 acc s= .ok (mx acc s)
 | [],acc,_,_=>rfl
 | x::s,acc,hd,h=>by
   simp only[afh,aen]at hd;have hx:=cK.1 hd.1;have hmono:∀(s:S8) (a:Nat),a<=mx a s:=fun s=>by
    induction s with
    | nil=>intro a; exact oR _
    | cons y s ih=>intro a; exact aeu (by omega) (ih (a * 10+(y.toNat-48)))
   have h1:=hmono s (acc * 10+(x.toNat-48));have h:mx (acc * 10+(x.toNat-48)) s<1844674407370955162:=h;have ih:=Ce s (acc * 10+(x.toNat-48)) hd.2 h;unfold Lib.parseUint10;rw[if_pos hx,if_neg (by omega),if_neg (by omega),ih];try rfl
theorem dj{s:S8}:aF s=true↔s.all eM=true/\s≠[]:=by
 unfold aF;cases s.all eM with
 | false=>simp
 | true=>cases s <;> simp[aD,ae]
def yN(s:S8):Option Nat:=if aF s=true/\s.length<=18 then some (mx 0 s)else none
def Pp(o:Option Nat):Option (Unit×((Int×Unit)×(Bool×Unit)×Unit)):=some ((),match o with | some n=>(((n:Int),()),(true,()),()) | none=>((0,()),(false,()),()))
theorem TJ(s:S8)(hs:s.length<=bN):EJ s=Pp (yN s):=by
 unfold EJ vH yN;rw[gW s hs];dsimp only[oB];cases hd:aF s with
 | false=>rfl
 | true =>
   by_cases h18:s.length<=18
   . rw[if_pos ⟨rfl,h18⟩,aex h18];obtain⟨h1,h2⟩:=dj.1 hd;have hb:=BA s 0 0 h1 (by decide);have hb2:mx 0 s<1000000000000000000:=aeJ hb (by rw[aey]; exact agw (by decide) h18);have hu:=Ce s 0 h1 (by omega);have hv:Lib.atoiAll s= .ok (mx 0 s:Int):=by
      cases s with
      | nil=>exact absurd rfl h2
      | cons c r => have hc:=aeE.1 h1 c (by simp);have hc:=cK.1 hc;rw[Lib.atoiAll_plain c r (by omega) (by omega)];unfold Lib.parseMag;rw[if_neg (by simp),hu];show(if 9223372036854775808<=mx 0 (c::r)then _ else _)=_;rw[if_neg (by omega)]
     rw[hv];try rfl
   . rw[if_neg (fun h=>h18 h.2)];have:Nat.ble s.length 18=false:=by
      cases h:Nat.ble s.length 18 with
      | false=>rfl
      | true=>exact absurd (aeI h) h18
     rw[this];try rfl
theorem GI(s:S8)(hs:s.length<=bN):J6 s=Pp (yN s):=by
 have hbig:=bh;unfold J6 yN;rw[fg s hs];dsimp only[oB];cases hd:aF s with
 | false=>rfl
 | true =>
   by_cases h18:s.length<=18
   . rw[if_pos ⟨rfl,h18⟩,aG (by show ¬ (18:Int)<(s.length:Int); omega)];obtain⟨h1,h2⟩:=dj.1 hd;have h:=aT (step:=fY xX) s (fun i (a:Nat)=>(s,(a:Int),((i:Nat):Int),())) (fun _ x a=>Sum.inl (a * 10+(x.toNat-48))) (fun a=> .inl (s,(a:Int),(s.length:Int),())) (fun i a=>a<10 ^ i) (a0:=0) (by decide) (fun i x a hx ha=>by
      have hlt:=ai hx;have hc:=cK.1 (aeE.1 h1 x (aet hx));have h17:a<10 ^ 17:=aeJ ha (agw (by decide) (by omega));have h17':a<100000000000000000:=h17;show xX s (a:Int) (i:Int)=_;unfold xX;have m:vB .i64 (a:Int) 10=((a * 10:Nat):Int):=by unfold vB; rw[IntKind.wrap_i64]; omega
      have c:cW .i64 (x.toNat:Int)=(x.toNat:Int):=by unfold cW; rw[IntKind.wrap_i64]; omega
      rw[aM hx,aC hx,e8 hx,aU (by omega),m,c,a8 (by omega) (by omega),bA (by omega) (by omega)];dsimp only[oT];rw[show((a * 10:Nat):Int)+(x.toNat:Int)-48=((a * 10+(x.toNat-48):Nat):Int)by omega]) (fun i x a a' hx ha hf=>by
      have hc:=cK.1 (aeE.1 h1 x (aet hx));simp only[aeK]at hf;rw[<- hf,Nat.pow_succ];omega) (fun a ha=>by
      show xX s (a:Int) (s.length:Int)=_;unfold xX;rw[aA rfl];try rfl)
     rw[bQ]at h;have h':Tv s 0 0=_:=h;rw[h'];try rfl
   . rw[if_neg (fun h=>h18 h.2),aP (by show(18:Int)<(s.length:Int); omega)];try rfl
theorem nO{s t:S8}(h:s.length+t.length<=bN):iJ s t=true:=aex h
def OI(x:Int×Unit):S8:=[UInt8.ofNat (48+x.1.toNat / 16),UInt8.ofNat (48+x.1.toNat % 16)]
def rE(l:aI):S8:=(l.map OI).flatten
theorem sk:∀ l:aI,(rE l).length=2 * l.length
 | []=>rfl
 | x::r=>by have:=sk r;unfold rE at this ⊢;simp only[aeZ,List.flatten_cons,aeo,this,OI,aeC,ae7];omega
def AE:S8->aI
 | []=>[]
 | x::r=>((x.toNat:Int),())::AE r
theorem uF:∀ q:S8,strOf (AE q)=q
 | []=>rfl
 | x::r=>by show UInt8.ofNat (Int.toNat (x.toNat:Int))::strOf (AE r)=_;rw[uF r,afr];simp
theorem vI:∀ q:S8,(AE q).length=q.length
 | []=>rfl
 | x::r=>aeU (· + 1) (vI r)
theorem GZ:∀ q r:S8,AE (q++r)=AE q++AE r
 | [],r=>rfl
 | x::q,r=>aeU (((x.toNat:Int),()) :: ·) (GZ q r)
theorem B3:∀(n:Nat) (q:S8),(AE q).drop n=AE (q.drop n)
 | 0,q=>by simp
 | n+1,[]=>rfl
 | n+1,x::r=>B3 n r
def hE(b:aI)(a n:Nat):Option S8 :=
 if 1<=n/\n<=38/\a+(n+1) / 2<=b.length then
  (if (rE (fR b a ((n+1) / 2))).all eM=true/\(n % 2=1->(rE (fR b a ((n+1) / 2))).head? = some 48)then some ((rE (fR b a ((n+1) / 2))).drop (n % 2))else none)
 else none
def sx(o:Option S8)(e:Int):Option (Unit×((S8×Unit)×(Int×Unit)×(Bool×Unit)×Unit)):=some ((),match o with | some s=>((s,()),(e,()),(true,()),()) | none=>(([],()),(0,()),(false,()),()))
theorem Bs{s:S8}:s.head? = some 48↔∃ r,s=48::r:=by
 cases s with
 | nil=>simp
 | cons x r=>simp
theorem Lu(n:Nat)(h:n<=1048576):jr .i64 (ak .i64 (n:Int) 1) 2=(((n+1) / 2:Nat):Int):=by rw[a8 (by omega) (by omega)];unfold jr;rw[afS (by omega),IntKind.wrap_i64];omega
theorem F8(n:Nat):aj (dP (n:Int) 2) 1=decide (n % 2=1):=by
 unfold aj dP;rw[afD (by omega)];by_cases h:n % 2=1
 . rw[aeq h]; exact beq_iff_eq.2 (by omega)
 . rw[aeL h]; exact beq_eq_false_iff_ne.2 (by omega)
theorem Xf(x:Int×Unit)(h:0<=x.1/\x.1<=255):strOf [((cW .u8 (ak .i64 48 (jr .i64 (cW .i64 x.1) 16))),()),((cW .u8 (ak .i64 48 (dP (cW .i64 x.1) 16))),())]=OI x:=by
 obtain⟨⟨n,hn⟩,hn2⟩:(∃ n:Nat,x.1=n)/\x.1<=255:=⟨⟨x.1.toNat,by omega⟩,h.2⟩;have c:cW .i64 x.1=(n:Int):=by unfold cW; rw[IntKind.wrap_i64]; omega
 have q:jr .i64 (n:Int) 16=((n / 16:Nat):Int):=by unfold jr; rw[afS (by omega),IntKind.wrap_i64]; omega
 have r:dP (n:Int) 16=((n % 16:Nat):Int):=by unfold dP; rw[afD (by omega)]; omega
 have u:∀ k:Nat,k<=16->cW .u8 (ak .i64 48 (k:Int))=((48+k:Nat):Int):=fun k hk=>by rw[a8 (by omega) (by omega)]; unfold cW; rw[IntKind.wrap_u8]; omega
 rw[c,q,r,u _ (by omega),u _ (by omega)];unfold strOf OI;rw[hn];try rfl
theorem Xx:∀ c:Fin 256,ak .u8 48 (pI .u8 (c.val:Int) 4)=((48+c.val / 16:Nat):Int)/\ak .u8 48 (Jh .u8 (c.val:Int) 15)=((48+c.val % 16:Nat):Int):=by decide +kernel
theorem Jv{s:S8}(h:∃ r,s=48::r):(s.drop 1).all eM=s.all eM:=by obtain⟨r,rfl⟩:=h;rfl
theorem LK{s:S8}(hs:s≠[]):aj (et s 0) 48=true↔∃ r,s=48::r:=by
 cases s with
 | nil=>exact absurd rfl hs
 | cons x r =>
   show((x.toNat:Int) == 48)=true↔_;rw[beq_iff_eq];refine⟨fun h=>⟨r,?_⟩,fun⟨r',h⟩ => ?_⟩
   . have:x=48:=UInt8.toNat_inj.1 (by show x.toNat=48; omega);rw[this]
   . rw[(List.cons.inj h).1];try rfl
theorem nS{s:S8}(hs:s≠[]):aF s=s.all eM:=by
 cases h:s.all eM with
 | true=>exact dj.2 ⟨h,hs⟩
 | false =>
   cases h2:aF s with
   | false=>rfl
   | true=>rw[(dj.1 h2).1]at h; simp at h
theorem Q1{s:S8}{n:Nat}(h:n<s.length):s.drop n≠[]:=fun e=>by have:=aeU List.length e;rw[af5]at this;simp only[ae7]at this;omega
theorem D8(b:aI)(a n:Nat)(hb:Ai b)(ha:a<=b.length)(hn:n<=1048576):IB b a n=sx (hE b a n) ((a+(n+1) / 2:Nat):Int):=by
 have hbig:=bh;have hl:=hb.1;unfold IB hE;have e:ba .i64 (ae b) (a:Int)=(b.length:Int)-a:=bA (by show -4611686018427387904<=(b.length:Int)-a; omega) (by show(b.length:Int)-a<=_; omega);have hq:=Lu n hn;dsimp only;rw[e,hq,aG (a:=(a:Int)) (b:=0) (by omega),aG (a:=ae b) (b:=(a:Int)) (by show ¬ (b.length:Int)<a; omega)];by_cases h1:1<=n/\n<=38;rotate_left
 . rw[if_neg (fun h=>h1 ⟨h.1,h.2.1⟩)];by_cases h0:(n:Int)<1
   . rw[aP h0];try rfl
   . rw[aG h0,aP (by omega)];try rfl
 rw[aG (a:=(n:Int)) (b:=1) (by omega),aG (a:=38) (b:=(n:Int)) (by omega)];dsimp only[oF,oT];by_cases h2:a+(n+1) / 2<=b.length;rotate_left
 . rw[if_neg (fun h=>h2 h.2.2),aP (by omega)];try rfl
 rw[if_pos ⟨h1.1,h1.2,h2⟩,aG (by omega)];dsimp only[oF];have hpl:=mW h2;have h:=aT (step:=nM yn) (fR b a ((n+1) / 2)) (fun i (o:S8)=>(b,(a:Int),(n:Int),o,((a+i:Nat):Int),())) (fun _ x o=>Sum.inl (o++OI x)) (fun o=> .inl (b,(a:Int),(n:Int),o,((a+(n+1) / 2:Nat):Int),())) (fun i o=>o.length=2 * i) (a0:=[]) rfl (fun i x o hx ho=>by
  obtain⟨hik,hg⟩:=M4 hx;have hlt:=ai hg;show yn b (a:Int) (n:Int) o ((a+i:Nat):Int)=_;unfold yn;rw[hq,a8 (by omega) (by omega),aP (by omega),aC hg,aO _ hg];dsimp only[oT];rw[Xf x (hb.2 x (aet hg)),nO (by show o.length+2<=bN; omega),aU (by omega)];try rfl) (fun i x o o' hx ho hf=>by
  simp only[aeK]at hf;rw[<- hf,aeo,ho];show 2 * i+2=_;omega) (fun o ho=>by
  show yn b (a:Int) (n:Int) o ((a+(fR b a ((n+1) / 2)).length:Nat):Int)=_;unfold yn;rw[hq,a8 (by omega) (by omega),hpl,aG (by omega)];try rfl)
 have hfold:∀(l:aI) (o:S8),l.foldl (fun o x=>o++OI x) o=o++rE l:=fun l=>by
  induction l with
  | nil=>intro o; simp[rE]
  | cons x r ih=>intro o; rw[afg,ih]; simp[rE]
 rw[bQ,hfold,af4]at h;have h':S6 b (a:Int) (n:Int) [] (a:Int)=_:=h;rw[h'];generalize hs:rE (fR b a ((n+1) / 2))=s;have hsl:s.length=2 * ((n+1) / 2):=by rw[<- hs,sk,hpl]
 have hsne:s≠[]:=fun e=>by rw[e]at hsl; simp only[ae7]at hsl; omega
 dsimp only[oB,oL];rw[F8,hq,a8 (by omega) (by omega),show(a:Int)+(((n+1) / 2:Nat):Int)=((a+(n+1) / 2:Nat):Int)by omega];by_cases hp:n % 2=1
 . rw[aeq hp,hp];have i0:aZ 0 s=true:=gv (i:=0) (by omega);have c1:ea 1 (ae s) s=true:=by
    show(decide ((0:Int)<=1)&&(decide ((1:Int)<=(s.length:Int))&&decide ((s.length:Int)<=(s.length:Int))))=true;rw[aeq (by omega),aeq (by omega),aeq (by omega)];try rfl
   have sb:sub s 1 (ae s)=s.drop 1:=by show(s.take (Int.toNat (s.length:Int))).drop 1=_;rw[afr,agJ]
   rw[i0];dsimp only[oT];by_cases h48:∃ r,s=48::r
   . rw[(LK hsne).2 h48];rw[c1,sb,fg _ (by rw[af5]; omega),nS (Q1 (by omega)),Jv h48];dsimp only[oT,oB];cases hd:s.all eM with
     | false=>rw[if_neg (fun h=>by simp at h)];try rfl
     | true=>rw[if_pos ⟨rfl,fun _=>Bs.2 h48⟩];try rfl
   . have:aj (et s 0) 48=false:=by
      cases h:aj (et s 0) 48 with
      | false=>rfl
      | true=>exact absurd ((LK hsne).1 h) h48
     rw[this,if_neg (fun h=>h48 (Bs.1 (h.2 rfl)))];try rfl
 . rw[aeL hp];have hp0:n % 2=0:=by omega
   rw[hp0];dsimp only[oF];rw[fg _ (by omega),nS hsne];dsimp only[oB];cases hd:s.all eM with
   | false=>rw[if_neg (fun h=>by simp at h)];try rfl
   | true=>rw[if_pos ⟨rfl,fun h=>by simp at h⟩];try rfl
theorem HK(b:aI)(a n:Nat)(hb:Ai b)(ha:a<=b.length)(hn:n<=1048576):Na b a n=sx (hE b a n) ((a+(n+1) / 2:Nat):Int):=by
 have hbig:=bh;have hl:=hb.1;unfold Na hE;rw[j9,Lu n hn];dsimp only[oB];by_cases h1:1<=n/\n<=38;rotate_left
 . rw[if_neg (fun h=>h1 ⟨h.1,h.2.1⟩)];have:cI (n:Int) 1 38=false:=by
    cases h:cI (n:Int) 1 38 with
    | false=>rfl
    | true=>have:=bD.1 h; omega
   rw[this];try rfl
 rw[bD.2 (by omega:(1:Int)<=n/\(n:Int)<=38),BM b a _ hl ha (by omega)];have hloop:∀(t9:aI) (t10:Bool) (p:aI),(∀ x∈p,0<=x.1/\x.1<=255)->p.length<=20->Ty (a:Int) (n:Int) t9 t10 [] p (ae p) 0=some (.inl ((a:Int),(n:Int),t9,t10,AE (rE p),p,ae p,(p.length:Int),())):=fun t9 t10 p hp hpl=>by
  have h:=aT (step:=Rj xE) p (fun i (o:aI)=>((a:Int),(n:Int),t9,t10,o,p,ae p,((i:Nat):Int),())) (fun _ x o=>Sum.inl (o++AE (OI x))) (fun o=> .inl ((a:Int),(n:Int),t9,t10,o,p,ae p,(p.length:Int),())) (fun i o=>o.length=2 * i) (a0:=[]) rfl (fun i x o hx ho=>by
   have hlt:=ai hx;have hx2:=hp x (aet hx);show xE (a:Int) (n:Int) t9 t10 o p (ae p) (i:Int)=_;unfold xE;rw[aM hx,aC hx,aO _ hx,aU (by omega)];obtain⟨k,hk⟩:∃ k:Nat,x.1=k:=⟨x.1.toNat,by omega⟩;have hf:=Xx ⟨k,by omega⟩;dsimp only at hf;rw[hk,hf.1,hf.2];dsimp only[oT];have:∀ ys:aI,ys.length=2->bj 1 o ys=true:=fun ys hy=>aex (by rw[hy]; omega)
   rw[this _ rfl];have e1:∀ m:Nat,m<256->(UInt8.ofNat m).toNat=m:=fun m hm=>by simp[agG hm]
   show some (Sum.inl _)=some (Sum.inl _);unfold OI;rw[hk];simp only[afr,AE,fy,e1 (48+k / 16) (by omega),e1 (48+k % 16) (by omega)]) (fun i x o o' hx ho hf=>by
   simp only[aeK]at hf;rw[<- hf,aeo,ho];show 2 * i+2=_;omega) (fun o ho=>by
   show xE (a:Int) (n:Int) t9 t10 o p (ae p) (p.length:Int)=_;unfold xE;rw[aA rfl];try rfl)
  have hfold:∀(l:aI) (o:aI),l.foldl (fun o x=>o++AE (OI x)) o=o++AE (rE l):=fun l=>by
   induction l with
   | nil=>intro o; show o=o++[]; rw[afd]
   | cons x r ih=>intro o; rw[afg,ih,show rE (x::r)=OI x++rE r from rfl,GZ,aeO]
  rw[bQ,hfold,af4]at h;exact h
 by_cases h2:a+(n+1) / 2<=b.length;rotate_left
 . rw[if_neg h2,if_neg (fun h=>h2 h.2.2)];exact(bn (hloop [] false [] (fun x hx=>by simp at hx) (by simp))).trans rfl
 rw[if_pos h2,if_pos ⟨h1.1,h1.2,h2⟩];have hpl:=mW h2;refine(bn (hloop _ true _ (fun x hx=>hb.2 x (UZ hx)) (by omega))).trans ?_;generalize hs:rE (fR b a ((n+1) / 2))=s;have hsl:s.length=2 * ((n+1) / 2):=by rw[<- hs,sk,hpl]
 have hsne:s≠[]:=fun e=>by rw[e]at hsl; simp only[ae7]at hsl; omega
 show Option.bind (tO (strOf (AE s))) _=_;rw[uF,gW _ (by omega),nS hsne];generalize hm:AE s=m;have hlm:ae m=(s.length:Int):=by rw[<- hm]; show((AE s).length:Int)=_; rw[vI]
 have hcut:ba .i64 (s.length:Int) (n:Int)=((n % 2:Nat):Int):=by rw[bA (by omega) (by omega)]; omega
 have hpc:ae (fR b a ((n+1) / 2))=(((n+1) / 2:Nat):Int):=by show((fR b a _).length:Int)=_; rw[hpl]
 have c1:ea ((n % 2:Nat):Int) (s.length:Int) m=true:=by show(decide ((0:Int)<=((n % 2:Nat):Int))&&(decide (((n % 2:Nat):Int)<=(s.length:Int))&&decide ((s.length:Int)<=(m.length:Int))))=true;rw[show(m.length:Int)=(s.length:Int)from hlm,aeq (by omega),aeq (by omega),aeq (by omega)];try rfl
 have sb:strOf (sub m ((n % 2:Nat):Int) (s.length:Int))=s.drop (n % 2):=by rw[<- hm];show strOf (((AE s).take (Int.toNat (s.length:Int))).drop (Int.toNat ((n % 2:Nat):Int)))=_;rw[afr,afr,afU (by rw[vI]; exact oR _)];exact(aeU strOf (B3 _ _)).trans (uF _)
 have hF:(cond (ea (ba .i64 (ae m) (n:Int)) (ae m) m) (some ((),((strOf (sub m (ba .i64 (ae m) (n:Int)) (ae m)),()),(ak .i64 (a:Int) (ae (fR b a ((n+1) / 2))),()),(true,()),()))) none:Option (Unit×((S8×Unit)×(Int×Unit)×(Bool×Unit)×Unit)))=sx (some (s.drop (n % 2))) ((a+(n+1) / 2:Nat):Int):=by rw[hlm,hcut,hpc,a8 (by omega) (by omega),c1,sb,show(a:Int)+(((n+1) / 2:Nat):Int)=((a+(n+1) / 2:Nat):Int)by omega];try rfl
 show cond (!(s.all eM)) (some ((),(([],()),(0,()),(false,()),()))) (cond (aj (dP (n:Int) 2) 1) (cond (aZ 0 m) (cond (!(aj (gt (0,()) m 0).1 48)) (some ((),(([],()),(0,()),(false,()),()))) (cond (ea (ba .i64 (ae m) (n:Int)) (ae m) m) (some ((),((strOf (sub m (ba .i64 (ae m) (n:Int)) (ae m)),()),(ak .i64 (a:Int) (ae (fR b a ((n+1) / 2))),()),(true,()),()))) none)) none)
  (cond (ea (ba .i64 (ae m) (n:Int)) (ae m) m) (some ((),((strOf (sub m (ba .i64 (ae m) (n:Int)) (ae m)),()),(ak .i64 (a:Int) (ae (fR b a ((n+1) / 2))),()),(true,()),()))) none))=_
 rw[hF,F8];cases hd:s.all eM with
 | false=>rw[if_neg (fun h=>by simp at h)];try rfl
 | true =>
   by_cases hp:n % 2=1
   . rw[aeq hp];subst hm;have hm0:∃ x r,s=x::r:=by
      cases s with
      | nil=>exact absurd rfl hsne
      | cons x r=>exact⟨x,r,rfl⟩
     obtain⟨x,r,rfl⟩:=hm0;have i0:aZ 0 (AE (x::r))=true:=gv (i:=0) (by rw[vI]; simp);rw[i0];show cond (!(aj (x.toNat:Int) 48)) _ _=_;by_cases h48:x.toNat=48
     . have hx:x=48:=UInt8.toNat_inj.1 h48;rw[show aj (x.toNat:Int) 48=true from beq_iff_eq.2 (by omega),if_pos ⟨rfl,fun _=>by rw[hx];try rfl⟩];try rfl
     . rw[show aj (x.toNat:Int) 48=false from beq_eq_false_iff_ne.2 (by omega),if_neg (fun h=>by obtain⟨r',h⟩:=Bs.1 (h.2 hp);rw[(List.cons.inj h).1]at h48;exact h48 rfl)];try rfl
   . rw[aeL hp,if_pos ⟨rfl,fun h=>absurd h hp⟩];try rfl
def sf(p:aI)(i:Nat):Bool:=aj (dP (pI .i64 (cW .i64 (p.getD (i / 8) (0,())).1) ((7-i % 8:Nat):Int)) 2) 1
def ff(p:aI):aI:=((List.range 64).filter (sf p)).map fun i=>(((i+1:Nat):Int),())
theorem V5:∀(c:Fin 256) (r:Fin 8),(!(aj (Jh .u8 (c.val:Int) (pI .u8 128 (r.val:Int))) 0))=aj (dP (pI .i64 (cW .i64 (c.val:Int)) ((7-r.val:Nat):Int)) 2) 1:=by decide +kernel
theorem tU(p:aI):∀(l:List Nat) (o:aI),l.foldl (fun o i=>bif sf p i then o++[(((i+1:Nat):Int),())]else o) o=o++(l.filter (sf p)).map fun i=>(((i+1:Nat):Int),())
 | [],o=>by simp
 | i::l,o=>by rw[afg,tU p l,aff];cases sf p i <;> simp
theorem GW{i x:Nat}(h:(List.range 64)[i]? = some x):x=i/\i<64:=by have:=(aeV.1 h);obtain⟨h1,h2⟩:=this;rw[List.getElem_range]at h2;exact⟨h2.symm,by simpa using h1⟩
theorem Q9{i:Nat}(h:i<64):ba .i64 ((i+1:Nat):Int) 1=(i:Int)/\jr .i64 (i:Int) 8=((i / 8:Nat):Int)/\dP (i:Int) 8=((i % 8:Nat):Int)/\bT ((i+1:Nat):Int) 64=true:=by
 refine⟨by rw[bA (by omega) (by omega)]; omega,?_,?_,aeq (by omega)⟩
 . unfold jr;rw[afS (by omega),IntKind.wrap_i64];omega
 . unfold dP;rw[afD (by omega)];omega
def pS(b:aI)(a:Nat):Option (Unit×((aI×Unit)×(Int×Unit)×(Bool×Unit)×Unit)):=some ((),(if a+8<=b.length then ((ff (fR b a 8),()),(((a+8:Nat):Int),()),(true,()),())else (([],()),(0,()),(false,()),())))
theorem GN(b:aI)(a k i:Nat)(hi:i<k)(h:a+k<=b.length):∃ x,b[a+i]? = some x/\(fR b a k).getD i (0,())=x/\(fR b a k)[i]? = some x:=by obtain⟨x,hx⟩:∃ x,(fR b a k)[i]? = some x:=⟨_,aer (by rw[mW h]; exact hi)⟩;exact⟨x,(M4 hx).2,by rw[afn,hx];try rfl,hx⟩
theorem KH(b:aI)(a:Nat)(hb:Ai b)(ha:a<=b.length):Ex b a=pS b a:=by
 have hbig:=bh;have hl:=hb.1;unfold Ex pS;have e:ba .i64 (ae b) 8=(b.length:Int)-8:=bA (by show -4611686018427387904<=(b.length:Int)-8; omega) (by show(b.length:Int)-8<=_; omega);rw[e,aG (a:=(a:Int)) (b:=0) (by omega)];by_cases h8:a+8<=b.length;rotate_left
 . rw[if_neg h8,aP (by omega)];try rfl
 rw[if_pos h8,aG (by omega)];have h:=aT (step:=dJ uM) (List.range 64) (fun i (o:aI)=>(b,(a:Int),o,((i+1:Nat):Int),())) (fun _ x o=>Sum.inl (bif sf (fR b a 8) x then o++[(((x+1:Nat):Int),())]else o)) (fun o=> .inl (b,(a:Int),o,65,())) (fun i o=>o.length<=i) (a0:=[]) (oR _) (fun i x o hx ho=>by
  obtain⟨rfl,hi⟩:=GW hx;obtain⟨e1,e2,e3,e4⟩:=Q9 hi;obtain⟨c,hc,hd,_⟩:=GN b a 8 (x / 8) (by omega) h8;show uM b (a:Int) o ((x+1:Nat):Int)=_;unfold uM;have e5:ba .i64 7 ((x % 8:Nat):Int)=((7-x % 8:Nat):Int):=by rw[bA (by omega) (by omega)]; omega
  have e6:ak .i64 (a:Int) ((x / 8:Nat):Int)=((a+x / 8:Nat):Int):=by rw[a8 (by omega) (by omega)]; omega
  have hbit:sf (fR b a 8) x=aj (dP (pI .i64 (cW .i64 c.1) ((7-x % 8:Nat):Int)) 2) 1:=by unfold sf; rw[hd]
  dsimp only;rw[e4,e1,e2,e3,e5,e6,aC hc,aO _ hc,show bT 0 ((7-x % 8:Nat):Int)=true from aeq (by omega),<- hbit,aU (by omega)];have:bj 8 o [(((x+1:Nat):Int),())]=true:=aex (by show(o.length+1) * 8<=bN; omega);rw[this];cases sf (fR b a 8) x <;> rfl) (fun i x o o' hx ho hf=>by
  simp only[aeK]at hf;rw[<- hf];cases sf (fR b a 8) x with
  | false=>show o.length<=_; omega
  | true=>show(o++[_]).length<=_; rw[aeo]; show o.length+1<=_; omega) (fun o ho=>by
  show uM b (a:Int) o (((List.range 64).length+1:Nat):Int)=_;rfl)
 rw[bQ,tU,af4]at h;have h':MP b (a:Int) [] 1=_:=h;refine(bn h').trans ?_;show some ((),((_,()),(ak .i64 (a:Int) 8,()),(true,()),()))=_;rw[a8 (by omega) (by omega)];try rfl
theorem MN(b:aI)(a:Nat)(hb:Ai b)(ha:a<=b.length):CE b a=pS b a:=by
 have hbig:=bh;have hl:=hb.1;unfold CE pS;have hp:BG b (a:Int) 8=_:=BM b a 8 hl ha (by decide);rw[hp];by_cases h8:a+8<=b.length;rotate_left
 . rw[if_neg h8,if_neg h8];try rfl
 rw[if_pos h8,if_pos h8];generalize hq:fR b a 8=p;have h:=aT (step:=dJ uq) (List.range 64) (fun i (o:aI)=>((a:Int),p,o,((i+1:Nat):Int),())) (fun _ x o=>Sum.inl (bif sf p x then o++[(((x+1:Nat):Int),())]else o)) (fun o=> .inl ((a:Int),p,o,65,())) (fun i o=>o.length<=i) (a0:=[]) (oR _) (fun i x o hx ho=>by
  obtain⟨rfl,hi⟩:=GW hx;obtain⟨e1,e2,e3,e4⟩:=Q9 hi;obtain⟨c,hc,hd,hc2⟩:=GN b a 8 (x / 8) (by omega) h8;rw[hq]at hd hc2;have hcb:=hb.2 c (aet hc);show uq (a:Int) p o ((x+1:Nat):Int)=_;unfold uq;obtain⟨k,hk⟩:∃ k:Nat,c.1=k:=⟨c.1.toNat,by omega⟩;have hbe:=V5 ⟨k,by omega⟩ ⟨x % 8,by omega⟩;dsimp only at hbe;have hbit:sf p x= !(aj (Jh .u8 c.1 (pI .u8 128 ((x % 8:Nat):Int))) 0):=by unfold sf; rw[hd,hk,hbe]
  dsimp only;rw[e4,e1,e2,e3,aC hc2,aO _ hc2,show bT 0 ((x % 8:Nat):Int)=true from aeq (by omega),<- hbit,aU (by omega)];have:bj 8 o [(((x+1:Nat):Int),())]=true:=aex (by show(o.length+1) * 8<=bN; omega);rw[this];cases sf p x <;> rfl) (fun i x o o' hx ho hf=>by
  simp only[aeK]at hf;rw[<- hf];cases sf p x with
  | false=>show o.length<=_; omega
  | true=>show(o++[_]).length<=_; rw[aeo]; show o.length+1<=_; omega) (fun o ho=>by
  show uq (a:Int) p o (((List.range 64).length+1:Nat):Int)=_;rfl)
 rw[bQ,tU,af4]at h;have h':MU (a:Int) p [] 1=_:=h;refine(bn h').trans ?_;show some ((),((_,()),(ak .i64 (a:Int) 8,()),(true,()),()))=_;rw[a8 (by omega) (by omega)];try rfl
theorem mD(p:aI):(ff p).length<=64:=by unfold ff;rw[afX];exact aeu (afc _ _) (by simp)
theorem M6{p:aI}{x:Int×Unit}(h:x∈ff p):1<=x.1/\x.1<=64:=by obtain⟨i,hi,rfl⟩:=agc.1 h;have:=afw.1 (afy.1 hi).1;constructor <;> (show _<=_) <;> omega
abbrev Tp:=Int×Int×Int×Unit
def j5:List Tp:=[(2,3,19,()),(3,1,6,()),(4,1,12,()),(7,1,10,()),(11,1,6,()),(14,1,4,()),(37,2,12,()),(38,2,6,()),(39,2,2,()),(41,2,8,()),(48,5,60,()),(49,1,3,()),(54,5,60,()),(95,2,12,()),(102,4,20,()),(103,4,20,())]
def HX(no:Int):Tp:=(j5.find? fun r=>aj r.1 no).getD (0,0,0,())
def bt(no:Int):Int:=(HX no).2.1
def fN(no:Int):Int:=(HX no).2.2.1
theorem mH{α Y:Type}(p:α->Bool)(y:α->Y)(z:Y):∀(l:List α) (i:Nat),jO (fun _ x (_:Unit)=>bif p x then .inr (y x)else .inl ()) (fun _=>z) i l ()=match l.find? p with | some x=>y x | none=>z
 | [],_=>rfl
 | x::l,i=>by
   have ih:=mH p y z l (i+1);rw[List.find?_cons,jO];cases p x with
   | true=>rfl
   | false=>exact ih
theorem Ka(no:Int):IM no=some ((),(HX no,())):=by
 unfold IM;have h:=aQ (step:=nM ui) j5 (fun i (_:Unit)=>(no,j5,ae j5,((i:Nat):Int),(0,0,0,()),())) (fun _ x _=>bif aj x.1 no then .inr (.inr (x,()))else .inl ()) (fun _=> .inl (no,j5,ae j5,(j5.length:Int),(0,0,0,()),())) (a0:=()) (fun i x a hx=>by
  have hlt:=ai hx;have h16:j5.length=16:=rfl;have hbig:=bh;show ui no j5 (ae j5) (i:Int) (0,0,0,())=_;unfold ui;rw[aM hx,aC hx,aO _ hx,aU (by omega)];dsimp only[oT];cases aj x.1 no <;> rfl) (fun a=>by
  show ui no j5 (ae j5) (j5.length:Int) (0,0,0,())=_;rfl)
 rw[mH]at h;have h':NN no j5 (ae j5) 0 (0,0,0,())=_:=h;refine(bn h').trans ?_;unfold HX;cases j5.find? _ <;> rfl
theorem tL(no:Int):no=2∨no=3∨no=4∨no=7∨no=11∨no=14∨no=37∨no=38∨no=39∨no=41∨no=48∨no=49∨no=54∨no=95∨no=102∨no=103∨∀ k∈[2,3,4,7,11,14,37,38,39,41,48,49,54,95,102,103],aj no k=false/\aj k no=false:=by
 by_cases h:∀ k∈[2,3,4,7,11,14,37,38,39,41,48,49,54,95,102,103],no≠k
 . have:∀ k∈[2,3,4,7,11,14,37,38,39,41,48,49,54,95,102,103],aj no k=false/\aj k no=false:=fun k hk=>⟨beq_eq_false_iff_ne.2 (h k hk),beq_eq_false_iff_ne.2 (Ne.symm (h k hk))⟩
   iterate 16 right
   exact this
 . simp only[Classical.not_forall,Classical.not_not]at h;obtain⟨k,hk,rfl⟩:=h;simp only[aew,List.not_mem_nil,or_false]at hk;rcases hk with h | h | h | h | h | h | h | h | h | h | h | h | h | h | h | h <;> simp[h]
theorem Aq{no:Int}(h:∀ k∈[2,3,4,7,11,14,37,38,39,41,48,49,54,95,102,103],aj no k=false/\aj k no=false):HX no=(0,0,0,()):=by unfold HX j5;simp only[List.find?_cons,(h 2 (by simp)).2,(h 3 (by simp)).2,(h 4 (by simp)).2,(h 7 (by simp)).2,(h 11 (by simp)).2,(h 14 (by simp)).2,(h 37 (by simp)).2,(h 38 (by simp)).2,(h 39 (by simp)).2,(h 41 (by simp)).2,(h 48 (by simp)).2,(h 49 (by simp)).2,(h 54 (by simp)).2,(h 95 (by simp)).2,(h 102 (by simp)).2,(h 103 (by simp)).2,List.find?_nil,Option.getD_none]
theorem tH(no:Int):Aw no=zR (bt no):=by
 rcases tL no with rfl | rfl | rfl | rfl | rfl | rfl | rfl | rfl | rfl | rfl | rfl | rfl | rfl | rfl | rfl | rfl | h
 all_goals first | rfl | skip
 unfold Aw bt;rw[Aq h];simp only[(h 2 (by simp)).1,(h 3 (by simp)).1,(h 4 (by simp)).1,(h 7 (by simp)).1,(h 11 (by simp)).1,(h 14 (by simp)).1,(h 37 (by simp)).1,(h 38 (by simp)).1,(h 39 (by simp)).1,(h 41 (by simp)).1,(h 48 (by simp)).1,(h 49 (by simp)).1,(h 54 (by simp)).1,(h 95 (by simp)).1,(h 102 (by simp)).1,(h 103 (by simp)).1,oF]
theorem wY(no:Int):EA no=zR (fN no):=by
 rcases tL no with rfl | rfl | rfl | rfl | rfl | rfl | rfl | rfl | rfl | rfl | rfl | rfl | rfl | rfl | rfl | rfl | h
 all_goals first | rfl | skip
 unfold EA fN;rw[Aq h];simp only[(h 2 (by simp)).1,(h 3 (by simp)).1,(h 4 (by simp)).1,(h 7 (by simp)).1,(h 11 (by simp)).1,(h 14 (by simp)).1,(h 37 (by simp)).1,(h 38 (by simp)).1,(h 39 (by simp)).1,(h 41 (by simp)).1,(h 48 (by simp)).1,(h 49 (by simp)).1,(h 54 (by simp)).1,(h 95 (by simp)).1,(h 102 (by simp)).1,(h 103 (by simp)).1,oF]
theorem qH(no:Int):A5 no=zR (bt no):=by unfold A5; rw[Ka];try rfl
theorem Ls(no:Int):KR no=zR (fN no):=by unfold KR; rw[Ka];try rfl
theorem kinds(no:Int):∃ n:Nat,fN no=n/\((bt no=0/\n=0)∨(bt no=1/\1<=n/\n<=12)∨(bt no=2/\1<=n/\n<=12)∨(bt no=3/\n=19)∨(bt no=4/\n=20)∨(bt no=5/\n=60)):=by
 rcases tL no with rfl | rfl | rfl | rfl | rfl | rfl | rfl | rfl | rfl | rfl | rfl | rfl | rfl | rfl | rfl | rfl | h
 . exact⟨19,rfl,by decide⟩
 . exact⟨6,rfl,by decide⟩
 . exact⟨12,rfl,by decide⟩
 . exact⟨10,rfl,by decide⟩
 . exact⟨6,rfl,by decide⟩
 . exact⟨4,rfl,by decide⟩
 . exact⟨12,rfl,by decide⟩
 . exact⟨6,rfl,by decide⟩
 . exact⟨2,rfl,by decide⟩
 . exact⟨8,rfl,by decide⟩
 . exact⟨60,rfl,by decide⟩
 . exact⟨3,rfl,by decide⟩
 . exact⟨60,rfl,by decide⟩
 . exact⟨12,rfl,by decide⟩
 . exact⟨20,rfl,by decide⟩
 . exact⟨20,rfl,by decide⟩
 . exact⟨0,by unfold fN; rw[Aq h];try rfl,.inl ⟨by unfold bt; rw[Aq h],rfl⟩⟩
theorem dR{b:aI}{a n:Nat}{s:S8}(h:hE b a n=some s):s.all eM=true/\s.length=n/\1<=n/\n<=38/\a+(n+1) / 2<=b.length:=by
 unfold hE at h;split at h
 . rename_i h1;split at h
   . rename_i h2;cases h;have hl:(rE (fR b a ((n+1) / 2))).length=2 * ((n+1) / 2):=by rw[sk,mW h1.2.2]
     refine⟨aeE.2 fun x hx=>aeE.1 h2.1 x (agH hx),?_,h1⟩;rw[af5,hl];omega
   . simp at h
 . simp at h
theorem ml{s:S8}{n:Nat}(h:s.length=n)(hn:1<=n):s≠[]:=fun e=>by rw[e]at h; simp only[ae7]at h; omega
theorem BY{s:S8}{n:Nat}(h:s.all eM=true)(hl:s.length=n)(h1:1<=n)(h2:n<=18):yN s=some (mx 0 s):=by unfold yN;rw[if_pos ⟨dj.2 ⟨h,ml hl h1⟩,by omega⟩]
def JD(b:aI)(a d:Nat):Option (Unit×((Int×Unit)×(Int×Unit)×(Bool×Unit)×Unit)):=some ((),match hE b a d with | some t=>(((mx 0 t:Int),()),(((a+(d+1) / 2:Nat):Int),()),(true,()),()) | none=>((0,()),(0,()),(false,()),()))
theorem IW:J6 []=some ((),((0,()),(false,()),())):=GI [] (aeA _)
theorem ZY(b:aI)(a d:Nat)(hb:Ai b)(ha:a<=b.length)(hd:d=2∨d=3):KB b a d=JD b a d:=by
 have hbig:=bh;unfold KB JD;have hc:cond (!(aj (d:Int) 2)) (!(aj (d:Int) 3)) false=false:=by rcases hd with rfl | rfl <;> rfl
 rw[hc,D8 b a d hb ha (by omega)];unfold sx;cases ho:hE b a d with
 | none => refine(bn IW).trans ?_;rfl
 | some t => obtain⟨h1,h2,h3,h4,h5⟩:=dR ho;have hn:J6 t=_:=GI t (by omega);rw[BY h1 h2 h3 (by omega)]at hn;refine(bn hn).trans ?_;rfl
theorem aa0(b:aI)(a d:Nat)(hb:Ai b)(ha:a<=b.length)(hd:d=2∨d=3):IG b a d=JD b a d:=by
 have hbig:=bh;unfold IG JD;rw[j9,bD.2 (by omega:(2:Int)<=d/\(d:Int)<=3),HK b a d hb ha (by omega)];unfold sx;cases ho:hE b a d with
 | none=>rfl
 | some t => obtain⟨h1,h2,h3,h4,h5⟩:=dR ho;have hn:EJ t=_:=TJ t (by omega);rw[BY h1 h2 h3 (by omega)]at hn;refine(bn hn).trans ?_;rfl
def dm(no:Int)(s:S8):Bool:=cond (aj (bt no) 1) (cond (aF s) (aj (ae s) (fN no)) false) (cond (aj (bt no) 2) (cond (de s) (aj (ae s) (fN no)) false) (cond (aj (bt no) 3) (cond (aF s) (cI (ae s) 1 (fN no)) false) (cond (aj (bt no) 4) (cond (de s) (cI (ae s) 1 (fN no)) false) (cond (aj (bt no) 5) (cond (de s) (cI (ae s) 1 (fN no)) false) false))))
theorem yh(no:Int)(s:S8)(hs:s.length<=bN):vF no s=zR (dm no s):=by
 unfold vF dm;rw[tH,wY];dsimp only[oB];rw[fg s hs,G3 s hs];dsimp only[oB];rw[mK];dsimp only[oB];cases aj (bt no) 1 with
 | true=>rfl
 | false =>
 cases aj (bt no) 2 with
 | true=>rfl
 | false =>
 cases aj (bt no) 3 with
 | true =>
   show zR (cond (aF s) (bT (ae s) (fN no)) false)=zR (cond (aF s) (cI (ae s) 1 (fN no)) false);cases hd:aF s with
   | false=>rfl
   | true =>
     have h1:bT 1 (ae s)=true:=by
      have:=(dj.1 hd).2;cases s with
      | nil=>exact absurd rfl this
      | cons x r=>exact aeq (by show(1:Int)<=((r.length+1:Nat):Int); omega)
     unfold cI;rw[h1];try rfl
 | false =>
 cases aj (bt no) 4 with
 | true=>cases de s <;> rfl
 | false =>
 cases aj (bt no) 5 with
 | true=>cases de s <;> rfl
 | false=>rfl
theorem DR(no:Int)(s:S8)(hs:s.length<=bN):rL no s=zR (dm no s):=by
 unfold rL dm;rw[Ka,gW s hs,QW s hs];dsimp only[oB];rw[j9];dsimp only[oB];show cond (aj (bt no) 1) _ (cond (aj (bt no) 2) _ (cond (aj (bt no) 3) _ (cond (aj (bt no) 4) _ (cond (aj (bt no) 5) _ _))))=_;cases aj (bt no) 1 with
 | true=>rfl
 | false =>
 cases aj (bt no) 2 with
 | true=>rfl
 | false =>
 cases aj (bt no) 3 with
 | true=>cases aF s <;> rfl
 | false =>
 cases aj (bt no) 4 with
 | true=>cases de s <;> rfl
 | false =>
 cases aj (bt no) 5 with
 | true=>cases de s <;> rfl
 | false=>rfl
def ri(b:aI)(a n:Nat):Option (S8×Nat):=if a+n<=b.length then (bif de (strOf (fR b a n))then some (strOf (fR b a n),a+n)else none)else none
def rW(b:aI)(a n:Nat):Option (S8×Nat):=(hE b a n).map fun s=>(s,a+(n+1) / 2)
def BI(b:aI)(a d n:Nat)(f:Nat->Nat->Option (S8×Nat)):Option (S8×Nat):=match hE b a d with
 | some t=>if 1<=mx 0 t/\mx 0 t<=n then f (a+(d+1) / 2) (mx 0 t)else none
 | none=>none
def pJ(b:aI)(a:Nat)(no:Int):Option (S8×Nat) :=
 if bt no=1 then rW b a (fN no).toNat else if bt no=2 then ri b a (fN no).toNat
 else if bt no=3 then BI b a 2 (fN no).toNat (rW b)else if bt no=4 then BI b a 2 (fN no).toNat (ri b)
 else if bt no=5 then BI b a 3 (fN no).toNat (ri b)else none
def nr(o:Option (S8×Nat)):Option (Unit×((S8×Unit)×(Int×Unit)×(Bool×Unit)×Unit)):=some ((),match o with | some s=>((s.1,()),((s.2:Int),()),(true,()),()) | none=>(([],()),(0,()),(false,()),()))
theorem mw(p:aI):(strOf p).length=p.length:=by unfold strOf; exact afX _
theorem G8(b:aI)(a n:Nat):(match sx (hE b a n) ((a+(n+1) / 2:Nat):Int)with | some y=>some ((),(y.2.1,y.2.2.1,y.2.2.2.1,())) | none=>none)=nr (rW b a n):=by unfold sx rW nr;cases hE b a n <;> rfl
noncomputable def OY(b:aI)(a n:Int):Option (Unit×((S8×Unit)×(Int×Unit)×(Bool×Unit)×Unit)) :=
 cond (cond (aD (ae b) a) true (aD (ba .i64 (ae b) a) n)) (some ((),(([],()),(0,()),(false,()),()))) (cond (ea a (ak .i64 a n) b) (Option.bind (Bg (strOf (sub b a (ak .i64 a n)))) fun y=>cond (!y.2.1.1) (some ((),(([],()),(0,()),(false,()),()))) (cond (ea a (ak .i64 a n) b) (some ((),((strOf (sub b a (ak .i64 a n)),()),(ak .i64 a n,()),(true,()),()))) none)) none)
theorem Oi(b:aI)(a n:Nat)(hb:Ai b)(ha:a<=b.length)(hn:n<=1048576) :
 OY b a n=nr (ri b a n):=by
 have hbig:=bh;have hl:=hb.1;have e:ba .i64 (ae b) (a:Int)=(b.length:Int)-a:=bA (by show -4611686018427387904<=(b.length:Int)-a; omega) (by show(b.length:Int)-a<=_; omega);have e2:ak .i64 (a:Int) (n:Int)=((a+n:Nat):Int):=by rw[a8 (by omega) (by omega)]; omega
 unfold ri OY;rw[e,e2,aG (a:=ae b) (b:=(a:Int)) (by show ¬ (b.length:Int)<a; omega)];by_cases h:a+n<=b.length;rotate_left
 . rw[if_neg h,aP (by omega)];try rfl
 have hs:strOf (sub b (a:Int) ((a+n:Nat):Int))=strOf (fR b a n):=aeU strOf (MF b a n);rw[if_pos h,aG (by omega),Hk h,hs,G3 _ (by rw[mw,mW h]; omega)];dsimp only[oB,oF,oT];cases de (strOf (fR b a n)) <;> rfl
theorem aav(b:aI)(a:Nat)(no:Int)(hb:Ai b)(ha:a<=b.length):g80 b a no=nr (pJ b a no):=by
 have hbig:=bh;have hl:=hb.1;obtain⟨n,hn,hk⟩:=kinds no;have h0:aD (a:Int) 0=false:=aG (by omega)
 have hvar:∀(d:Nat) (w:Int) (f:Nat->Nat->Option (S8×Nat)) (F:Int->Int->Option (Unit×((S8×Unit)×(Int×Unit)×(Bool×Unit)×Unit))),(d=2∨d=3)->(∀ a' k:Nat,a'<=b.length->k<=1048576->F (a':Int) (k:Int)=nr (f a' k)) ->
  (Option.bind (KB b a d) fun y5=>cond (!y5.2.2.2.1.1) (some ((),(([],()),(0,()),(false,()),()))) (Option.bind (rR y5.2.1.1 1 (n:Int)) fun y6=>cond (!y6.2.1.1) (some ((),(([],()),(0,()),(false,()),()))) (F y5.2.2.1.1 y5.2.1.1)))=nr (BI b a d n f):=by
  intro d w f F hd hF;rw[ZY b a d hb ha hd];unfold JD BI;cases ho:hE b a d with
  | none=>rfl
  | some t =>
    obtain⟨h1,h2,h3,h4,h5⟩:=dR ho;have hv:=BA t 0 0 h1 (by decide);have hv2:mx 0 t<1000:=aeJ hv (by rw[aey,h2]; exact agw (by decide) (by omega:d<=3));dsimp only[oB];rw[mK];dsimp only[oB];by_cases hin:1<=mx 0 t/\mx 0 t<=n
    . rw[if_pos hin,bD.2 (by omega)];exact hF _ _ h5 (by omega)
    . rw[if_neg hin];have:cI (mx 0 t:Int) 1 (n:Int)=false:=by
       cases h:cI (mx 0 t:Int) 1 (n:Int)with
       | false=>rfl
       | true=>have:=bD.1 h; omega
      rw[this];try rfl
 unfold g80 pJ;rw[tH,wY,hn,h0];have hnn:Int.toNat (n:Int)=n:=afr n;rcases hk with ⟨hk,hz⟩ | ⟨hk,hz⟩ | ⟨hk,hz⟩ | ⟨hk,hz⟩ | ⟨hk,hz⟩ | ⟨hk,hz⟩
 . rw[hk];try rfl
 . rw[hk,hnn];show(Option.bind (IB b a n) fun y=>some ((),(y.2.1,y.2.2.1,y.2.2.2.1,())))=nr (rW b a n);rw[D8 b a n hb ha (by omega),<- G8];try rfl
 . rw[hk,hnn];exact Oi b a n hb ha (by omega)
 . rw[hk,hnn];exact hvar 2 0 (rW b) (fun a' k=>Option.bind (IB b a' k) fun y=>some ((),(y.2.1,y.2.2.1,y.2.2.2.1,()))) (.inl rfl) fun a' k ha' hk'=>by show(Option.bind (IB b (a':Int) (k:Int)) _)=_;rw[D8 b a' k hb ha' hk',<- G8];try rfl
 . rw[hk,hnn];exact hvar 2 0 (ri b) (OY b) (.inl rfl) fun a' k ha' hk'=>Oi b a' k hb ha' hk'
 . rw[hk,hnn];exact hvar 3 0 (ri b) (OY b) (.inr rfl) fun a' k ha' hk'=>Oi b a' k hb ha' hk'
noncomputable def IJ(b:aI)(no a n:Int):Option (Unit×((S8×Unit)×(Int×Unit)×(Bool×Unit)×Unit)) :=
 Option.bind (Na b a n) fun y5=>cond (!y5.2.2.2.1.1) (some ((),(([],()),(0,()),(false,()),()))) (Option.bind (rL no y5.2.1.1) fun y6=>cond (!y6.2.1.1) (some ((),(([],()),(0,()),(false,()),()))) (some ((),(y5.2.1,y5.2.2.1,(true,()),()))))
noncomputable def Cl(b:aI)(no a n:Int):Option (Unit×((S8×Unit)×(Int×Unit)×(Bool×Unit)×Unit)) :=
 Option.bind (BG b a n) fun y5=>cond (!y5.2.2.1.1) (some ((),(([],()),(0,()),(false,()),()))) (Option.bind (rL no (strOf y5.2.1.1)) fun y6=>cond (!y6.2.1.1) (some ((),(([],()),(0,()),(false,()),()))) (some ((),((strOf y5.2.1.1,()),(ak .i64 a n,()),(true,()),()))))
theorem F9(b:aI)(no:Int)(a n:Nat)(hb:Ai b)(ha:a<=b.length)(hn:n<=1048576):IJ b no a n=nr ((rW b a n).filter fun s=>dm no s.1):=by
 have hbig:=bh;unfold IJ rW;rw[HK b a n hb ha hn];unfold sx;cases ho:hE b a n with
 | none=>rfl
 | some s => obtain⟨h1,h2,h3,h4,h5⟩:=dR ho;dsimp only[oB];rw[DR no s (by omega)];dsimp only[oB,Option.map_some];rw[af9];dsimp only;cases dm no s <;> rfl
def Ik(b:aI)(a n:Nat):Option (S8×Nat):=if a+n<=b.length then some (strOf (fR b a n),a+n)else none
theorem vM(b:aI)(no:Int)(a n:Nat)(hb:Ai b)(ha:a<=b.length)(hn:n<=1048576):Cl b no a n=nr ((Ik b a n).filter fun s=>dm no s.1):=by
 have hbig:=bh;have hl:=hb.1;unfold Cl Ik;rw[BM b a n hb.1 ha hn];by_cases h:a+n<=b.length;rotate_left
 . rw[if_neg h,if_neg h];try rfl
 rw[if_pos h,if_pos h,af9];have hf:=DR no (strOf (fR b a n)) (by rw[mw,mW h]; omega);refine(bn hf).trans ?_;have e2:ak .i64 (a:Int) (n:Int)=((a+n:Nat):Int):=by rw[a8 (by omega) (by omega)]; omega
 show cond (!(dm no (strOf (fR b a n)))) _ (some ((),((_,()),(ak .i64 (a:Int) (n:Int),()),(true,()),())))=_;rw[e2];dsimp only;cases dm no (strOf (fR b a n)) <;> rfl
theorem MV(b:aI)(a d:Nat)(hb:Ai b)(ha:a<=b.length)(hd:d=2∨d=3)(F:Int->Int->Option (Unit×((S8×Unit)×(Int×Unit)×(Bool×Unit)×Unit)))(f:Nat->Nat->Option (S8×Nat))(n:Nat)
 (hF:∀ a' k:Nat,a'<=b.length->k<=1048576->F (a':Int) (k:Int)=nr (if 1<=k/\k<=n then f a' k else none)) :
 (Option.bind (IG b a d) fun y4=>cond (!y4.2.2.2.1.1) (some ((),(([],()),(0,()),(false,()),()))) (F y4.2.2.1.1 y4.2.1.1))=nr (BI b a d n f):=by
 rw[aa0 b a d hb ha hd];unfold JD BI;cases ho:hE b a d with
 | none=>rfl
 | some t => obtain⟨h1,h2,h3,h4,h5⟩:=dR ho;have hv:=BA t 0 0 h1 (by decide);have hv2:mx 0 t<1000:=aeJ hv (by rw[aey,h2]; exact agw (by decide) (by omega:d<=3));exact hF _ _ h5 (by omega)
theorem kz{s:S8}{n:Nat}(h:s.length=n):ae s=(n:Int):=by show(s.length:Int)=n; rw[h]
theorem sa{k n:Nat}:cI (k:Int) 1 (n:Int)=decide (1<=k/\k<=n):=by
 by_cases h:1<=k/\k<=n
 . rw[aeq h]; exact bD.2 (by omega)
 . rw[aeL h];cases h2:cI (k:Int) 1 (n:Int)with
   | false=>rfl
   | true=>have:=bD.1 h2; omega
theorem sy{no:Int}{n:Nat}(hn:fN no=n)(s:S8):(bt no=1->dm no s=cond (aF s) (aj (ae s) (n:Int)) false)/\(bt no=2->dm no s=cond (de s) (aj (ae s) (n:Int)) false)/\(bt no=3->dm no s=cond (aF s) (cI (ae s) 1 (n:Int)) false) /\
 ((bt no=4∨bt no=5)->dm no s=cond (de s) (cI (ae s) 1 (n:Int)) false):=by
 unfold dm;rw[hn];refine⟨fun h=>by rw[h];try rfl,fun h=>by rw[h];try rfl,fun h=>by rw[h];try rfl,fun h => ?_⟩;rcases h with h | h <;> (rw[h];try rfl)
theorem Hu{b:aI}{no:Int}{n:Nat}(hn:fN no=n)(hk:bt no=4∨bt no=5)(a k:Nat):(Ik b a k).filter (fun s=>dm no s.1)=if 1<=k/\k<=n then ri b a k else none:=by
 unfold Ik ri;by_cases h:a+k<=b.length;rotate_left
 . rw[if_neg h,if_neg h]; simp
 rw[if_pos h,if_pos h,af9];dsimp only;rw[(sy hn _).2.2.2 hk,kz (by rw[mw,mW h]:(strOf (fR b a k)).length=k),sa];by_cases hin:1<=k/\k<=n
 . rw[aeq hin,if_pos hin]; cases de (strOf (fR b a k)) <;> rfl
 . rw[aeL hin,if_neg hin]; cases de (strOf (fR b a k)) <;> rfl
theorem ZJ(b:aI)(a:Nat)(no:Int)(hb:Ai b)(ha:a<=b.length):Nq b a no=nr (pJ b a no):=by
 have hbig:=bh;have hl:=hb.1;obtain⟨n,hn,hk⟩:=kinds no;have hnn:Int.toNat (n:Int)=n:=afr n;have hlen:B9 no=zR (cond (aj (bt no) 5) 3 2):=by unfold B9;rw[qH];dsimp only[oB];cases aj (bt no) 5 <;> rfl
 have base:Nq b a no=cond (cond (cond (aj (bt no) 3) true (aj (bt no) 4)) true (aj (bt no) 5)) (Option.bind (IG b a (cond (aj (bt no) 5) 3 2)) fun y4=>cond (!y4.2.2.2.1.1) (some ((),(([],()),(0,()),(false,()),()))) (cond (cond (aj (bt no) 1) true (aj (bt no) 3)) (IJ b no y4.2.2.1.1 y4.2.1.1) (Cl b no y4.2.2.1.1 y4.2.1.1)))
  (cond (cond (aj (bt no) 1) true (aj (bt no) 3)) (IJ b no a (n:Int)) (Cl b no a (n:Int))):=by
  unfold Nq;rw[Ls,qH,hlen,hn];try rfl
 rw[base];unfold pJ;rw[hn,hnn];rcases hk with ⟨hk,hz⟩ | ⟨hk,hz⟩ | ⟨hk,hz⟩ | ⟨hk,hz⟩ | ⟨hk,hz⟩ | ⟨hk,hz⟩
 . rw[hk];show Cl b no a (n:Int)=nr none;rw[vM b no a n hb ha (by omega)];have:∀ s,dm no s=false:=fun s=>by unfold dm; rw[hk];try rfl
   unfold Ik;by_cases h:a+n<=b.length
   . rw[if_pos h,af9,this];try rfl
   . rw[if_neg h];try rfl
 . rw[hk];show IJ b no a (n:Int)=nr (rW b a n);rw[F9 b no a n hb ha (by omega)];unfold rW;cases ho:hE b a n with
   | none=>rfl
   | some s => obtain⟨h1,h2,h3,h4,h5⟩:=dR ho;rw[aeM,af9];dsimp only;rw[(sy hn s).1 hk,dj.2 ⟨h1,ml h2 h3⟩,kz h2,bZ];try rfl
 . rw[hk];show Cl b no a (n:Int)=nr (ri b a n);rw[vM b no a n hb ha (by omega)];unfold Ik ri;by_cases h:a+n<=b.length;rotate_left
   . rw[if_neg h,if_neg h];try rfl
   rw[if_pos h,if_pos h,af9];dsimp only;rw[(sy hn _).2.1 hk,kz (by rw[mw,mW h]:(strOf (fR b a n)).length=n),bZ];cases de (strOf (fR b a n)) <;> rfl
 . rw[hk];exact MV b a 2 hb ha (.inl rfl) (IJ b no) (rW b) n fun a' k ha' hk'=>by
    rw[F9 b no a' k hb ha' hk'];unfold rW;cases ho:hE b a' k with
    | none => show nr none=nr (if _ then none else none);rw[ite_self]
    | some s =>
      obtain⟨h1,h2,h3,h4,h5⟩:=dR ho;rw[aeM,af9];dsimp only;rw[(sy hn s).2.2.1 hk,dj.2 ⟨h1,ml h2 h3⟩,kz h2,sa];by_cases hin:1<=k/\k<=n
      . rw[aeq hin,if_pos hin];try rfl
      . rw[aeL hin,if_neg hin];try rfl
 . rw[hk];exact MV b a 2 hb ha (.inl rfl) (Cl b no) (ri b) n fun a' k ha' hk'=>by rw[vM b no a' k hb ha' hk',Hu hn (.inl hk)]
 . rw[hk];exact MV b a 3 hb ha (.inr rfl) (Cl b no) (ri b) n fun a' k ha' hk'=>by rw[vM b no a' k hb ha' hk',Hu hn (.inr hk)]
theorem tX{b:aI}{a:Nat}{no:Int}{s:S8}{e:Nat}(ha:a<=b.length)(h:pJ b a no=some (s,e)):dm no s=true/\s.length<=60/\e<=b.length:=by
 obtain⟨n,hn,hk⟩:=kinds no;have hnn:Int.toNat (n:Int)=n:=afr n;have num:∀ a k,rW b a k=some (s,e)->s.all eM=true/\s.length=k/\1<=k/\e<=b.length:=fun a k h=>by unfold rW at h;obtain⟨q,hq,h⟩:=afT.1 h;cases h;obtain⟨h1,h2,h3,h4,h5⟩:=dR hq;exact⟨h1,h2,h3,h5⟩
 have txt:∀ a k,ri b a k=some (s,e)->de s=true/\s.length=k/\e<=b.length:=fun a k h=>by
  unfold ri at h;split at h
  . rename_i hl;cases hp:de (strOf (fR b a k))with
    | false=>rw[hp]at h; simp at h
    | true => rw[hp]at h;cases h;exact⟨hp,by rw[mw,mW hl],hl⟩
  . simp at h
 have var:∀ d f,BI b a d n f=some (s,e)->∃ a' k,1<=k/\k<=n/\f a' k=some (s,e):=fun d f h=>by
  unfold BI at h;split at h
  . split at h
    . rename_i hin;exact⟨_,_,hin.1,hin.2,h⟩
    . simp at h
  . simp at h
 unfold pJ at h;rw[hn,hnn]at h;rcases hk with ⟨hk,hz⟩ | ⟨hk,hz⟩ | ⟨hk,hz⟩ | ⟨hk,hz⟩ | ⟨hk,hz⟩ | ⟨hk,hz⟩ <;> rw[hk]at h
 . simp at h
 . obtain⟨h1,h2,h3,h4⟩:=num _ _ h;exact⟨by rw[(sy hn s).1 hk,dj.2 ⟨h1,ml h2 h3⟩,kz h2,bZ];try rfl,by omega,h4⟩
 . obtain⟨h1,h2,h4⟩:=txt _ _ h;exact⟨by rw[(sy hn s).2.1 hk,h1,kz h2,bZ];try rfl,by omega,h4⟩
 . obtain⟨a',k,k1,k2,h⟩:=var _ _ h;obtain⟨h1,h2,h3,h4⟩:=num _ _ h;exact⟨by rw[(sy hn s).2.2.1 hk,dj.2 ⟨h1,ml h2 h3⟩,kz h2,sa,aeq ⟨k1,k2⟩];try rfl,by omega,h4⟩
 . obtain⟨a',k,k1,k2,h⟩:=var _ _ h;obtain⟨h1,h2,h4⟩:=txt _ _ h;exact⟨by rw[(sy hn s).2.2.2 (.inl hk),h1,kz h2,sa,aeq ⟨k1,k2⟩];try rfl,by omega,h4⟩
 . obtain⟨a',k,k1,k2,h⟩:=var _ _ h;obtain⟨h1,h2,h4⟩:=txt _ _ h;exact⟨by rw[(sy hn s).2.2.2 (.inr hk),h1,kz h2,sa,aeq ⟨k1,k2⟩];try rfl,by omega,h4⟩
end Go.Av
