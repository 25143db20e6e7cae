/- Part of a proof that the law FnExactRestripe answers true for every input: the printed functions of this program and their plain laws. No conditions beyond the statement. -/
import Derived.Test.YtbgoaopannojjaaGreatDoorP1
import Derived.Test.YtbgoaopannojjaaGreatDoorFw4
set_option maxRecDepth 100000
set_option maxHeartbeats 4000000
namespace Go.Av
abbrev jZ:=List UInt8×Int×Int×Unit
abbrev eX:=List UInt8×List UInt8×List (Int×Unit)×Unit
abbrev yf:=Int×Int×List (Int×Unit)×List (Int×Unit)×Unit
def dC (a lo hi:Int):Bool:=cond (bL lo a) (bL a hi) false
theorem fb {a lo hi:Int}:dC a lo hi=true↔lo<=a/\a<=hi:=by unfold dC bL;by_cases h:lo<=a <;> simp [h]
theorem kU (a lo hi:Int):qC a lo hi=some ((),((dC a lo hi,()),())):=rfl
theorem ji (a lo hi:Int):mS a lo hi=some ((),((dC a lo hi,()),())):=rfl
def cW (a:Int):Bool:=dC a 0 4611686018427387904
theorem qQ (a:Int):RT a=some ((),((cW a,()),())):=rfl
theorem FP (a:Int):YI a=some ((),((cW a,()),())):=rfl
def ed (a:Int):Bool:=dC a 0 1000000000
theorem ni (a:Int):Iy a=some ((),((ed a,()),())):=rfl
theorem mZ (a:Int):vi a=some ((),((ed a,()),())):=rfl
def gi (x:UInt8):Bool:=cond (aw (x.toNat:Int) 48) false (!(aw 57 (x.toNat:Int)))
theorem gj {x:UInt8}:gi x=true↔48<=x.toNat/\x.toNat<=57:=by
 unfold gi aw;by_cases h:(x.toNat:Int) < 48
 . simp [h]; omega
 . by_cases h2:(57:Int) < x.toNat
   . simp [h,h2]; omega
   . simp [h,h2]; omega
def aZ (s:List UInt8):Bool:=cond (s.all gi) (aw 0 (ae s)) false
theorem gq (s:List UInt8) (hs:s.length<=aT):si s=some ((),((aZ s,()),())):=by
 unfold si;have h:=aI (step:=wB oX) s (fun i (_:Unit)=>(s,((i:Nat):Int),())) (fun _ x _=>bif gi x then Sum.inl () else .inr (.inr (false,()))) (fun _=> .inl (s,(s.length:Int),())) (a0:=()) (fun i x a hx=>by
  have hlt:=ai hx;show oX s (i:Int)=_;unfold oX gi;rw [aC hx,az hx,e9 hx,aK (by omega)];dsimp only [cond_true];cases aw (x.toNat:Int) 48 <;> cases aw 57 (x.toNat:Int) <;> rfl) (fun a=>by
  show oX s (s.length:Int)=_;unfold oX;rw [au rfl]; rfl)
 rw [fS] at h;have h':MD s 0=_:=h;rw [h'];unfold aZ;cases s.all gi <;> rfl
theorem hD (s:List UInt8) (hs:s.length<=aT):uL s=some ((),((aZ s,()),())):=by
 unfold uL;have h:=aI (step:=dq oZ) s (fun i (_:Unit)=>(s,ae s,((i:Nat):Int),())) (fun _ x _=>bif gi x then Sum.inl () else .inr (.inr (false,()))) (fun _=> .inl (s,ae s,(s.length:Int),())) (a0:=()) (fun i x a hx=>by
  have hlt:=ai hx;show oZ s (ae s) (i:Int)=_;unfold oZ gi;rw [aC hx,az hx,e9 hx,aK (by omega)];dsimp only [cond_true];cases aw (x.toNat:Int) 48 <;> cases aw 57 (x.toNat:Int) <;> rfl) (fun a=>by
  show oZ s (ae s) (s.length:Int)=_;unfold oZ;rw [au rfl]; rfl)
 rw [fS] at h;have h':Kb s (ae s) 0=_:=h;rw [h'];unfold aZ;cases s with
 | nil=>rfl
 | cons x r =>
   have e1:aw 0 (ae (x :: r))=true:=aJ (by unfold ae; simp only [ac9]; omega);have e2:cC (x :: r) []=false:=rfl;cases (x :: r).all gi
   . rfl
   . dsimp only [cond_true,cond_false,Option.bind_some,Sum.elim_inl];rw [e1,e2]; rfl
def l3 (x:UInt8):Bool:=cond (aw (x.toNat:Int) 48) (cond (aw (x.toNat:Int) 97) false (!(aw 122 (x.toNat:Int)))) (cond (aw 57 (x.toNat:Int)) (cond (aw (x.toNat:Int) 97) false (!(aw 122 (x.toNat:Int)))) true)
def iN (s:List UInt8):Bool:=cond (s.all l3) (dC (ae s) 1 6) false
theorem CA (s:List UInt8) (hs:s.length<=aT):I7 s=some ((),((iN s,()),())):=by
 unfold I7;have h:=aI (step:=wB ph) s (fun i (_:Unit)=>(s,((i:Nat):Int),())) (fun _ x _=>bif l3 x then Sum.inl () else .inr (.inr (false,()))) (fun _=> .inl (s,(s.length:Int),())) (a0:=()) (fun i x a hx=>by
  have hlt:=ai hx;show ph s (i:Int)=_;unfold ph l3;rw [aC hx,az hx,e9 hx,aK (by omega)];dsimp only [cond_true];cases aw (x.toNat:Int) 48 <;> cases aw 57 (x.toNat:Int) <;> cases aw (x.toNat:Int) 97 <;> cases aw 122 (x.toNat:Int) <;> rfl) (fun a=>by
  show ph s (s.length:Int)=_;unfold ph;rw [au rfl]; rfl)
 rw [fS] at h;have h':Lf s 0=_:=h;rw [h'];unfold iN;cases s.all l3 <;> rfl
theorem Df (s:List UInt8) (hs:s.length<=aT):Jp s=some ((),((iN s,()),())):=by
 unfold Jp;have h:=aI (step:=dq pD) s (fun i (_:Unit)=>(s,ae s,((i:Nat):Int),())) (fun _ x _=>bif l3 x then Sum.inl () else .inr (.inr (false,()))) (fun _=> .inl (s,ae s,(s.length:Int),())) (a0:=()) (fun i x a hx=>by
  have hlt:=ai hx;show pD s (ae s) (i:Int)=_;unfold pD l3;rw [aC hx,az hx,e9 hx,aK (by omega)];dsimp only [cond_true];cases aw (x.toNat:Int) 48 <;> cases aw 57 (x.toNat:Int) <;> cases aw (x.toNat:Int) 97 <;> cases aw 122 (x.toNat:Int) <;> rfl) (fun a=>by
  show pD s (ae s) (s.length:Int)=_;unfold pD;rw [au rfl]; rfl)
 rw [fS] at h;have h':IX s (ae s) 0=_:=h;rw [h'];unfold iN;cases s.all l3 <;> rfl
def wh (h:jZ):Bool:=cond (iN h.1) (cond (dC h.2.1 1 9007199254740992) (ed h.2.2.1) false) false
theorem SO (h:jZ) (hs:h.1.length<=aT):Nf h=some ((),((wh h,()),())):=by unfold Nf wh;simp only [CA _ hs,kU,ni,adq];cases iN h.1 <;> cases dC h.2.1 1 9007199254740992 <;> rfl
theorem TP (h:jZ) (hs:h.1.length<=aT):Pl h=some ((),((wh h,()),())):=by unfold Pl wh;simp only [Df _ hs,ji,mZ,adq];cases iN h.1 <;> cases dC h.2.1 1 9007199254740992 <;> rfl
def jX (xs:List jZ) (i:Nat) (x:jZ):Bool:=cond (wh x) (cond (aw 0 (i:Int)) (kB (gt ([],0,0,()) xs ((i:Int) - 1)).1 x.1) true) false
def oB (xs:List jZ):Bool:=cond (allI (jX xs) 0 xs) (bL (ae xs) 4) false
theorem oo:∀ (s t:List UInt8),(Op.bytesLess s t || cC s t)= !(Op.bytesLess t s)
 | [],[]=>rfl
 | [],_ :: _=>rfl
 | _ :: _,[]=>rfl
 | a :: s,b :: t=>by
   have ih:=oo s t;have e:cC (a :: s) (b :: t)=(a == b && cC s t):=rfl;show ((decide (a < b) || (a == b && Op.bytesLess s t)) || cC (a :: s) (b :: t))= !(decide (b < a) || (b == a && Op.bytesLess t s));rw [e];rcases afu a.toNat b.toNat with h | h | h
   . have h1:a < b:=aea.2 h;have h2:¬ b < a:=fun hh=>by have:=aea.1 hh; omega
     have h3:(b == a)=false:=by rw [beq_eq_false_iff_ne]; intro hh; subst hh; omega
     simp [h1,h2,h3]
   . have h1:a=b:=afV.1 h;subst h1;have h2:¬ a < a:=fun hh=>by have:=aea.1 hh; omega
     simpa [h2] using ih
   . have h1:¬ a < b:=fun hh=>by have:=aea.1 hh; omega
     have h2:b < a:=aea.2 h;have h3:(a == b)=false:=by rw [beq_eq_false_iff_ne]; intro hh; subst hh; omega
     simp [h1,h2,h3]
theorem uW (s t:List UInt8):Tp s t= !(kB t s):=oo s t
def Et (xs:List jZ):Prop:=xs.length<=aT/\∀ y∈xs,y.1.length<=aT
theorem iY {α:Type} {xs:List α} {i:Nat} {x:α} (hx:xs[i]? = some x) (h:0 < i):aR ((i:Int) - 1) xs=true:=by
 have:=ai hx;have e:(i:Int) - 1=((i - 1:Nat):Int):=by omega
 rw [e]; exact lT (by omega)
theorem NK (xs:List jZ) (hb:Et xs):Oz xs=some ((),((oB xs,()),())):=by
 have hbig:aT=140737488355328:=rfl;unfold Oz;have h:=aI (step:=cV pK) xs (fun i (_:Unit)=>(xs,xs,ae xs,((i:Nat):Int),())) (fun i x _=>bif jX xs i x then Sum.inl () else .inr (.inr (false,()))) (fun _=> .inl (xs,xs,ae xs,(xs.length:Int),())) (a0:=()) (fun i x a hx=>by
  have hlt:=ai hx;have hl:=hb.1;show pK xs xs (ae xs) (i:Int)=_;unfold pK jX;rw [aC hx,az hx,aS _ hx];dsimp only [cond_true];rw [SO x (hb.2 x (ade hx)),aK (by omega)];dsimp only [Option.bind_some];cases wh x with
  | false=>rfl
  | true =>
    by_cases h0:0 < i
    . rw [aJ (show (0:Int) < i by omega),aU (by omega) (by omega),iY hx h0];dsimp only [cond_true,cond_false,Bool.not_true];have e:gt d95 xs ((i:Int) - 1)=gt ([],0,0,()) xs ((i:Int) - 1):=rfl;rw [e];cases kB (gt ([],0,0,()) xs ((i:Int) - 1)).1 x.1 <;> rfl
    . rw [ay (show ¬ (0:Int) < i by omega)]; rfl) (fun a=>by
  show pK xs xs (ae xs) (xs.length:Int)=_;unfold pK;rw [au rfl]; rfl)
 rw [cT] at h;have h':IM xs xs (ae xs) 0=_:=h;rw [h'];unfold oB;cases allI (jX xs) 0 xs <;> rfl
theorem Ow (xs:List jZ) (hb:Et xs):Pt xs=some ((),((oB xs,()),())):=by
 have hbig:aT=140737488355328:=rfl;unfold Pt;have h:=aI (step:=cV oQ) xs (fun i (_:Unit)=>(xs,xs,ae xs,((i:Nat):Int),())) (fun i x _=>bif jX xs i x then Sum.inl () else .inr (.inr (false,()))) (fun _=> .inl (xs,xs,ae xs,(xs.length:Int),())) (a0:=()) (fun i x a hx=>by
  have hlt:=ai hx;have hl:=hb.1;show oQ xs xs (ae xs) (i:Int)=_;unfold oQ jX;rw [aC hx,az hx,aS _ hx];dsimp only [cond_true];rw [TP x (hb.2 x (ade hx)),aK (by omega)];dsimp only [Option.bind_some];cases wh x with
  | false=>rfl
  | true =>
    by_cases h0:0 < i
    . rw [aJ (show (0:Int) < i by omega),aU (by omega) (by omega),iY hx h0];dsimp only [cond_true,cond_false,Bool.not_true];rw [uW];have e:gt d95 xs ((i:Int) - 1)=gt ([],0,0,()) xs ((i:Int) - 1):=rfl;rw [e];cases kB (gt ([],0,0,()) xs ((i:Int) - 1)).1 x.1 <;> rfl
    . rw [ay (show ¬ (0:Int) < i by omega)]; rfl) (fun a=>by
  show oQ xs xs (ae xs) (xs.length:Int)=_;unfold oQ;rw [au rfl]; rfl)
 rw [cT] at h;have h':Lj xs xs (ae xs) 0=_:=h;rw [h'];unfold oB;cases allI (jX xs) 0 xs <;> rfl
def fg (dbl:Bool) (x:UInt8):Int:=cond dbl (cond (aw 9 (2 * ((x.toNat:Int) - 48))) (2 * ((x.toNat:Int) - 48) - 9) (2 * ((x.toNat:Int) - 48))) ((x.toNat:Int) - 48)
theorem uQ (b:Bool) {x:UInt8} (h:gi x=true):0<=fg b x/\fg b x<=9:=by
 obtain ⟨h1,h2⟩:=gj.1 h;unfold fg aw;cases b
 . dsimp only [cond_false]; omega
 . dsimp only [cond_true];by_cases h9:9 < 2 * ((x.toNat:Int) - 48)
   . rw [ada h9]; dsimp only [cond_true]; omega
   . rw [adD h9]; dsimp only [cond_false]; omega
def Bz (xs:List UInt8) (a:Int×Bool):Int×Bool:=xs.foldl (fun a x=>(a.1 + fg a.2 x,!a.2)) a
def Lp (xs:List UInt8) (a:Int×Bool):Int×Bool:=xs.foldl (fun a x=>((a.1 + fg a.2 x) % 10,!a.2)) a
theorem FG:∀ (xs:List UInt8) (a:Int) (b:Bool),Lp xs (a % 10,b)=((Bz xs (a,b)).1 % 10,(Bz xs (a,b)).2)
 | [],a,b=>rfl
 | x :: r,a,b=>by
   have e:(a % 10 + fg b x) % 10=(a + fg b x) % 10:=by omega
   show Lp r ((a % 10 + fg b x) % 10,!b)=((Bz r (a + fg b x,!b)).1 % 10,(Bz r (a + fg b x,!b)).2);rw [e];exact FG r _ _
def CB (s:List UInt8):Int:=cond (aZ s) ((10 - (Bz s.reverse (0,true)).1 % 10) % 10) (-1)
theorem mG {s:List UInt8} (h:aZ s=true):∀ x∈s,gi x=true:=by
 unfold aZ at h;cases hs:s.all gi with
 | true=>exact fun x hx=>adx.1 hs x hx
 | false=>rw [hs] at h; simp at h
theorem AS {s:List UInt8} {i:Nat} {x:UInt8} (h:s.reverse[i]? = some x):i < s.length/\s[s.length - 1 - i]? = some x:=by
 have hl:i < s.length:=by simpa using ai h
 refine ⟨hl,?_⟩;rwa [List.getElem?_reverse hl] at h
theorem Ql {x:UInt8} (h:gi x=true):aO .i64 (bI .i64 (x.toNat:Int)) 48=(x.toNat:Int) - 48:=by obtain ⟨h1,h2⟩:=gj.1 h;have e:bI .i64 (x.toNat:Int)=(x.toNat:Int):=IntWalk.i64_in _ (by omega);rw [e]; exact aU (by omega) (by omega)
theorem QZ {x:UInt8} (h:gi x=true):bI .i64 (aO .u8 (x.toNat:Int) 48)=(x.toNat:Int) - 48:=by obtain ⟨h1,h2⟩:=gj.1 h;have e:aO .u8 (x.toNat:Int) 48=(x.toNat:Int) - 48:=IntWalk.u8_in _ (by omega);rw [e]; exact IntWalk.i64_in _ (by omega)
theorem EZ {a b:Int} (h1 : -4611686018427387904<=a * b) (h2:a * b<=4611686018427387904):kl .i64 a b=a * b:=by unfold kl; rw [IntWalk.i64_in _ (by omega)]
theorem nC {a:Int} (h:0<=a):fX a 10=a % 10:=by unfold fX; exact aeq h
theorem Sb (s:List UInt8) (hs:s.length<=aT):OJ s=some ((),((CB s,()),())):=by
 have hbig:aT=140737488355328:=rfl;unfold OJ CB;rw [gq s hs];dsimp only [Option.bind_some];cases hd:aZ s with
 | false=>rfl
 | true =>
 have hall:=mG hd
 have h:=aF (step:=cV sG) s.reverse (fun i (a:Int×Bool)=>(s,a.1,a.2,(s.length:Int) - 1 - ((i:Nat):Int),())) (fun _ x a=>Sum.inl ((a.1 + fg a.2 x) % 10,!a.2)) (fun a=> .inl (s,a.1,a.2,(-1:Int),()))
  (fun _ a=>0<=a.1/\a.1 < 10) (a0:=(0,true)) ⟨by decide,by decide⟩ (fun i x a hx ha=>by
    obtain ⟨hlt,hx'⟩:=AS hx;have hdx:=hall x (ade hx');have hbd:=uQ a.2 hdx;have hdd:=gj.1 hdx;have e:(s.length:Int) - 1 - (i:Int)=((s.length - 1 - i:Nat):Int):=by omega
    have e':(s.length:Int) - 1 - ((i + 1:Nat):Int)=((s.length - 1 - i:Nat):Int) - 1:=by omega
    obtain ⟨a1,a2⟩:=a;show sG s a1 a2 ((s.length:Int) - 1 - (i:Int))=some (.inl (s,(a1 + fg a2 x) % 10,!a2,(s.length:Int) - 1 - ((i + 1:Nat):Int),()));rw [e,e'];have hle:bL 0 ((s.length - 1 - i:Nat):Int)=true:=ada (by omega);have ha:0<=a1/\a1 < 10:=ha;unfold sG;rw [hle,az hx',e9 hx',Ql hdx,aU (a:=((s.length - 1 - i:Nat):Int)) (b:=1) (by omega) (by omega)];have hb:(0<=fg a2 x/\fg a2 x<=9):=hbd;cases a2 with
    | false => have hv:fg false x=(x.toNat:Int) - 48:=rfl;dsimp only [cond_true,cond_false,Bool.not_false];rw [aA (by omega) (by omega),nC (by omega),hv]
    | true =>
      dsimp only [cond_true,cond_false,Bool.not_false,Bool.not_true];rw [EZ (by omega) (by omega)];by_cases h9:9 < 2 * ((x.toNat:Int) - 48)
      . have hv:fg true x=2 * ((x.toNat:Int) - 48) - 9:=by unfold fg; rw [aJ h9]; rfl
        rw [aJ h9]; dsimp only [cond_true,cond_false,Bool.not_false]; rw [aU (by omega) (by omega),aA (by omega) (by omega),nC (by omega),hv]
      . have hv:fg true x=2 * ((x.toNat:Int) - 48):=by unfold fg; rw [ay h9]; rfl
        rw [ay h9]; dsimp only [cond_true,cond_false,Bool.not_false]; rw [aA (by omega) (by omega),nC (by omega),hv]) (fun i x a a' hx ha hf=>by
    simp only [ads] at hf;subst hf;show 0<=(a.1 + fg a.2 x) % 10/\(a.1 + fg a.2 x) % 10 < 10;omega) (fun a ha=>by
    have e:(s.length:Int) - 1 - ((s.reverse.length:Nat):Int) = -1:=by simp; omega
    show sG s a.1 a.2 ((s.length:Int) - 1 - ((s.reverse.length:Nat):Int))=_;rw [e];rfl)
 rw [cr (fun x a=>((a.1 + fg a.2 x) % 10,!a.2))] at h;have h':L4 s 0 true ((s.length:Int) - 1 - ((0:Nat):Int))=some (.inl (s,(Lp s.reverse (0,true)).1,(Lp s.reverse (0,true)).2,(-1:Int),())):=h;have e0:(s.length:Int) - 1 - ((0:Nat):Int)=aO .i64 (ae s) 1:=by rw [aU (by unfold ae; omega) (by unfold ae; omega)]; unfold ae; omega
 have eT:(Lp s.reverse (0,true)).1=(Bz s.reverse (0,true)).1 % 10:=by have:=FG s.reverse 0 true;rw [show (0:Int) % 10=0 from rfl] at this;rw [this]
 rw [e0] at h';rw [h',eT];dsimp only [Option.bind_some,Sum.elim_inl,cond_true,cond_false,Bool.not_true];rw [aU (by omega) (by omega),nC (by omega)]; rfl
theorem S4 (s:List UInt8) (hs:s.length<=aT):NQ s=some ((),((CB s,()),())):=by
 have hbig:aT=140737488355328:=rfl;unfold NQ CB;rw [hD s hs];dsimp only [Option.bind_some];cases hd:aZ s with
 | false=>rfl
 | true =>
 have hall:=mG hd
 have h:=aF (step:=cV tk) s.reverse (fun i (a:Int×Bool)=>(s,a.1,a.2,(s.length:Int) - 1 - ((i:Nat):Int),())) (fun _ x a=>Sum.inl (a.1 + fg a.2 x,!a.2)) (fun a=> .inl (s,a.1,a.2,(-1:Int),()))
  (fun i a=>0<=a.1/\a.1<=9 * i) (a0:=(0,true)) ⟨by decide,by decide⟩ (fun i x a hx ha=>by
    obtain ⟨hlt,hx'⟩:=AS hx;have hdx:=hall x (ade hx');have hbd:=uQ a.2 hdx;have hdd:=gj.1 hdx;have e:(s.length:Int) - 1 - (i:Int)=((s.length - 1 - i:Nat):Int):=by omega
    have e':(s.length:Int) - 1 - ((i + 1:Nat):Int)=((s.length - 1 - i:Nat):Int) - 1:=by omega
    obtain ⟨a1,a2⟩:=a;show tk s a1 a2 ((s.length:Int) - 1 - (i:Int))=some (.inl (s,a1 + fg a2 x,!a2,(s.length:Int) - 1 - ((i + 1:Nat):Int),()));rw [e,e'];have hle:bL 0 ((s.length - 1 - i:Nat):Int)=true:=ada (by omega);have ha:0<=a1/\a1<=9 * i:=ha;unfold tk;rw [hle,az hx',e9 hx',QZ hdx,aU (a:=((s.length - 1 - i:Nat):Int)) (b:=1) (by omega) (by omega)];have hb:(0<=fg a2 x/\fg a2 x<=9):=hbd;cases a2 with
    | false => have hv:fg false x=(x.toNat:Int) - 48:=rfl;dsimp only [cond_true,cond_false,Bool.not_false];rw [aA (by omega) (by omega),hv]
    | true =>
      dsimp only [cond_true,cond_false,Bool.not_false,Bool.not_true];have em:kl .i64 ((x.toNat:Int) - 48) 2=2 * ((x.toNat:Int) - 48):=by rw [EZ (by omega) (by omega)]; omega
      rw [em];by_cases h9:9 < 2 * ((x.toNat:Int) - 48)
      . have hv:fg true x=2 * ((x.toNat:Int) - 48) - 9:=by unfold fg; rw [aJ h9]; rfl
        rw [aJ h9]; dsimp only [cond_true,cond_false,Bool.not_false]; rw [aU (by omega) (by omega),aA (by omega) (by omega),hv]
      . have hv:fg true x=2 * ((x.toNat:Int) - 48):=by unfold fg; rw [ay h9]; rfl
        rw [ay h9]; dsimp only [cond_true,cond_false,Bool.not_false]; rw [aA (by omega) (by omega),hv]) (fun i x a a' hx ha hf=>by
    have hbd:=uQ a.2 (hall x (ade (AS hx).2));simp only [ads] at hf;subst hf;show 0<=a.1 + fg a.2 x/\a.1 + fg a.2 x<=9 * ((i + 1:Nat):Int);omega) (fun a ha=>by
    have e:(s.length:Int) - 1 - ((s.reverse.length:Nat):Int) = -1:=by simp; omega
    show tk s a.1 a.2 ((s.length:Int) - 1 - ((s.reverse.length:Nat):Int))=_;rw [e];rfl)
 rw [cr (fun x a=>(a.1 + fg a.2 x,!a.2))] at h;have h':IL s 0 true ((s.length:Int) - 1 - ((0:Nat):Int))=some (.inl (s,(Bz s.reverse (0,true)).1,(Bz s.reverse (0,true)).2,(-1:Int),())):=h;have e0:(s.length:Int) - 1 - ((0:Nat):Int)=aO .i64 (ae s) 1:=by rw [aU (by unfold ae; omega) (by unfold ae; omega)]; unfold ae; omega
 have hS:∀ (xs:List UInt8) (a:Int×Bool),(∀ x∈xs,gi x=true)->0<=a.1->0<=(Bz xs a).1:=by
  intro xs;induction xs with
  | nil=>intro a _ h; exact h
  | cons x r ih => intro a hx h;have:=uQ a.2 (hx x (adu ..));exact ih (a.1 + fg a.2 x,!a.2) (fun y hy=>hx y (adt _ hy)) (by show 0<=a.1 + fg a.2 x; omega)
 have h0:=hS s.reverse (0,true) (fun x hx=>hall x (List.mem_reverse.1 hx)) (by decide);rw [e0] at h';rw [h'];dsimp only [Option.bind_some,Sum.elim_inl,cond_true,cond_false,Bool.not_true];rw [nC h0,aU (by omega) (by omega),nC (by omega)]; rfl
def se (s:List UInt8):Bool:=cond (aZ s) (cond (bL 2 (ae s)) (aq (CB (sub s 0 (ae s - 1))) (dE s (ae s - 1) - 48)) false) false
theorem QA {s:List UInt8} (hd:aZ s=true) (h:2<=s.length):∃ x,gi x=true/\aR (ae s - 1) s=true/\dE s (ae s - 1)=(x.toNat:Int)/\dW 0 (ae s - 1) s=true/\(sub s 0 (ae s - 1)).length<=s.length:=by
 have e:ae s - 1=((s.length - 1:Nat):Int):=by unfold ae; omega
 obtain ⟨x,hx⟩:∃ x,s[s.length - 1]? = some x:=⟨s[s.length - 1]'(by omega),by simp⟩;refine ⟨x,mG hd x (ade hx),?_,?_,?_,?_⟩
 . rw [e]; exact az hx
 . rw [e]; exact e9 hx
 . rw [e]; unfold dW gp bL;rw [ada (by decide),ada (by omega),ada (by omega)]; rfl
 . rw [e]; unfold sub; simp
theorem JD (s:List UInt8) (hs:s.length<=aT):N4 s=some ((),((se s,()),())):=by
 have hbig:aT=140737488355328:=rfl;unfold N4 se;rw [gq s hs];dsimp only [Option.bind_some];cases hd:aZ s with
 | false=>rfl
 | true =>
   by_cases h2:2<=s.length
   . obtain ⟨x,h3,h4,h5,h6,h7⟩:=QA hd h2;have e1:bL 2 (ae s)=true:=ada (by unfold ae; omega);have e2:aO .i64 (ae s) 1=ae s - 1:=aU (by unfold ae; omega) (by unfold ae; omega);rw [ay (show ¬ ae s < 2 by unfold ae; omega),e1,e2];dsimp only [cond_true,cond_false,Bool.not_true];rw [h6,h4,Sb _ (ady h7 hs),h5,Ql h3]; rfl
   . have e1:bL 2 (ae s)=false:=adD (by unfold ae; omega);rw [aJ (show ae s < 2 by unfold ae; omega),e1]; rfl
theorem IF (s:List UInt8) (hs:s.length<=aT):Nl s=some ((),((se s,()),())):=by
 have hbig:aT=140737488355328:=rfl;unfold Nl se;have e2:aO .i64 (ae s) 1=ae s - 1:=aU (by unfold ae; omega) (by unfold ae; omega);dsimp only;rw [hD s hs,e2];dsimp only [Option.bind_some];by_cases h2:2<=s.length
 . have e1:bL 2 (ae s)=true:=ada (by unfold ae; omega);have e3:bL 1 (ae s - 1)=true:=ada (by unfold ae; omega);rw [e1,e3];cases hd:aZ s with
   | false=>rfl
   | true => obtain ⟨x,h3,h4,h5,h6,h7⟩:=QA hd h2;dsimp only [cond_true,cond_false,Bool.not_true];rw [h6,h4,S4 _ (ady h7 hs),h5,QZ h3]; rfl
 . have e1:bL 2 (ae s)=false:=adD (by unfold ae; omega);have e3:bL 1 (ae s - 1)=false:=adD (by unfold ae; omega);rw [e1,e3];cases aZ s <;> rfl
def fR (s:List UInt8):Bool:=cond (bL (ae s) 19) (se s) false
theorem wJ (s:List UInt8) (hs:s.length<=aT):sr s=some ((),((fR s,()),())):=by unfold sr fR;rw [JD s hs];cases bL (ae s) 19 <;> rfl
theorem yt (s:List UInt8) (hs:s.length<=aT):sD s=some ((),((fR s,()),())):=by unfold sD fR;rw [IF s hs];cases bL (ae s) 19 <;> rfl
def gH (a:Int):Int:=if a < 0 then 0 else if 4611686018427387904 < a then 4611686018427387904 else a
theorem nR (a:Int):0<=gH a/\gH a<=4611686018427387904:=by
 unfold gH;split
 . omega
 . split <;> omega
def yI (a b:Int):Int:=if 4611686018427387904 - gH b < gH a then 4611686018427387904 else gH a + gH b
theorem Fz (a:Int):IV a 0 4611686018427387904=some ((),((gH a,()),())):=by
 unfold IV gH;by_cases h:a < 0
 . rw [aJ h,if_pos h]; rfl
 . by_cases h2:4611686018427387904 < a
   . rw [ay h,if_neg h,aJ h2,if_pos h2]; rfl
   . rw [ay h,if_neg h,ay h2,if_neg h2]; rfl
theorem xW {a:Int} (h:0<=a/\a<=4611686018427387904):cW a=true:=fb.2 h
theorem Rk (a b:Int):JX a b=some ((),((yI a b,()),())):=by
 unfold JX Sr yI;have h1:=nR a;have h2:=nR b;rw [Fz,Fz];dsimp only [Option.bind_some];rw [qQ,qQ,xW h1,xW h2,aU (by omega) (by omega)];dsimp only [Option.bind_some,Bool.not_true,cond_false];by_cases h:4611686018427387904 - gH b < gH a
 . rw [aJ h,if_pos h]; rfl
 . rw [ay h,if_neg h,aA (by omega) (by omega)]; rfl
theorem QW (a b:Int):Jb a b=some ((),((yI a b,()),())):=by
 have e:∀ x:Int,Ik 0 (Iu x 4611686018427387904)=gH x:=fun x=>by unfold Ik Iu gH;split <;> split <;> (try split) <;> omega
 have h1:=nR a;have h2:=nR b;unfold Jb yI;dsimp only;rw [e,e,aU (by omega) (by omega)];by_cases h:4611686018427387904 - gH b < gH a
 . rw [aJ h,if_pos h]; rfl
 . rw [ay h,if_neg h,aA (by omega) (by omega)]; rfl
def Al (xs:List jZ):Int:=xs.foldl (fun a h=>yI a h.2.1) 0
theorem Ko (xs:List jZ) (hs:xs.length<=aT):Oh xs=some ((),((Al xs,()),())):=by
 unfold Oh;have h:=aI (step:=cV oI) xs (fun i (a:Int)=>(a,xs,ae xs,((i:Nat):Int),())) (fun _ x a=>Sum.inl (yI a x.2.1)) (fun a=> .inl (a,xs,ae xs,(xs.length:Int),())) (a0:=0) (fun i x a hx=>by
  have hlt:=ai hx;show oI a xs (ae xs) (i:Int)=_;unfold oI;rw [aC hx,az hx,aS _ hx,aK (by omega),Rk]; rfl) (fun a=>by
  show oI a xs (ae xs) (xs.length:Int)=_;unfold oI;rw [au rfl]; rfl)
 rw [cr (fun (x:jZ) a=>yI a x.2.1)] at h;have h':KQ 0 xs (ae xs) 0=_:=h;rw [h']; rfl
theorem Mp (xs:List jZ) (hs:xs.length<=aT):MK xs=some ((),((Al xs,()),())):=by
 unfold MK;have h:=aI (step:=cV qg) xs (fun i (a:Int)=>(a,xs,ae xs,((i:Nat):Int),())) (fun _ x a=>Sum.inl (yI a x.2.1)) (fun a=> .inl (a,xs,ae xs,(xs.length:Int),())) (a0:=0) (fun i x a hx=>by
  have hlt:=ai hx;show qg a xs (ae xs) (i:Int)=_;unfold qg;rw [aC hx,az hx,aS _ hx,aK (by omega),QW]; rfl) (fun a=>by
  show qg a xs (ae xs) (xs.length:Int)=_;unfold qg;rw [au rfl]; rfl)
 rw [cr (fun (x:jZ) a=>yI a x.2.1)] at h;have h':JU 0 xs (ae xs) 0=_:=h;rw [h']; rfl
def vG (r:yf):Bool:=cond (dC r.1 1 1000) (cond (dC (ae r.2.2.1) 1 8) (cond (aq (ae r.2.2.2.1) (ae r.2.2.1)) (cond (ed r.2.1) (r.2.2.1.all (fun x=>cW x.1) && r.2.2.2.1.all (fun x=>cW x.1)) false) false) false) false
def CC (r:yf):Prop:=r.2.2.1.length<=1048576/\r.2.2.2.1.length<=1048576
theorem e8 {a b:Int}:aq a b=true↔a=b:=by simp [aq]
theorem Tq (r:yf) (hb:CC r):KS r=some ((),((vG r,()),())):=by
 have hbig:aT=140737488355328:=rfl;obtain ⟨hb1,hb2⟩:=hb;unfold KS vG;dsimp only;rw [kU,kU,ni];dsimp only [Option.bind_some];cases dC r.1 1 1000 with
 | false=>rfl
 | true =>
 cases dC (ae r.2.2.1) 1 8 with
 | false=>rfl
 | true =>
 cases he:aq (ae r.2.2.2.1) (ae r.2.2.1) with
 | false=>rfl
 | true =>
 cases ed r.2.1 with
 | false=>rfl
 | true =>
 have hlen:r.2.2.2.1.length=r.2.2.1.length:=by have:=e8.1 he;unfold ae at this; omega
 dsimp only [cond_true,cond_false,Bool.not_true];have h:=aI (step:=dq p8) (r.2.2.1.zip r.2.2.2.1) (fun i (_:Unit)=>(ae r.2.2.1,((i:Nat):Int),r,())) (fun _ x _=>bif cW x.1.1 && cW x.2.1 then Sum.inl () else .inr (.inr (false,()))) (fun _=> .inl (ae r.2.2.1,(r.2.2.1.length:Int),r,())) (a0:=()) (fun i x a hx=>by
  have hx':=List.getElem?_zip_eq_some.1 hx;have hlt:=ai hx'.1;show p8 (ae r.2.2.1) (i:Int) r=_;unfold p8;rw [aC hx'.1,az hx'.1,az hx'.2,aS _ hx'.1,aS _ hx'.2,qQ,qQ,aK (by omega)];dsimp only [cond_true,Option.bind_some];cases cW x.1.1 <;> cases cW x.2.1 <;> rfl) (fun a=>by
  have e:(r.2.2.1.zip r.2.2.2.1).length=r.2.2.1.length:=by rw [List.length_zip,hlen,Nat.min_self]
  rw [e];show p8 (ae r.2.2.1) (r.2.2.1.length:Int) r=_;unfold p8;rw [au rfl]; rfl)
 rw [fS (fun (x:(Int×Unit)×(Int×Unit))=>cW x.1.1 && cW x.2.1)] at h;have h':Mw (ae r.2.2.1) 0 r=_:=h;rw [h'];have hz:∀ (a b:List (Int×Unit)),b.length=a.length->(a.zip b).all (fun x=>cW x.1.1 && cW x.2.1)=(a.all (fun x=>cW x.1) && b.all (fun x=>cW x.1)):=by
  intro a;induction a with
  | nil=>intro b hb; cases b with | nil=>rfl | cons _ _=>simp at hb
  | cons x a ih =>
    intro b hb;cases b with
    | nil=>simp at hb
    | cons y b => simp only [List.zip_cons_cons,aef];rw [ih b (by simpa using hb)];cases cW x.1 <;> cases cW y.1 <;> simp
 rw [hz _ _ hlen];cases r.2.2.1.all (fun x=>cW x.1) && r.2.2.2.1.all (fun x=>cW x.1) <;> rfl
theorem LO (a b:List (Int×Unit)) (ha:a.length<=1048576) (hb:b.length<=1048576):Nu [(a,()),(b,())]=some ((),((a ++ b,()),())):=by
 have hbig:aT=140737488355328:=rfl;unfold Nu;have hlen:((a.length + b.length:Nat):Int)=(a.length:Int) + b.length:=by omega
 have h:DU [(a,()),(b,())] 0 [(a,()),(b,())] 2 0=some (.inl ([(a,()),(b,())],(a.length:Int) + b.length,[(a,()),(b,())],2,2,())):=by
  refine aV _ (x':=([(a,()),(b,())],(a.length:Int),[(a,()),(b,())],2,1,())) ?_ (aV _ (x':=([(a,()),(b,())],(a.length:Int) + b.length,[(a,()),(b,())],2,2,())) ?_ (aN _ ?_))
  . show th [(a,()),(b,())] 0 [(a,()),(b,())] 2 0=_;unfold th;have e:aj .i64 0 (ae (gt d54 [(a,()),(b,())] 0).1)=(a.length:Int):=by
     show aj .i64 0 (ae a)=_;rw [aA (by unfold ae; omega) (by unfold ae; omega)]; unfold ae; omega
    dsimp only;rw [e,ay (a:=(a.length:Int)) (b:=0) (by omega)]; rfl
  . show th [(a,()),(b,())] (a.length:Int) [(a,()),(b,())] 2 1=_;unfold th;have e:aj .i64 (a.length:Int) (ae (gt d54 [(a,()),(b,())] 1).1)=(a.length:Int) + b.length:=by
     show aj .i64 (a.length:Int) (ae b)=_;rw [aA (by unfold ae; omega) (by unfold ae; omega)]; unfold ae; omega
    dsimp only;rw [e,ay (a:=(a.length:Int) + b.length) (b:=0) (by omega)]; rfl
  . rfl
 have h1:DU [(a,()),(b,())] 0 [(a,()),(b,())] (ae [(a,()),(b,())]) 0=_:=h;have hg:Ns ((a.length:Int) + b.length)=some ((),(([],()),())):=by
  unfold Ns;dsimp only;rw [ay (by omega),aU (a:=0) (b:=0) (by decide) (by decide),aU (by omega) (by omega)];by_cases h0:(0:Int) < (a.length:Int) + b.length - (0 - 0)
  . have e2:mzB 8 ((a.length:Int) + b.length - (0 - 0))=true:=by
     unfold mzB bL;rw [ada (by omega),ada (by rw [hbig]; omega)]; rfl
    have e3:dW 0 0 (xa d3 ((a.length:Int) + b.length - (0 - 0)))=true:=by unfold dW gp bL;rw [ada (by decide),ada (by omega)]; rfl
    rw [aJ h0,e2,e3];rfl
  . rw [ay h0]; rfl
 have h2:EV [] [(a,()),(b,())] 2 0=some (.inl (a ++ b,[(a,()),(b,())],2,2,())):=by
  refine aV _ (x':=(a,[(a,()),(b,())],2,1,())) ?_ (aV _ (x':=(a ++ b,[(a,()),(b,())],2,2,())) ?_ (aN _ ?_))
  . show sN [] [(a,()),(b,())] 2 0=_;unfold sN;have e:bT 8 ([]:List (Int×Unit)) (gt d54 [(a,()),(b,())] 0).1=true:=adn (by show (0 + a.length) * 8<=aT; omega);rw [e]; rfl
  . show sN a [(a,()),(b,())] 2 1=_;unfold sN;have e:bT 8 a (gt d54 [(a,()),(b,())] 1).1=true:=adn (by show (a.length + b.length) * 8<=aT; omega);rw [e]; rfl
  . rfl
 have h2':EV [] [(a,()),(b,())] (ae [(a,()),(b,())]) 0=_:=h2;rw [h1];dsimp only [Option.bind_some,Sum.elim_inl];rw [hg];dsimp only [Option.bind_some,Sum.elim_inl];rw [h2']; rfl
theorem Tb (r:yf) (hb:CC r):KI r=some ((),((vG r,()),())):=by
 have hbig:aT=140737488355328:=rfl;obtain ⟨hb1,hb2⟩:=hb;unfold KI;rw [LO _ _ hb1 hb2];dsimp only [Option.bind_some];have h:=aI (step:=dQ oP) (r.2.2.1 ++ r.2.2.2.1) (fun i (_:Unit)=>(ae r.2.2.1,r.2.2.1 ++ r.2.2.2.1,ae (r.2.2.1 ++ r.2.2.2.1),((i:Nat):Int),r,())) (fun _ x _=>bif cW x.1 then Sum.inl () else .inr (.inr (false,()))) (fun _=> .inl (ae r.2.2.1,r.2.2.1 ++ r.2.2.2.1,ae (r.2.2.1 ++ r.2.2.2.1),((r.2.2.1 ++ r.2.2.2.1).length:Int),r,())) (a0:=()) (fun i x a hx=>by
  have hlt:=ai hx;rw [ac4] at hlt;show oP (ae r.2.2.1) (r.2.2.1 ++ r.2.2.2.1) (ae (r.2.2.1 ++ r.2.2.2.1)) (i:Int) r=_;unfold oP;rw [aC hx,az hx,aS _ hx,FP,aK (by omega)];dsimp only [cond_true,Option.bind_some];cases cW x.1 <;> rfl) (fun a=>by
  show oP (ae r.2.2.1) (r.2.2.1 ++ r.2.2.2.1) (ae (r.2.2.1 ++ r.2.2.2.1)) ((r.2.2.1 ++ r.2.2.2.1).length:Int) r=_;unfold oP;rw [au rfl]; rfl)
 rw [fS (fun (x:Int×Unit)=>cW x.1)] at h;have h':Me (ae r.2.2.1) (r.2.2.1 ++ r.2.2.2.1) (ae (r.2.2.1 ++ r.2.2.2.1)) 0 r=_:=h;rw [h',List.all_append];unfold vG;cases r.2.2.1.all (fun x=>cW x.1) && r.2.2.2.1.all (fun x=>cW x.1) with
 | false => cases dC r.1 1 1000 <;> cases dC (ae r.2.2.1) 1 8 <;> cases aq (ae r.2.2.2.1) (ae r.2.2.1) <;> cases ed r.2.1 <;> rfl
 | true => dsimp only [cond_true,Option.bind_some,Sum.elim_inl];rw [ji,ji,mZ];dsimp only [Option.bind_some];cases dC r.1 1 1000 <;> cases dC (ae r.2.2.1) 1 8 <;> cases aq (ae r.2.2.2.1) (ae r.2.2.1) <;> cases ed r.2.1 <;> rfl
def xC (s:eX):Bool:=cond (cond (aZ s.1) (aq (ae s.1) 6) false) (cond (cond (aZ s.2.1) (aq (ae s.2.1) 4) false) (dC (ae s.2.2.1) 1 200) false) false
def My (s:eX):Prop:=s.1.length<=aT/\s.2.1.length<=aT
theorem Sc (s:eX) (hb:My s):M7 s=some ((),((xC s,()),())):=by unfold M7 xC;rw [gq _ hb.1,gq _ hb.2];dsimp only [Option.bind_some];rw [kU];cases cond (aZ s.1) (aq (ae s.1) 6) false <;> cases cond (aZ s.2.1) (aq (ae s.2.1) 4) false <;> rfl
theorem TZ (s:eX) (hb:My s):NW s=some ((),((xC s,()),())):=by unfold NW xy xC;rw [hD _ hb.1,hD _ hb.2];dsimp only [Option.bind_some];rw [ji];cases cond (aZ s.1) (aq (ae s.1) 6) false <;> cases cond (aZ s.2.1) (aq (ae s.2.1) 4) false <;> rfl
def jb (a b:eX):Bool:=cond (cC a.1 b.1) (cC a.2.1 b.2.1) false
def jN (xs:List eX) (i:Nat) (x:eX):Bool:=cond (xC x) ((xs.take i).all (fun y=> !jb y x)) false
def pO (xs:List eX):Bool:=cond (allI (jN xs) 0 xs) (bL (ae xs) 6) false
def DL (xs:List eX):Prop:=xs.length<=1048576/\∀ y∈xs,My y
theorem sj {α:Type} (xs:List α) (i:Nat):sub xs 0 (i:Int)=xs.take i:=by unfold sub; simp
theorem jD {α:Type} {xs:List α} {i:Nat} (h:i<=xs.length):dW 0 (i:Int) xs=true:=by unfold dW gp bL;rw [ada (by decide),ada (by omega),ada (by omega)]; rfl
theorem PC (xs:List eX) (hb:DL xs):NI xs=some ((),((pO xs,()),())):=by
 have hbig:aT=140737488355328:=rfl;have hb1:=hb.1;unfold NI;have inner:∀ (i:Nat) (x:eX),i<=xs.length->KM xs xs (ae xs) (i:Int) (xs.take i) (ae (xs.take i)) 0 x=some (bif (xs.take i).all (fun y=> !jb y x) then .inl (xs,xs,ae xs,(i:Int),xs.take i,ae (xs.take i),((xs.take i).length:Int),x,()) else .inr (false,())):=fun i x hi=>by
  have hti:(xs.take i).length<=xs.length:=by rw [adJ]; exact afM _ _
  have h:=aI (step:=xx o9) (xs.take i) (fun j (_:Unit)=>(xs,xs,ae xs,(i:Int),xs.take i,ae (xs.take i),((j:Nat):Int),x,())) (fun _ y _=>bif !jb y x then Sum.inl () else .inr (.inr (false,()))) (fun _=> .inl (xs,xs,ae xs,(i:Int),xs.take i,ae (xs.take i),((xs.take i).length:Int),x,())) (a0:=()) (fun j y a hy=>by
   have hlt:=ai hy;show o9 xs xs (ae xs) (i:Int) (xs.take i) (ae (xs.take i)) (j:Int) x=_;unfold o9 jb;rw [aC hy,az hy,aS _ hy,aK (by omega)];dsimp only [cond_true];cases cond (cC y.1 x.1) (cC y.2.1 x.2.1) false <;> rfl) (fun a=>by
   show o9 xs xs (ae xs) (i:Int) (xs.take i) (ae (xs.take i)) ((xs.take i).length:Int) x=_;unfold o9;rw [au rfl]; rfl)
  rw [fS (fun y=> !jb y x)] at h;exact h
 have h:=aI (step:=cV pU) xs (fun i (_:Unit)=>(xs,xs,ae xs,((i:Nat):Int),())) (fun i x _=>bif jN xs i x then Sum.inl () else .inr (.inr (false,()))) (fun _=> .inl (xs,xs,ae xs,(xs.length:Int),())) (a0:=()) (fun i x a hx=>by
  have hlt:=ai hx;show pU xs xs (ae xs) (i:Int)=_;unfold pU jN;rw [aC hx,az hx,aS _ hx];dsimp only [cond_true];rw [Sc x (hb.2 x (ade hx)),jD (afC hlt),sj];dsimp only [cond_true,Option.bind_some];rw [inner i x (afC hlt)];cases xC x with
  | false=>rfl
  | true =>
    cases (xs.take i).all (fun y=> !jb y x) with
    | false=>rfl
    | true =>
      dsimp only [cond_true,cond_false,Bool.not_true,Option.bind_some,Sum.elim_inl];rw [aK (by omega)]; rfl) (fun a=>by
  show pU xs xs (ae xs) (xs.length:Int)=_;unfold pU;rw [au rfl]; rfl)
 rw [cT] at h;have h':K7 xs xs (ae xs) 0=_:=h;rw [h'];unfold pO;cases allI (jN xs) 0 xs <;> rfl
def gm {α:Type} (p:α->Bool):Nat->List α->Int
 | _,[] => -1
 | i,x :: r=>bif p x then (i:Int) else gm p (i + 1) r
theorem ll {α Y:Type} (p:α->Bool) (y:Int->Y) (z:Y) (out:Y->Int) (hy:∀ n,out (y n)=n) (hz:out z = -1):∀ (xs:List α) (i:Nat),out (iv (fun i x _=>bif p x then Sum.inr (y (i:Int)) else .inl ()) (fun _=>z) i xs ())=gm p i xs
 | [],_=>hz
 | x :: r,i=>by
   rw [iv,gm];cases hp:p x with
   | true=>exact hy _
   | false=>exact ll p y z out hy hz r (i + 1)
theorem xk {α:Type} (p:α->Bool):∀ (xs:List α) (i:Nat),gm p i xs = -1∨((i:Int)<=gm p i xs/\gm p i xs < i + xs.length)
 | [],_=> .inl rfl
 | x :: r,i=>by
   rw [gm];cases p x with
   | true=>right; simp only [ac6,ac9]; omega
   | false =>
     rcases xk p r (i + 1) with h | h
     . exact .inl h
     . right; simp only [adm,ac9]; omega
theorem CP {α:Type} (p:α->Bool):∀ {xs:List α} {i:Nat} {x:α} (k:Nat),xs[i]? = some x->p x=true->(gm p k xs=((k + i:Nat):Int)↔(xs.take i).all (fun y=> !p y)=true)
 | [],i,x,k,h,_=>by simp at h
 | y :: r,0,x,k,h,hp=>by simp only [adf,ac3] at h;subst h;rw [gm,hp]; simp
 | y :: r,i + 1,x,k,h,hp=>by
   have ih:=CP p (xs:=r) (i:=i) (x:=x) (k + 1) (by simpa using h) hp;rw [gm,List.take_succ_cons,aef];cases hy:p y with
   | true => simp only [ac6,adL,Bool.false_and,adQ,iff_false];omega
   | false => simp only [adm,aeV,afn];rw [<- ih,show k + 1 + i=k + (i + 1) by omega]
theorem Li (xs:List eX) (a b:List UInt8) (hs:xs.length<=1048576):OX xs a b=some ((),((gm (fun y=>cond (cC y.1 a) (cC y.2.1 b) false) 0 xs,()),())):=by
 have hbig:aT=140737488355328:=rfl;unfold OX TH;have h:=aI (step:=cV pS) xs (fun i (_:Unit)=>(xs,((a,()),(b,()),()),ae xs,((i:Nat):Int),())) (fun i y _=>bif cond (cC y.1 a) (cC y.2.1 b) false then Sum.inr (.inr ((i:Int),())) else Sum.inl ()) (fun _=> .inl (xs,((a,()),(b,()),()),ae xs,(xs.length:Int),())) (a0:=()) (fun i y u hy=>by
  have hlt:=ai hy;show pS xs ((a,()),(b,()),()) (ae xs) (i:Int)=_;unfold pS TS;rw [aC hy,az hy,aS _ hy,aK (by omega)];dsimp only [cond_true,Option.bind_some];cases cond (cC y.1 a) (cC y.2.1 b) false <;> rfl) (fun u=>by
  show pS xs ((a,()),(b,()),()) (ae xs) (xs.length:Int)=_;unfold pS;rw [au rfl]; rfl)
 have h':J1 xs ((a,()),(b,()),()) (ae xs) 0=_:=h;rw [h'];have hf:=ll (Y:=Sum ((List eX)×(((List UInt8)×Unit)×((List UInt8)×Unit)×Unit)×Int×Int×Unit) (Int×Unit)) (fun (y:eX)=>cond (cC y.1 a) (cC y.2.1 b) false) (fun n=> .inr (n,())) (.inl (xs,((a,()),(b,()),()),ae xs,(xs.length:Int),())) (fun y=>match y with | .inl _ => -1 | .inr z=>z.1) (fun _=>rfl) rfl xs 0;rw [<- hf];dsimp only [Option.bind_some];cases iv _ _ 0 xs () <;> rfl
theorem Ob (xs:List eX) (hb:DL xs):Ng xs=some ((),((pO xs,()),())):=by
 have hbig:aT=140737488355328:=rfl;have hb1:=hb.1;unfold Ng;have h:=aI (step:=cV oO) xs (fun i (_:Unit)=>(xs,xs,ae xs,((i:Nat):Int),())) (fun i x _=>bif jN xs i x then Sum.inl () else .inr (.inr (false,()))) (fun _=> .inl (xs,xs,ae xs,(xs.length:Int),())) (a0:=()) (fun i x a hx=>by
  have hlt:=ai hx;show oO xs xs (ae xs) (i:Int)=_;unfold oO jN;rw [aC hx,az hx,aS _ hx];dsimp only [cond_true];rw [TZ x (hb.2 x (ade hx))];dsimp only [cond_true,Option.bind_some];rw [Li xs _ _ hb1,aK (by omega)];have hp:cond (cC x.1 x.1) (cC x.2.1 x.2.1) false=true:=by rw [da,da]; rfl
  have hk:=CP (fun (y:eX)=>cond (cC y.1 x.1) (cC y.2.1 x.2.1) false) 0 hx hp;rw [adA,<- e8] at hk;have hk':aq (gm (fun (y:eX)=>cond (cC y.1 x.1) (cC y.2.1 x.2.1) false) 0 xs) (i:Int)=(xs.take i).all (fun y=> !jb y x):=by rw [Bool.eq_iff_iff]; exact hk
  cases xC x with
  | false=>rfl
  | true =>
    dsimp only [cond_true,cond_false,Bool.not_true,Option.bind_some];rw [hk'];cases (xs.take i).all (fun y=> !jb y x) <;> rfl) (fun a=>by
  show oO xs xs (ae xs) (xs.length:Int)=_;unfold oO;rw [au rfl]; rfl)
 rw [cT] at h;have h':Ki xs xs (ae xs) 0=_:=h;rw [h'];unfold pO;cases allI (jN xs) 0 xs <;> rfl
abbrev aL:=List UInt8×Int×Int×Int×Int×List jZ×Int×Int×List (Int×Unit)×List (Int×Unit)×List eX×Unit
def yH (a:aL):yf:=(a.2.2.2.2.2.2.1,a.2.2.2.2.2.2.2.1,a.2.2.2.2.2.2.2.2.1,a.2.2.2.2.2.2.2.2.2.1,())
def jq (a:aL):Prop:=a.1.length<=1048576/\(a.2.2.2.2.2.1.length<=1048576/\∀ y∈a.2.2.2.2.2.1,y.1.length<=1048576)/\CC (yH a)/\a.2.2.2.2.2.2.2.2.2.2.1.length<=1048576/\∀ y∈a.2.2.2.2.2.2.2.2.2.2.1,y.1.length<=1048576/\y.2.1.length<=1048576/\y.2.2.1.length<=1048576
theorem cE {n:Nat} (h:n<=1048576):n<=aT:=ady h (by decide)
theorem jq.hs {a:aL} (h:jq a):Et a.2.2.2.2.2.1:=⟨cE h.2.1.1,fun y hy=>cE (h.2.1.2 y hy)⟩
theorem jq.ss {a:aL} (h:jq a):DL a.2.2.2.2.2.2.2.2.2.2.1:=⟨h.2.2.2.1,fun y hy=>⟨cE (h.2.2.2.2 y hy).1,cE (h.2.2.2.2 y hy).2.1⟩⟩
def xp (a:aL):Bool:=cond (fR a.1) (cond (dC a.2.1 0 9007199254740992) (cond (dC a.2.2.2.1 0 1000) (cond (dC a.2.2.2.2.1 0 9007199254740992) (cond (cW a.2.2.1) (cond (oB a.2.2.2.2.2.1) (cond (vG (yH a)) (cond (pO a.2.2.2.2.2.2.2.2.2.2.1) (bL (yI a.2.2.1 (Al a.2.2.2.2.2.1)) a.2.1) false) false) false) false) false) false) false) false
theorem T6 (a:aL) (hb:jq a):Yw a=some ((),((xp a,()),())):=by
 have h1:=wJ a.1 (cE hb.1);have h2:=NK _ hb.hs;have h3:KS (a.2.2.2.2.2.2.1,a.2.2.2.2.2.2.2.1,a.2.2.2.2.2.2.2.2.1,a.2.2.2.2.2.2.2.2.2.1,())=_:=Tq (yH a) hb.2.2.1;have h4:=PC _ hb.ss;have h5:=Ko _ hb.hs.1;unfold Yw xp;rw [h1,h2,h3,h4,h5,kU,kU,kU,qQ];dsimp only [Option.bind_some];rw [Rk];dsimp only [Option.bind_some];cases fR a.1 <;> first | rfl | skip
 cases dC a.2.1 0 9007199254740992 <;> first | rfl | skip
 cases dC a.2.2.2.1 0 1000 <;> first | rfl | skip
 cases dC a.2.2.2.2.1 0 9007199254740992 <;> first | rfl | skip
 cases cW a.2.2.1 <;> first | rfl | skip
 cases oB a.2.2.2.2.2.1 <;> first | rfl | skip
 cases vG (yH a) <;> first | rfl | skip
 cases pO a.2.2.2.2.2.2.2.2.2.2.1 <;> rfl
theorem R4 (a:aL) (hb:jq a):YC a=some ((),((xp a,()),())):=by
 have h1:=yt a.1 (cE hb.1);have h2:=Ow _ hb.hs;have h3:KI (a.2.2.2.2.2.2.1,a.2.2.2.2.2.2.2.1,a.2.2.2.2.2.2.2.2.1,a.2.2.2.2.2.2.2.2.2.1,())=_:=Tb (yH a) hb.2.2.1;have h4:=Ob _ hb.ss;have h5:=Mp _ hb.hs.1;unfold YC xp;rw [h1,h2,h3,h4,h5,ji,ji,ji,FP];dsimp only [Option.bind_some];rw [QW];dsimp only [Option.bind_some];cases fR a.1 <;> first | rfl | skip
 cases dC a.2.1 0 9007199254740992 <;> first | rfl | skip
 cases dC a.2.2.2.1 0 1000 <;> first | rfl | skip
 cases dC a.2.2.2.2.1 0 9007199254740992 <;> first | rfl | skip
 cases cW a.2.2.1 <;> first | rfl | skip
 cases oB a.2.2.2.2.2.1 <;> first | rfl | skip
 cases vG (yH a) <;> first | rfl | skip
 cases pO a.2.2.2.2.2.2.2.2.2.2.1 <;> rfl
theorem dL {α:Type} {b:Nat} {xs:List α} (h:xs.length * b<=aT):bT b ([]:List α) xs=true:=adn (by simpa using h)
theorem IC (r:yf) (hb:CC r):LN r=some ((),(r,())):=by have hbig:aT=140737488355328:=rfl;obtain ⟨h1,h2⟩:=hb;unfold LN;rw [dL (by omega),dL (by omega)]; rfl
theorem JT (r:yf) (hb:CC r):KR r=some ((),(r,())):=by have hbig:aT=140737488355328:=rfl;obtain ⟨h1,h2⟩:=hb;unfold KR Ds;rw [dL (by omega),dL (by omega)]; rfl
theorem Gu (xs:List eX) (hs:xs.length<=1048576) (hb:∀ y∈xs,y.2.2.1.length<=1048576):Ph xs=some ((),((xs,()),())):=by
 have hbig:aT=140737488355328:=rfl;unfold Ph;have h:=aF (step:=cV pg) xs (fun i (a:List eX)=>(a,xs,ae xs,((i:Nat):Int),())) (fun _ x a=>Sum.inl (a ++ [x])) (fun a=> .inl (a,xs,ae xs,(xs.length:Int),())) (fun i a=>a.length=i) (a0:=[]) rfl (fun i x a hx ha=>by
  have hlt:=ai hx;have hm:=hb x (ade hx);show pg a xs (ae xs) (i:Int)=_;unfold pg;have e:∀ y:eX,bT 56 a [y]=true:=fun y=>adn (by simp; omega)
  rw [aC hx,az hx,aS _ hx];dsimp only [cond_true];rw [dL (by omega),e,aK (by omega)];rfl) (fun i x a a' hx ha hf=>by
  simp only [ads] at hf;rw [<- hf,ac4,ha]; rfl) (fun a ha=>by
  show pg a xs (ae xs) (xs.length:Int)=_;unfold pg;rw [au rfl]; rfl)
 rw [gf] at h;have h':Lh [] xs (ae xs) 0=_:=h;rw [h']; rfl
theorem GX (xs:List eX) (hs:xs.length<=1048576) (hb:∀ y∈xs,y.2.2.1.length<=1048576):MV xs=some ((),((xs,()),())):=by
 have hbig:aT=140737488355328:=rfl;unfold MV;have h:=aF (step:=cV qt) xs (fun i (a:List eX)=>(a,xs,ae xs,((i:Nat):Int),())) (fun _ x a=>Sum.inl (a ++ [x])) (fun a=> .inl (a,xs,ae xs,(xs.length:Int),())) (fun i a=>a.length=i) (a0:=[]) rfl (fun i x a hx ha=>by
  have hlt:=ai hx;have hm:=hb x (ade hx);show qt a xs (ae xs) (i:Int)=_;unfold qt P4;have e:∀ y:eX,bT 56 a [y]=true:=fun y=>adn (by simp; omega)
  rw [aC hx,az hx,aS _ hx];dsimp only [cond_true];rw [dL (by omega),aK (by omega)];dsimp only [cond_true,Option.bind_some];rw [e];rfl) (fun i x a a' hx ha hf=>by
  simp only [ads] at hf;rw [<- hf,ac4,ha]; rfl) (fun a ha=>by
  show qt a xs (ae xs) (xs.length:Int)=_;unfold qt;rw [au rfl]; rfl)
 rw [gf] at h;have h':L6 [] xs (ae xs) 0=_:=h;rw [h']; rfl
theorem vD (a:aL) (hb:jq a):Um a=some ((),(a,())):=by have hbig:aT=140737488355328:=rfl;have h1:=hb.2.1.1;have h2:LN (a.2.2.2.2.2.2.1,a.2.2.2.2.2.2.2.1,a.2.2.2.2.2.2.2.2.1,a.2.2.2.2.2.2.2.2.2.1,())=_:=IC (yH a) hb.2.2.1;have h3:=Gu _ hb.2.2.2.1 (fun y hy=>(hb.2.2.2.2 y hy).2.2);unfold Um;rw [dL (by omega),h2,h3]; rfl
theorem BI (a:aL) (hb:jq a):L5 a=some ((),(a,())):=by have hbig:aT=140737488355328:=rfl;have h1:=hb.2.1.1;have h2:KR (a.2.2.2.2.2.2.1,a.2.2.2.2.2.2.2.1,a.2.2.2.2.2.2.2.2.1,a.2.2.2.2.2.2.2.2.2.1,())=_:=JT (yH a) hb.2.2.1;have h3:=GX _ hb.2.2.2.1 (fun y hy=>(hb.2.2.2.2 y hy).2.2);unfold L5 KF;rw [dL (by omega),h2,h3]; rfl
theorem vJ {α Y:Type} (p:α->Bool) (z:List α->Y):∀ (xs:List α) (i:Nat) (d:List α),iv (fun _ x (a:List α)=>Sum.inl (bif p x then a ++ [x] else a)) z i xs d=z (d ++ xs.filter p)
 | [],_,d=>by simp [iv]
 | x :: r,i,d=>by
   rw [iv];simp only;rw [vJ p z r (i + 1)];cases hp:p x with
   | true=>simp [hp]
   | false=>simp [hp]
def gY (h:Nat) (c:UInt8):Nat:=((h ^^^ c.toNat) * 16777619) % 4294967296
def Ak (s:List UInt8):Nat:=s.foldl gY 2166136261
theorem DT (h:Nat) (c:UInt8):gY h c < 4294967296:=afQ _ (by decide)
theorem Mo {a c:Nat} (ha:a < 4294967296) (hc:c < 256):a ^^^ c < 4294967296:=by have:=Nat.xor_lt_two_pow (x:=a) (y:=c) (n:=32) (by omega) (by omega);omega
theorem jE (n a:Nat):BitVec.ofInt n (a:Int)=BitVec.ofNat n a:=by simp
theorem DS {a:Nat} (c:UInt8) (ha:a < 4294967296):Bu .i64 (kl .i64 (CQ .i64 (a:Int) (bI .i64 (c.toNat:Int))) 16777619) 4294967295=((gY a c:Nat):Int):=by
 have hc:c.toNat < 256:=c.toNat_lt;have hx:=Mo ha hc;have e1:bI .i64 (c.toNat:Int)=(c.toNat:Int):=IntWalk.i64_in _ (by omega);have e2:CQ .i64 (a:Int) (c.toNat:Int)=((a ^^^ c.toNat:Nat):Int):=by
  unfold CQ;have:(BitVec.ofInt IntKind.i64.bits (a:Int) ^^^ BitVec.ofInt IntKind.i64.bits (c.toNat:Int)).toNat=a ^^^ c.toNat:=by
   rw [jE,jE,BitVec.toNat_xor,BitVec.toNat_ofNat,BitVec.toNat_ofNat];have h64:2 ^ IntKind.i64.bits=18446744073709551616:=by decide
   rw [h64,aex (by omega),aex (by omega)]
  rw [this];exact IntWalk.i64_in _ (by omega)
 have e3:kl .i64 ((a ^^^ c.toNat:Nat):Int) 16777619=(((a ^^^ c.toNat) * 16777619:Nat):Int):=by unfold kl;rw [IntWalk.i64_in _ (by omega)];omega
 rw [e1,e2,e3];unfold Bu gY;have:(BitVec.ofInt IntKind.i64.bits (((a ^^^ c.toNat) * 16777619:Nat):Int) &&& BitVec.ofInt IntKind.i64.bits (4294967295:Int)).toNat=((a ^^^ c.toNat) * 16777619) % 4294967296:=by
  have h32:(4294967295:Int)=((4294967295:Nat):Int):=rfl;rw [h32,jE,jE,BitVec.toNat_and,BitVec.toNat_ofNat,BitVec.toNat_ofNat];have h64:2 ^ IntKind.i64.bits=18446744073709551616:=by decide
  rw [h64,aex (by omega:(a ^^^ c.toNat) * 16777619 < 18446744073709551616),aex (by omega:4294967295 < 18446744073709551616)];exact Nat.and_two_pow_sub_one_eq_mod _ 32
 rw [this];have:=afQ ((a ^^^ c.toNat) * 16777619) (show 0 < 4294967296 by decide);exact IntWalk.i64_in _ (by omega)
theorem EB {a:Nat} (c:UInt8) (ha:a < 4294967296):kl .u32 (CQ .u32 (a:Int) (bI .u32 (c.toNat:Int))) 16777619=((gY a c:Nat):Int):=by
 have hc:c.toNat < 256:=c.toNat_lt;have hx:=Mo ha hc;have e1:bI .u32 (c.toNat:Int)=(c.toNat:Int):=IntWalk.u32_in _ (by omega);have e2:CQ .u32 (a:Int) (c.toNat:Int)=((a ^^^ c.toNat:Nat):Int):=by
  unfold CQ;have:(BitVec.ofInt IntKind.u32.bits (a:Int) ^^^ BitVec.ofInt IntKind.u32.bits (c.toNat:Int)).toNat=a ^^^ c.toNat:=by
   rw [jE,jE,BitVec.toNat_xor,BitVec.toNat_ofNat,BitVec.toNat_ofNat];have h32:2 ^ IntKind.u32.bits=4294967296:=by decide
   rw [h32,aex ha,aex (by omega)]
  rw [this];exact IntWalk.u32_in _ (by omega)
 rw [e1,e2];unfold kl gY;rw [IntKind.wrap_u32];omega
theorem X0 (s:List UInt8) (hb:s.length<=aT):NN s=some ((),((((Ak s:Nat):Int),()),())):=by
 have hbig:aT=140737488355328:=rfl;unfold NN;have h:=aF (step:=dq qm) s (fun i (a:Nat)=>(s,((a:Nat):Int),((i:Nat):Int),())) (fun _ x a=>Sum.inl (gY a x)) (fun a=> .inl (s,((a:Nat):Int),(s.length:Int),())) (fun _ a=>a < 4294967296) (a0:=2166136261) (by decide) (fun i x a hx ha=>by
  have hlt:=ai hx;show qm s (a:Int) (i:Int)=_;unfold qm;rw [aC hx,az hx,e9 hx,aK (by omega),DS x ha]; rfl) (fun i x a a' hx ha hf=>by
  simp only [ads] at hf;rw [<- hf]; exact DT a x) (fun a ha=>by
  show qm s (a:Int) (s.length:Int)=_;unfold qm;rw [au rfl]; rfl)
 rw [cr (fun x a=>gY a x)] at h;have h':Lr s 2166136261 0=_:=h;rw [h']; rfl
theorem OG (s:List UInt8):Ak s < 4294967296:=by
 have:∀ (s:List UInt8) (a:Nat),a < 4294967296->s.foldl gY a < 4294967296:=fun s=>by
  induction s with
  | nil=>exact fun a h=>h
  | cons c r ih=>exact fun a _=>ih _ (DT a c)
 exact this s _ (by decide)
theorem XZ (s:List UInt8) (hb:s.length<=aT):OD s=some ((),((((Ak s:Nat):Int),()),())):=by
 have hbig:aT=140737488355328:=rfl;unfold OD;have h:=aF (step:=cV pv) s (fun i (a:Nat)=>(s,((a:Nat):Int),ae s,((i:Nat):Int),())) (fun _ x a=>Sum.inl (gY a x)) (fun a=> .inl (s,((a:Nat):Int),ae s,(s.length:Int),())) (fun _ a=>a < 4294967296) (a0:=2166136261) (by decide) (fun i x a hx ha=>by
  have hlt:=ai hx;show pv s (a:Int) (ae s) (i:Int)=_;unfold pv;rw [aC hx,az hx,e9 hx,aK (by omega),EB x ha]; rfl) (fun i x a a' hx ha hf=>by
  simp only [ads] at hf;rw [<- hf]; exact DT a x) (fun a ha=>by
  show pv s (a:Int) (ae s) (s.length:Int)=_;unfold pv;rw [au rfl]; rfl)
 rw [cr (fun x a=>gY a x)] at h;have h':JN s 2166136261 (ae s) 0=_:=h;rw [h'];have:=OG s;have e:bI .i64 ((Ak s:Nat):Int)=((Ak s:Nat):Int):=IntWalk.i64_in _ (by omega);show some ((),((bI .i64 ((Ak s:Nat):Int),()),()))=_;rw [e]
def ax (s:List UInt8) (n:Int):Int:=cond (aw n 1) 0 (fX ((Ak s:Nat):Int) n)
theorem nh (s:List UInt8) (n:Int) (hb:s.length<=aT):An s n=some ((),((ax s n,()),())):=by
 unfold An ax;rw [X0 s hb];by_cases h:n < 1
 . rw [aJ h]; rfl
 . rw [ay h];have:aq n 0=false:=by
    rw [aeO]; intro hh; rw [e8] at hh; omega
   dsimp only [cond_false,Option.bind_some];rw [this]; rfl
theorem vn (s:List UInt8) (n:Int) (hb:s.length<=aT):H3 s n=some ((),((ax s n,()),())):=by
 unfold H3 ax;rw [XZ s hb];by_cases h:n < 1
 . rw [aJ h]; rfl
 . rw [ay h];have:aq n 0=false:=by
    rw [aeO]; intro hh; rw [e8] at hh; omega
   dsimp only [cond_false,Option.bind_some];rw [this]; rfl
theorem HY (s:List UInt8) {n:Int} (h:1<=n):0<=ax s n/\ax s n < n:=by unfold ax;rw [ay (by omega)];show 0<=((Ak s:Nat):Int).tmod n/\((Ak s:Nat):Int).tmod n < n;rw [aeq (by omega)];exact ⟨Int.emod_nonneg _ (by omega),Int.emod_lt_of_pos _ (by omega)⟩
def jL (xs:List aL) (i:Nat) (x:aL):Bool:=cond (xp x) (cond (decide (0 < i)) (kB (gt ([],0,0,0,0,[],0,0,[],[],[],()) xs ((i:Int) - 1)).1 x.1) true) false
def qM (b:List aL):Bool:=cond (allI (jL b) 0 b) (bL (ae b) 6) false
def uh (b:List aL):Prop:=b.length<=1048576/\∀ a∈b,jq a
theorem IJ (b:List aL) (hb:uh b):Hl (b,())=some ((),((qM b,()),())):=by
 have hbig:aT=140737488355328:=rfl;have hl:=hb.1;unfold Hl;have h:=aI (step:=cV oM) b (fun i (_:Unit)=>(b,ae b,((i:Nat):Int),(b,()),())) (fun i x _=>bif jL b i x then Sum.inl () else .inr (.inr (false,()))) (fun _=> .inl (b,ae b,(b.length:Int),(b,()),())) (a0:=()) (fun i x a hx=>by
  have hlt:=ai hx;show oM b (ae b) (i:Int) (b,())=_;unfold oM jL;rw [aC hx,az hx,aS _ hx];dsimp only [cond_true];rw [T6 x (hb.2 x (ade hx)),aK (by omega)];dsimp only [Option.bind_some];cases xp x with
  | false=>rfl
  | true =>
    by_cases h0:0 < i
    . rw [aJ (show (0:Int) < i by omega),aU (by omega) (by omega),iY hx h0];dsimp only [cond_true,cond_false,Bool.not_true];have e:gt d59 b ((i:Int) - 1)=gt ([],0,0,0,0,[],0,0,[],[],[],()) b ((i:Int) - 1):=rfl;rw [e,ada h0];cases kB (gt ([],0,0,0,0,[],0,0,[],[],[],()) b ((i:Int) - 1)).1 x.1 <;> rfl
    . rw [ay (show ¬ (0:Int) < i by omega),adD h0]; rfl) (fun a=>by
  show oM b (ae b) (b.length:Int) (b,())=_;unfold oM;rw [au rfl]; rfl)
 rw [cT] at h;have h':J6 b (ae b) 0 (b,())=_:=h;dsimp only;rw [h'];unfold qM;cases allI (jL b) 0 b <;> rfl
theorem LH (b:List aL) (hb:uh b):GF (b,())=some ((),((qM b,()),())):=by
 have hbig:aT=140737488355328:=rfl;have hl:=hb.1;unfold GF;have h:=aI (step:=cV pG) b (fun i (_:Unit)=>(b,ae b,((i:Nat):Int),(b,()),())) (fun i x _=>bif jL b i x then Sum.inl () else .inr (.inr (false,()))) (fun _=> .inl (b,ae b,(b.length:Int),(b,()),())) (a0:=()) (fun i x a hx=>by
  have hlt:=ai hx;show pG b (ae b) (i:Int) (b,())=_;unfold pG jL;rw [aC hx,az hx,aS _ hx];dsimp only [cond_true];rw [R4 x (hb.2 x (ade hx)),aK (by omega)];dsimp only [Option.bind_some];cases xp x with
  | false=>rfl
  | true =>
    by_cases h0:0 < i
    . rw [aJ (show (0:Int) < i by omega),aU (by omega) (by omega),iY hx h0];dsimp only [cond_true,cond_false,Bool.not_true];rw [uW];have e:gt d59 b ((i:Int) - 1)=gt ([],0,0,0,0,[],0,0,[],[],[],()) b ((i:Int) - 1):=rfl;rw [e,ada h0];cases kB (gt ([],0,0,0,0,[],0,0,[],[],[],()) b ((i:Int) - 1)).1 x.1 <;> rfl
    . rw [ay (show ¬ (0:Int) < i by omega),adD h0]; rfl) (fun a=>by
  show pG b (ae b) (b.length:Int) (b,())=_;unfold pG;rw [au rfl]; rfl)
 rw [cT] at h;have h':I8 b (ae b) 0 (b,())=_:=h;dsimp only;rw [h'];unfold qM;cases allI (jL b) 0 b <;> rfl
abbrev dG (a b:aL):Bool:=kB a.1 b.1
theorem fx:K8 dG:=OV (fun (a:aL)=>a.1)
abbrev bY:Nat:=1099511627776
theorem N8 (a b:aL):∃ v,Eu a b=some ((),((v,()),()))/\aw v 0=dG a b:=by
 unfold Eu;cases h:kB a.1 b.1 with
 | true=>exact ⟨_,rfl,by show _=kB a.1 b.1; rw [h]; rfl⟩
 | false =>
   cases !(Tp a.1 b.1) with
   | true=>exact ⟨_,rfl,by show _=kB a.1 b.1; rw [h]; rfl⟩
   | false=>exact ⟨_,rfl,by show _=kB a.1 b.1; rw [h]; rfl⟩
theorem SD (P S:List aL) (x:aL) (b i:Int):∀ (n:Nat) (A1 A2:List aL),A1.length=n->(P ++ (A1 ++ x :: A2) ++ S).length<=bY ->
 ∃ B1 B2 j',A1=B1 ++ B2/\(∀ y∈B2,dG x y=true)/\(∀ C y,B1=C ++ [y]->dG x y=false) /\
  Ay (P ++ (A1 ++ x :: A2) ++ S) (P.length:Int) b () i ((P.length + A1.length:Nat):Int)=some (.inl (P ++ (B1 ++ x :: (B2 ++ A2)) ++ S,(P.length:Int),b,(),i,j',())):=by
 intro n;induction n with
 | zero => intro A1 A2 hn hl;have:A1=[]:=adl.1 hn;subst this;refine ⟨[],[],((P.length + 0:Nat):Int),rfl,fun y hy=>by simp at hy,fun C y h=>by simp at h,aN _ ?_⟩;show pf (P ++ ([] ++ x :: A2) ++ S) (P.length:Int) b () i ((P.length + 0:Nat):Int)=_;unfold pf;rw [ay (by omega)];rfl
 | succ n ih =>
   intro A1 A2 hn hl;obtain ⟨B,y,rfl⟩:=vk (a:=A1) (fun h=>by subst h; simp at hn);have hB:B.length=n:=by simpa using hn
   simp only [bY,ac4,ac9,adk] at hl;have e0:P ++ (B ++ [y] ++ x :: A2) ++ S=(P ++ B) ++ y :: x :: (A2 ++ S):=by simp
   have e1:P ++ (B ++ [y] ++ x :: A2) ++ S=(P ++ B ++ [y]) ++ x :: (A2 ++ S):=by simp
   have hj:((P.length + (B ++ [y]).length:Nat):Int)=((P ++ B ++ [y]).length:Int):=by simp <;> omega
   have hj1:aO .i64 ((P.length + (B ++ [y]).length:Nat):Int) 1=((P ++ B).length:Int):=by rw [aU (by simp <;> omega) (by simp <;> omega)]; simp <;> omega
   obtain ⟨v,hv1,hv2⟩:=N8 x y
   have hstep:pf (P ++ (B ++ [y] ++ x :: A2) ++ S) (P.length:Int) b () i ((P.length + (B ++ [y]).length:Nat):Int) =
    cond (dG x y) (some (.inl (P ++ (B ++ x :: (y :: A2)) ++ S,(P.length:Int),b,(),i,((P.length + B.length:Nat):Int),()))) (some (.inr (.inl (P ++ (B ++ [y] ++ x :: A2) ++ S,(P.length:Int),b,(),i,((P.length + (B ++ [y]).length:Nat):Int),())))):=by
    unfold pf;have i1:aR ((P.length + (B ++ [y]).length:Nat):Int) (P ++ (B ++ [y] ++ x :: A2) ++ S)=true:=by rw [e1]; exact iL _ _ _ hj
    have i2:aR ((P ++ B).length:Int) (P ++ (B ++ [y] ++ x :: A2) ++ S)=true:=by rw [e0]; exact iL _ _ _ rfl
    have a1:yT ((P.length + (B ++ [y]).length:Nat):Int) (P ++ (B ++ [y] ++ x :: A2) ++ S) ((P.length + (B ++ [y]).length:Nat):Int)=true:=by rw [e1]; exact kA _ _ _ hj
    have a2:yT ((P ++ B).length:Int) (P ++ (B ++ [y] ++ x :: A2) ++ S) ((P ++ B).length:Int)=true:=by rw [e0]; exact kA _ _ _ rfl
    have t1:gt d59 (P ++ (B ++ [y] ++ x :: A2) ++ S) ((P.length + (B ++ [y]).length:Nat):Int)=x:=by rw [e1]; exact xi _ _ _ _ hj
    have t2:gt d59 (P ++ (B ++ [y] ++ x :: A2) ++ S) ((P ++ B).length:Int)=y:=by rw [e0]; exact xi _ _ _ _ rfl
    rw [aJ (by simp <;> omega)];dsimp only [cond_true];rw [hj1,i1,i2,t1,t2,a1,a2,hv1];dsimp only [cond_true,Option.bind_some];rw [hv2];cases dG x y with
    | false=>rfl
    | true =>
      have sw:IB d59 (P ++ (B ++ [y] ++ x :: A2) ++ S) ((P.length + (B ++ [y]).length:Nat):Int) ((P ++ B).length:Int)=P ++ (B ++ x :: (y :: A2)) ++ S:=by
       rw [e0];unfold IB;have:=yW d59 (P ++ B) y x (A2 ++ S);have k1:((P.length + (B ++ [y]).length:Nat):Int).toNat=(P ++ B).length + 1:=by simp <;> omega
       rw [k1,adP,this];simp
      rw [sw];have k2:((P ++ B).length:Int)=((P.length + B.length:Nat):Int):=by simp
      rw [k2]
   cases hc:dG x y with
   | false => rw [hc] at hstep;refine ⟨B ++ [y],[],((P.length + (B ++ [y]).length:Nat):Int),by simp,fun y hy=>by simp at hy,fun C z h => ?_,aN _ hstep⟩;have:=List.append_inj' h rfl;have h2:=this.2;simp only [afp,aej] at h2;rw [<- h2]; exact hc
   | true =>
     rw [hc] at hstep;obtain ⟨B1,B2,j',q1,q2,q3,q4⟩:=ih B (y :: A2) hB (by simp [bY]; omega);refine ⟨B1,B2 ++ [y],j',by rw [q1]; simp,fun z hz => ?_,q3,aV _ hstep ?_⟩
     . rcases aeA.1 hz with hz | hz
       . exact q2 z hz
       . simp only [aev] at hz; subst hz; exact hc
     . have:B2 ++ [y] ++ A2=B2 ++ y :: A2:=by simp
       rw [this];exact q4
theorem MS (P S:List aL) (b:Int):∀ (n:Nat) (A R:List aL),R.length=n->l7 dG A->b=((P.length + A.length + R.length:Nat):Int)->(P ++ (A ++ R) ++ S).length<=bY ->
 ∃ M,l7 dG M/\eL dG (A ++ R) M/\pV (P ++ (A ++ R) ++ S) (P.length:Int) b () ((P.length + A.length:Nat):Int)=some (.inl (P ++ M ++ S,(P.length:Int),b,(),b,())):=by
 intro n;induction n with
 | zero =>
   intro A R hn hA hb hl;have:R=[]:=adl.1 hn;subst this;have hb':b=((P.length + A.length:Nat):Int):=by simpa using hb
   refine ⟨A,hA,by rw [adE]; exact eL.refl _,aN _ ?_⟩;show l6 (P ++ (A ++ []) ++ S) (P.length:Int) b () ((P.length + A.length:Nat):Int)=_;unfold l6;rw [ay (by omega),adE,<- hb'];rfl
 | succ n ih =>
   intro A R hn hA hb hl;cases R with
   | nil=>simp at hn
   | cons x R =>
     have hR:R.length=n:=by simpa using hn
     have hl':=hl;simp only [bY,ac4,ac9] at hl';have e0:P ++ (A ++ x :: R) ++ S=P ++ (A ++ x :: []) ++ (R ++ S):=by simp
     obtain ⟨B1,B2,j',q1,q2,q3,q4⟩:=SD P (R ++ S) x b ((P.length + A.length:Nat):Int) A.length A [] rfl (by rw [<- e0]; exact hl);rw [adE,<- e0] at q4;subst q1;have hs:=cM.1 hA;have hlast:∀ y∈B1,dG x y=false:=fun y hy=>by
      obtain ⟨C,z,rfl⟩:=vk (a:=B1) (fun h=>by subst h; simp at hy);have hz:=q3 C z rfl;rcases aeA.1 hy with hy | hy
      . exact fx.le_trans ((cM.1 hs.1).2.2 y hy z (by simp)) hz
      . simp only [aev] at hy; subst hy; exact hz
     have hsrt:l7 dG (B1 ++ x :: B2):=by
      refine cM.2 ⟨hs.1,afa.2 ⟨fun y hy => ?_,hs.2.1⟩,fun y hy z hz => ?_⟩
      . cases h:dG y x with
        | false=>rfl
        | true => have:=fx.trans _ _ _ h (q2 y hy);rw [fx.irr] at this;simp at this
      . rcases adg.1 hz with rfl | hz
        . exact hlast y hy
        . exact hs.2.2 y hy z hz
     have hstb:eL dG (B1 ++ B2 ++ x :: R) (B1 ++ x :: B2 ++ R):=by
      have h1:eL dG (B2 ++ [x]) ([x] ++ B2):=eL.swap fx fun y hy z hz=>by simp only [aev] at hz; subst hz; exact q2 y hy
      have h2:=((eL.refl B1).append h1).append (eL.refl R);simpa using h2
     obtain ⟨M,m1,m2,m3⟩:=ih (B1 ++ x :: B2) R hR hsrt (by rw [hb]; simp only [ac4,ac9]; omega) (by simp only [bY,ac4,ac9] at hl' ⊢; omega);refine ⟨M,m1,hstb.trans m2,aV _ (x':=(P ++ (B1 ++ x :: B2 ++ R) ++ S,(P.length:Int),b,(),((P.length + (B1 ++ x :: B2).length:Nat):Int),())) ?_ m3⟩;show l6 (P ++ (B1 ++ B2 ++ x :: R) ++ S) (P.length:Int) b () ((P.length + (B1 ++ B2).length:Nat):Int)=_;unfold l6;rw [aJ (by rw [hb]; simp only [ac4,ac9]; omega),q4];dsimp only [cond_true,Option.bind_some,Sum.elim_inl];have k1:aj .i64 ((P.length + (B1 ++ B2).length:Nat):Int) 1=((P.length + (B1 ++ x :: B2).length:Nat):Int):=by rw [aA (by omega) (by simp only [ac4] at *; omega)];simp only [ac4,ac9]; omega
     rw [k1];simp
theorem Ro (P L S:List aL) (hl:(P ++ L ++ S).length<=bY):∃ M,l7 dG M/\eL dG L M/\Ih (P ++ L ++ S) (P.length:Int) ((P.length + L.length:Nat):Int)=some (((P ++ M ++ S,()),()),()):=by
 have hl':=hl;simp only [bY,ac4] at hl';unfold Ih;have k0:aj .i64 (P.length:Int) 1=((P.length + 1:Nat):Int):=by rw [aA (by omega) (by omega)]; omega
 rw [k0];cases L with
 | nil => refine ⟨[],Gj,eL.refl _,?_⟩;have:pV (P ++ [] ++ S) (P.length:Int) ((P.length + 0:Nat):Int) () ((P.length + 1:Nat):Int)=some (.inl (P ++ [] ++ S,(P.length:Int),((P.length + 0:Nat):Int),(),((P.length + 1:Nat):Int),())):=aN _ (by show l6 (P ++ [] ++ S) (P.length:Int) ((P.length + 0:Nat):Int) () ((P.length + 1:Nat):Int)=_;unfold l6;rw [ay (by omega)]; rfl);show Option.bind (pV (P ++ [] ++ S) (P.length:Int) ((P.length + 0:Nat):Int) () ((P.length + 1:Nat):Int)) _=_;rw [this];rfl
 | cons x L => obtain ⟨M,m1,m2,m3⟩:=MS P S ((P.length + (x :: L).length:Nat):Int) L.length [x] L rfl (M8 x) (by simp only [ac9,adk]; omega) (by simpa using hl);refine ⟨M,m1,m2,?_⟩;have m3':pV (P ++ x :: L ++ S) (P.length:Int) ((P.length + (x :: L).length:Nat):Int) () ((P.length + 1:Nat):Int)=_:=m3;rw [m3'];rfl
theorem JW {α:Type} (d:α) (u:List α) (p:α) (v:List α) (q:α) (w:List α):kO d (u ++ p :: (v ++ q :: w)) u.length (u.length + (1 + v.length))=u ++ q :: (v ++ p :: w):=by
 unfold kO;have h1:(u ++ p :: (v ++ q :: w)).getD u.length d=p:=by simp [List.getD]
 have h2:(u ++ p :: (v ++ q :: w)).getD (u.length + (1 + v.length)) d=q:=by rw [List.getD,adV (by omega),show u.length + (1 + v.length) - u.length=v.length + 1 by omega,ad2,adV (by omega),aeh];rfl
 rw [h1,h2,ae4,if_neg (by omega),aeh,ae4,if_neg (by omega),show u.length + (1 + v.length) - u.length=v.length + 1 by omega];show u ++ (q :: (v ++ q :: w)).set (v.length + 1) p=_;rw [List.set_cons_succ,ae4,if_neg (by omega),aeh];rfl
theorem J8 (P Y S:List aL):∀ (n:Nat) (Z1 X2 X1 Z2:List aL),X2.length=n->Z2.length=n->X1.length=Z1.length->(P ++ (Z1 ++ X2) ++ Y ++ (X1 ++ Z2) ++ S).length<=bY ->
 xE (P ++ (Z1 ++ X2) ++ Y ++ (X1 ++ Z2) ++ S) (P.length:Int) ((P.length + (Z1.length + n) + Y.length:Nat):Int) ((Z1.length + n:Nat):Int) (Z1.length:Int) =
  some (.inl (P ++ (Z1 ++ Z2) ++ Y ++ (X1 ++ X2) ++ S,(P.length:Int),((P.length + (Z1.length + n) + Y.length:Nat):Int),((Z1.length + n:Nat):Int),((Z1.length + n:Nat):Int),())):=by
 intro n;induction n with
 | zero => intro Z1 X2 X1 Z2 h1 h2 h3 hl;have e1:X2=[]:=adl.1 h1;have e2:Z2=[]:=adl.1 h2;subst e1; subst e2;refine aN _ ?_;show pX (P ++ (Z1 ++ []) ++ Y ++ (X1 ++ []) ++ S) (P.length:Int) ((P.length + (Z1.length + 0) + Y.length:Nat):Int) ((Z1.length + 0:Nat):Int) (Z1.length:Int)=_;unfold pX;rw [ay (by omega)];rfl
 | succ n ih =>
   intro Z1 X2 X1 Z2 h1 h2 h3 hl;cases X2 with
   | nil=>simp at h1
   | cons x X2 =>
   cases Z2 with
   | nil=>simp at h2
   | cons z Z2 =>
   have hx:X2.length=n:=by simpa using h1
   have hz:Z2.length=n:=by simpa using h2
   have hl':=hl;simp only [bY,ac4,ac9] at hl';have ih':=ih (Z1 ++ [z]) X2 (X1 ++ [x]) Z2 hx hz (by simp [h3]) (by simp only [bY,ac4,ac9,adk]; omega);have e1:((P.length + ((Z1 ++ [z]).length + n) + Y.length:Nat):Int)=((P.length + (Z1.length + (n + 1)) + Y.length:Nat):Int):=by simp only [ac4,ac9,adk]; omega
   have e2:(((Z1 ++ [z]).length + n:Nat):Int)=((Z1.length + (n + 1):Nat):Int):=by simp only [ac4,ac9,adk]; omega
   have e3:(((Z1 ++ [z]).length:Nat):Int)=aj .i64 (Z1.length:Int) 1:=by rw [aA (by omega) (by omega)]; simp
   rw [e1,e2,e3] at ih';have ef:P ++ (Z1 ++ [z] ++ Z2) ++ Y ++ (X1 ++ [x] ++ X2) ++ S=P ++ (Z1 ++ z :: Z2) ++ Y ++ (X1 ++ x :: X2) ++ S:=by simp
   rw [ef] at ih';refine aV _ ?_ ih';show pX (P ++ (Z1 ++ x :: X2) ++ Y ++ (X1 ++ z :: Z2) ++ S) (P.length:Int) ((P.length + (Z1.length + (n + 1)) + Y.length:Nat):Int) ((Z1.length + (n + 1):Nat):Int) (Z1.length:Int)=_;have d1:P ++ (Z1 ++ x :: X2) ++ Y ++ (X1 ++ z :: Z2) ++ S=(P ++ Z1) ++ x :: ((X2 ++ Y ++ X1) ++ z :: (Z2 ++ S)):=by simp
   have d2:P ++ (Z1 ++ x :: X2) ++ Y ++ (X1 ++ z :: Z2) ++ S=(P ++ Z1 ++ x :: (X2 ++ Y ++ X1)) ++ z :: (Z2 ++ S):=by simp
   have k1:aj .i64 ((P.length + (Z1.length + (n + 1)) + Y.length:Nat):Int) (Z1.length:Int)=((P ++ Z1 ++ x :: (X2 ++ Y ++ X1)).length:Int):=by rw [aA (by omega) (by omega)];simp only [ac4,ac9]; omega
   have k2:aj .i64 (P.length:Int) (Z1.length:Int)=((P ++ Z1).length:Int):=by rw [aA (by omega) (by omega)];simp only [ac4]; omega
   unfold pX;rw [aJ (by omega),k1,k2];dsimp only [cond_true];have i1:aR ((P ++ Z1 ++ x :: (X2 ++ Y ++ X1)).length:Int) (P ++ (Z1 ++ x :: X2) ++ Y ++ (X1 ++ z :: Z2) ++ S)=true:=by rw [d2]; exact iL _ _ _ rfl
   have i2:aR ((P ++ Z1).length:Int) (P ++ (Z1 ++ x :: X2) ++ Y ++ (X1 ++ z :: Z2) ++ S)=true:=by rw [d1]; exact iL _ _ _ rfl
   have a1:yT ((P ++ Z1 ++ x :: (X2 ++ Y ++ X1)).length:Int) (P ++ (Z1 ++ x :: X2) ++ Y ++ (X1 ++ z :: Z2) ++ S) ((P ++ Z1 ++ x :: (X2 ++ Y ++ X1)).length:Int)=true:=by rw [d2]; exact kA _ _ _ rfl
   have a2:yT ((P ++ Z1).length:Int) (P ++ (Z1 ++ x :: X2) ++ Y ++ (X1 ++ z :: Z2) ++ S) ((P ++ Z1).length:Int)=true:=by rw [d1]; exact kA _ _ _ rfl
   rw [i1,i2,a1,a2];dsimp only [cond_true];have sw:IB d59 (P ++ (Z1 ++ x :: X2) ++ Y ++ (X1 ++ z :: Z2) ++ S) ((P ++ Z1).length:Int) ((P ++ Z1 ++ x :: (X2 ++ Y ++ X1)).length:Int)=P ++ (Z1 ++ [z] ++ X2) ++ Y ++ (X1 ++ [x] ++ Z2) ++ S:=by
    unfold IB;rw [adP,adP,d1];have k3:(P ++ Z1 ++ x :: (X2 ++ Y ++ X1)).length=(P ++ Z1).length + (1 + (X2 ++ Y ++ X1).length):=by simp only [ac4,ac9]; omega
    rw [k3,JW];simp
   rw [sw]
theorem KD (P X Y Z S:List aL) (hx:X.length=Z.length) (hl:(P ++ X ++ Y ++ Z ++ S).length<=bY):Ab (P ++ X ++ Y ++ Z ++ S) (P.length:Int) ((P.length + X.length + Y.length:Nat):Int) (X.length:Int)=some (((P ++ Z ++ Y ++ X ++ S,()),()),()):=by unfold Ab;have h:=J8 P Y S X.length [] X [] Z rfl hx.symm rfl hl;simp only [aee,adk,adA] at h;have h':xE (P ++ X ++ Y ++ Z ++ S) (P.length:Int) ((P.length + X.length + Y.length:Nat):Int) (X.length:Int) 0=_:=h;rw [h'];rfl
theorem Md:∀ (n:Nat) (P X Y S:List aL) (m:Nat),X.length + Y.length=n->0 < X.length->0 < Y.length->m=P.length + X.length->(P ++ X ++ Y ++ S).length<=bY ->
 ∃ (t:List aL) (i:Nat),i<=m/\i<=n/\IZ (P ++ X ++ Y ++ S) (m:Int) () (X.length:Int) (Y.length:Int)=some (.inl (t,(m:Int),(),(i:Int),(i:Int),())) /\
  Ab t ((m - i:Nat):Int) (m:Int) (i:Int)=some (((P ++ Y ++ X ++ S,()),()),()):=by
 intro n;induction n using Nat.strongRecOn with
 | _ n ih =>
 intro P X Y S m hn hX hY hm hl;subst hm;have hl':=hl;simp only [bY,ac4] at hl';rcases afu X.length Y.length with h | h | h
 . -- the second is longer: its end comes ahead
   obtain ⟨Y1,Y2,rfl,hY2⟩:∃ Y1 Y2,Y=Y1 ++ Y2/\Y2.length=X.length:=⟨Y.take (Y.length - X.length),Y.drop (Y.length - X.length),(adT _ _).symm,by rw [adZ]; omega⟩;simp only [ac4] at h hn hl' hY;obtain ⟨t,i,i1,i2,q1,q2⟩:=ih (Y2.length + Y1.length) (by omega) P Y2 Y1 (X ++ S) (P.length + X.length) rfl (by omega) (by omega) (by omega) (by simp only [bY,ac4]; omega);refine ⟨t,i,i1,by omega,aV _ ?_ q1,by rw [q2]; simp⟩;show nv (P ++ X ++ (Y1 ++ Y2) ++ S) ((P.length + X.length:Nat):Int) () (X.length:Int) ((Y1 ++ Y2).length:Int)=_;have hs:=KD P X Y1 Y2 S (by omega) (by simp only [bY,ac4]; omega);have e0:P ++ X ++ (Y1 ++ Y2) ++ S=P ++ X ++ Y1 ++ Y2 ++ S:=by simp
   have k0:aq (X.length:Int) ((Y1 ++ Y2).length:Int)=false:=by rw [aeO]; intro hh; rw [e8] at hh; simp only [ac4] at hh; omega
   have k1:aO .i64 ((P.length + X.length:Nat):Int) (X.length:Int)=(P.length:Int):=by rw [aU (by omega) (by omega)]; omega
   have k2:aj .i64 ((P.length + X.length:Nat):Int) ((Y1 ++ Y2).length:Int)=((P.length + X.length + (Y1 ++ Y2).length:Nat):Int):=by rw [aA (by omega) (by simp only [ac4]; omega)]; omega
   have k3:aO .i64 ((P.length + X.length + (Y1 ++ Y2).length:Nat):Int) (X.length:Int)=((P.length + X.length + Y1.length:Nat):Int):=by rw [aU (by omega) (by simp only [ac4]; omega)]; simp only [ac4]; omega
   have k4:aO .i64 ((Y1 ++ Y2).length:Int) (X.length:Int)=(Y1.length:Int):=by rw [aU (by omega) (by simp only [ac4]; omega)]; simp only [ac4]; omega
   unfold nv;rw [k0,ay (by simp only [ac4]; omega)];dsimp only [cond_true,cond_false,Bool.not_false];rw [k1,k2,k3,k4,e0,hs];dsimp only [Option.bind_some];rw [hY2];simp
 . -- alike
   refine ⟨P ++ X ++ Y ++ S,X.length,by omega,by omega,aN _ ?_,?_⟩
   . show nv (P ++ X ++ Y ++ S) ((P.length + X.length:Nat):Int) () (X.length:Int) (Y.length:Int)=_;unfold nv;rw [<- h,bk];rfl
   . have hs:=KD P X [] Y S h (by simp only [bY,ac4,adk]; omega);rw [adE,adE,adk,adO] at hs;rw [show P.length + X.length - X.length=P.length by omega];exact hs
 . -- the first is longer: its begin goes behind
   obtain ⟨X1,X2,rfl,hX1⟩:∃ X1 X2,X=X1 ++ X2/\X1.length=Y.length:=⟨X.take Y.length,X.drop Y.length,(adT _ _).symm,by rw [adJ]; omega⟩;simp only [ac4] at h hn hl' hX;obtain ⟨t,i,i1,i2,q1,q2⟩:=ih (X2.length + X1.length) (by omega) (P ++ Y) X2 X1 S (P.length + (X1 ++ X2).length) rfl (by omega) (by omega) (by simp only [ac4]; omega) (by simp only [bY,ac4]; omega);refine ⟨t,i,i1,by omega,aV _ ?_ q1,by rw [q2]; simp⟩;show nv (P ++ (X1 ++ X2) ++ Y ++ S) ((P.length + (X1 ++ X2).length:Nat):Int) () ((X1 ++ X2).length:Int) (Y.length:Int)=_;have hs:=KD P X1 X2 Y S hX1 (by simp only [bY,ac4]; omega);have e0:P ++ (X1 ++ X2) ++ Y ++ S=P ++ X1 ++ X2 ++ Y ++ S:=by simp
   have k0:aq ((X1 ++ X2).length:Int) (Y.length:Int)=false:=by rw [aeO]; intro hh; rw [e8] at hh; simp only [ac4] at hh; omega
   have k1:aO .i64 ((P.length + (X1 ++ X2).length:Nat):Int) ((X1 ++ X2).length:Int)=(P.length:Int):=by rw [aU (by omega) (by simp only [ac4]; omega)]; omega
   have k3:((P.length + (X1 ++ X2).length:Nat):Int)=((P.length + X1.length + X2.length:Nat):Int):=by simp only [ac4]; omega
   have k4:aO .i64 ((X1 ++ X2).length:Int) (Y.length:Int)=(X2.length:Int):=by rw [aU (by omega) (by simp only [ac4]; omega)]; simp only [ac4]; omega
   unfold nv;rw [k0,aJ (by simp only [ac4]; omega)];dsimp only [cond_true,cond_false,Bool.not_false];rw [k1,k4,e0,<- hX1];have hs':Ab (P ++ X1 ++ X2 ++ Y ++ S) (P.length:Int) ((P.length + (X1 ++ X2).length:Nat):Int) (X1.length:Int)=some (((P ++ Y ++ X2 ++ X1 ++ S,()),()),()):=by rw [k3]; exact hs
   rw [hs'];dsimp only [Option.bind_some];simp
theorem Xz (P X Y S:List aL) (hX:0 < X.length) (hY:0 < Y.length) (hl:(P ++ X ++ Y ++ S).length<=bY) :
 Bw (P ++ X ++ Y ++ S) (P.length:Int) ((P.length + X.length:Nat):Int) ((P.length + X.length + Y.length:Nat):Int)=some (((P ++ Y ++ X ++ S,()),()),()):=by
 have hl':=hl;simp only [bY,ac4] at hl';obtain ⟨t,i,i1,i2,q1,q2⟩:=Md (X.length + Y.length) P X Y S (P.length + X.length) rfl hX hY rfl hl;unfold Bw;have k1:aO .i64 ((P.length + X.length:Nat):Int) (P.length:Int)=(X.length:Int):=by rw [aU (by omega) (by omega)]; omega
 have k2:aO .i64 ((P.length + X.length + Y.length:Nat):Int) ((P.length + X.length:Nat):Int)=(Y.length:Int):=by rw [aU (by omega) (by omega)]; omega
 rw [k1,k2,q1];dsimp only [Option.bind_some,Sum.elim_inl];have k3:aO .i64 ((P.length + X.length:Nat):Int) (i:Int)=((P.length + X.length - i:Nat):Int):=by rw [aU (by omega) (by omega)]; omega
 rw [k3,q2];rfl
theorem Kc (P S:List aL) (x:aL) (i:Nat):∀ (n:Nat) (D U:List aL),U.length=n->i=P.length + D.length + U.length + 1->(P ++ (D ++ x :: U) ++ S).length<=bY ->
 ∃ k',xm (P ++ (D ++ x :: U) ++ S) (i:Int) ((P.length + D.length:Nat):Int)=some (.inl (P ++ (D ++ U ++ [x]) ++ S,(i:Int),k',())):=by
 intro n;induction n with
 | zero =>
   intro D U hn hi hl;have:U=[]:=adl.1 hn;subst this;simp only [adk] at hi;simp only [bY,ac4,ac9] at hl;refine ⟨((P.length + D.length:Nat):Int),aN _ ?_⟩;show oT (P ++ (D ++ [x]) ++ S) (i:Int) ((P.length + D.length:Nat):Int)=_;unfold oT;have k1:aO .i64 (i:Int) 1=((P.length + D.length:Nat):Int):=by rw [aU (by omega) (by omega)]; omega
   rw [k1,ay (by omega),adE];rfl
 | succ n ih =>
   intro D U hn hi hl;cases U with
   | nil=>simp at hn
   | cons u U =>
     have hU:U.length=n:=by simpa using hn
     simp only [ac9] at hi;have hl':=hl;simp only [bY,ac4,ac9] at hl';obtain ⟨k',hk⟩:=ih (D ++ [u]) U hU (by simp only [ac4,ac9,adk]; omega) (by simp only [bY,ac4,ac9,adk]; omega);refine ⟨k',?_⟩;have ef:P ++ (D ++ [u] ++ U ++ [x]) ++ S=P ++ (D ++ u :: U ++ [x]) ++ S:=by simp
     rw [ef] at hk;refine aV _ ?_ hk;show oT (P ++ (D ++ x :: u :: U) ++ S) (i:Int) ((P.length + D.length:Nat):Int)=_;have d1:P ++ (D ++ x :: u :: U) ++ S=(P ++ D) ++ x :: u :: (U ++ S):=by simp
     have d2:P ++ (D ++ x :: u :: U) ++ S=(P ++ D ++ [x]) ++ u :: (U ++ S):=by simp
     have k1:aO .i64 (i:Int) 1=((P.length + D.length + U.length + 1:Nat):Int):=by rw [aU (by omega) (by omega)]; omega
     have k2:((P.length + D.length:Nat):Int)=((P ++ D).length:Int):=by simp
     have k3:aj .i64 ((P ++ D).length:Int) 1=((P ++ D ++ [x]).length:Int):=by rw [aA (by omega) (by simp only [ac4]; omega)]; simp only [ac4,ac9,adk]; omega
     unfold oT;rw [k1,aJ (by omega),k2,k3];dsimp only [cond_true];have i1:aR ((P ++ D ++ [x]).length:Int) (P ++ (D ++ x :: u :: U) ++ S)=true:=by rw [d2]; exact iL _ _ _ rfl
     have i2:aR ((P ++ D).length:Int) (P ++ (D ++ x :: u :: U) ++ S)=true:=by rw [d1]; exact iL _ _ _ rfl
     have a1:yT ((P ++ D ++ [x]).length:Int) (P ++ (D ++ x :: u :: U) ++ S) ((P ++ D ++ [x]).length:Int)=true:=by rw [d2]; exact kA _ _ _ rfl
     have a2:yT ((P ++ D).length:Int) (P ++ (D ++ x :: u :: U) ++ S) ((P ++ D).length:Int)=true:=by rw [d1]; exact kA _ _ _ rfl
     rw [i1,i2,a1,a2];dsimp only [cond_true];have sw:IB d59 (P ++ (D ++ x :: u :: U) ++ S) ((P ++ D).length:Int) ((P ++ D ++ [x]).length:Int)=P ++ (D ++ [u] ++ x :: U) ++ S:=by
      unfold IB;have e1:(P ++ D ++ [x]).length=(P ++ D).length + 1:=by simp only [ac4,ac9,adk]
      rw [adP,adP,e1,d1,Ej];simp
     rw [sw];have k4:((P ++ D ++ [x]).length:Int)=((P.length + (D ++ [u]).length:Nat):Int):=by simp only [ac4,ac9,adk]; omega
     rw [k4]
theorem Jo (P S:List aL) (y:aL):∀ (n:Nat) (D U:List aL),D.length=n->(P ++ (D ++ y :: U) ++ S).length<=bY ->
 ∃ k',yk (P ++ (D ++ y :: U) ++ S) (P.length:Int) ((P.length + D.length:Nat):Int)=some (.inl (P ++ (y :: (D ++ U)) ++ S,(P.length:Int),k',())):=by
 intro n;induction n with
 | zero => intro D U hn hl;have:D=[]:=adl.1 hn;subst this;refine ⟨((P.length + 0:Nat):Int),aN _ ?_⟩;show pR (P ++ ([] ++ y :: U) ++ S) (P.length:Int) ((P.length + 0:Nat):Int)=_;unfold pR;rw [ay (by omega)];rfl
 | succ n ih =>
   intro D U hn hl;obtain ⟨B,u,rfl⟩:=vk (a:=D) (fun h=>by subst h; simp at hn);have hB:B.length=n:=by simpa using hn
   have hl':=hl;simp only [bY,ac4,ac9,adk] at hl';obtain ⟨k',hk⟩:=ih B (u :: U) hB (by simp only [bY,ac4,ac9]; omega);refine ⟨k',?_⟩;have ef:P ++ (y :: (B ++ u :: U)) ++ S=P ++ (y :: (B ++ [u] ++ U)) ++ S:=by simp
   rw [ef] at hk;refine aV _ ?_ hk;show pR (P ++ (B ++ [u] ++ y :: U) ++ S) (P.length:Int) ((P.length + (B ++ [u]).length:Nat):Int)=_;have d1:P ++ (B ++ [u] ++ y :: U) ++ S=(P ++ B) ++ u :: y :: (U ++ S):=by simp
   have d2:P ++ (B ++ [u] ++ y :: U) ++ S=(P ++ B ++ [u]) ++ y :: (U ++ S):=by simp
   have k1:aO .i64 ((P.length + (B ++ [u]).length:Nat):Int) 1=((P ++ B).length:Int):=by rw [aU (by simp only [ac4,ac9,adk]; omega) (by simp only [ac4,ac9,adk]; omega)];simp only [ac4,ac9,adk]; omega
   have k2:((P.length + (B ++ [u]).length:Nat):Int)=((P ++ B ++ [u]).length:Int):=by simp only [ac4,ac9,adk]; omega
   unfold pR;rw [k1,aJ (by simp only [ac4,ac9,adk]; omega),k2];dsimp only [cond_true];have i1:aR ((P ++ B ++ [u]).length:Int) (P ++ (B ++ [u] ++ y :: U) ++ S)=true:=by rw [d2]; exact iL _ _ _ rfl
   have i2:aR ((P ++ B).length:Int) (P ++ (B ++ [u] ++ y :: U) ++ S)=true:=by rw [d1]; exact iL _ _ _ rfl
   have a1:yT ((P ++ B ++ [u]).length:Int) (P ++ (B ++ [u] ++ y :: U) ++ S) ((P ++ B ++ [u]).length:Int)=true:=by rw [d2]; exact kA _ _ _ rfl
   have a2:yT ((P ++ B).length:Int) (P ++ (B ++ [u] ++ y :: U) ++ S) ((P ++ B).length:Int)=true:=by rw [d1]; exact kA _ _ _ rfl
   rw [i1,i2,a1,a2];dsimp only [cond_true];have sw:IB d59 (P ++ (B ++ [u] ++ y :: U) ++ S) ((P ++ B ++ [u]).length:Int) ((P ++ B).length:Int)=P ++ (B ++ y :: u :: U) ++ S:=by
    unfold IB;have e1:(P ++ B ++ [u]).length=(P ++ B).length + 1:=by simp only [ac4,ac9,adk]
    rw [adP,adP,e1,d1,yW];simp
   rw [sw];have k4:((P ++ B).length:Int)=((P.length + B.length:Nat):Int):=by simp
   rw [k4]
theorem Va (P S:List aL) (x:aL) (R:List aL) (hR:l7 dG R) (hl:(P ++ x :: R ++ S).length<=bY):∃ n,n<=R.length/\(∀ y∈R.take n,dG y x=true)/\(∀ y∈R.drop n,dG y x=false) /\
 wg (P ++ x :: R ++ S) (P.length:Int) () ((P.length + 1:Nat):Int) ((P.length + 1 + R.length:Nat):Int)=some (.inl (P ++ x :: R ++ S,(P.length:Int),(),((P.length + 1 + n:Nat):Int),((P.length + 1 + n:Nat):Int),())):=by
 have hl':=hl;simp only [bY,ac4,ac9] at hl';have e0:P ++ x :: R ++ S=(P ++ [x]) ++ R ++ S:=by simp
 have hpl:(P ++ [x]).length=P.length + 1:=by simp
 have hg:∀ q,q < R.length->(P ++ x :: R ++ S).getD (P.length + 1 + q) d59=R.getD q d59:=fun q hq=>by rw [e0,<- hpl]; exact qU _ _ _ _ hq
 have h:=bsearch (fun (z:(List aL)×Int×Unit×Int×Int×Unit)=>nd z.1 z.2.1 z.2.2.1 z.2.2.2.1 z.2.2.2.2.1) (fun lo hi=>(P ++ x :: R ++ S,(P.length:Int),(),(lo:Int),(hi:Int),())) (fun k=> .inl (P ++ x :: R ++ S,(P.length:Int),(),(k:Int),(k:Int),()))
  (fun h=>dG ((P ++ x :: R ++ S).getD h d59) x) (P.length + 1) (P.length + 1 + R.length) (fun h h' h1 h2 h3 hf=>by
    obtain ⟨q,rfl⟩:∃ q,h=P.length + 1 + q:=⟨h - (P.length + 1),by omega⟩;obtain ⟨q',rfl⟩:∃ q',h'=P.length + 1 + q':=⟨h' - (P.length + 1),by omega⟩;rw [hg q (by omega)] at hf;rw [hg q' (by omega)];rcases fx.neg _ (R.getD q' d59) _ hf with h4 | h4
    . rw [jc fx _ hR (by omega) (by omega)] at h4; simp at h4
    . exact h4) (fun lo hi h1 h2 h3=>by
    show nd (P ++ x :: R ++ S) (P.length:Int) () (lo:Int) (hi:Int)=_;unfold nd;obtain ⟨v,hv1,hv2⟩:=N8 ((P ++ x :: R ++ S).getD ((lo + hi) / 2) d59) x;have hx:gt d59 (P ++ x :: R ++ S) (P.length:Int)=x:=by
     have:P ++ x :: R ++ S=P ++ x :: (R ++ S):=by simp
     rw [this]; exact xi _ _ _ _ rfl
    rw [aJ (by omega),vh (by omega)];dsimp only [cond_true];rw [nD (by simp only [ac4,ac9]; omega),nD (by simp only [ac4,ac9]; omega),AT,hx,hv1];dsimp only [cond_true,Option.bind_some];rw [hv2,aK (by have:aT=140737488355328:=rfl; omega)];cases dG ((P ++ x :: R ++ S).getD ((lo + hi) / 2) d59) x <;> rfl) (fun k h1 h2=>by
    show nd (P ++ x :: R ++ S) (P.length:Int) () (k:Int) (k:Int)=_;unfold nd;rw [ay (by omega)]; rfl)
  _ (P.length + 1) (P.length + 1 + R.length) rfl (ac7 _) (by omega) (ac7 _) (fun h h1 h2=>by omega) (fun h h1 h2=>by omega)
 obtain ⟨k,k1,k2,k3,k4,k5⟩:=h;obtain ⟨n,rfl⟩:∃ n,k=P.length + 1 + n:=⟨k - (P.length + 1),by omega⟩;refine ⟨n,by omega,fun y hy => ?_,fun y hy => ?_,k5⟩
 . obtain ⟨q,q1,q2,rfl⟩:=nN d59 hy;rw [<- hg q q2]; exact k3 _ (by omega) (by omega)
 . obtain ⟨q,q1,q2,rfl⟩:=nz d59 hy;rw [<- hg q q2]; exact k4 _ (by omega) (by omega)
theorem VV (P S:List aL) (y:aL) (L:List aL) (hL:l7 dG L) (hl:(P ++ L ++ y :: S).length<=bY):∃ n,n<=L.length/\(∀ x∈L.take n,dG y x=false)/\(∀ x∈L.drop n,dG y x=true) /\
 v7 (P ++ L ++ y :: S) ((P.length + L.length:Nat):Int) () (P.length:Int) ((P.length + L.length:Nat):Int)=some (.inl (P ++ L ++ y :: S,((P.length + L.length:Nat):Int),(),((P.length + n:Nat):Int),((P.length + n:Nat):Int),())):=by
 have hl':=hl;simp only [bY,ac4,ac9] at hl';have hg:∀ q,q < L.length->(P ++ L ++ y :: S).getD (P.length + q) d59=L.getD q d59:=fun q hq=>qU _ _ _ _ hq
 have h:=bsearch (fun (z:(List aL)×Int×Unit×Int×Int×Unit)=>nj z.1 z.2.1 z.2.2.1 z.2.2.2.1 z.2.2.2.2.1) (fun lo hi=>(P ++ L ++ y :: S,((P.length + L.length:Nat):Int),(),(lo:Int),(hi:Int),())) (fun k=> .inl (P ++ L ++ y :: S,((P.length + L.length:Nat):Int),(),(k:Int),(k:Int),()))
  (fun h=> !dG y ((P ++ L ++ y :: S).getD h d59)) P.length (P.length + L.length) (fun h h' h1 h2 h3 hf=>by
    obtain ⟨q,rfl⟩:∃ q,h=P.length + q:=⟨h - P.length,by omega⟩;obtain ⟨q',rfl⟩:∃ q',h'=P.length + q':=⟨h' - P.length,by omega⟩;rw [hg q (by omega),adK] at hf;rw [hg q' (by omega),adK];exact fx.le_trans (jc fx _ hL (by omega) (by omega)) hf) (fun lo hi h1 h2 h3=>by
    show nj (P ++ L ++ y :: S) ((P.length + L.length:Nat):Int) () (lo:Int) (hi:Int)=_;unfold nj;obtain ⟨v,hv1,hv2⟩:=N8 y ((P ++ L ++ y :: S).getD ((lo + hi) / 2) d59);have hy:gt d59 (P ++ L ++ y :: S) ((P.length + L.length:Nat):Int)=y:=xi _ (P ++ L) _ _ (by simp);rw [aJ (by omega),vh (by omega)];dsimp only [cond_true];rw [nD (by simp only [ac4,ac9]; omega),nD (by simp only [ac4,ac9]; omega),AT d59 _ ((lo + hi) / 2),hy,hv1];dsimp only [cond_true,Option.bind_some];rw [hv2,aK (by have:aT=140737488355328:=rfl; omega)];cases dG y ((P ++ L ++ y :: S).getD ((lo + hi) / 2) d59) <;> rfl) (fun k h1 h2=>by
    show nj (P ++ L ++ y :: S) ((P.length + L.length:Nat):Int) () (k:Int) (k:Int)=_;unfold nj;rw [ay (by omega)]; rfl)
  _ P.length (P.length + L.length) rfl (ac7 _) (by omega) (ac7 _) (fun h h1 h2=>by omega) (fun h h1 h2=>by omega)
 obtain ⟨k,k1,k2,k3,k4,k5⟩:=h;obtain ⟨n,rfl⟩:∃ n,k=P.length + n:=⟨k - P.length,by omega⟩;refine ⟨n,by omega,fun x hx => ?_,fun x hx => ?_,k5⟩
 . obtain ⟨q,q1,q2,rfl⟩:=nN d59 hx;have:=k3 (P.length + q) (by omega) (by omega);rw [hg q q2,adK] at this;exact this
 . obtain ⟨q,q1,q2,rfl⟩:=nz d59 hx;have:=k4 (P.length + q) (by omega) (by omega);rw [hg q q2,afq] at this;exact this
theorem Yp (P L R S:List aL) (hL:l7 dG L) (hR:l7 dG R) (mid lo0 hi0:Nat) (c1:P.length<=lo0) (c2:lo0<=hi0) (c3:hi0<=P.length + L.length) (c4:hi0<=mid) (c5:mid<=lo0 + R.length) (hm:mid<=bY) (b:Int) (hl:(P ++ L ++ R ++ S).length<=bY) :
 ∃ k,lo0<=k/\k<=hi0/\(∀ c,lo0<=c->c < k->dG (R.getD (mid - 1 - c) d59) (L.getD (c - P.length) d59)=false)/\(∀ c,k<=c->c < hi0->dG (R.getD (mid - 1 - c) d59) (L.getD (c - P.length) d59)=true) /\
 lV (P ++ L ++ R ++ S) (P.length:Int) ((P.length + L.length:Nat):Int) b () (mid:Int) ((mid + (P.length + L.length):Nat):Int) (lo0:Int) (hi0:Int) ((mid + (P.length + L.length):Nat) - 1:Int) =
  some (.inl (P ++ L ++ R ++ S,(P.length:Int),((P.length + L.length:Nat):Int),b,(),(mid:Int),((mid + (P.length + L.length):Nat):Int),(k:Int),(k:Int),((mid + (P.length + L.length):Nat) - 1:Int),())):=by
 have hl':=hl;simp only [bY,ac4] at hl' hm;have hgL:∀ c,P.length<=c->c < P.length + L.length->(P ++ L ++ R ++ S).getD c d59=L.getD (c - P.length) d59:=fun c h1 h2=>by have:=qU d59 P L (R ++ S) (q:=c - P.length) (by omega);rw [show P.length + (c - P.length)=c by omega] at this;rw [adB (P ++ L)];exact this
 have hgR:∀ q,q < R.length->(P ++ L ++ R ++ S).getD (P.length + L.length + q) d59=R.getD q d59:=fun q hq=>by have:=qU d59 (P ++ L) R S hq;rw [ac4] at this;exact this
 have h:=bsearch (fun (z:(List aL)×Int×Int×Int×Unit×Int×Int×Int×Int×Int×Unit)=>nc z.1 z.2.1 z.2.2.1 z.2.2.2.1 z.2.2.2.2.1 z.2.2.2.2.2.1 z.2.2.2.2.2.2.1 z.2.2.2.2.2.2.2.1 z.2.2.2.2.2.2.2.2.1 z.2.2.2.2.2.2.2.2.2.1)
  (fun lo hi=>(P ++ L ++ R ++ S,(P.length:Int),((P.length + L.length:Nat):Int),b,(),(mid:Int),((mid + (P.length + L.length):Nat):Int),(lo:Int),(hi:Int),((mid + (P.length + L.length):Nat) - 1:Int),())) (fun k=> .inl (P ++ L ++ R ++ S,(P.length:Int),((P.length + L.length:Nat):Int),b,(),(mid:Int),((mid + (P.length + L.length):Nat):Int),(k:Int),(k:Int),((mid + (P.length + L.length):Nat) - 1:Int),()))
  (fun c=> !dG (R.getD (mid - 1 - c) d59) (L.getD (c - P.length) d59)) lo0 hi0 (fun h h' h1 h2 h3 hf=>by
    rw [adK] at hf ⊢;refine fx.le_trans (b:=R.getD (mid - 1 - h) d59) (fx.le_trans (jc fx _ hL (by omega) (by omega)) hf) (jc fx _ hR (by omega) (by omega))) (fun lo hi h1 h2 h3=>by
    show nc (P ++ L ++ R ++ S) (P.length:Int) ((P.length + L.length:Nat):Int) b () (mid:Int) ((mid + (P.length + L.length):Nat):Int) (lo:Int) (hi:Int) ((mid + (P.length + L.length):Nat) - 1:Int)=_;unfold nc;have hc1:lo<=(lo + hi) / 2:=by omega
    have hc2:(lo + hi) / 2 < hi:=by omega
    rw [vh (by omega)];generalize (lo + hi) / 2=c at hc1 hc2;obtain ⟨v,hv1,hv2⟩:=N8 (R.getD (mid - 1 - c) d59) (L.getD (c - P.length) d59);have k1:aO .i64 ((mid + (P.length + L.length):Nat) - 1:Int) (c:Int)=((P.length + L.length + (mid - 1 - c):Nat):Int):=by rw [aU (by omega) (by omega)]; omega
    rw [aJ (by omega)];dsimp only [cond_true];rw [k1,nD (by simp only [ac4]; omega),nD (by simp only [ac4]; omega),AT,AT,hgR _ (by omega),hgL _ (by omega) (by omega),hv1];dsimp only [cond_true,Option.bind_some];rw [hv2,aK (by have:aT=140737488355328:=rfl; omega)];cases dG (R.getD (mid - 1 - c) d59) (L.getD (c - P.length) d59) <;> rfl) (fun k h1 h2=>by
    show nc (P ++ L ++ R ++ S) (P.length:Int) ((P.length + L.length:Nat):Int) b () (mid:Int) ((mid + (P.length + L.length):Nat):Int) (k:Int) (k:Int) ((mid + (P.length + L.length):Nat) - 1:Int)=_;unfold nc;rw [ay (by omega)]; rfl)
  _ lo0 hi0 rfl (ac7 _) c2 (ac7 _) (fun h h1 h2=>by omega) (fun h h1 h2=>by omega)
 obtain ⟨k,k1,k2,k3,k4,k5⟩:=h;refine ⟨k,k1,k2,fun c h1 h2 => ?_,fun c h1 h2 => ?_,k5⟩
 . have:=k3 c h1 h2;rwa [adK] at this
 . have:=k4 c h1 h2;rwa [afq] at this
noncomputable def Be (n:Nat) (t:List aL) (a m b mid k e:Int):Option ((((List aL)×Unit)×Unit)×Unit) :=
 Option.bind (cond (cond (aw k m) (aw m e) false) (Bw t k m e) (some (((t,()),()),()))) fun y2 =>
 Option.bind (cond (cond (aw a k) (aw k mid) false) (fG n y2.1.1.1 a k mid) (some (((y2.1.1.1,()),()),()))) fun y3 =>
 Option.bind (cond (cond (aw mid e) (aw e b) false) (fG n y3.1.1.1 mid e b) (some (((y3.1.1.1,()),()),()))) fun y4=>some ((y4.1.1,()),())
theorem GR (n:Nat) (t:List aL) (a m b:Int) (h1:aq (aO .i64 m a) 1=false) (h2:aq (aO .i64 b m) 1=false) (mid nn lo hi k:Int) (hmid:bI .i64 (iT .u64 (bI .u64 (aj .i64 a b)) 1)=mid) (hnn:aj .i64 mid m=nn) (hlo:lo=cond (aw mid m) (aO .i64 nn b) a) (hhi:hi=cond (aw mid m) mid m)
 (hs:lV t a m b () mid nn lo hi (aO .i64 nn 1)=some (.inl (t,a,m,b,(),mid,nn,k,k,aO .i64 nn 1,()))) :
 fG (n + 1) t a m b=Be n t a m b mid k (aO .i64 nn k):=by
 rw [qd,h1,h2,hmid];dsimp only [cond_false];rw [hnn];unfold Be;cases hm:aw mid m with
 | true =>
   rw [hm] at hlo hhi;dsimp only [cond_true] at hlo hhi ⊢;rw [<- hlo,<- hhi]
   conv=>lhs; rw [show lV t a m b () hi nn lo hi (aO .i64 nn 1)=some (.inl (t,a,m,b,(),hi,nn,k,k,aO .i64 nn 1,())) by rw [hhi] at hs ⊢; exact hs]
   dsimp only [Option.bind_some,Sum.elim_inl];rw [hhi];cases (cond (aw k m) (aw m (aO .i64 nn k)) false) <;> cases (cond (aw a k) (aw k mid) false) <;> cases (cond (aw mid (aO .i64 nn k)) (aw (aO .i64 nn k) b) false) <;> rfl
 | false => rw [hm] at hlo hhi;dsimp only [cond_false] at hlo hhi ⊢;subst hlo; subst hhi;rw [hs];dsimp only [Option.bind_some,Sum.elim_inl];cases (cond (aw k hi) (aw hi (aO .i64 nn k)) false) <;> cases (cond (aw lo k) (aw k mid) false) <;> cases (cond (aw mid (aO .i64 nn k)) (aw (aO .i64 nn k) b) false) <;> rfl
theorem EY {a b:aL} (h:dG a b=true):dG b a=false:=by
 cases hb:dG b a with
 | false=>rfl
 | true => have:=fx.trans _ _ _ h hb;rw [fx.irr] at this;simp at this
theorem P3:∀ (n:Nat) (P L R S:List aL),L.length + R.length<=n->0 < L.length->0 < R.length->l7 dG L->l7 dG R->(P ++ L ++ R ++ S).length<=bY ->
 ∃ M,l7 dG M/\eL dG (L ++ R) M/\fG n (P ++ L ++ R ++ S) (P.length:Int) ((P.length + L.length:Nat):Int) ((P.length + L.length + R.length:Nat):Int)=some (((P ++ M ++ S,()),()),()):=by
 intro n;induction n with
 | zero=>intro P L R S h1 h2 h3; omega
 | succ n ih =>
 intro P L R S hn hL0 hR0 hL hR hl;have hl':=hl;simp only [bY,ac4] at hl';have km:aO .i64 ((P.length + L.length:Nat):Int) (P.length:Int)=(L.length:Int):=by rw [aU (by omega) (by omega)]; omega
 have kb:aO .i64 ((P.length + L.length + R.length:Nat):Int) ((P.length + L.length:Nat):Int)=(R.length:Int):=by rw [aU (by omega) (by omega)]; omega
 by_cases hA:L.length=1
 . obtain ⟨x,rfl⟩:∃ x,L=[x]:=List.length_eq_one_iff.1 hA;have e0:P ++ [x] ++ R ++ S=P ++ x :: R ++ S:=by simp
   obtain ⟨k,k1,k2,k3,k4⟩:=Va P S x R hR (by rw [<- e0]; exact hl);have hs:=hR;rw [<- adT k R] at hs;have hs:=cM.1 hs;obtain ⟨kk,hk⟩:=Kc P (R.drop k ++ S) x (P.length + 1 + k) (R.take k).length [] (R.take k) rfl (by rw [adJ]; simp only [adk]; omega) (by simp only [bY,ac4,ac9,adJ,adZ,adk] at hl' ⊢; omega);have e1:P ++ ([] ++ x :: R.take k) ++ (R.drop k ++ S)=P ++ x :: R ++ S:=by have:R.take k ++ R.drop k=R:=adT k R;simp only [aee,adB,afK];rw [<- adB (R.take k),this]
   rw [e1] at hk;refine ⟨R.take k ++ [x] ++ R.drop k,?_,?_,?_⟩
   . rw [adB];refine cM.2 ⟨hs.1,afa.2 ⟨fun y hy=>k3 y hy,hs.2.1⟩,fun y hy z hz => ?_⟩;rcases adg.1 hz with rfl | hz
     . exact EY (k2 y hy)
     . exact hs.2.2 y hy z hz
   . have h1:eL dG ([x] ++ R.take k) (R.take k ++ [x]):=eL.swap fx fun z hz y hy=>by
      simp only [aev] at hz; subst hz; exact k2 y hy
     have h2:=h1.append (eL.refl (R.drop k));rw [adB,adT] at h2;exact h2
   . rw [qd,km,hA];have:aq ((1:Nat):Int) 1=true:=rfl;rw [this];dsimp only [cond_true];rw [e0,k4];dsimp only [Option.bind_some,Sum.elim_inl];simp only [adk,adO] at hk;rw [hk];dsimp only [Option.bind_some,Sum.elim_inl];simp
 by_cases hB:R.length=1
 . obtain ⟨y,rfl⟩:∃ y,R=[y]:=List.length_eq_one_iff.1 hB;have e0:P ++ L ++ [y] ++ S=P ++ L ++ y :: S:=by simp
   obtain ⟨k,k1,k2,k3,k4⟩:=VV P S y L hL (by rw [<- e0]; exact hl);have hs:=hL;rw [<- adT k L] at hs;have hs:=cM.1 hs;obtain ⟨kk,hk⟩:=Jo (P ++ L.take k) S y (L.drop k).length (L.drop k) [] rfl (by simp only [bY,ac4,ac9,adJ,adZ,adk] at hl' ⊢; omega);have e1:P ++ L.take k ++ (L.drop k ++ [y]) ++ S=P ++ L ++ y :: S:=by have:L.take k ++ L.drop k=L:=adT k L;simp only [adB,afK,aee];rw [<- adB (L.take k),this]
   have e2:(((P ++ L.take k).length:Nat):Int)=((P.length + k:Nat):Int):=by simp only [ac4,adJ]; omega
   have e3:(((P ++ L.take k).length + (L.drop k).length:Nat):Int)=((P.length + L.length:Nat):Int):=by simp only [ac4,adJ,adZ]; omega
   rw [e1,e2,e3] at hk;refine ⟨L.take k ++ (y :: L.drop k),?_,?_,?_⟩
   . refine cM.2 ⟨hs.1,afa.2 ⟨fun x hx=>EY (k3 x hx),hs.2.1⟩,fun x hx z hz => ?_⟩;rcases adg.1 hz with rfl | hz
     . exact k2 x hx
     . exact hs.2.2 x hx z hz
   . have h1:eL dG (L.drop k ++ [y]) ([y] ++ L.drop k):=eL.swap fx fun z hz x hx=>by
      simp only [aev] at hx; subst hx; exact k3 z hz
     have h2:=(eL.refl (L.take k)).append h1;rw [<- adB,adT] at h2;exact h2
   . have hA':aq (L.length:Int) 1=false:=by
      rw [aeO]; intro hh; rw [e8] at hh; omega
     rw [qd,km,kb,hA',hB];have:aq ((1:Nat):Int) 1=true:=rfl;rw [this];dsimp only [cond_true,cond_false];rw [e0,k4];dsimp only [Option.bind_some,Sum.elim_inl];rw [hk];dsimp only [Option.bind_some,Sum.elim_inl];simp
 -- the long case
 obtain ⟨mid,hmidN⟩:∃ mid,mid=(P.length + (P.length + L.length + R.length)) / 2:=⟨_,rfl⟩;obtain ⟨lo0,hlo0⟩:∃ lo0,lo0=if mid < P.length + L.length then mid - R.length else P.length:=⟨_,rfl⟩
 obtain ⟨hi0,hhi0⟩:∃ hi0,hi0=if mid < P.length + L.length then mid else P.length + L.length:=⟨_,rfl⟩
 have c1:P.length<=lo0:=by rw [hlo0]; split <;> omega
 have c2:lo0<=hi0:=by rw [hlo0,hhi0]; split <;> omega
 have c3:hi0<=P.length + L.length:=by rw [hhi0]; split <;> omega
 have c4:hi0<=mid:=by rw [hhi0]; split <;> omega
 have c5:mid<=lo0 + R.length:=by rw [hlo0]; split <;> omega
 obtain ⟨k,k1,k2,k3,k4,k5⟩:=Yp P L R S hL hR mid lo0 hi0 c1 c2 c3 c4 c5 (by show mid<=1099511627776; omega) ((P.length + L.length + R.length:Nat):Int) hl;have hmid:=vh (i:=P.length) (j:=P.length + L.length + R.length) (by omega);rw [<- hmidN] at hmid;have hnn:aj .i64 (mid:Int) ((P.length + L.length:Nat):Int)=((mid + (P.length + L.length):Nat):Int):=by rw [aA (by omega) (by omega)]; omega
 have hsub1:aO .i64 ((mid + (P.length + L.length):Nat):Int) 1=((mid + (P.length + L.length):Nat) - 1:Int):=by rw [aU (by omega) (by omega)]
 have hA':aq (aO .i64 ((P.length + L.length:Nat):Int) (P.length:Int)) 1=false:=by rw [km,aeO]; intro hh; rw [e8] at hh; omega
 have hB':aq (aO .i64 ((P.length + L.length + R.length:Nat):Int) ((P.length + L.length:Nat):Int)) 1=false:=by rw [kb,aeO]; intro hh; rw [e8] at hh; omega
 have hlo:(lo0:Int)=cond (aw (mid:Int) ((P.length + L.length:Nat):Int)) (aO .i64 ((mid + (P.length + L.length):Nat):Int) ((P.length + L.length + R.length:Nat):Int)) (P.length:Int):=by
  rw [hlo0];by_cases hm:mid < P.length + L.length
  . rw [if_pos hm,aJ (by omega),ac6,aU (by omega) (by omega)]; omega
  . rw [if_neg hm,ay (by omega),adm]
 have hhi:(hi0:Int)=cond (aw (mid:Int) ((P.length + L.length:Nat):Int)) (mid:Int) ((P.length + L.length:Nat):Int):=by
  rw [hhi0];by_cases hm:mid < P.length + L.length
  . rw [if_pos hm,aJ (by omega),ac6]
  . rw [if_neg hm,ay (by omega),adm]
 have hsp:=GR n (P ++ L ++ R ++ S) (P.length:Int) ((P.length + L.length:Nat):Int) ((P.length + L.length + R.length:Nat):Int) hA' hB' (mid:Int) ((mid + (P.length + L.length):Nat):Int) (lo0:Int) (hi0:Int) (k:Int) hmid hnn hlo hhi (by rw [hsub1]; exact k5);have he:aO .i64 ((mid + (P.length + L.length):Nat):Int) (k:Int)=((P.length + L.length + (mid - k):Nat):Int):=by rw [aU (by omega) (by omega)]; omega
 rw [he] at hsp
 -- the parts
 obtain ⟨L1,L2,hLe,hL1,hL2⟩:∃ L1 L2,L=L1 ++ L2/\L1=L.take (k - P.length)/\L2=L.drop (k - P.length):=⟨_,_,(adT _ _).symm,rfl,rfl⟩;obtain ⟨R1,R2,hRe,hR1,hR2⟩:∃ R1 R2,R=R1 ++ R2/\R1=R.take (mid - k)/\R2=R.drop (mid - k):=⟨_,_,(adT _ _).symm,rfl,rfl⟩;have n1:L1.length=k - P.length:=by rw [hL1,adJ]; omega
 have n2:L2.length=P.length + L.length - k:=by rw [hL2,adZ]; omega
 have n3:R1.length=mid - k:=by rw [hR1,adJ]; omega
 have n4:R2.length=R.length - (mid - k):=by rw [hR2,adZ]
 have sL:=hL;rw [hLe] at sL;have sL:=cM.1 sL;have sR:=hR;rw [hRe] at sR;have sR:=cM.1 sR;have xRL:∀ x∈R1,∀ y∈L2,dG x y=true:=fun x hx y hy=>by
  rw [hR1] at hx;rw [hL2] at hy;obtain ⟨q,q1,q2,rfl⟩:=nN d59 hx;obtain ⟨q',p1,p2,rfl⟩:=nz d59 hy;have hk:k < hi0:=by
   rcases adj k hi0 with hh | hh
   . exact hh
   . exfalso;rw [hhi0] at hh;split at hh <;> omega
  have h0:=k4 k (ac7 _) hk;have h1:=jc fx d59 hR (q':=q) (q:=mid - 1 - k) (by omega) (by omega);have h2:=jc fx d59 hL (q':=k - P.length) (q:=q') (by omega) (by omega);rcases fx.neg _ (R.getD q d59) _ h0 with h3 | h3
  . rw [h1] at h3; simp at h3
  . rcases fx.neg _ (L.getD q' d59) _ h3 with h4 | h4
    . exact h4
    . rw [h2] at h4; simp at h4
 have xLR:∀ x∈L1,∀ y∈R2,dG y x=false:=fun x hx y hy=>by
  rw [hL1] at hx;rw [hR2] at hy;obtain ⟨q,q1,q2,rfl⟩:=nN d59 hx;obtain ⟨q',p1,p2,rfl⟩:=nz d59 hy;have hk:lo0 < k:=by
   rcases adj lo0 k with hh | hh
   . exact hh
   . exfalso;rw [hlo0] at hh k1;split at hh <;> omega
  have h0:=k3 (k - 1) (by omega) (by omega);rw [show mid - 1 - (k - 1)=mid - k by omega,show k - 1 - P.length=k - P.length - 1 by omega] at h0;have h1:=jc fx d59 hL (q':=q) (q:=k - P.length - 1) (by omega) (by omega);have h2:=jc fx d59 hR (q':=mid - k) (q:=q') (by omega) (by omega);exact fx.le_trans (fx.le_trans h1 h0) h2
 -- the rotation
 have st1:cond (cond (aw (k:Int) ((P.length + L.length:Nat):Int)) (aw ((P.length + L.length:Nat):Int) ((P.length + L.length + (mid - k):Nat):Int)) false) (Bw (P ++ L ++ R ++ S) (k:Int) ((P.length + L.length:Nat):Int) ((P.length + L.length + (mid - k):Nat):Int)) (some (((P ++ L ++ R ++ S,()),()),()))=some (((P ++ L1 ++ R1 ++ (L2 ++ R2 ++ S),()),()),()):=by
  by_cases z1:k < P.length + L.length
  . by_cases z2:0 < mid - k
    . rw [aJ (by omega),aJ (by omega)];dsimp only [cond_true];have h:=Xz (P ++ L1) L2 R1 (R2 ++ S) (by omega) (by omega) (by simp only [bY,ac4]; omega);have e1:P ++ L1 ++ L2 ++ R1 ++ (R2 ++ S)=P ++ L ++ R ++ S:=by rw [hLe,hRe]; simp
      have e2:(((P ++ L1).length:Nat):Int)=(k:Int):=by simp only [ac4]; omega
      have e3:(((P ++ L1).length + L2.length:Nat):Int)=((P.length + L.length:Nat):Int):=by simp only [ac4]; omega
      have e4:(((P ++ L1).length + L2.length + R1.length:Nat):Int)=((P.length + L.length + (mid - k):Nat):Int):=by simp only [ac4]; omega
      rw [e1,e2,e3,e4] at h;rw [h];simp
    . have hz:R1=[]:=adl.1 (by omega);rw [aJ (by omega),ay (by omega)];dsimp only [cond_true,cond_false];rw [hLe,hRe,hz];simp
  . have hz:L2=[]:=adl.1 (by omega);rw [ay (by omega)];dsimp only [cond_false];rw [hLe,hRe,hz];simp
 -- the left half
 obtain ⟨M1,s1,t1,u1⟩:∃ M1,l7 dG M1/\eL dG (L1 ++ R1) M1/\cond (cond (aw (P.length:Int) (k:Int)) (aw (k:Int) (mid:Int)) false) (fG n (P ++ L1 ++ R1 ++ (L2 ++ R2 ++ S)) (P.length:Int) (k:Int) (mid:Int)) (some (((P ++ L1 ++ R1 ++ (L2 ++ R2 ++ S),()),()),()))=some (((P ++ M1 ++ (L2 ++ R2 ++ S),()),()),()):=by
  by_cases z1:P.length < k
  . by_cases z2:k < mid
    . obtain ⟨M,m1,m2,m3⟩:=ih P L1 R1 (L2 ++ R2 ++ S) (by omega) (by omega) (by omega) sL.1 sR.1 (by simp only [bY,ac4]; omega);refine ⟨M,m1,m2,?_⟩;rw [aJ (by omega),aJ (by omega)];dsimp only [cond_true];rw [show ((P.length + L1.length:Nat):Int)=(k:Int) by omega,show ((P.length + L1.length + R1.length:Nat):Int)=(mid:Int) by omega] at m3;exact m3
    . have hz:R1=[]:=adl.1 (by omega);refine ⟨L1,sL.1,by rw [hz,adE]; exact eL.refl _,?_⟩;rw [aJ (by omega),ay (by omega),hz];simp
  . have hz:L1=[]:=adl.1 (by omega);refine ⟨R1,sR.1,by rw [hz]; exact eL.refl _,?_⟩;rw [ay (by omega),hz];simp
 have nM1:M1.length=L1.length + R1.length:=by have:=t1.1; rw [ac4] at this; omega
 -- the right half
 obtain ⟨M2,s2,t2,u2⟩:∃ M2,l7 dG M2/\eL dG (L2 ++ R2) M2/\cond (cond (aw (mid:Int) ((P.length + L.length + (mid - k):Nat):Int)) (aw ((P.length + L.length + (mid - k):Nat):Int) ((P.length + L.length + R.length:Nat):Int)) false) (fG n (P ++ M1 ++ (L2 ++ R2 ++ S)) (mid:Int) ((P.length + L.length + (mid - k):Nat):Int) ((P.length + L.length + R.length:Nat):Int)) (some (((P ++ M1 ++ (L2 ++ R2 ++ S),()),()),()))=some (((P ++ (M1 ++ M2) ++ S,()),()),()):=by
  by_cases z1:0 < L2.length
  . by_cases z2:0 < R2.length
    . obtain ⟨M,m1,m2,m3⟩:=ih (P ++ M1) L2 R2 S (by omega) z1 z2 sL.2.1 sR.2.1 (by simp only [bY,ac4]; omega);refine ⟨M,m1,m2,?_⟩;rw [aJ (by omega),aJ (by omega)];dsimp only [cond_true];rw [show (((P ++ M1).length:Nat):Int)=(mid:Int) by simp only [ac4]; omega,show (((P ++ M1).length + L2.length:Nat):Int)=((P.length + L.length + (mid - k):Nat):Int) by simp only [ac4]; omega,show (((P ++ M1).length + L2.length + R2.length:Nat):Int)=((P.length + L.length + R.length:Nat):Int) by simp only [ac4]; omega] at m3;have e1:P ++ M1 ++ L2 ++ R2 ++ S=P ++ M1 ++ (L2 ++ R2 ++ S):=by simp
      rw [e1] at m3;rw [m3];simp
    . have hz:R2=[]:=adl.1 (by omega);refine ⟨L2,sL.2.1,by rw [hz,adE]; exact eL.refl _,?_⟩;rw [ay (a:=((P.length + L.length + (mid - k):Nat):Int)) (by omega),hz];cases aw (mid:Int) ((P.length + L.length + (mid - k):Nat):Int) <;> simp
  . have hz:L2=[]:=adl.1 (by omega);refine ⟨R2,sR.2.1,by rw [hz]; exact eL.refl _,?_⟩;rw [ay (a:=(mid:Int)) (by omega),hz];simp
 refine ⟨M1 ++ M2,cM.2 ⟨s1,s2,fun x hx y hy => ?_⟩,?_,?_⟩
 . rcases aeA.1 ((t1.mem fx).2 hx) with hx | hx
   . rcases aeA.1 ((t2.mem fx).2 hy) with hy | hy
     . exact sL.2.2 x hx y hy
     . exact xLR x hx y hy
   . rcases aeA.1 ((t2.mem fx).2 hy) with hy | hy
     . exact EY (xRL x hx y hy)
     . exact sR.2.2 x hx y hy
 . have h1:eL dG (L2 ++ R1) (R1 ++ L2):=eL.swap fx fun y hy x hx=>xRL x hx y hy
   have h2:=((eL.refl L1).append h1).append (eL.refl R2);have h3:=t1.append t2;have e1:L ++ R=L1 ++ (L2 ++ R1) ++ R2:=by rw [hLe,hRe]; simp
   have e2:L1 ++ (R1 ++ L2) ++ R2=L1 ++ R1 ++ (L2 ++ R2):=by simp
   rw [e1];rw [e2] at h2;exact h2.trans h3
 . rw [hsp];unfold Be;rw [st1];dsimp only [Option.bind_some];rw [u1];dsimp only [Option.bind_some];rw [u2];rfl
theorem E6 (P L R S:List aL) (h2:0 < L.length) (h3:0 < R.length) (hL:l7 dG L) (hR:l7 dG R) (hl:(P ++ L ++ R ++ S).length<=bY) :
 ∃ M,l7 dG M/\eL dG (L ++ R) M/\mV (P ++ L ++ R ++ S) (P.length:Int) ((P.length + L.length:Nat):Int) ((P.length + L.length + R.length:Nat):Int)=some (((P ++ M ++ S,()),()),()):=by
 obtain ⟨M,m1,m2,m3⟩:=P3 (L.length + R.length) P L R S (ac7 _) h2 h3 hL hR hl;refine ⟨M,m1,m2,Pm (n:=L.length + R.length) fun m hm => ?_⟩;obtain ⟨M',p1,p2,p3⟩:=P3 m P L R S hm h2 h3 hL hR hl;rw [p3,rR fx p1 m1 (p2.symm.trans m2)]
def NB (k:Nat) (cs:List (List aL)):Prop:=∀ c∈cs,c.length=k/\l7 dG c
theorem AF {k:Nat}:∀ {cs:List (List aL)},NB k cs->cs.flatten.length=cs.length * k
 | [],_=>by simp
 | c :: cs,h=>by
   have h1:=(h c (adu ..)).1;have h2:=AF (cs:=cs) fun x hx=>h x (adt _ hx)
   rw [afw,ac4,h1,h2,ac9,adR,aeE,Nat.add_comm]
theorem Hw (N:Nat):∀ (n:Nat) (P R:List aL),R.length=n->(P ++ R).length=N->N<=4194304 ->
 ∃ (cs:List (List aL)) (T:List aL),NB 20 cs/\T.length < 20/\eL dG R (cs.flatten ++ T) /\
  Ev (P ++ R) (N:Int) () 20 (P.length:Int) ((P.length + 20:Nat):Int)=some (.inl (P ++ cs.flatten ++ T,(N:Int),(),20,((N - T.length:Nat):Int),((N - T.length + 20:Nat):Int),())):=by
 intro n;induction n using Nat.strongRecOn with
 | _ n ih =>
 intro P R hn hN hB;have hN':=hN;rw [ac4] at hN';by_cases h:R.length < 20
 . refine ⟨[],R,fun c hc=>by simp at hc,h,eL.refl _,aN _ ?_⟩;show sk (P ++ R) (N:Int) () 20 (P.length:Int) ((P.length + 20:Nat):Int)=_;unfold sk;have:bL ((P.length + 20:Nat):Int) (N:Int)=false:=adD (by omega);rw [this];have e:N - R.length=P.length:=by omega
   rw [e];simp
 . obtain ⟨L,S,rfl,hL⟩:∃ L S,R=L ++ S/\L.length=20:=⟨R.take 20,R.drop 20,(adT _ _).symm,by rw [adJ]; omega⟩;simp only [ac4] at hN' hn h;obtain ⟨M,m1,m2,m3⟩:=Ro P L S (by simp only [bY,ac4]; omega);have hM:M.length=20:=by rw [<- m2.1]; exact hL
   obtain ⟨cs,T,q1,q2,q3,q4⟩:=ih S.length (by omega) (P ++ M) S rfl (by simp only [ac4]; omega) hB;refine ⟨M :: cs,T,fun c hc => ?_,q2,?_,?_⟩
   . rcases adg.1 hc with rfl | hc
     . exact ⟨hM,m1⟩
     . exact q1 c hc
   . have:=m2.append q3;rw [afw,adB];exact this
   . have e1:P ++ M ++ cs.flatten ++ T=P ++ (M :: cs).flatten ++ T:=by simp
     rw [e1] at q4;refine aV _ ?_ q4;show sk (P ++ (L ++ S)) (N:Int) () 20 (P.length:Int) ((P.length + 20:Nat):Int)=_;unfold sk;have k1:bL ((P.length + 20:Nat):Int) (N:Int)=true:=ada (by omega);have e2:P ++ (L ++ S)=P ++ L ++ S:=by simp
     rw [hL] at m3;rw [k1,e2,m3];dsimp only [cond_true,Option.bind_some];have k2:aj .i64 ((P.length + 20:Nat):Int) 20=(((P ++ M).length + 20:Nat):Int):=by rw [aA (by omega) (by omega)]; simp only [ac4]; omega
     have k3:((P.length + 20:Nat):Int)=((P ++ M).length:Int):=by simp only [ac4]; omega
     rw [k2,k3]
theorem TK {k:Nat} (h:k<=1073741824):kl .i64 2 (k:Int)=((2 * k:Nat):Int)/\kl .i64 (k:Int) 2=((2 * k:Nat):Int):=by unfold kl;rw [IntWalk.i64_in _ (by omega),IntWalk.i64_in _ (by omega)];omega
theorem HG (N k:Nat) (hk:0 < k) (hkB:k<=1073741824) (hB:N<=4194304) (T:List aL) (hT:T.length < k):∀ (n:Nat) (cs:List (List aL)) (P:List aL),cs.length=n->NB k cs->(P ++ cs.flatten ++ T).length=N ->
 ∃ (ds c2:List (List aL)) (b':Int),NB (2 * k) ds/\NB k c2/\c2.length<=1/\eL dG cs.flatten (ds.flatten ++ c2.flatten) /\
  AN (P ++ cs.flatten ++ T) (N:Int) () (k:Int) (P.length:Int) ((P.length + 2 * k:Nat):Int)=some (.inl (P ++ ds.flatten ++ c2.flatten ++ T,(N:Int),(),(k:Int),((P ++ ds.flatten).length:Int),b',())):=by
 intro n;induction n using Nat.strongRecOn with
 | _ n ih =>
 intro cs P hn hc hN;have hN':=hN;simp only [ac4] at hN'
 have stop:cs.length<=1->∃ (ds c2:List (List aL)) (b':Int),NB (2 * k) ds/\NB k c2/\c2.length<=1/\eL dG cs.flatten (ds.flatten ++ c2.flatten) /\
  AN (P ++ cs.flatten ++ T) (N:Int) () (k:Int) (P.length:Int) ((P.length + 2 * k:Nat):Int)=some (.inl (P ++ ds.flatten ++ c2.flatten ++ T,(N:Int),(),(k:Int),((P ++ ds.flatten).length:Int),b',())):=fun h1=>by
  refine ⟨[],cs,((P.length + 2 * k:Nat):Int),fun c hc=>by simp at hc,hc,h1,by simpa using eL.refl _,aN _ ?_⟩;show sQ (P ++ cs.flatten ++ T) (N:Int) () (k:Int) (P.length:Int) ((P.length + 2 * k:Nat):Int)=_;unfold sQ;have hf:=AF hc;have:cs.length * k<=k:=by have:=adz k h1;omega
  have:bL ((P.length + 2 * k:Nat):Int) (N:Int)=false:=adD (by omega);rw [this];simp
 cases cs with
 | nil=>exact stop (by simp)
 | cons c1 cs =>
 cases cs with
 | nil=>exact stop (by simp)
 | cons c2 cs =>
   have h1:=hc c1 (by simp);have h2:=hc c2 (by simp);have h3:NB k cs:=fun c h=>hc c (by simp [h])
   simp only [afw,ac4] at hN';obtain ⟨M,m1,m2,m3⟩:=E6 P c1 c2 (cs.flatten ++ T) (by omega) (by omega) h1.2 h2.2 (by simp only [bY,ac4]; omega);have hM:M.length=2 * k:=by have:=m2.1; rw [ac4] at this; omega
   obtain ⟨ds,e2,b',q1,q2,q3,q4,q5⟩:=ih cs.length (by simp only [ac9] at hn; omega) cs (P ++ M) rfl h3 (by simp only [ac4]; omega);refine ⟨M :: ds,e2,b',fun d hd => ?_,q2,q3,?_,?_⟩
   . rcases adg.1 hd with rfl | hd
     . exact ⟨hM,m1⟩
     . exact q1 d hd
   . have:=m2.append q4;simpa using this
   . have e3:P ++ M ++ ds.flatten ++ e2.flatten ++ T=P ++ (M :: ds).flatten ++ e2.flatten ++ T:=by simp
     have e4:P ++ M ++ ds.flatten=P ++ (M :: ds).flatten:=by simp
     rw [e3,e4] at q5;refine aV _ ?_ q5;show sQ (P ++ (c1 :: c2 :: cs).flatten ++ T) (N:Int) () (k:Int) (P.length:Int) ((P.length + 2 * k:Nat):Int)=_;unfold sQ;have k1:bL ((P.length + 2 * k:Nat):Int) (N:Int)=true:=ada (by omega);have e5:P ++ (c1 :: c2 :: cs).flatten ++ T=P ++ c1 ++ c2 ++ (cs.flatten ++ T):=by simp
     have k2:aj .i64 (P.length:Int) (k:Int)=((P.length + c1.length:Nat):Int):=by rw [aA (by omega) (by omega)]; omega
     have k3:((P.length + 2 * k:Nat):Int)=((P.length + c1.length + c2.length:Nat):Int):=by omega
     rw [k1,(TK hkB).1,k2,k3,e5,m3];dsimp only [cond_true,Option.bind_some];have k4:aj .i64 ((P.length + c1.length + c2.length:Nat):Int) ((2 * k:Nat):Int)=(((P ++ M).length + 2 * k:Nat):Int):=by rw [aA (by omega) (by omega)]; simp only [ac4]; omega
     have k5:((P.length + c1.length + c2.length:Nat):Int)=((P ++ M).length:Int):=by simp only [ac4]; omega
     rw [k4,k5];simp
theorem Hg (N:Nat) (hB:N<=4194304):∀ (f k:Nat) (cs:List (List aL)) (T:List aL),N - k<=f->0 < k->k<=8388608->NB k cs->T.length < k->l7 dG T->(cs.flatten ++ T).length=N ->
 ∃ (M:List aL) (k':Int),l7 dG M/\eL dG (cs.flatten ++ T) M/\DZ (cs.flatten ++ T) (N:Int) () (k:Int)=some (.inl (M,(N:Int),(),k',())):=by
 intro f;induction f using Nat.strongRecOn with
 | _ f ih =>
 intro k cs T hf hk hkB hc hT hTs hN;have hN':=hN;rw [ac4,AF hc] at hN';by_cases h:k < N
 . obtain ⟨ds,c2,b',q1,q2,q3,q4,q5⟩:=HG N k hk (by omega) hB T hT cs.length cs [] rfl hc (by simpa using hN);simp only [aee,adk,adA] at q5;have q5':AN (cs.flatten ++ T) (N:Int) () (k:Int) 0 ((2 * k:Nat):Int)=_:=q5;have hlen:ds.flatten.length + c2.flatten.length + T.length=N:=by
    have:=q4.1;rw [ac4] at this;rw [ac4] at hN;omega
   -- the rest behind the pairs
   obtain ⟨T',t1,t2,t3,t4⟩:∃ T',T'.length < 2 * k/\l7 dG T'/\eL dG (c2.flatten ++ T) T' /\
    sH (cs.flatten ++ T) (N:Int) () (k:Int)=some (.inl (ds.flatten ++ T',(N:Int),(),((2 * k:Nat):Int),())):=by
    unfold sH;rw [aJ (by omega),(TK (by omega)).1,q5'];dsimp only [cond_true,Option.bind_some,Sum.elim_inl];rw [(TK (k:=k) (by omega)).2];have k2:aj .i64 ((ds.flatten.length:Nat):Int) (k:Int)=((ds.flatten.length + k:Nat):Int):=by rw [aA (by omega) (by omega)]; omega
    rw [k2];cases c2 with
    | nil => simp only [List.flatten_nil,adk,adO] at hlen;refine ⟨T,by omega,hTs,by simpa using eL.refl _,?_⟩;rw [ay (by omega)];simp
    | cons c c2 =>
      have:c2=[]:=adl.1 (by simp only [ac9] at q3; omega);subst this;have hcc:=q2 c (by simp);simp only [afw,List.flatten_nil,adE] at hlen ⊢;by_cases hz:0 < T.length
      . obtain ⟨M,m1,m2,m3⟩:=E6 ds.flatten c T [] (by omega) hz hcc.2 hTs (by simp only [bY,ac4,adk]; omega);refine ⟨M,by have:=m2.1; rw [ac4] at this; omega,m1,m2,?_⟩;rw [hcc.1] at m3;rw [show ((ds.flatten.length + k + T.length:Nat):Int)=(N:Int) by omega,adE,adE] at m3;rw [aJ (by omega),m3];simp
      . have:T=[]:=adl.1 (by omega);subst this;refine ⟨c,by omega,hcc.2,by simpa using eL.refl _,?_⟩;rw [ay (by simp only [adk] at hlen; omega)];simp
   obtain ⟨M,k',m1,m2,m3⟩:=ih (N - 2 * k) (by omega) (2 * k) ds T' (ac7 _) (by omega) (by omega) q1 t1 t2 (by have:=t3.1; rw [ac4] at this ⊢; omega);refine ⟨M,k',m1,?_,aV _ t4 m3⟩;have h1:=q4.append (eL.refl T);have h2:=(eL.refl ds.flatten).append t3;rw [adB] at h1;exact (h1.trans h2).trans m2
 . refine ⟨cs.flatten ++ T,(k:Int),?_,eL.refl _,aN _ ?_⟩
   . cases cs with
     | nil=>simpa using hTs
     | cons c cs =>
       simp only [ac9,adR,aeE] at hN';have h0:T=[]:=adl.1 (by omega);have h1:cs=[]:=by
        cases cs with
        | nil=>rfl
        | cons d cs=>simp only [ac9,adR,aeE] at hN'; omega
       subst h0; subst h1;simpa using (hc c (by simp)).2
   . show sH (cs.flatten ++ T) (N:Int) () (k:Int)=_;unfold sH;rw [ay (by omega)];rfl
theorem RI (xs:List aL) (hB:xs.length<=4194304):∃ M,l7 dG M/\eL dG xs M/\OK xs=some (((M,()),()),()):=by
 obtain ⟨cs,T,q1,q2,q3,q4⟩:=Hw xs.length xs.length [] xs rfl rfl hB;simp only [aee,adk,adA] at q4;have hlen:cs.flatten.length + T.length=xs.length:=by have:=q3.1; rw [ac4] at this; omega
 obtain ⟨T',t1,t2,t3⟩:=Ro cs.flatten T [] (by simp only [bY,ac4,adk]; omega);rw [adE,adE] at t3;have hT':T'.length=T.length:=t2.1.symm;obtain ⟨M,k',m1,m2,m3⟩:=Hg xs.length hB (xs.length) 20 cs T' (by omega) (by decide) (by decide) q1 (by omega) t1 (by rw [ac4]; omega);refine ⟨M,m1,(q3.trans ((eL.refl _).append t2)).trans m2,?_⟩;have q4':Ev xs (ae xs) () 20 0 20=_:=q4;have e1:((cs.flatten.length + T.length:Nat):Int)=(xs.length:Int):=by omega
 have e2:((xs.length - T.length:Nat):Int)=(cs.flatten.length:Int):=by omega
 rw [e1] at t3;unfold OK Sz;rw [q4'];dsimp only [Option.bind_some,Sum.elim_inl];rw [e2,t3];dsimp only [Option.bind_some];have m3':DZ (cs.flatten ++ T') (xs.length:Int) () 20=_:=m3;rw [m3'];rfl
theorem Lk (out:List aL) (x:aL) (hS:l7 dG out) (hl:out.length<=4194304) (t11:List (dy)) (t12 t13:Int) (t18:List aL) (t19 t20:Int) (b2:List aL×Unit):∀ (n:Nat) (A B:List aL),out=A ++ B->A.length=n->(∀ y∈B,dG x y=true) ->
 ∃ A' B',out=A' ++ B'/\(∀ y∈B',dG x y=true)/\(∀ y∈A',dG x y=false)/\Cg out (A.length:Int) t11 t12 t13 t18 t19 t20 b2 x=some (.inl (out,(A'.length:Int),t11,t12,t13,t18,t19,t20,b2,x,())):=by
 have hbig:aT=140737488355328:=rfl;intro n;induction n with
 | zero => intro A B hAB hn hB;have:A=[]:=adl.1 hn;subst this;refine ⟨[],B,hAB,hB,fun y hy=>by simp at hy,aN _ ?_⟩;show wA out 0 t11 t12 t13 t18 t19 t20 b2 x=_;unfold wA;rfl
 | succ n ih =>
   intro A B hAB hn hB;obtain ⟨C,y,rfl⟩:=vk (a:=A) (fun h=>by subst h; simp at hn);have hC:C.length=n:=by simpa using hn
   have hlen:=adU List.length hAB;simp only [ac4,ac9,adk] at hlen;have k1:aO .i64 ((C ++ [y]).length:Int) 1=(C.length:Int):=by rw [aU (by simp only [ac4,ac9,adk]; omega) (by simp only [ac4,ac9,adk]; omega)]; simp only [ac4,ac9,adk]; omega
   have e0:out=C ++ y :: B:=by rw [hAB]; simp
   have i1:aR (C.length:Int) out=true:=by rw [e0]; exact iL _ _ _ rfl
   have g1:gt d59 out (C.length:Int)=y:=by rw [e0]; exact xi _ _ _ _ rfl
   have hstep:wA out ((C ++ [y]).length:Int) t11 t12 t13 t18 t19 t20 b2 x=cond (dG x y) (some (.inl (out,(C.length:Int),t11,t12,t13,t18,t19,t20,b2,x,()))) (some (.inr (.inl (out,((C ++ [y]).length:Int),t11,t12,t13,t18,t19,t20,b2,x,())))):=by unfold wA;rw [aJ (by simp only [ac4,ac9,adk]; omega)];dsimp only [cond_true];rw [k1,i1,g1,uW];dsimp only [cond_true];rw [Bool.not_not]
   cases hc:dG x y with
   | true =>
     rw [hc] at hstep;obtain ⟨A',B',r1,r2,r3,r4⟩:=ih C (y :: B) e0 hC (fun z hz=>by
      rcases adg.1 hz with rfl | hz
      . exact hc
      . exact hB z hz)
     exact ⟨A',B',r1,r2,r3,aV _ hstep r4⟩
   | false =>
     rw [hc] at hstep;refine ⟨C ++ [y],B,hAB,hB,fun z hz => ?_,aN _ hstep⟩;rcases aeA.1 hz with hz | hz
     . rw [hAB] at hS;have:=(cM.1 (cM.1 hS).1).2.2 z hz y (by simp);exact fx.le_trans this hc
     . simp only [aev] at hz; subst hz; exact hc
abbrev ep:=Int×List aL×Unit
def eQ (l:List ep):List aL:=(l.map fun s=>s.2.1).flatten
def pj (l:List ep):Prop:=l.length<=1048576/\(eQ l).length<=1048576/\∀ s∈l,∀ a∈s.2.1,jq a
theorem nG {l:List ep} {i:Nat} {s:ep} (h:l[i]? = some s):eQ (l.take (i + 1))=eQ (l.take i) ++ s.2.1:=by unfold eQ;rw [afv,h];simp
theorem uT (l:List ep) (i:Nat):(eQ (l.take i)).length<=(eQ l).length:=by
 have:eQ l=eQ (l.take i) ++ eQ (l.drop i):=by unfold eQ;rw [<- List.flatten_append,<- afU,adT]
 rw [this,ac4];omega
theorem TA (base acc:List aL) (hb:∀ a∈acc,jq a) (hl:(base ++ acc).length<=1048576) (t11:List ep) (t12 t13:Int) (b2:List aL×Unit) (out:List aL) (h1:l7 dG out) (h2:eL dG base out) :
 ∃ M,(l7 dG M/\eL dG (base ++ acc.take acc.length) M)/\FN out t11 t12 t13 acc (ae acc) 0 b2=some (.inl (M,t11,t12,t13,acc,ae acc,(acc.length:Int),b2,())):=by
 have hbig:aT=140737488355328:=rfl;rw [ac4] at hl;refine nM (step:=xx uv) acc (fun i (o:List aL)=>(o,t11,t12,t13,acc,ae acc,((i:Nat):Int),b2,())) (fun o=> .inl (o,t11,t12,t13,acc,ae acc,(acc.length:Int),b2,())) (fun i o=>l7 dG o/\eL dG (base ++ acc.take i) o) (fun i x o hx ho => ?_) (fun o ho => ?_) acc.length 0 out (by omega) ⟨h1,by simpa using h2⟩
 . have hlt:=ai hx;have hxB:=hb x (ade hx);have hol:o.length<=1048576:=by
    have:=ho.2.1;rw [ac4,adJ] at this;omega
   obtain ⟨A,B,r1,r2,r3,r4⟩:=Lk o x ho.1 (by omega) t11 t12 t13 acc (ae acc) (i:Int) b2 o.length o [] (by simp) rfl (fun y hy=>by simp at hy);have hAB:o.length=A.length + B.length:=by rw [r1,ac4]
   refine ⟨A ++ [x] ++ B,?_,?_,?_⟩
   . show uv o t11 t12 t13 acc (ae acc) (i:Int) b2=_;unfold uv;have r4':Cg o (ae o) t11 t12 t13 acc (ae acc) (i:Int) b2 x=_:=r4;have f1:dW 0 (A.length:Int) o=true:=by
      show (decide ((0:Int)<=0) && (decide ((0:Int)<=(A.length:Int)) && decide ((A.length:Int)<=(o.length:Int))))=true;rw [ada (by omega),ada (by omega),ada (by omega)]; rfl
     have f2:Vs 160 [] o (A.length:Int)=true:=adn (by simp only [adk,adP]; omega);have f3:P2 o (A.length:Int)=A:=by unfold P2; rw [adP,r1]; simp
     have f4:drI o (A.length:Int)=B:=by unfold drI; rw [adP,r1]; simp
     have f5:SM (A.length:Int) (A.length:Int)=true:=by unfold SM preB bL;rw [ada (by omega),afj]; rfl
     have f6:bT 160 (jn [] A) [x]=true:=adn (by show ((([]:List aL) ++ A).length + 1) * 160<=aT; simp only [aee]; omega);have f7:bT 160 (jn (jn [] A) [x]) B=true:=adn (by show ((([]:List aL) ++ A ++ [x]).length + B.length) * 160<=aT; simp only [aee,ac4,ac9,adk]; omega);rw [aC hx,az hx,aS _ hx,r4'];dsimp only [cond_true,Option.bind_some,Sum.elim_inl];rw [f1,f2,f3,f4,f5,vD x hxB,aK (by omega)];dsimp only [cond_true,Option.bind_some];rw [f6,f7];rfl
   . have hs:=ho.1;rw [r1] at hs;have hs:=cM.1 hs;rw [adB];refine cM.2 ⟨hs.1,afa.2 ⟨fun y hy=>EY (r2 y hy),hs.2.1⟩,fun y hy z hz => ?_⟩;rcases adg.1 hz with rfl | hz
     . exact r3 y hy
     . exact hs.2.2 y hy z hz
   . have e1:base ++ acc.take (i + 1)=base ++ acc.take i ++ [x]:=by rw [afv,hx]; simp
     rw [e1];have q1:=ho.2.append (eL.refl [x]);have q2:eL dG (B ++ [x]) ([x] ++ B):=eL.swap fx fun y hy z hz=>by simp only [aev] at hz; subst hz; exact r2 y hy
     have q3:=(eL.refl A).append q2;rw [r1] at q1;rw [adB A] at q1;rw [adB A];exact q1.trans q3
 . show uv o t11 t12 t13 acc (ae acc) (acc.length:Int) b2=_;unfold uv;rw [au rfl]; rfl
theorem C3 (l:List ep) (hB:pj l):∃ M,(l7 dG M/\eL dG (eQ l) M)/\MU l=some ((),((M,()),())):=by
 have hbig:aT=140737488355328:=rfl;have hl:=hB.1;obtain ⟨M,⟨m1,m2⟩,m3⟩:=nM (step:=dQ uf) l (fun j (o:List aL)=>(o,l,ae l,((j:Nat):Int),(([]:List aL),()),())) (fun o=> .inl (o,l,ae l,(l.length:Int),([],()),())) (fun j o=>l7 dG o/\eL dG (eQ (l.take j)) o) (fun j s o hx ho=>by
  have hlt:=ai hx;have hs:=hB.2.2 s (ade hx);have e1:=nG hx;have e2:=uT l (j + 1);have e3:=hB.2.1;obtain ⟨M,⟨m1,m2⟩,m3⟩:=TA (eQ (l.take j)) s.2.1 hs (by rw [<- e1]; omega) l (ae l) (j:Int) ([],()) o ho.1 ho.2;rw [aeT,<- e1] at m2;refine ⟨M,?_,m1,m2⟩;show uf o l (ae l) (j:Int) ([],())=_;unfold uf;rw [aC hx,az hx,aS _ hx];dsimp only [cond_true];rw [m3];dsimp only [Option.bind_some,Sum.elim_inl];rw [aK (by omega)]) (fun o ho=>by
  show uf o l (ae l) (l.length:Int) ([],())=_;unfold uf;rw [au rfl]; rfl) l.length 0 [] (by omega) ⟨Gj,eL.refl _⟩
 rw [aeT] at m2;refine ⟨M,⟨m1,m2⟩,?_⟩;unfold MU;have m3':FM [] l (ae l) 0 ([],())=_:=m3;rw [m3'];rfl
theorem Dr (acc:List aL) (hb:∀ a∈acc,jq a) (hl:acc.length<=1048576):KH (acc,())=some ((),((acc,()),())):=by
 have hbig:aT=140737488355328:=rfl;unfold KH SK;have h:=aF (step:=FO pk) acc (fun i (a:List aL)=>((),acc,ae acc,((i:Nat):Int),(([]:List aL),()),(a,()),())) (fun _ x a=>Sum.inl (a ++ [x])) (fun a=> .inl ((),acc,ae acc,(acc.length:Int),([],()),(a,()),())) (fun i a=>a.length=i) (a0:=[]) rfl (fun i x a hx ha=>by
  have hlt:=ai hx;show pk () acc (ae acc) (i:Int) ([],()) (a,())=_;unfold pk;have e:∀ y:aL,bT 160 a [y]=true:=fun y=>adn (by simp; omega)
  rw [aC hx,az hx,aS _ hx,BI x (hb x (ade hx)),aK (by omega)];dsimp only [cond_true,Option.bind_some];rw [e];rfl) (fun i x a a' hx ha hf=>by
  simp only [ads] at hf;rw [<- hf,ac4,ha]; rfl) (fun a ha=>by
  show pk () acc (ae acc) (acc.length:Int) ([],()) (a,())=_;unfold pk;rw [au rfl]; rfl)
 rw [gf] at h;have h':Ky () acc (ae acc) 0 ([],()) ([],())=_:=h;dsimp only;rw [h'];rfl
theorem LU (l:List ep) (hB:pj l):∃ M,(l7 dG M/\eL dG (eQ l) M)/\Q1 l=some ((),((M,()),())):=by
 have hbig:aT=140737488355328:=rfl;have hl:=hB.1;have hl2:=hB.2.1;obtain ⟨o,ho,hm⟩:=nM (step:=dQ wD) l (fun j (o:List aL)=>(l,ae l,((j:Nat):Int),(([]:List aL),()),(o,()),())) (fun o=> .inl (l,ae l,(l.length:Int),([],()),(o,()),())) (fun j o=>o=eQ (l.take j)) (fun j s o hx ho=>by
  have hlt:=ai hx;have hs:=hB.2.2 s (ade hx);have e1:=nG hx;have e2:=uT l (j + 1);rw [e1,ac4] at e2;refine ⟨o ++ s.2.1,?_,by rw [ho,e1]⟩;show wD l (ae l) (j:Int) ([],()) (o,())=_;unfold wD;have e:bT 160 o s.2.1=true:=adn (by rw [ho]; omega);rw [aC hx,az hx,aS _ hx];dsimp only [cond_true];rw [Dr s.2.1 hs (by omega)];dsimp only [cond_true,Option.bind_some];rw [e,aK (by omega)];rfl) (fun o ho=>by
  show wD l (ae l) (l.length:Int) ([],()) (o,())=_;unfold wD;rw [au rfl]; rfl) l.length 0 [] (by omega) rfl
 rw [aeT] at ho;subst ho;obtain ⟨M,m1,m2,m3⟩:=RI (eQ l) (by omega);refine ⟨M,⟨m1,m2⟩,?_⟩;unfold Q1;have hm':Qv l (ae l) 0 ([],()) ([],())=_:=hm;rw [hm'];dsimp only [Option.bind_some,Sum.elim_inl];rw [m3];rfl
theorem G0 (l:List ep) (hB:pj l):∃ M,M.length=(eQ l).length/\(∀ x∈M,x∈eQ l)/\eL dG (eQ l) M/\MU l=some ((),((M,()),()))/\Q1 l=some ((),((M,()),())):=by obtain ⟨M,⟨m1,m2⟩,m3⟩:=C3 l hB;obtain ⟨M',⟨p1,p2⟩,p3⟩:=LU l hB;have e:=rR fx p1 m1 (p2.symm.trans m2);subst e;exact ⟨M',p2.1.symm,fun x hx=>(p2.mem fx).2 hx,p2,m3,p3⟩
abbrev aY:=List (Int×Unit)
def zA (b:aY):Prop:=b.length<=1048576/\∀ x∈b,0<=x.1/\x.1<=255
def fc (b:aY) (a k:Nat):aY:=(b.drop a).take k
theorem Mv (b:aY) (a k:Nat):sub b (a:Int) ((a + k:Nat):Int)=fc b a k:=by unfold sub fc;rw [adP,adP,List.drop_take,aeo]
theorem ma {b:aY} {a k:Nat} (h:a + k<=b.length):(fc b a k).length=k:=by unfold fc;rw [adJ,adZ];omega
theorem Lq {b:aY} {a k i:Nat} {x:Int×Unit} (h:(fc b a k)[i]? = some x):i < k/\b[a + i]? = some x:=by
 unfold fc at h;rw [ad6] at h;split at h
 . rw [aer] at h;exact ⟨by assumption,h⟩
 . simp at h
theorem SJ {b:aY} {a k:Nat} {x:Int×Unit} (h:x∈fc b a k):x∈b:=afx (afR h)
theorem Fo {b:aY} {a k:Nat} (h:a + k<=b.length):dW (a:Int) ((a + k:Nat):Int) b=true:=by show (decide ((0:Int)<=(a:Int)) && (decide ((a:Int)<=((a + k:Nat):Int)) && decide (((a + k:Nat):Int)<=(b.length:Int))))=true;rw [ada (by omega),ada (by omega),ada (by omega)]; rfl
theorem Af (b:aY) (a k:Nat) (hb:b.length<=1048576) (ha:a<=b.length) (hk:k<=1048576):Ar b a k=some ((),(if a + k<=b.length then ((fc b a k,()),(true,()),()) else (([],()),(false,()),()))):=by
 unfold Ar;have e:aO .i64 (ae b) (a:Int)=(b.length:Int) - a:=aU (by show -4611686018427387904<=(b.length:Int) - a; omega) (by show (b.length:Int) - a<=_; omega);have i1:dC (a:Int) 0 (ae b)=true:=fb.2 ⟨by omega,by show (a:Int)<=(b.length:Int); omega⟩;have e2:aj .i64 (a:Int) (k:Int)=((a + k:Nat):Int):=by rw [aA (by omega) (by omega)]; omega
 dsimp only;rw [ji,e,e2];dsimp only [Option.bind_some];rw [i1,ay (a:=(k:Int)) (b:=0) (by omega)];by_cases h:a + k<=b.length
 . rw [ay (by omega),if_pos h,Fo h,Mv];rfl
 . rw [aJ (by omega),if_neg h]; rfl
def ej (s:List UInt8):Bool:=s.all fun x=>cond (aw (x.toNat:Int) 32) false (!(aw 126 (x.toNat:Int)))
theorem Gs (s:List UInt8) (hs:s.length<=aT):Aa s=some ((),((ej s,()),())):=by
 unfold Aa;have h:=aI (step:=wB pJ) s (fun i (_:Unit)=>(s,((i:Nat):Int),())) (fun _ x _=>bif cond (aw (x.toNat:Int) 32) false (!(aw 126 (x.toNat:Int))) then Sum.inl () else .inr (.inr (false,()))) (fun _=> .inl (s,(s.length:Int),())) (a0:=()) (fun i x a hx=>by
  have hlt:=ai hx;show pJ s (i:Int)=_;unfold pJ;rw [aC hx,az hx,e9 hx,aK (by omega)];dsimp only [cond_true];cases aw (x.toNat:Int) 32 <;> cases aw 126 (x.toNat:Int) <;> rfl) (fun a=>by
  show pJ s (s.length:Int)=_;unfold pJ;rw [au rfl]; rfl)
 rw [fS] at h;have h':L9 s 0=_:=h;rw [h'];unfold ej;cases s.all _ <;> rfl
theorem O4 (s:List UInt8) (hs:s.length<=aT):Ho s=some ((),((ej s,()),())):=by
 unfold Ho;have h:=aI (step:=dq px) s (fun i (_:Unit)=>(s,ae s,((i:Nat):Int),())) (fun _ x _=>bif cond (aw (x.toNat:Int) 32) false (!(aw 126 (x.toNat:Int))) then Sum.inl () else .inr (.inr (false,()))) (fun _=> .inl (s,ae s,(s.length:Int),())) (a0:=()) (fun i x a hx=>by
  have hlt:=ai hx;show px s (ae s) (i:Int)=_;unfold px;rw [aC hx,az hx,e9 hx,aK (by omega)];dsimp only [cond_true];cases aw (x.toNat:Int) 32 <;> cases aw 126 (x.toNat:Int) <;> rfl) (fun a=>by
  show px s (ae s) (s.length:Int)=_;unfold px;rw [au rfl]; rfl)
 rw [fS] at h;have h':I2 s (ae s) 0=_:=h;rw [h'];unfold ej;cases s.all _ <;> rfl
def lj (acc:Nat) (s:List UInt8):Nat:=s.foldl (fun n x=>n * 10 + (x.toNat - 48)) acc
theorem Bo:∀ (s:List UInt8) (acc k:Nat),s.all gi=true->acc < 10 ^ k->lj acc s < 10 ^ (k + s.length)
 | [],acc,k,_,h=>h
 | x :: s,acc,k,hd,h=>by simp only [aef,ac5] at hd;have:=gj.1 hd.1;have h2:=Bo s (acc * 10 + (x.toNat - 48)) (k + 1) hd.2 (by rw [Nat.pow_succ]; omega);rw [ac9,show k + (s.length + 1)=k + 1 + s.length by omega];exact h2
theorem C2:∀ (s:List UInt8) (acc:Nat),s.all gi=true->lj acc s < 1844674407370955162->Lib.parseUint10 acc s= .ok (lj acc s)
 | [],acc,_,_=>rfl
 | x :: s,acc,hd,h=>by
   simp only [aef,ac5] at hd;have hx:=gj.1 hd.1;have hmono:∀ (s:List UInt8) (a:Nat),a<=lj a s:=fun s=>by
    induction s with
    | nil=>intro a; exact ac7 _
    | cons y s ih=>intro a; exact ady (by omega) (ih (a * 10 + (y.toNat - 48)))
   have h1:=hmono s (acc * 10 + (x.toNat - 48));have h:lj (acc * 10 + (x.toNat - 48)) s < 1844674407370955162:=h;have ih:=C2 s (acc * 10 + (x.toNat - 48)) hd.2 h;unfold Lib.parseUint10;rw [if_pos hx,if_neg (by omega),if_neg (by omega),ih];rfl
theorem dv {s:List UInt8}:aZ s=true↔s.all gi=true/\s≠[]:=by
 unfold aZ;cases s.all gi with
 | false=>simp
 | true=>cases s <;> simp [aw,ae]
def yU (s:List UInt8):Option Nat:=if aZ s=true/\s.length<=18 then some (lj 0 s) else none
def Oa (o:Option Nat):Option (Unit×((Int×Unit)×(Bool×Unit)×Unit)):=some ((),match o with | some n=>(((n:Int),()),(true,()),()) | none=>((0,()),(false,()),()))
theorem QR (s:List UInt8) (hs:s.length<=aT):EP s=Oa (yU s):=by
 unfold EP ve yU;rw [hD s hs];dsimp only [Option.bind_some];cases hd:aZ s with
 | false=>rfl
 | true =>
   by_cases h18:s.length<=18
   . rw [if_pos ⟨rfl,h18⟩,adn h18];obtain ⟨h1,h2⟩:=dv.1 hd;have hb:=Bo s 0 0 h1 (by decide);have hb2:lj 0 s < 1000000000000000000:=adw hb (by rw [adA]; exact afh (by decide) h18);have hu:=C2 s 0 h1 (by omega);have hv:Lib.atoiAll s= .ok (lj 0 s:Int):=by
      cases s with
      | nil=>exact absurd rfl h2
      | cons c r => have hc:=adx.1 h1 c (by simp);have hc:=gj.1 hc;rw [Lib.atoiAll_plain c r (by omega) (by omega)];unfold Lib.parseMag;rw [if_neg (by simp),hu];show (if 9223372036854775808<=lj 0 (c :: r) then _ else _)=_;rw [if_neg (by omega)]
     rw [hv];rfl
   . rw [if_neg (fun h=>h18 h.2)];have:Nat.ble s.length 18=false:=by
      cases h:Nat.ble s.length 18 with
      | false=>rfl
      | true=>exact absurd (adC h) h18
     rw [this];rfl
theorem F9 (s:List UInt8) (hs:s.length<=aT):uN s=Oa (yU s):=by
 have hbig:aT=140737488355328:=rfl;unfold uN yU;rw [gq s hs];dsimp only [Option.bind_some];cases hd:aZ s with
 | false=>rfl
 | true =>
   by_cases h18:s.length<=18
   . rw [if_pos ⟨rfl,h18⟩,ay (by show ¬ (18:Int) < (s.length:Int); omega)];obtain ⟨h1,h2⟩:=dv.1 hd;have h:=aF (step:=dq oV) s (fun i (a:Nat)=>(s,(a:Int),((i:Nat):Int),())) (fun _ x a=>Sum.inl (a * 10 + (x.toNat - 48))) (fun a=> .inl (s,(a:Int),(s.length:Int),())) (fun i a=>a < 10 ^ i) (a0:=0) (by decide) (fun i x a hx ha=>by
      have hlt:=ai hx;have hc:=gj.1 (adx.1 h1 x (ade hx));have h17:a < 10 ^ 17:=adw ha (afh (by decide) (by omega));have h17':a < 100000000000000000:=h17;show oV s (a:Int) (i:Int)=_;unfold oV;have m:kl .i64 (a:Int) 10=((a * 10:Nat):Int):=by unfold kl; rw [IntKind.wrap_i64]; omega
      have c:bI .i64 (x.toNat:Int)=(x.toNat:Int):=by unfold bI; rw [IntKind.wrap_i64]; omega
      rw [aC hx,az hx,e9 hx,aK (by omega),m,c,aA (by omega) (by omega),aU (by omega) (by omega)];dsimp only [cond_true];rw [show ((a * 10:Nat):Int) + (x.toNat:Int) - 48=((a * 10 + (x.toNat - 48):Nat):Int) by omega]) (fun i x a a' hx ha hf=>by
      have hc:=gj.1 (adx.1 h1 x (ade hx));simp only [ads] at hf;rw [<- hf,Nat.pow_succ];omega) (fun a ha=>by
      show oV s (a:Int) (s.length:Int)=_;unfold oV;rw [au rfl]; rfl)
     rw [cr] at h;have h':Mk s 0 0=_:=h;rw [h'];rfl
   . rw [if_neg (fun h=>h18 h.2),aJ (by show (18:Int) < (s.length:Int); omega)];rfl
theorem LK {s t:List UInt8} (h:s.length + t.length<=aT):GM s t=true:=adn h
def MF (x:Int×Unit):List UInt8:=[UInt8.ofNat (48 + x.1.toNat / 16),UInt8.ofNat (48 + x.1.toNat % 16)]
def pz (l:aY):List UInt8:=(l.map MF).flatten
theorem sg:∀ l:aY,(pz l).length=2 * l.length
 | []=>rfl
 | x :: r=>by have:=sg r;unfold pz at this ⊢;simp only [ad4,afw,ac4,this,MF,ac9,adk];omega
def Bn:List UInt8->aY
 | []=>[]
 | x :: r=>((x.toNat:Int),()) :: Bn r
theorem tj:∀ q:List UInt8,strOf (Bn q)=q
 | []=>rfl
 | x :: r=>by show UInt8.ofNat (Int.toNat (x.toNat:Int)) :: strOf (Bn r)=_;rw [tj r,adP];simp
theorem uU:∀ q:List UInt8,(Bn q).length=q.length
 | []=>rfl
 | x :: r=>adU (· + 1) (uU r)
theorem Fp:∀ q r:List UInt8,Bn (q ++ r)=Bn q ++ Bn r
 | [],r=>rfl
 | x :: q,r=>adU (((x.toNat:Int),()) :: ·) (Fp q r)
theorem BW:∀ (n:Nat) (q:List UInt8),(Bn q).drop n=Bn (q.drop n)
 | 0,q=>by simp
 | n + 1,[]=>rfl
 | n + 1,x :: r=>BW n r
def jy (b:aY) (a n:Nat):Option (List UInt8) :=
 if 1<=n/\n<=38/\a + (n + 1) / 2<=b.length then
  (if (pz (fc b a ((n + 1) / 2))).all gi=true/\(n % 2=1->(pz (fc b a ((n + 1) / 2))).head? = some 48) then some ((pz (fc b a ((n + 1) / 2))).drop (n % 2)) else none)
 else none
def yR (o:Option (List UInt8)) (e:Int):Option (Unit×((List UInt8×Unit)×(Int×Unit)×(Bool×Unit)×Unit)):=some ((),match o with | some s=>((s,()),(e,()),(true,()),()) | none=>(([],()),(0,()),(false,()),()))
theorem AX {s:List UInt8}:s.head? = some 48↔∃ r,s=48 :: r:=by
 cases s with
 | nil=>simp
 | cons x r=>simp
theorem Jl (n:Nat) (h:n<=1048576):mA .i64 (aj .i64 (n:Int) 1) 2=(((n + 1) / 2:Nat):Int):=by rw [aA (by omega) (by omega)];unfold mA;rw [afe (by omega),IntKind.wrap_i64];omega
theorem Ra (n:Nat):aq (fX (n:Int) 2) 1=decide (n % 2=1):=by
 unfold aq fX;rw [aeq (by omega)];by_cases h:n % 2=1
 . rw [ada h]; exact beq_iff_eq.2 (by omega)
 . rw [adD h]; exact beq_eq_false_iff_ne.2 (by omega)
theorem Xn (x:Int×Unit) (h:0<=x.1/\x.1<=255):strOf [((bI .u8 (aj .i64 48 (mA .i64 (bI .i64 x.1) 16))),()),((bI .u8 (aj .i64 48 (fX (bI .i64 x.1) 16))),())]=MF x:=by
 obtain ⟨⟨n,hn⟩,hn2⟩:(∃ n:Nat,x.1=n)/\x.1<=255:=⟨⟨x.1.toNat,by omega⟩,h.2⟩;have c:bI .i64 x.1=(n:Int):=by unfold bI; rw [IntKind.wrap_i64]; omega
 have q:mA .i64 (n:Int) 16=((n / 16:Nat):Int):=by unfold mA; rw [afe (by omega),IntKind.wrap_i64]; omega
 have r:fX (n:Int) 16=((n % 16:Nat):Int):=by unfold fX; rw [aeq (by omega)]; omega
 have u:∀ k:Nat,k<=16->bI .u8 (aj .i64 48 (k:Int))=((48 + k:Nat):Int):=fun k hk=>by rw [aA (by omega) (by omega)]; unfold bI; rw [IntKind.wrap_u8]; omega
 rw [c,q,r,u _ (by omega),u _ (by omega)];unfold strOf MF;rw [hn];rfl
theorem Xv:∀ c:Fin 256,aj .u8 48 (iT .u8 (c.val:Int) 4)=((48 + c.val / 16:Nat):Int)/\aj .u8 48 (Bu .u8 (c.val:Int) 15)=((48 + c.val % 16:Nat):Int):=by decide +kernel
theorem HO {s:List UInt8} (h:∃ r,s=48 :: r):(s.drop 1).all gi=s.all gi:=by obtain ⟨r,rfl⟩:=h;rfl
theorem J5 {s:List UInt8} (hs:s≠[]):aq (dE s 0) 48=true↔∃ r,s=48 :: r:=by
 cases s with
 | nil=>exact absurd rfl hs
 | cons x r =>
   show ((x.toNat:Int) == 48)=true↔_;rw [beq_iff_eq];refine ⟨fun h=>⟨r,?_⟩,fun ⟨r',h⟩ => ?_⟩
   . have:x=48:=afV.1 (by show x.toNat=48; omega);rw [this]
   . rw [(afI h).1]; rfl
theorem nx {s:List UInt8} (hs:s≠[]):aZ s=s.all gi:=by
 cases h:s.all gi with
 | true=>exact dv.2 ⟨h,hs⟩
 | false =>
   cases h2:aZ s with
   | false=>rfl
   | true=>rw [(dv.1 h2).1] at h; simp at h
theorem OZ {s:List UInt8} {n:Nat} (h:n < s.length):s.drop n≠[]:=fun e=>by have:=adU List.length e;rw [adZ] at this;simp only [adk] at this;omega
theorem Gq (b:aY) (a n:Nat) (hb:zA b) (ha:a<=b.length) (hn:n<=1048576):wT b a n=yR (jy b a n) ((a + (n + 1) / 2:Nat):Int):=by
 have hbig:aT=140737488355328:=rfl;have hl:=hb.1;unfold wT jy;have e:aO .i64 (ae b) (a:Int)=(b.length:Int) - a:=aU (by show -4611686018427387904<=(b.length:Int) - a; omega) (by show (b.length:Int) - a<=_; omega);have hq:=Jl n hn;dsimp only;rw [e,hq,ay (a:=(a:Int)) (b:=0) (by omega),ay (a:=ae b) (b:=(a:Int)) (by show ¬ (b.length:Int) < a; omega)];by_cases h1:1<=n/\n<=38;rotate_left
 . rw [if_neg (fun h=>h1 ⟨h.1,h.2.1⟩)];by_cases h0:(n:Int) < 1
   . rw [aJ h0]; rfl
   . rw [ay h0,aJ (by omega)]; rfl
 rw [ay (a:=(n:Int)) (b:=1) (by omega),ay (a:=38) (b:=(n:Int)) (by omega)];dsimp only [cond_false,cond_true];by_cases h2:a + (n + 1) / 2<=b.length;rotate_left
 . rw [if_neg (fun h=>h2 h.2.2),aJ (by omega)]; rfl
 rw [if_pos ⟨h1.1,h1.2,h2⟩,ay (by omega)];dsimp only [cond_false];have hpl:=ma h2;have h:=aF (step:=dQ oC) (fc b a ((n + 1) / 2)) (fun i (o:List UInt8)=>(b,(a:Int),(n:Int),o,((a + i:Nat):Int),())) (fun _ x o=>Sum.inl (o ++ MF x)) (fun o=> .inl (b,(a:Int),(n:Int),o,((a + (n + 1) / 2:Nat):Int),())) (fun i o=>o.length=2 * i) (a0:=[]) rfl (fun i x o hx ho=>by
  obtain ⟨hik,hg⟩:=Lq hx;have hlt:=ai hg;show oC b (a:Int) (n:Int) o ((a + i:Nat):Int)=_;unfold oC;rw [hq,aA (by omega) (by omega),aJ (by omega),az hg,aS _ hg];dsimp only [cond_true];rw [Xn x (hb.2 x (ade hg)),LK (by show o.length + 2<=aT; omega),aK (by omega)];rfl) (fun i x o o' hx ho hf=>by
  simp only [ads] at hf;rw [<- hf,ac4,ho];show 2 * i + 2=_;omega) (fun o ho=>by
  show oC b (a:Int) (n:Int) o ((a + (fc b a ((n + 1) / 2)).length:Nat):Int)=_;unfold oC;rw [hq,aA (by omega) (by omega),hpl,ay (by omega)]; rfl)
 have hfold:∀ (l:aY) (o:List UInt8),l.foldl (fun o x=>o ++ MF x) o=o ++ pz l:=fun l=>by
  induction l with
  | nil=>intro o; simp [pz]
  | cons x r ih=>intro o; rw [aes,ih]; simp [pz]
 rw [cr,hfold,aee] at h;have h':J0 b (a:Int) (n:Int) [] (a:Int)=_:=h;rw [h'];generalize hs:pz (fc b a ((n + 1) / 2))=s;have hsl:s.length=2 * ((n + 1) / 2):=by rw [<- hs,sg,hpl]
 have hsne:s≠[]:=fun e=>by rw [e] at hsl; simp only [adk] at hsl; omega
 dsimp only [Option.bind_some,Sum.elim_inl];rw [Ra,hq,aA (by omega) (by omega),show (a:Int) + (((n + 1) / 2:Nat):Int)=((a + (n + 1) / 2:Nat):Int) by omega];by_cases hp:n % 2=1
 . rw [ada hp,hp];have i0:aR 0 s=true:=lT (i:=0) (by omega);have c1:dW 1 (ae s) s=true:=by
    show (decide ((0:Int)<=1) && (decide ((1:Int)<=(s.length:Int)) && decide ((s.length:Int)<=(s.length:Int))))=true;rw [ada (by omega),ada (by omega),ada (by omega)]; rfl
   have sb:sub s 1 (ae s)=s.drop 1:=by show (s.take (Int.toNat (s.length:Int))).drop 1=_;rw [adP,aeT]
   rw [i0];dsimp only [cond_true];by_cases h48:∃ r,s=48 :: r
   . rw [(J5 hsne).2 h48];rw [c1,sb,gq _ (by rw [adZ]; omega),nx (OZ (by omega)),HO h48];dsimp only [cond_true,Option.bind_some];cases hd:s.all gi with
     | false=>rw [if_neg (fun h=>by simp at h)]; rfl
     | true=>rw [if_pos ⟨rfl,fun _=>AX.2 h48⟩]; rfl
   . have:aq (dE s 0) 48=false:=by
      cases h:aq (dE s 0) 48 with
      | false=>rfl
      | true=>exact absurd ((J5 hsne).1 h) h48
     rw [this,if_neg (fun h=>h48 (AX.1 (h.2 rfl)))]; rfl
 . rw [adD hp];have hp0:n % 2=0:=by omega
   rw [hp0];dsimp only [cond_false];rw [gq _ (by omega),nx hsne];dsimp only [Option.bind_some];cases hd:s.all gi with
   | false=>rw [if_neg (fun h=>by simp at h)]; rfl
   | true=>rw [if_pos ⟨rfl,fun h=>by simp at h⟩]; rfl
theorem KA (b:aY) (a n:Nat) (hb:zA b) (ha:a<=b.length) (hn:n<=1048576):Bj b a n=yR (jy b a n) ((a + (n + 1) / 2:Nat):Int):=by
 have hbig:aT=140737488355328:=rfl;have hl:=hb.1;unfold Bj jy;rw [ji,Jl n hn];dsimp only [Option.bind_some];by_cases h1:1<=n/\n<=38;rotate_left
 . rw [if_neg (fun h=>h1 ⟨h.1,h.2.1⟩)];have:dC (n:Int) 1 38=false:=by
    cases h:dC (n:Int) 1 38 with
    | false=>rfl
    | true=>have:=fb.1 h; omega
   rw [this]; rfl
 rw [fb.2 (by omega:(1:Int)<=n/\(n:Int)<=38),Af b a _ hl ha (by omega)];have hloop:∀ (t9:aY) (t10:Bool) (p:aY),(∀ x∈p,0<=x.1/\x.1<=255)->p.length<=20->LQ (a:Int) (n:Int) t9 t10 [] p (ae p) 0=some (.inl ((a:Int),(n:Int),t9,t10,Bn (pz p),p,ae p,(p.length:Int),())):=fun t9 t10 p hp hpl=>by
  have h:=aF (step:=xx qh) p (fun i (o:aY)=>((a:Int),(n:Int),t9,t10,o,p,ae p,((i:Nat):Int),())) (fun _ x o=>Sum.inl (o ++ Bn (MF x))) (fun o=> .inl ((a:Int),(n:Int),t9,t10,o,p,ae p,(p.length:Int),())) (fun i o=>o.length=2 * i) (a0:=[]) rfl (fun i x o hx ho=>by
   have hlt:=ai hx;have hx2:=hp x (ade hx);show qh (a:Int) (n:Int) t9 t10 o p (ae p) (i:Int)=_;unfold qh;rw [aC hx,az hx,aS _ hx,aK (by omega)];obtain ⟨k,hk⟩:∃ k:Nat,x.1=k:=⟨x.1.toNat,by omega⟩;have hf:=Xv ⟨k,by omega⟩;dsimp only at hf;rw [hk,hf.1,hf.2];dsimp only [cond_true];have:∀ ys:aY,ys.length=2->bT 1 o ys=true:=fun ys hy=>adn (by rw [hy]; omega)
   rw [this _ rfl];have e1:∀ m:Nat,m < 256->(UInt8.ofNat m).toNat=m:=fun m hm=>by simp [aex hm]
   show some (Sum.inl _)=some (Sum.inl _);unfold MF;rw [hk];simp only [adP,Bn,jn,e1 (48 + k / 16) (by omega),e1 (48 + k % 16) (by omega)]) (fun i x o o' hx ho hf=>by
   simp only [ads] at hf;rw [<- hf,ac4,ho];show 2 * i + 2=_;omega) (fun o ho=>by
   show qh (a:Int) (n:Int) t9 t10 o p (ae p) (p.length:Int)=_;unfold qh;rw [au rfl]; rfl)
  have hfold:∀ (l:aY) (o:aY),l.foldl (fun o x=>o ++ Bn (MF x)) o=o ++ Bn (pz l):=fun l=>by
   induction l with
   | nil=>intro o; show o=o ++ []; rw [adE]
   | cons x r ih=>intro o; rw [aes,ih,show pz (x :: r)=MF x ++ pz r from rfl,Fp,adB]
  rw [cr,hfold,aee] at h;exact h
 by_cases h2:a + (n + 1) / 2<=b.length;rotate_left
 . rw [if_neg h2,if_neg (fun h=>h2 h.2.2)];exact (bn (hloop [] false [] (fun x hx=>by simp at hx) (by simp))).trans rfl
 rw [if_pos h2,if_pos ⟨h1.1,h1.2,h2⟩];have hpl:=ma h2;refine (bn (hloop _ true _ (fun x hx=>hb.2 x (SJ hx)) (by omega))).trans ?_;generalize hs:pz (fc b a ((n + 1) / 2))=s;have hsl:s.length=2 * ((n + 1) / 2):=by rw [<- hs,sg,hpl]
 have hsne:s≠[]:=fun e=>by rw [e] at hsl; simp only [adk] at hsl; omega
 show Option.bind (uL (strOf (Bn s))) _=_;rw [tj,hD _ (by omega),nx hsne];generalize hm:Bn s=m;have hlm:ae m=(s.length:Int):=by rw [<- hm]; show ((Bn s).length:Int)=_; rw [uU]
 have hcut:aO .i64 (s.length:Int) (n:Int)=((n % 2:Nat):Int):=by rw [aU (by omega) (by omega)]; omega
 have hpc:ae (fc b a ((n + 1) / 2))=(((n + 1) / 2:Nat):Int):=by show ((fc b a _).length:Int)=_; rw [hpl]
 have c1:dW ((n % 2:Nat):Int) (s.length:Int) m=true:=by show (decide ((0:Int)<=((n % 2:Nat):Int)) && (decide (((n % 2:Nat):Int)<=(s.length:Int)) && decide ((s.length:Int)<=(m.length:Int))))=true;rw [show (m.length:Int)=(s.length:Int) from hlm,ada (by omega),ada (by omega),ada (by omega)]; rfl
 have sb:strOf (sub m ((n % 2:Nat):Int) (s.length:Int))=s.drop (n % 2):=by rw [<- hm];show strOf (((Bn s).take (Int.toNat (s.length:Int))).drop (Int.toNat ((n % 2:Nat):Int)))=_;rw [adP,adP,List.take_of_length_le (by rw [uU]; exact ac7 _)];exact (adU strOf (BW _ _)).trans (tj _)
 have hF:(cond (dW (aO .i64 (ae m) (n:Int)) (ae m) m) (some ((),((strOf (sub m (aO .i64 (ae m) (n:Int)) (ae m)),()),(aj .i64 (a:Int) (ae (fc b a ((n + 1) / 2))),()),(true,()),()))) none:Option (Unit×((List UInt8×Unit)×(Int×Unit)×(Bool×Unit)×Unit)))=yR (some (s.drop (n % 2))) ((a + (n + 1) / 2:Nat):Int):=by rw [hlm,hcut,hpc,aA (by omega) (by omega),c1,sb,show (a:Int) + (((n + 1) / 2:Nat):Int)=((a + (n + 1) / 2:Nat):Int) by omega];rfl
 show cond (!(s.all gi)) (some ((),(([],()),(0,()),(false,()),()))) (cond (aq (fX (n:Int) 2) 1) (cond (aR 0 m) (cond (!(aq (gt (0,()) m 0).1 48)) (some ((),(([],()),(0,()),(false,()),()))) (cond (dW (aO .i64 (ae m) (n:Int)) (ae m) m) (some ((),((strOf (sub m (aO .i64 (ae m) (n:Int)) (ae m)),()),(aj .i64 (a:Int) (ae (fc b a ((n + 1) / 2))),()),(true,()),()))) none)) none)
  (cond (dW (aO .i64 (ae m) (n:Int)) (ae m) m) (some ((),((strOf (sub m (aO .i64 (ae m) (n:Int)) (ae m)),()),(aj .i64 (a:Int) (ae (fc b a ((n + 1) / 2))),()),(true,()),()))) none))=_
 rw [hF,Ra];cases hd:s.all gi with
 | false=>rw [if_neg (fun h=>by simp at h)]; rfl
 | true =>
   by_cases hp:n % 2=1
   . rw [ada hp];subst hm;have hm0:∃ x r,s=x :: r:=by
      cases s with
      | nil=>exact absurd rfl hsne
      | cons x r=>exact ⟨x,r,rfl⟩
     obtain ⟨x,r,rfl⟩:=hm0;have i0:aR 0 (Bn (x :: r))=true:=lT (i:=0) (by rw [uU]; simp);rw [i0];show cond (!(aq (x.toNat:Int) 48)) _ _=_;by_cases h48:x.toNat=48
     . have hx:x=48:=afV.1 h48;rw [show aq (x.toNat:Int) 48=true from beq_iff_eq.2 (by omega),if_pos ⟨rfl,fun _=>by rw [hx]; rfl⟩]; rfl
     . rw [show aq (x.toNat:Int) 48=false from beq_eq_false_iff_ne.2 (by omega),if_neg (fun h=>by obtain ⟨r',h⟩:=AX.1 (h.2 hp);rw [(afI h).1] at h48;exact h48 rfl)]; rfl
   . rw [adD hp,if_pos ⟨rfl,fun h=>absurd h hp⟩]; rfl
def rT (p:aY) (i:Nat):Bool:=aq (fX (iT .i64 (bI .i64 (p.getD (i / 8) (0,())).1) ((7 - i % 8:Nat):Int)) 2) 1
def eh (p:aY):aY:=((List.range 64).filter (rT p)).map fun i=>(((i + 1:Nat):Int),())
theorem RG:∀ (c:Fin 256) (r:Fin 8),(!(aq (Bu .u8 (c.val:Int) (iT .u8 128 (r.val:Int))) 0))=aq (fX (iT .i64 (bI .i64 (c.val:Int)) ((7 - r.val:Nat):Int)) 2) 1:=by decide +kernel
theorem tg (p:aY):∀ (l:List Nat) (o:aY),l.foldl (fun o i=>bif rT p i then o ++ [(((i + 1:Nat):Int),())] else o) o=o ++ (l.filter (rT p)).map fun i=>(((i + 1:Nat):Int),())
 | [],o=>by simp
 | i :: l,o=>by rw [aes,tg p l,aeS];cases rT p i <;> simp
theorem FE {i x:Nat} (h:(List.range 64)[i]? = some x):x=i/\i < 64:=by have:=(afg.1 h);obtain ⟨h1,h2⟩:=this;rw [List.getElem_range] at h2;exact ⟨h2.symm,by simpa using h1⟩
theorem Wu {i:Nat} (h:i < 64):aO .i64 ((i + 1:Nat):Int) 1=(i:Int)/\mA .i64 (i:Int) 8=((i / 8:Nat):Int)/\fX (i:Int) 8=((i % 8:Nat):Int)/\bL ((i + 1:Nat):Int) 64=true:=by
 refine ⟨by rw [aU (by omega) (by omega)]; omega,?_,?_,ada (by omega)⟩
 . unfold mA;rw [afe (by omega),IntKind.wrap_i64];omega
 . unfold fX;rw [aeq (by omega)];omega
def oq (b:aY) (a:Nat):Option (Unit×((aY×Unit)×(Int×Unit)×(Bool×Unit)×Unit)):=some ((),(if a + 8<=b.length then ((eh (fc b a 8),()),(((a + 8:Nat):Int),()),(true,()),()) else (([],()),(0,()),(false,()),())))
theorem Ft (b:aY) (a k i:Nat) (hi:i < k) (h:a + k<=b.length):∃ x,b[a + i]? = some x/\(fc b a k).getD i (0,())=x/\(fc b a k)[i]? = some x:=by obtain ⟨x,hx⟩:∃ x,(fc b a k)[i]? = some x:=⟨_,adi (by rw [ma h]; exact hi)⟩;exact ⟨x,(Lq hx).2,by rw [List.getD_eq_getElem?_getD,hx]; rfl,hx⟩
theorem KU (b:aY) (a:Nat) (hb:zA b) (ha:a<=b.length):DQ b a=oq b a:=by
 have hbig:aT=140737488355328:=rfl;have hl:=hb.1;unfold DQ oq;have e:aO .i64 (ae b) 8=(b.length:Int) - 8:=aU (by show -4611686018427387904<=(b.length:Int) - 8; omega) (by show (b.length:Int) - 8<=_; omega);rw [e,ay (a:=(a:Int)) (b:=0) (by omega)];by_cases h8:a + 8<=b.length;rotate_left
 . rw [if_neg h8,aJ (by omega)]; rfl
 rw [if_pos h8,ay (by omega)];have h:=aF (step:=cV tz) (List.range 64) (fun i (o:aY)=>(b,(a:Int),o,((i + 1:Nat):Int),())) (fun _ x o=>Sum.inl (bif rT (fc b a 8) x then o ++ [(((x + 1:Nat):Int),())] else o)) (fun o=> .inl (b,(a:Int),o,65,())) (fun i o=>o.length<=i) (a0:=[]) (ac7 _) (fun i x o hx ho=>by
  obtain ⟨rfl,hi⟩:=FE hx;obtain ⟨e1,e2,e3,e4⟩:=Wu hi;obtain ⟨c,hc,hd,_⟩:=Ft b a 8 (x / 8) (by omega) h8;show tz b (a:Int) o ((x + 1:Nat):Int)=_;unfold tz;have e5:aO .i64 7 ((x % 8:Nat):Int)=((7 - x % 8:Nat):Int):=by rw [aU (by omega) (by omega)]; omega
  have e6:aj .i64 (a:Int) ((x / 8:Nat):Int)=((a + x / 8:Nat):Int):=by rw [aA (by omega) (by omega)]; omega
  have hbit:rT (fc b a 8) x=aq (fX (iT .i64 (bI .i64 c.1) ((7 - x % 8:Nat):Int)) 2) 1:=by unfold rT; rw [hd]
  dsimp only;rw [e4,e1,e2,e3,e5,e6,az hc,aS _ hc,show bL 0 ((7 - x % 8:Nat):Int)=true from ada (by omega),<- hbit,aK (by omega)];have:bT 8 o [(((x + 1:Nat):Int),())]=true:=adn (by show (o.length + 1) * 8<=aT; omega);rw [this];cases rT (fc b a 8) x <;> rfl) (fun i x o o' hx ho hf=>by
  simp only [ads] at hf;rw [<- hf];cases rT (fc b a 8) x with
  | false=>show o.length<=_; omega
  | true=>show (o ++ [_]).length<=_; rw [ac4]; show o.length + 1<=_; omega) (fun o ho=>by
  show tz b (a:Int) o (((List.range 64).length + 1:Nat):Int)=_;rfl)
 rw [cr,tg,aee] at h;have h':JM b (a:Int) [] 1=_:=h;refine (bn h').trans ?_;show some ((),((_,()),(aj .i64 (a:Int) 8,()),(true,()),()))=_;rw [aA (by omega) (by omega)];rfl
theorem IT (b:aY) (a:Nat) (hb:zA b) (ha:a<=b.length):C7 b a=oq b a:=by
 have hbig:aT=140737488355328:=rfl;have hl:=hb.1;unfold C7 oq;have hp:Ar b (a:Int) 8=_:=Af b a 8 hl ha (by decide);rw [hp];by_cases h8:a + 8<=b.length;rotate_left
 . rw [if_neg h8,if_neg h8]; rfl
 rw [if_pos h8,if_pos h8];generalize hq:fc b a 8=p;have h:=aF (step:=cV sv) (List.range 64) (fun i (o:aY)=>((a:Int),p,o,((i + 1:Nat):Int),())) (fun _ x o=>Sum.inl (bif rT p x then o ++ [(((x + 1:Nat):Int),())] else o)) (fun o=> .inl ((a:Int),p,o,65,())) (fun i o=>o.length<=i) (a0:=[]) (ac7 _) (fun i x o hx ho=>by
  obtain ⟨rfl,hi⟩:=FE hx;obtain ⟨e1,e2,e3,e4⟩:=Wu hi;obtain ⟨c,hc,hd,hc2⟩:=Ft b a 8 (x / 8) (by omega) h8;rw [hq] at hd hc2;have hcb:=hb.2 c (ade hc);show sv (a:Int) p o ((x + 1:Nat):Int)=_;unfold sv;obtain ⟨k,hk⟩:∃ k:Nat,c.1=k:=⟨c.1.toNat,by omega⟩;have hbe:=RG ⟨k,by omega⟩ ⟨x % 8,by omega⟩;dsimp only at hbe;have hbit:rT p x= !(aq (Bu .u8 c.1 (iT .u8 128 ((x % 8:Nat):Int))) 0):=by unfold rT; rw [hd,hk,hbe]
  dsimp only;rw [e4,e1,e2,e3,az hc2,aS _ hc2,show bL 0 ((x % 8:Nat):Int)=true from ada (by omega),<- hbit,aK (by omega)];have:bT 8 o [(((x + 1:Nat):Int),())]=true:=adn (by show (o.length + 1) * 8<=aT; omega);rw [this];cases rT p x <;> rfl) (fun i x o o' hx ho hf=>by
  simp only [ads] at hf;rw [<- hf];cases rT p x with
  | false=>show o.length<=_; omega
  | true=>show (o ++ [_]).length<=_; rw [ac4]; show o.length + 1<=_; omega) (fun o ho=>by
  show sv (a:Int) p o (((List.range 64).length + 1:Nat):Int)=_;rfl)
 rw [cr,tg,aee] at h;have h':JO (a:Int) p [] 1=_:=h;refine (bn h').trans ?_;show some ((),((_,()),(aj .i64 (a:Int) 8,()),(true,()),()))=_;rw [aA (by omega) (by omega)];rfl
theorem lq (p:aY):(eh p).length<=64:=by unfold eh;rw [ae0];exact ady (aeW _ _) (by simp)
theorem IQ {p:aY} {x:Int×Unit} (h:x∈eh p):1<=x.1/\x.1<=64:=by obtain ⟨i,hi,rfl⟩:=ae9.1 h;have:=ad9.1 (ae2.1 hi).1;constructor <;> (show _<=_) <;> omega
abbrev QQ:=Int×Int×Int×Unit
def iP:List QQ:=[(2,3,19,()),(3,1,6,()),(4,1,12,()),(7,1,10,()),(11,1,6,()),(14,1,4,()),(37,2,12,()),(38,2,6,()),(39,2,2,()),(41,2,8,()),(48,5,60,()),(49,1,3,()),(54,5,60,()),(95,2,12,()),(102,4,20,()),(103,4,20,())]
def H7 (no:Int):QQ:=(iP.find? fun r=>aq r.1 no).getD (0,0,0,())
def bC (no:Int):Int:=(H7 no).2.1
def gZ (no:Int):Int:=(H7 no).2.2.1
theorem nS {α Y:Type} (p:α->Bool) (y:α->Y) (z:Y):∀ (l:List α) (i:Nat),iv (fun _ x (_:Unit)=>bif p x then .inr (y x) else .inl ()) (fun _=>z) i l ()=match l.find? p with | some x=>y x | none=>z
 | [],_=>rfl
 | x :: l,i=>by
   have ih:=nS p y z l (i + 1);rw [List.find?_cons,iv];cases p x with
   | true=>rfl
   | false=>exact ih
theorem Lw (no:Int):G8 no=some ((),(H7 no,())):=by
 unfold G8;have h:=aI (step:=dQ tr) iP (fun i (_:Unit)=>(no,iP,ae iP,((i:Nat):Int),(0,0,0,()),())) (fun _ x _=>bif aq x.1 no then .inr (.inr (x,())) else .inl ()) (fun _=> .inl (no,iP,ae iP,(iP.length:Int),(0,0,0,()),())) (a0:=()) (fun i x a hx=>by
  have hlt:=ai hx;have h16:iP.length=16:=rfl;have hbig:aT=140737488355328:=rfl;show tr no iP (ae iP) (i:Int) (0,0,0,())=_;unfold tr;rw [aC hx,az hx,aS _ hx,aK (by omega)];dsimp only [cond_true];cases aq x.1 no <;> rfl) (fun a=>by
  show tr no iP (ae iP) (iP.length:Int) (0,0,0,())=_;rfl)
 rw [nS] at h;have h':Mm no iP (ae iP) 0 (0,0,0,())=_:=h;refine (bn h').trans ?_;unfold H7;cases iP.find? _ <;> rfl
theorem sO (no:Int):no=2∨no=3∨no=4∨no=7∨no=11∨no=14∨no=37∨no=38∨no=39∨no=41∨no=48∨no=49∨no=54∨no=95∨no=102∨no=103∨∀ k∈[2,3,4,7,11,14,37,38,39,41,48,49,54,95,102,103],aq no k=false/\aq k no=false:=by
 by_cases h:∀ k∈[2,3,4,7,11,14,37,38,39,41,48,49,54,95,102,103],no≠k
 . have:∀ k∈[2,3,4,7,11,14,37,38,39,41,48,49,54,95,102,103],aq no k=false/\aq k no=false:=fun k hk=>⟨beq_eq_false_iff_ne.2 (h k hk),beq_eq_false_iff_ne.2 (Ne.symm (h k hk))⟩
   iterate 16 right
   exact this
 . simp only [aff,Classical.not_not] at h;obtain ⟨k,hk,rfl⟩:=h;simp only [adg,List.not_mem_nil,or_false] at hk;rcases hk with h | h | h | h | h | h | h | h | h | h | h | h | h | h | h | h <;> simp [h]
theorem Aj {no:Int} (h:∀ k∈[2,3,4,7,11,14,37,38,39,41,48,49,54,95,102,103],aq no k=false/\aq k no=false):H7 no=(0,0,0,()):=by unfold H7 iP;simp only [List.find?_cons,(h 2 (by simp)).2,(h 3 (by simp)).2,(h 4 (by simp)).2,(h 7 (by simp)).2,(h 11 (by simp)).2,(h 14 (by simp)).2,(h 37 (by simp)).2,(h 38 (by simp)).2,(h 39 (by simp)).2,(h 41 (by simp)).2,(h 48 (by simp)).2,(h 49 (by simp)).2,(h 54 (by simp)).2,(h 95 (by simp)).2,(h 102 (by simp)).2,(h 103 (by simp)).2,List.find?_nil,Option.getD_none]
theorem EA (no:Int):HP no=some ((),((bC no,()),())):=by
 rcases sO no with rfl | rfl | rfl | rfl | rfl | rfl | rfl | rfl | rfl | rfl | rfl | rfl | rfl | rfl | rfl | rfl | h
 all_goals first | rfl | skip
 unfold HP bC;rw [Aj h];simp only [(h 2 (by simp)).1,(h 3 (by simp)).1,(h 4 (by simp)).1,(h 7 (by simp)).1,(h 11 (by simp)).1,(h 14 (by simp)).1,(h 37 (by simp)).1,(h 38 (by simp)).1,(h 39 (by simp)).1,(h 41 (by simp)).1,(h 48 (by simp)).1,(h 49 (by simp)).1,(h 54 (by simp)).1,(h 95 (by simp)).1,(h 102 (by simp)).1,(h 103 (by simp)).1,adm]
theorem IE (no:Int):LG no=some ((),((gZ no,()),())):=by
 rcases sO no with rfl | rfl | rfl | rfl | rfl | rfl | rfl | rfl | rfl | rfl | rfl | rfl | rfl | rfl | rfl | rfl | h
 all_goals first | rfl | skip
 unfold LG gZ;rw [Aj h];simp only [(h 2 (by simp)).1,(h 3 (by simp)).1,(h 4 (by simp)).1,(h 7 (by simp)).1,(h 11 (by simp)).1,(h 14 (by simp)).1,(h 37 (by simp)).1,(h 38 (by simp)).1,(h 39 (by simp)).1,(h 41 (by simp)).1,(h 48 (by simp)).1,(h 49 (by simp)).1,(h 54 (by simp)).1,(h 95 (by simp)).1,(h 102 (by simp)).1,(h 103 (by simp)).1,adm]
theorem Bi (no:Int):EO no=some ((),((bC no,()),())):=by unfold EO; rw [Lw]; rfl
theorem Tf (no:Int):Ps no=some ((),((gZ no,()),())):=by unfold Ps; rw [Lw]; rfl
theorem kinds (no:Int):∃ n:Nat,gZ no=n/\((bC no=0/\n=0)∨(bC no=1/\1<=n/\n<=12)∨(bC no=2/\1<=n/\n<=12)∨(bC no=3/\n=19)∨(bC no=4/\n=20)∨(bC no=5/\n=60)):=by
 rcases sO no with rfl | rfl | rfl | rfl | rfl | rfl | rfl | rfl | rfl | rfl | rfl | rfl | rfl | rfl | rfl | rfl | h
 . exact ⟨19,rfl,by decide⟩
 . exact ⟨6,rfl,by decide⟩
 . exact ⟨12,rfl,by decide⟩
 . exact ⟨10,rfl,by decide⟩
 . exact ⟨6,rfl,by decide⟩
 . exact ⟨4,rfl,by decide⟩
 . exact ⟨12,rfl,by decide⟩
 . exact ⟨6,rfl,by decide⟩
 . exact ⟨2,rfl,by decide⟩
 . exact ⟨8,rfl,by decide⟩
 . exact ⟨60,rfl,by decide⟩
 . exact ⟨3,rfl,by decide⟩
 . exact ⟨60,rfl,by decide⟩
 . exact ⟨12,rfl,by decide⟩
 . exact ⟨20,rfl,by decide⟩
 . exact ⟨20,rfl,by decide⟩
 . exact ⟨0,by unfold gZ; rw [Aj h]; rfl,.inl ⟨by unfold bC; rw [Aj h],rfl⟩⟩
theorem eg {b:aY} {a n:Nat} {s:List UInt8} (h:jy b a n=some s):s.all gi=true/\s.length=n/\1<=n/\n<=38/\a + (n + 1) / 2<=b.length:=by
 unfold jy at h;split at h
 . rename_i h1;split at h
   . rename_i h2;cases h;have hl:(pz (fc b a ((n + 1) / 2))).length=2 * ((n + 1) / 2):=by rw [sg,ma h1.2.2]
     refine ⟨adx.2 fun x hx=>adx.1 h2.1 x (afx hx),?_,h1⟩;rw [adZ,hl];omega
   . simp at h
 . simp at h
theorem lA {s:List UInt8} {n:Nat} (h:s.length=n) (hn:1<=n):s≠[]:=fun e=>by rw [e] at h; simp only [adk] at h; omega
theorem Cn {s:List UInt8} {n:Nat} (h:s.all gi=true) (hl:s.length=n) (h1:1<=n) (h2:n<=18):yU s=some (lj 0 s):=by unfold yU;rw [if_pos ⟨dv.2 ⟨h,lA hl h1⟩,by omega⟩]
def GG (b:aY) (a d:Nat):Option (Unit×((Int×Unit)×(Int×Unit)×(Bool×Unit)×Unit)):=some ((),match jy b a d with | some t=>(((lj 0 t:Int),()),(((a + (d + 1) / 2:Nat):Int),()),(true,()),()) | none=>((0,()),(0,()),(false,()),()))
theorem HD:uN []=some ((),((0,()),(false,()),())):=F9 [] (adM _)
theorem Vf (b:aY) (a d:Nat) (hb:zA b) (ha:a<=b.length) (hd:d=2∨d=3):J7 b a d=GG b a d:=by
 have hbig:aT=140737488355328:=rfl;unfold J7 GG;have hc:cond (!(aq (d:Int) 2)) (!(aq (d:Int) 3)) false=false:=by rcases hd with rfl | rfl <;> rfl
 rw [hc,Gq b a d hb ha (by omega)];unfold yR;cases ho:jy b a d with
 | none => refine (bn HD).trans ?_;rfl
 | some t => obtain ⟨h1,h2,h3,h4,h5⟩:=eg ho;have hn:uN t=_:=F9 t (by omega);rw [Cn h1 h2 h3 (by omega)] at hn;refine (bn hn).trans ?_;rfl
theorem Xs (b:aY) (a d:Nat) (hb:zA b) (ha:a<=b.length) (hd:d=2∨d=3):GO b a d=GG b a d:=by
 have hbig:aT=140737488355328:=rfl;unfold GO GG;rw [ji,fb.2 (by omega:(2:Int)<=d/\(d:Int)<=3),KA b a d hb ha (by omega)];unfold yR;cases ho:jy b a d with
 | none=>rfl
 | some t => obtain ⟨h1,h2,h3,h4,h5⟩:=eg ho;have hn:EP t=_:=QR t (by omega);rw [Cn h1 h2 h3 (by omega)] at hn;refine (bn hn).trans ?_;rfl
def jC (no:Int) (s:List UInt8):Bool:=cond (aq (bC no) 1) (cond (aZ s) (aq (ae s) (gZ no)) false) (cond (aq (bC no) 2) (cond (ej s) (aq (ae s) (gZ no)) false) (cond (aq (bC no) 3) (cond (aZ s) (dC (ae s) 1 (gZ no)) false) (cond (aq (bC no) 4) (cond (ej s) (dC (ae s) 1 (gZ no)) false) (cond (aq (bC no) 5) (cond (ej s) (dC (ae s) 1 (gZ no)) false) false))))
theorem VR (no:Int) (s:List UInt8) (hs:s.length<=aT):MQ no s=some ((),((jC no s,()),())):=by
 unfold MQ jC;rw [EA,IE];dsimp only [Option.bind_some];rw [gq s hs,Gs s hs];dsimp only [Option.bind_some];rw [kU];dsimp only [Option.bind_some];cases aq (bC no) 1 with
 | true=>rfl
 | false =>
 cases aq (bC no) 2 with
 | true=>rfl
 | false =>
 cases aq (bC no) 3 with
 | true =>
   show some ((),((cond (aZ s) (bL (ae s) (gZ no)) false,()),()))=some ((),((cond (aZ s) (dC (ae s) 1 (gZ no)) false,()),()));cases hd:aZ s with
   | false=>rfl
   | true =>
     have h1:bL 1 (ae s)=true:=by
      have:=(dv.1 hd).2;cases s with
      | nil=>exact absurd rfl this
      | cons x r=>exact ada (by show (1:Int)<=((r.length + 1:Nat):Int); omega)
     unfold dC;rw [h1]; rfl
 | false =>
 cases aq (bC no) 4 with
 | true=>cases ej s <;> rfl
 | false =>
 cases aq (bC no) 5 with
 | true=>cases ej s <;> rfl
 | false=>rfl
theorem LB (no:Int) (s:List UInt8) (hs:s.length<=aT):yS no s=some ((),((jC no s,()),())):=by
 unfold yS jC;rw [Lw,hD s hs,O4 s hs];dsimp only [Option.bind_some];rw [ji];dsimp only [Option.bind_some];show cond (aq (bC no) 1) _ (cond (aq (bC no) 2) _ (cond (aq (bC no) 3) _ (cond (aq (bC no) 4) _ (cond (aq (bC no) 5) _ _))))=_;cases aq (bC no) 1 with
 | true=>rfl
 | false =>
 cases aq (bC no) 2 with
 | true=>rfl
 | false =>
 cases aq (bC no) 3 with
 | true=>cases aZ s <;> rfl
 | false =>
 cases aq (bC no) 4 with
 | true=>cases ej s <;> rfl
 | false =>
 cases aq (bC no) 5 with
 | true=>cases ej s <;> rfl
 | false=>rfl
def ql (b:aY) (a n:Nat):Option (List UInt8×Nat):=if a + n<=b.length then (bif ej (strOf (fc b a n)) then some (strOf (fc b a n),a + n) else none) else none
def rZ (b:aY) (a n:Nat):Option (List UInt8×Nat):=(jy b a n).map fun s=>(s,a + (n + 1) / 2)
def A7 (b:aY) (a d n:Nat) (f:Nat->Nat->Option (List UInt8×Nat)):Option (List UInt8×Nat):=match jy b a d with
 | some t=>if 1<=lj 0 t/\lj 0 t<=n then f (a + (d + 1) / 2) (lj 0 t) else none
 | none=>none
def ob (b:aY) (a:Nat) (no:Int):Option (List UInt8×Nat) :=
 if bC no=1 then rZ b a (gZ no).toNat else if bC no=2 then ql b a (gZ no).toNat
 else if bC no=3 then A7 b a 2 (gZ no).toNat (rZ b) else if bC no=4 then A7 b a 2 (gZ no).toNat (ql b)
 else if bC no=5 then A7 b a 3 (gZ no).toNat (ql b) else none
def lO (o:Option (List UInt8×Nat)):Option (Unit×((List UInt8×Unit)×(Int×Unit)×(Bool×Unit)×Unit)):=some ((),match o with | some s=>((s.1,()),((s.2:Int),()),(true,()),()) | none=>(([],()),(0,()),(false,()),()))
theorem lG (p:aY):(strOf p).length=p.length:=by unfold strOf; exact ae0 _
theorem FB (b:aY) (a n:Nat):(match yR (jy b a n) ((a + (n + 1) / 2:Nat):Int) with | some y=>some ((),(y.2.1,y.2.2.1,y.2.2.2.1,())) | none=>none)=lO (rZ b a n):=by unfold yR rZ lO;cases jy b a n <;> rfl
noncomputable def N3 (b:aY) (a n:Int):Option (Unit×((List UInt8×Unit)×(Int×Unit)×(Bool×Unit)×Unit)) :=
 cond (cond (aw (ae b) a) true (aw (aO .i64 (ae b) a) n)) (some ((),(([],()),(0,()),(false,()),()))) (cond (dW a (aj .i64 a n) b) (Option.bind (Aa (strOf (sub b a (aj .i64 a n)))) fun y=>cond (!y.2.1.1) (some ((),(([],()),(0,()),(false,()),()))) (cond (dW a (aj .i64 a n) b) (some ((),((strOf (sub b a (aj .i64 a n)),()),(aj .i64 a n,()),(true,()),()))) none)) none)
theorem Mq (b:aY) (a n:Nat) (hb:zA b) (ha:a<=b.length) (hn:n<=1048576) :
 N3 b a n=lO (ql b a n):=by
 have hbig:aT=140737488355328:=rfl;have hl:=hb.1;have e:aO .i64 (ae b) (a:Int)=(b.length:Int) - a:=aU (by show -4611686018427387904<=(b.length:Int) - a; omega) (by show (b.length:Int) - a<=_; omega);have e2:aj .i64 (a:Int) (n:Int)=((a + n:Nat):Int):=by rw [aA (by omega) (by omega)]; omega
 unfold ql N3;rw [e,e2,ay (a:=ae b) (b:=(a:Int)) (by show ¬ (b.length:Int) < a; omega)];by_cases h:a + n<=b.length;rotate_left
 . rw [if_neg h,aJ (by omega)]; rfl
 have hs:strOf (sub b (a:Int) ((a + n:Nat):Int))=strOf (fc b a n):=adU strOf (Mv b a n);rw [if_pos h,ay (by omega),Fo h,hs,Gs _ (by rw [lG,ma h]; omega)];dsimp only [Option.bind_some,cond_false,cond_true];cases ej (strOf (fc b a n)) <;> rfl
theorem W4 (b:aY) (a:Nat) (no:Int) (hb:zA b) (ha:a<=b.length):Nk b a no=lO (ob b a no):=by
 have hbig:aT=140737488355328:=rfl;have hl:=hb.1;obtain ⟨n,hn,hk⟩:=kinds no;have h0:aw (a:Int) 0=false:=ay (by omega)
 have hvar:∀ (d:Nat) (w:Int) (f:Nat->Nat->Option (List UInt8×Nat)) (F:Int->Int->Option (Unit×((List UInt8×Unit)×(Int×Unit)×(Bool×Unit)×Unit))),(d=2∨d=3)->(∀ a' k:Nat,a'<=b.length->k<=1048576->F (a':Int) (k:Int)=lO (f a' k)) ->
  (Option.bind (J7 b a d) fun y5=>cond (!y5.2.2.2.1.1) (some ((),(([],()),(0,()),(false,()),()))) (Option.bind (qC y5.2.1.1 1 (n:Int)) fun y6=>cond (!y6.2.1.1) (some ((),(([],()),(0,()),(false,()),()))) (F y5.2.2.1.1 y5.2.1.1)))=lO (A7 b a d n f):=by
  intro d w f F hd hF;rw [Vf b a d hb ha hd];unfold GG A7;cases ho:jy b a d with
  | none=>rfl
  | some t =>
    obtain ⟨h1,h2,h3,h4,h5⟩:=eg ho;have hv:=Bo t 0 0 h1 (by decide);have hv2:lj 0 t < 1000:=adw hv (by rw [adA,h2]; exact afh (by decide) (by omega:d<=3));dsimp only [Option.bind_some];rw [kU];dsimp only [Option.bind_some];by_cases hin:1<=lj 0 t/\lj 0 t<=n
    . rw [if_pos hin,fb.2 (by omega)];exact hF _ _ h5 (by omega)
    . rw [if_neg hin];have:dC (lj 0 t:Int) 1 (n:Int)=false:=by
       cases h:dC (lj 0 t:Int) 1 (n:Int) with
       | false=>rfl
       | true=>have:=fb.1 h; omega
      rw [this]; rfl
 unfold Nk ob;rw [EA,IE,hn,h0];have hnn:Int.toNat (n:Int)=n:=adP n;rcases hk with ⟨hk,hz⟩ | ⟨hk,hz⟩ | ⟨hk,hz⟩ | ⟨hk,hz⟩ | ⟨hk,hz⟩ | ⟨hk,hz⟩
 . rw [hk]; rfl
 . rw [hk,hnn];show (Option.bind (wT b a n) fun y=>some ((),(y.2.1,y.2.2.1,y.2.2.2.1,())))=lO (rZ b a n);rw [Gq b a n hb ha (by omega),<- FB];rfl
 . rw [hk,hnn];exact Mq b a n hb ha (by omega)
 . rw [hk,hnn];exact hvar 2 0 (rZ b) (fun a' k=>Option.bind (wT b a' k) fun y=>some ((),(y.2.1,y.2.2.1,y.2.2.2.1,()))) (.inl rfl) fun a' k ha' hk'=>by show (Option.bind (wT b (a':Int) (k:Int)) _)=_;rw [Gq b a' k hb ha' hk',<- FB];rfl
 . rw [hk,hnn];exact hvar 2 0 (ql b) (N3 b) (.inl rfl) fun a' k ha' hk'=>Mq b a' k hb ha' hk'
 . rw [hk,hnn];exact hvar 3 0 (ql b) (N3 b) (.inr rfl) fun a' k ha' hk'=>Mq b a' k hb ha' hk'
noncomputable def HU (b:aY) (no a n:Int):Option (Unit×((List UInt8×Unit)×(Int×Unit)×(Bool×Unit)×Unit)) :=
 Option.bind (Bj b a n) fun y5=>cond (!y5.2.2.2.1.1) (some ((),(([],()),(0,()),(false,()),()))) (Option.bind (yS no y5.2.1.1) fun y6=>cond (!y6.2.1.1) (some ((),(([],()),(0,()),(false,()),()))) (some ((),(y5.2.1,y5.2.2.1,(true,()),()))))
noncomputable def BH (b:aY) (no a n:Int):Option (Unit×((List UInt8×Unit)×(Int×Unit)×(Bool×Unit)×Unit)) :=
 Option.bind (Ar b a n) fun y5=>cond (!y5.2.2.1.1) (some ((),(([],()),(0,()),(false,()),()))) (Option.bind (yS no (strOf y5.2.1.1)) fun y6=>cond (!y6.2.1.1) (some ((),(([],()),(0,()),(false,()),()))) (some ((),((strOf y5.2.1.1,()),(aj .i64 a n,()),(true,()),()))))
theorem Fh (b:aY) (no:Int) (a n:Nat) (hb:zA b) (ha:a<=b.length) (hn:n<=1048576):HU b no a n=lO ((rZ b a n).filter fun s=>jC no s.1):=by
 have hbig:aT=140737488355328:=rfl;unfold HU rZ;rw [KA b a n hb ha hn];unfold yR;cases ho:jy b a n with
 | none=>rfl
 | some s => obtain ⟨h1,h2,h3,h4,h5⟩:=eg ho;dsimp only [Option.bind_some];rw [LB no s (by omega)];dsimp only [Option.bind_some,Option.map_some];rw [aeY];dsimp only;cases jC no s <;> rfl
def GJ (b:aY) (a n:Nat):Option (List UInt8×Nat):=if a + n<=b.length then some (strOf (fc b a n),a + n) else none
theorem uP (b:aY) (no:Int) (a n:Nat) (hb:zA b) (ha:a<=b.length) (hn:n<=1048576):BH b no a n=lO ((GJ b a n).filter fun s=>jC no s.1):=by
 have hbig:aT=140737488355328:=rfl;have hl:=hb.1;unfold BH GJ;rw [Af b a n hb.1 ha hn];by_cases h:a + n<=b.length;rotate_left
 . rw [if_neg h,if_neg h]; rfl
 rw [if_pos h,if_pos h,aeY];have hf:=LB no (strOf (fc b a n)) (by rw [lG,ma h]; omega);refine (bn hf).trans ?_;have e2:aj .i64 (a:Int) (n:Int)=((a + n:Nat):Int):=by rw [aA (by omega) (by omega)]; omega
 show cond (!(jC no (strOf (fc b a n)))) _ (some ((),((_,()),(aj .i64 (a:Int) (n:Int),()),(true,()),())))=_;rw [e2];dsimp only;cases jC no (strOf (fc b a n)) <;> rfl
theorem LA (b:aY) (a d:Nat) (hb:zA b) (ha:a<=b.length) (hd:d=2∨d=3) (F:Int->Int->Option (Unit×((List UInt8×Unit)×(Int×Unit)×(Bool×Unit)×Unit))) (f:Nat->Nat->Option (List UInt8×Nat)) (n:Nat)
 (hF:∀ a' k:Nat,a'<=b.length->k<=1048576->F (a':Int) (k:Int)=lO (if 1<=k/\k<=n then f a' k else none)) :
 (Option.bind (GO b a d) fun y4=>cond (!y4.2.2.2.1.1) (some ((),(([],()),(0,()),(false,()),()))) (F y4.2.2.1.1 y4.2.1.1))=lO (A7 b a d n f):=by
 rw [Xs b a d hb ha hd];unfold GG A7;cases ho:jy b a d with
 | none=>rfl
 | some t => obtain ⟨h1,h2,h3,h4,h5⟩:=eg ho;have hv:=Bo t 0 0 h1 (by decide);have hv2:lj 0 t < 1000:=adw hv (by rw [adA,h2]; exact afh (by decide) (by omega:d<=3));exact hF _ _ h5 (by omega)
theorem ju {s:List UInt8} {n:Nat} (h:s.length=n):ae s=(n:Int):=by show (s.length:Int)=n; rw [h]
theorem qH {k n:Nat}:dC (k:Int) 1 (n:Int)=decide (1<=k/\k<=n):=by
 by_cases h:1<=k/\k<=n
 . rw [ada h]; exact fb.2 (by omega)
 . rw [adD h];cases h2:dC (k:Int) 1 (n:Int) with
   | false=>rfl
   | true=>have:=fb.1 h2; omega
theorem rQ {no:Int} {n:Nat} (hn:gZ no=n) (s:List UInt8):(bC no=1->jC no s=cond (aZ s) (aq (ae s) (n:Int)) false)/\(bC no=2->jC no s=cond (ej s) (aq (ae s) (n:Int)) false)/\(bC no=3->jC no s=cond (aZ s) (dC (ae s) 1 (n:Int)) false) /\
 ((bC no=4∨bC no=5)->jC no s=cond (ej s) (dC (ae s) 1 (n:Int)) false):=by
 unfold jC;rw [hn];refine ⟨fun h=>by rw [h]; rfl,fun h=>by rw [h]; rfl,fun h=>by rw [h]; rfl,fun h => ?_⟩;rcases h with h | h <;> (rw [h]; rfl)
theorem Gn {b:aY} {no:Int} {n:Nat} (hn:gZ no=n) (hk:bC no=4∨bC no=5) (a k:Nat):(GJ b a k).filter (fun s=>jC no s.1)=if 1<=k/\k<=n then ql b a k else none:=by
 unfold GJ ql;by_cases h:a + k<=b.length;rotate_left
 . rw [if_neg h,if_neg h]; simp
 rw [if_pos h,if_pos h,aeY];dsimp only;rw [(rQ hn _).2.2.2 hk,ju (by rw [lG,ma h]:(strOf (fc b a k)).length=k),qH];by_cases hin:1<=k/\k<=n
 . rw [ada hin,if_pos hin]; cases ej (strOf (fc b a k)) <;> rfl
 . rw [adD hin,if_neg hin]; cases ej (strOf (fc b a k)) <;> rfl
theorem WX (b:aY) (a:Nat) (no:Int) (hb:zA b) (ha:a<=b.length):K4 b a no=lO (ob b a no):=by
 have hbig:aT=140737488355328:=rfl;have hl:=hb.1;obtain ⟨n,hn,hk⟩:=kinds no;have hnn:Int.toNat (n:Int)=n:=adP n;have hlen:NZ no=some ((),((cond (aq (bC no) 5) 3 2,()),())):=by unfold NZ;rw [Bi];dsimp only [Option.bind_some];cases aq (bC no) 5 <;> rfl
 have base:K4 b a no=cond (cond (cond (aq (bC no) 3) true (aq (bC no) 4)) true (aq (bC no) 5)) (Option.bind (GO b a (cond (aq (bC no) 5) 3 2)) fun y4=>cond (!y4.2.2.2.1.1) (some ((),(([],()),(0,()),(false,()),()))) (cond (cond (aq (bC no) 1) true (aq (bC no) 3)) (HU b no y4.2.2.1.1 y4.2.1.1) (BH b no y4.2.2.1.1 y4.2.1.1)))
  (cond (cond (aq (bC no) 1) true (aq (bC no) 3)) (HU b no a (n:Int)) (BH b no a (n:Int))):=by
  unfold K4;rw [Tf,Bi,hlen,hn];rfl
 rw [base];unfold ob;rw [hn,hnn];rcases hk with ⟨hk,hz⟩ | ⟨hk,hz⟩ | ⟨hk,hz⟩ | ⟨hk,hz⟩ | ⟨hk,hz⟩ | ⟨hk,hz⟩
 . rw [hk];show BH b no a (n:Int)=lO none;rw [uP b no a n hb ha (by omega)];have:∀ s,jC no s=false:=fun s=>by unfold jC; rw [hk]; rfl
   unfold GJ;by_cases h:a + n<=b.length
   . rw [if_pos h,aeY,this]; rfl
   . rw [if_neg h]; rfl
 . rw [hk];show HU b no a (n:Int)=lO (rZ b a n);rw [Fh b no a n hb ha (by omega)];unfold rZ;cases ho:jy b a n with
   | none=>rfl
   | some s => obtain ⟨h1,h2,h3,h4,h5⟩:=eg ho;rw [adG,aeY];dsimp only;rw [(rQ hn s).1 hk,dv.2 ⟨h1,lA h2 h3⟩,ju h2,bk];rfl
 . rw [hk];show BH b no a (n:Int)=lO (ql b a n);rw [uP b no a n hb ha (by omega)];unfold GJ ql;by_cases h:a + n<=b.length;rotate_left
   . rw [if_neg h,if_neg h]; rfl
   rw [if_pos h,if_pos h,aeY];dsimp only;rw [(rQ hn _).2.1 hk,ju (by rw [lG,ma h]:(strOf (fc b a n)).length=n),bk];cases ej (strOf (fc b a n)) <;> rfl
 . rw [hk];exact LA b a 2 hb ha (.inl rfl) (HU b no) (rZ b) n fun a' k ha' hk'=>by
    rw [Fh b no a' k hb ha' hk'];unfold rZ;cases ho:jy b a' k with
    | none => show lO none=lO (if _ then none else none);rw [ite_self]
    | some s =>
      obtain ⟨h1,h2,h3,h4,h5⟩:=eg ho;rw [adG,aeY];dsimp only;rw [(rQ hn s).2.2.1 hk,dv.2 ⟨h1,lA h2 h3⟩,ju h2,qH];by_cases hin:1<=k/\k<=n
      . rw [ada hin,if_pos hin]; rfl
      . rw [adD hin,if_neg hin]; rfl
 . rw [hk];exact LA b a 2 hb ha (.inl rfl) (BH b no) (ql b) n fun a' k ha' hk'=>by rw [uP b no a' k hb ha' hk',Gn hn (.inl hk)]
 . rw [hk];exact LA b a 3 hb ha (.inr rfl) (BH b no) (ql b) n fun a' k ha' hk'=>by rw [uP b no a' k hb ha' hk',Gn hn (.inr hk)]
theorem sW {b:aY} {a:Nat} {no:Int} {s:List UInt8} {e:Nat} (ha:a<=b.length) (h:ob b a no=some (s,e)):jC no s=true/\s.length<=60/\e<=b.length:=by
 obtain ⟨n,hn,hk⟩:=kinds no;have hnn:Int.toNat (n:Int)=n:=adP n;have num:∀ a k,rZ b a k=some (s,e)->s.all gi=true/\s.length=k/\1<=k/\e<=b.length:=fun a k h=>by unfold rZ at h;obtain ⟨q,hq,h⟩:=ae7.1 h;cases h;obtain ⟨h1,h2,h3,h4,h5⟩:=eg hq;exact ⟨h1,h2,h3,h5⟩
 have txt:∀ a k,ql b a k=some (s,e)->ej s=true/\s.length=k/\e<=b.length:=fun a k h=>by
  unfold ql at h;split at h
  . rename_i hl;cases hp:ej (strOf (fc b a k)) with
    | false=>rw [hp] at h; simp at h
    | true => rw [hp] at h;cases h;exact ⟨hp,by rw [lG,ma hl],hl⟩
  . simp at h
 have var:∀ d f,A7 b a d n f=some (s,e)->∃ a' k,1<=k/\k<=n/\f a' k=some (s,e):=fun d f h=>by
  unfold A7 at h;split at h
  . split at h
    . rename_i hin;exact ⟨_,_,hin.1,hin.2,h⟩
    . simp at h
  . simp at h
 unfold ob at h;rw [hn,hnn] at h;rcases hk with ⟨hk,hz⟩ | ⟨hk,hz⟩ | ⟨hk,hz⟩ | ⟨hk,hz⟩ | ⟨hk,hz⟩ | ⟨hk,hz⟩ <;> rw [hk] at h
 . simp at h
 . obtain ⟨h1,h2,h3,h4⟩:=num _ _ h;exact ⟨by rw [(rQ hn s).1 hk,dv.2 ⟨h1,lA h2 h3⟩,ju h2,bk]; rfl,by omega,h4⟩
 . obtain ⟨h1,h2,h4⟩:=txt _ _ h;exact ⟨by rw [(rQ hn s).2.1 hk,h1,ju h2,bk]; rfl,by omega,h4⟩
 . obtain ⟨a',k,k1,k2,h⟩:=var _ _ h;obtain ⟨h1,h2,h3,h4⟩:=num _ _ h;exact ⟨by rw [(rQ hn s).2.2.1 hk,dv.2 ⟨h1,lA h2 h3⟩,ju h2,qH,ada ⟨k1,k2⟩]; rfl,by omega,h4⟩
 . obtain ⟨a',k,k1,k2,h⟩:=var _ _ h;obtain ⟨h1,h2,h4⟩:=txt _ _ h;exact ⟨by rw [(rQ hn s).2.2.2 (.inl hk),h1,ju h2,qH,ada ⟨k1,k2⟩]; rfl,by omega,h4⟩
 . obtain ⟨a',k,k1,k2,h⟩:=var _ _ h;obtain ⟨h1,h2,h4⟩:=txt _ _ h;exact ⟨by rw [(rQ hn s).2.2.2 (.inr hk),h1,ju h2,qH,ada ⟨k1,k2⟩]; rfl,by omega,h4⟩
end Go.Av
