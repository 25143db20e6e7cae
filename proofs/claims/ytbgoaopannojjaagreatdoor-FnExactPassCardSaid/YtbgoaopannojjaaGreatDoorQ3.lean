/- Part of a proof that the law FnExactPass answers true for every input: the printed functions of this program and their plain laws. No conditions beyond the statement. -/
import Derived.Test.YtbgoaopannojjaaGreatDoorP1
import Derived.Test.YtbgoaopannojjaaGreatDoorFw4
set_option maxRecDepth 100000
set_option maxHeartbeats 4000000
namespace Go.Av
abbrev jS:=List UInt8×Int×Int×Unit
abbrev eL:=List UInt8×List UInt8×List (Int×Unit)×Unit
abbrev wg:=Int×Int×List (Int×Unit)×List (Int×Unit)×Unit
def dI (a lo hi:Int):Bool:=cond (bH lo a) (bH a hi) false
theorem gM {a lo hi:Int}:dI a lo hi=true↔lo<=a/\a<=hi:=by unfold dI bH;by_cases h:lo<=a <;> simp [h]
theorem kN (a lo hi:Int):qN a lo hi=some ((),((dI a lo hi,()),())):=rfl
theorem jb (a lo hi:Int):nh a lo hi=some ((),((dI a lo hi,()),())):=rfl
def cO (a:Int):Bool:=dI a 0 4611686018427387904
theorem rq (a:Int):QQ a=some ((),((cO a,()),())):=rfl
theorem EF (a:Int):W9 a=some ((),((cO a,()),())):=rfl
def dU (a:Int):Bool:=dI a 0 1000000000
theorem mm (a:Int):Hw a=some ((),((dU a,()),())):=rfl
theorem mR (a:Int):uC a=some ((),((dU a,()),())):=rfl
def fM (x:UInt8):Bool:=cond (au (x.toNat:Int) 48) false (!(au 57 (x.toNat:Int)))
theorem fR {x:UInt8}:fM x=true↔48<=x.toNat/\x.toNat<=57:=by
 unfold fM au;by_cases h:(x.toNat:Int) < 48
 . simp [h]; omega
 . by_cases h2:(57:Int) < x.toNat
   . simp [h,h2]; omega
   . simp [h,h2]; omega
def aW (s:List UInt8):Bool:=cond (s.all fM) (au 0 (ae s)) false
theorem fN (s:List UInt8) (hs:s.length<=aT):rk s=some ((),((aW s,()),())):=by
 unfold rk;have h:=aH (step:=xo o9) s (fun i (_:Unit)=>(s,((i:Nat):Int),())) (fun _ x _=>bif fM x then Sum.inl () else .inr (.inr (false,()))) (fun _=> .inl (s,(s.length:Int),())) (a0:=()) (fun i x a hx=>by
  have hlt:=aj hx;show o9 s (i:Int)=_;unfold o9 fM;rw [aD hx,az hx,eD hx,aJ (by omega)];dsimp only [cond_true];cases au (x.toNat:Int) 48 <;> cases au 57 (x.toNat:Int) <;> rfl) (fun a=>by
  show o9 s (s.length:Int)=_;unfold o9;rw [aw rfl]; rfl)
 rw [gi] at h;have h':HE s 0=_:=h;rw [h'];unfold aW;cases s.all fM <;> rfl
theorem gJ (s:List UInt8) (hs:s.length<=aT):tZ s=some ((),((aW s,()),())):=by
 unfold tZ;have h:=aH (step:=dk oq) s (fun i (_:Unit)=>(s,ae s,((i:Nat):Int),())) (fun _ x _=>bif fM x then Sum.inl () else .inr (.inr (false,()))) (fun _=> .inl (s,ae s,(s.length:Int),())) (a0:=()) (fun i x a hx=>by
  have hlt:=aj hx;show oq s (ae s) (i:Int)=_;unfold oq fM;rw [aD hx,az hx,eD hx,aJ (by omega)];dsimp only [cond_true];cases au (x.toNat:Int) 48 <;> cases au 57 (x.toNat:Int) <;> rfl) (fun a=>by
  show oq s (ae s) (s.length:Int)=_;unfold oq;rw [aw rfl]; rfl)
 rw [gi] at h;have h':Lm s (ae s) 0=_:=h;rw [h'];unfold aW;cases s with
 | nil=>rfl
 | cons x r =>
   have e1:au 0 (ae (x :: r))=true:=aG (by unfold ae; simp only [List.length_cons]; omega);have e2:cq (x :: r) []=false:=rfl;cases (x :: r).all fM
   . rfl
   . dsimp only [cond_true,cond_false,Option.bind_some,Sum.elim_inl];rw [e1,e2]; rfl
def lz (x:UInt8):Bool:=cond (au (x.toNat:Int) 48) (cond (au (x.toNat:Int) 97) false (!(au 122 (x.toNat:Int)))) (cond (au 57 (x.toNat:Int)) (cond (au (x.toNat:Int) 97) false (!(au 122 (x.toNat:Int)))) true)
def ik (s:List UInt8):Bool:=cond (s.all lz) (dI (ae s) 1 6) false
theorem BL (s:List UInt8) (hs:s.length<=aT):KC s=some ((),((ik s,()),())):=by
 unfold KC;have h:=aH (step:=xo pn) s (fun i (_:Unit)=>(s,((i:Nat):Int),())) (fun _ x _=>bif lz x then Sum.inl () else .inr (.inr (false,()))) (fun _=> .inl (s,(s.length:Int),())) (a0:=()) (fun i x a hx=>by
  have hlt:=aj hx;show pn s (i:Int)=_;unfold pn lz;rw [aD hx,az hx,eD hx,aJ (by omega)];dsimp only [cond_true];cases au (x.toNat:Int) 48 <;> cases au 57 (x.toNat:Int) <;> cases au (x.toNat:Int) 97 <;> cases au 122 (x.toNat:Int) <;> rfl) (fun a=>by
  show pn s (s.length:Int)=_;unfold pn;rw [aw rfl]; rfl)
 rw [gi] at h;have h':Ib s 0=_:=h;rw [h'];unfold ik;cases s.all lz <;> rfl
theorem AZ (s:List UInt8) (hs:s.length<=aT):Le s=some ((),((ik s,()),())):=by
 unfold Le;have h:=aH (step:=dk oS) s (fun i (_:Unit)=>(s,ae s,((i:Nat):Int),())) (fun _ x _=>bif lz x then Sum.inl () else .inr (.inr (false,()))) (fun _=> .inl (s,ae s,(s.length:Int),())) (a0:=()) (fun i x a hx=>by
  have hlt:=aj hx;show oS s (ae s) (i:Int)=_;unfold oS lz;rw [aD hx,az hx,eD hx,aJ (by omega)];dsimp only [cond_true];cases au (x.toNat:Int) 48 <;> cases au 57 (x.toNat:Int) <;> cases au (x.toNat:Int) 97 <;> cases au 122 (x.toNat:Int) <;> rfl) (fun a=>by
  show oS s (ae s) (s.length:Int)=_;unfold oS;rw [aw rfl]; rfl)
 rw [gi] at h;have h':KU s (ae s) 0=_:=h;rw [h'];unfold ik;cases s.all lz <;> rfl
def xM (h:jS):Bool:=cond (ik h.1) (cond (dI h.2.1 1 9007199254740992) (dU h.2.2.1) false) false
theorem R8 (h:jS) (hs:h.1.length<=aT):Mx h=some ((),((xM h,()),())):=by unfold Mx xM;simp only [BL _ hs,kN,mm,Option.bind_some];cases ik h.1 <;> cases dI h.2.1 1 9007199254740992 <;> rfl
theorem Ss (h:jS) (hs:h.1.length<=aT):MH h=some ((),((xM h,()),())):=by unfold MH xM;simp only [AZ _ hs,jb,mR,Option.bind_some];cases ik h.1 <;> cases dI h.2.1 1 9007199254740992 <;> rfl
def jQ (xs:List jS) (i:Nat) (x:jS):Bool:=cond (xM x) (cond (au 0 (i:Int)) (j8 (gt ([],0,0,()) xs ((i:Int) - 1)).1 x.1) true) false
def oV (xs:List jS):Bool:=cond (allI (jQ xs) 0 xs) (bH (ae xs) 4) false
theorem nP:∀ (s t:List UInt8),(Op.bytesLess s t || cq s t)= !(Op.bytesLess t s)
 | [],[]=>rfl
 | [],_ :: _=>rfl
 | _ :: _,[]=>rfl
 | a :: s,b :: t=>by
   have ih:=nP s t;have e:cq (a :: s) (b :: t)=(a == b && cq s t):=rfl;show ((decide (a < b) || (a == b && Op.bytesLess s t)) || cq (a :: s) (b :: t))= !(decide (b < a) || (b == a && Op.bytesLess t s));rw [e];rcases Nat.lt_trichotomy a.toNat b.toNat with h | h | h
   . have h1:a < b:=UInt8.lt_iff_toNat_lt.2 h;have h2:¬ b < a:=fun hh=>by have:=UInt8.lt_iff_toNat_lt.1 hh; omega
     have h3:(b == a)=false:=by rw [beq_eq_false_iff_ne]; intro hh; subst hh; omega
     simp [h1,h2,h3]
   . have h1:a=b:=UInt8.toNat_inj.1 h;subst h1;have h2:¬ a < a:=fun hh=>by have:=UInt8.lt_iff_toNat_lt.1 hh; omega
     simpa [h2] using ih
   . have h1:¬ a < b:=fun hh=>by have:=UInt8.lt_iff_toNat_lt.1 hh; omega
     have h2:b < a:=UInt8.lt_iff_toNat_lt.2 h;have h3:(a == b)=false:=by rw [beq_eq_false_iff_ne]; intro hh; subst hh; omega
     simp [h1,h2,h3]
theorem uv (s t:List UInt8):Qi s t= !(j8 t s):=nP s t
def DH (xs:List jS):Prop:=xs.length<=aT/\∀ y∈xs,y.1.length<=aT
theorem iJ {α:Type} {xs:List α} {i:Nat} {x:α} (hx:xs[i]? = some x) (h:0 < i):aR ((i:Int) - 1) xs=true:=by
 have:=aj hx;have e:(i:Int) - 1=((i - 1:Nat):Int):=by omega
 rw [e]; exact lq (by omega)
theorem MY (xs:List jS) (hb:DH xs):Mv xs=some ((),((oV xs,()),())):=by
 have hbig:aT=140737488355328:=rfl;unfold Mv;have h:=aH (step:=cV py) xs (fun i (_:Unit)=>(xs,xs,ae xs,((i:Nat):Int),())) (fun i x _=>bif jQ xs i x then Sum.inl () else .inr (.inr (false,()))) (fun _=> .inl (xs,xs,ae xs,(xs.length:Int),())) (a0:=()) (fun i x a hx=>by
  have hlt:=aj hx;have hl:=hb.1;show py xs xs (ae xs) (i:Int)=_;unfold py jQ;rw [aD hx,az hx,aV _ hx];dsimp only [cond_true];rw [R8 x (hb.2 x (List.mem_of_getElem? hx)),aJ (by omega)];dsimp only [Option.bind_some];cases xM x with
  | false=>rfl
  | true =>
    by_cases h0:0 < i
    . rw [aG (show (0:Int) < i by omega),aS (by omega) (by omega),iJ hx h0];dsimp only [cond_true,cond_false,Bool.not_true];have e:gt d95 xs ((i:Int) - 1)=gt ([],0,0,()) xs ((i:Int) - 1):=rfl;rw [e];cases j8 (gt ([],0,0,()) xs ((i:Int) - 1)).1 x.1 <;> rfl
    . rw [ax (show ¬ (0:Int) < i by omega)]; rfl) (fun a=>by
  show py xs xs (ae xs) (xs.length:Int)=_;unfold py;rw [aw rfl]; rfl)
 rw [cK] at h;have h':KS xs xs (ae xs) 0=_:=h;rw [h'];unfold oV;cases allI (jQ xs) 0 xs <;> rfl
theorem Oa (xs:List jS) (hb:DH xs):NJ xs=some ((),((oV xs,()),())):=by
 have hbig:aT=140737488355328:=rfl;unfold NJ;have h:=aH (step:=cV oN) xs (fun i (_:Unit)=>(xs,xs,ae xs,((i:Nat):Int),())) (fun i x _=>bif jQ xs i x then Sum.inl () else .inr (.inr (false,()))) (fun _=> .inl (xs,xs,ae xs,(xs.length:Int),())) (a0:=()) (fun i x a hx=>by
  have hlt:=aj hx;have hl:=hb.1;show oN xs xs (ae xs) (i:Int)=_;unfold oN jQ;rw [aD hx,az hx,aV _ hx];dsimp only [cond_true];rw [Ss x (hb.2 x (List.mem_of_getElem? hx)),aJ (by omega)];dsimp only [Option.bind_some];cases xM x with
  | false=>rfl
  | true =>
    by_cases h0:0 < i
    . rw [aG (show (0:Int) < i by omega),aS (by omega) (by omega),iJ hx h0];dsimp only [cond_true,cond_false,Bool.not_true];rw [uv];have e:gt d95 xs ((i:Int) - 1)=gt ([],0,0,()) xs ((i:Int) - 1):=rfl;rw [e];cases j8 (gt ([],0,0,()) xs ((i:Int) - 1)).1 x.1 <;> rfl
    . rw [ax (show ¬ (0:Int) < i by omega)]; rfl) (fun a=>by
  show oN xs xs (ae xs) (xs.length:Int)=_;unfold oN;rw [aw rfl]; rfl)
 rw [cK] at h;have h':J5 xs xs (ae xs) 0=_:=h;rw [h'];unfold oV;cases allI (jQ xs) 0 xs <;> rfl
def eR (dbl:Bool) (x:UInt8):Int:=cond dbl (cond (au 9 (2 * ((x.toNat:Int) - 48))) (2 * ((x.toNat:Int) - 48) - 9) (2 * ((x.toNat:Int) - 48))) ((x.toNat:Int) - 48)
theorem ui (b:Bool) {x:UInt8} (h:fM x=true):0<=eR b x/\eR b x<=9:=by
 obtain ⟨h1,h2⟩:=fR.1 h;unfold eR au;cases b
 . dsimp only [cond_false]; omega
 . dsimp only [cond_true];by_cases h9:9 < 2 * ((x.toNat:Int) - 48)
   . rw [decide_eq_true h9]; dsimp only [cond_true]; omega
   . rw [decide_eq_false h9]; dsimp only [cond_false]; omega
def zE (xs:List UInt8) (a:Int×Bool):Int×Bool:=xs.foldl (fun a x=>(a.1 + eR a.2 x,!a.2)) a
def KA (xs:List UInt8) (a:Int×Bool):Int×Bool:=xs.foldl (fun a x=>((a.1 + eR a.2 x) % 10,!a.2)) a
theorem Fb:∀ (xs:List UInt8) (a:Int) (b:Bool),KA xs (a % 10,b)=((zE xs (a,b)).1 % 10,(zE xs (a,b)).2)
 | [],a,b=>rfl
 | x :: r,a,b=>by
   have e:(a % 10 + eR b x) % 10=(a + eR b x) % 10:=by omega
   show KA r ((a % 10 + eR b x) % 10,!b)=((zE r (a + eR b x,!b)).1 % 10,(zE r (a + eR b x,!b)).2);rw [e];exact Fb r _ _
def B8 (s:List UInt8):Int:=cond (aW s) ((10 - (zE s.reverse (0,true)).1 % 10) % 10) (-1)
theorem mx {s:List UInt8} (h:aW s=true):∀ x∈s,fM x=true:=by
 unfold aW at h;cases hs:s.all fM with
 | true=>exact fun x hx=>List.all_eq_true.1 hs x hx
 | false=>rw [hs] at h; simp at h
theorem zM {s:List UInt8} {i:Nat} {x:UInt8} (h:s.reverse[i]? = some x):i < s.length/\s[s.length - 1 - i]? = some x:=by
 have hl:i < s.length:=by simpa using aj h
 refine ⟨hl,?_⟩;rwa [List.getElem?_reverse hl] at h
theorem PO {x:UInt8} (h:fM x=true):aM .i64 (bG .i64 (x.toNat:Int)) 48=(x.toNat:Int) - 48:=by obtain ⟨h1,h2⟩:=fR.1 h;have e:bG .i64 (x.toNat:Int)=(x.toNat:Int):=IntWalk.i64_in _ (by omega);rw [e]; exact aS (by omega) (by omega)
theorem OR {x:UInt8} (h:fM x=true):bG .i64 (aM .u8 (x.toNat:Int) 48)=(x.toNat:Int) - 48:=by obtain ⟨h1,h2⟩:=fR.1 h;have e:aM .u8 (x.toNat:Int) 48=(x.toNat:Int) - 48:=IntWalk.u8_in _ (by omega);rw [e]; exact IntWalk.i64_in _ (by omega)
theorem EC {a b:Int} (h1 : -4611686018427387904<=a * b) (h2:a * b<=4611686018427387904):jZ .i64 a b=a * b:=by unfold jZ; rw [IntWalk.i64_in _ (by omega)]
theorem nC {a:Int} (h:0<=a):fx a 10=a % 10:=by unfold fx; exact Int.tmod_eq_emod_of_nonneg h
theorem RG (s:List UInt8) (hs:s.length<=aT):Nn s=some ((),((B8 s,()),())):=by
 have hbig:aT=140737488355328:=rfl;unfold Nn B8;rw [fN s hs];dsimp only [Option.bind_some];cases hd:aW s with
 | false=>rfl
 | true =>
 have hall:=mx hd
 have h:=aI (step:=cV sh) s.reverse (fun i (a:Int×Bool)=>(s,a.1,a.2,(s.length:Int) - 1 - ((i:Nat):Int),())) (fun _ x a=>Sum.inl ((a.1 + eR a.2 x) % 10,!a.2)) (fun a=> .inl (s,a.1,a.2,(-1:Int),()))
  (fun _ a=>0<=a.1/\a.1 < 10) (a0:=(0,true)) ⟨by decide,by decide⟩ (fun i x a hx ha=>by
    obtain ⟨hlt,hx'⟩:=zM hx;have hdx:=hall x (List.mem_of_getElem? hx');have hbd:=ui a.2 hdx;have hdd:=fR.1 hdx;have e:(s.length:Int) - 1 - (i:Int)=((s.length - 1 - i:Nat):Int):=by omega
    have e':(s.length:Int) - 1 - ((i + 1:Nat):Int)=((s.length - 1 - i:Nat):Int) - 1:=by omega
    obtain ⟨a1,a2⟩:=a;show sh s a1 a2 ((s.length:Int) - 1 - (i:Int))=some (.inl (s,(a1 + eR a2 x) % 10,!a2,(s.length:Int) - 1 - ((i + 1:Nat):Int),()));rw [e,e'];have hle:bH 0 ((s.length - 1 - i:Nat):Int)=true:=decide_eq_true (by omega);have ha:0<=a1/\a1 < 10:=ha;unfold sh;rw [hle,az hx',eD hx',PO hdx,aS (a:=((s.length - 1 - i:Nat):Int)) (b:=1) (by omega) (by omega)];have hb:(0<=eR a2 x/\eR a2 x<=9):=hbd;cases a2 with
    | false => have hv:eR false x=(x.toNat:Int) - 48:=rfl;dsimp only [cond_true,cond_false,Bool.not_false];rw [ay (by omega) (by omega),nC (by omega),hv]
    | true =>
      dsimp only [cond_true,cond_false,Bool.not_false,Bool.not_true];rw [EC (by omega) (by omega)];by_cases h9:9 < 2 * ((x.toNat:Int) - 48)
      . have hv:eR true x=2 * ((x.toNat:Int) - 48) - 9:=by unfold eR; rw [aG h9]; rfl
        rw [aG h9]; dsimp only [cond_true,cond_false,Bool.not_false]; rw [aS (by omega) (by omega),ay (by omega) (by omega),nC (by omega),hv]
      . have hv:eR true x=2 * ((x.toNat:Int) - 48):=by unfold eR; rw [ax h9]; rfl
        rw [ax h9]; dsimp only [cond_true,cond_false,Bool.not_false]; rw [ay (by omega) (by omega),nC (by omega),hv]) (fun i x a a' hx ha hf=>by
    simp only [Sum.inl.injEq] at hf;subst hf;show 0<=(a.1 + eR a.2 x) % 10/\(a.1 + eR a.2 x) % 10 < 10;omega) (fun a ha=>by
    have e:(s.length:Int) - 1 - ((s.reverse.length:Nat):Int) = -1:=by simp; omega
    show sh s a.1 a.2 ((s.length:Int) - 1 - ((s.reverse.length:Nat):Int))=_;rw [e];rfl)
 rw [bY (fun x a=>((a.1 + eR a.2 x) % 10,!a.2))] at h;have h':Jh s 0 true ((s.length:Int) - 1 - ((0:Nat):Int))=some (.inl (s,(KA s.reverse (0,true)).1,(KA s.reverse (0,true)).2,(-1:Int),())):=h;have e0:(s.length:Int) - 1 - ((0:Nat):Int)=aM .i64 (ae s) 1:=by rw [aS (by unfold ae; omega) (by unfold ae; omega)]; unfold ae; omega
 have eT:(KA s.reverse (0,true)).1=(zE s.reverse (0,true)).1 % 10:=by have:=Fb s.reverse 0 true;rw [show (0:Int) % 10=0 from rfl] at this;rw [this]
 rw [e0] at h';rw [h',eT];dsimp only [Option.bind_some,Sum.elim_inl,cond_true,cond_false,Bool.not_true];rw [aS (by omega) (by omega),nC (by omega)]; rfl
theorem Rv (s:List UInt8) (hs:s.length<=aT):Mp s=some ((),((B8 s,()),())):=by
 have hbig:aT=140737488355328:=rfl;unfold Mp B8;rw [gJ s hs];dsimp only [Option.bind_some];cases hd:aW s with
 | false=>rfl
 | true =>
 have hall:=mx hd
 have h:=aI (step:=cV sr) s.reverse (fun i (a:Int×Bool)=>(s,a.1,a.2,(s.length:Int) - 1 - ((i:Nat):Int),())) (fun _ x a=>Sum.inl (a.1 + eR a.2 x,!a.2)) (fun a=> .inl (s,a.1,a.2,(-1:Int),()))
  (fun i a=>0<=a.1/\a.1<=9 * i) (a0:=(0,true)) ⟨by decide,by decide⟩ (fun i x a hx ha=>by
    obtain ⟨hlt,hx'⟩:=zM hx;have hdx:=hall x (List.mem_of_getElem? hx');have hbd:=ui a.2 hdx;have hdd:=fR.1 hdx;have e:(s.length:Int) - 1 - (i:Int)=((s.length - 1 - i:Nat):Int):=by omega
    have e':(s.length:Int) - 1 - ((i + 1:Nat):Int)=((s.length - 1 - i:Nat):Int) - 1:=by omega
    obtain ⟨a1,a2⟩:=a;show sr s a1 a2 ((s.length:Int) - 1 - (i:Int))=some (.inl (s,a1 + eR a2 x,!a2,(s.length:Int) - 1 - ((i + 1:Nat):Int),()));rw [e,e'];have hle:bH 0 ((s.length - 1 - i:Nat):Int)=true:=decide_eq_true (by omega);have ha:0<=a1/\a1<=9 * i:=ha;unfold sr;rw [hle,az hx',eD hx',OR hdx,aS (a:=((s.length - 1 - i:Nat):Int)) (b:=1) (by omega) (by omega)];have hb:(0<=eR a2 x/\eR a2 x<=9):=hbd;cases a2 with
    | false => have hv:eR false x=(x.toNat:Int) - 48:=rfl;dsimp only [cond_true,cond_false,Bool.not_false];rw [ay (by omega) (by omega),hv]
    | true =>
      dsimp only [cond_true,cond_false,Bool.not_false,Bool.not_true];have em:jZ .i64 ((x.toNat:Int) - 48) 2=2 * ((x.toNat:Int) - 48):=by rw [EC (by omega) (by omega)]; omega
      rw [em];by_cases h9:9 < 2 * ((x.toNat:Int) - 48)
      . have hv:eR true x=2 * ((x.toNat:Int) - 48) - 9:=by unfold eR; rw [aG h9]; rfl
        rw [aG h9]; dsimp only [cond_true,cond_false,Bool.not_false]; rw [aS (by omega) (by omega),ay (by omega) (by omega),hv]
      . have hv:eR true x=2 * ((x.toNat:Int) - 48):=by unfold eR; rw [ax h9]; rfl
        rw [ax h9]; dsimp only [cond_true,cond_false,Bool.not_false]; rw [ay (by omega) (by omega),hv]) (fun i x a a' hx ha hf=>by
    have hbd:=ui a.2 (hall x (List.mem_of_getElem? (zM hx).2));simp only [Sum.inl.injEq] at hf;subst hf;show 0<=a.1 + eR a.2 x/\a.1 + eR a.2 x<=9 * ((i + 1:Nat):Int);omega) (fun a ha=>by
    have e:(s.length:Int) - 1 - ((s.reverse.length:Nat):Int) = -1:=by simp; omega
    show sr s a.1 a.2 ((s.length:Int) - 1 - ((s.reverse.length:Nat):Int))=_;rw [e];rfl)
 rw [bY (fun x a=>(a.1 + eR a.2 x,!a.2))] at h;have h':I8 s 0 true ((s.length:Int) - 1 - ((0:Nat):Int))=some (.inl (s,(zE s.reverse (0,true)).1,(zE s.reverse (0,true)).2,(-1:Int),())):=h;have e0:(s.length:Int) - 1 - ((0:Nat):Int)=aM .i64 (ae s) 1:=by rw [aS (by unfold ae; omega) (by unfold ae; omega)]; unfold ae; omega
 have hS:∀ (xs:List UInt8) (a:Int×Bool),(∀ x∈xs,fM x=true)->0<=a.1->0<=(zE xs a).1:=by
  intro xs;induction xs with
  | nil=>intro a _ h; exact h
  | cons x r ih => intro a hx h;have:=ui a.2 (hx x (List.mem_cons_self ..));exact ih (a.1 + eR a.2 x,!a.2) (fun y hy=>hx y (List.mem_cons_of_mem _ hy)) (by show 0<=a.1 + eR a.2 x; omega)
 have h0:=hS s.reverse (0,true) (fun x hx=>hall x (List.mem_reverse.1 hx)) (by decide);rw [e0] at h';rw [h'];dsimp only [Option.bind_some,Sum.elim_inl,cond_true,cond_false,Bool.not_true];rw [nC h0,aS (by omega) (by omega),nC (by omega)]; rfl
def rj (s:List UInt8):Bool:=cond (aW s) (cond (bH 2 (ae s)) (aq (B8 (sub s 0 (ae s - 1))) (dx s (ae s - 1) - 48)) false) false
theorem OX {s:List UInt8} (hd:aW s=true) (h:2<=s.length):∃ x,fM x=true/\aR (ae s - 1) s=true/\dx s (ae s - 1)=(x.toNat:Int)/\dO 0 (ae s - 1) s=true/\(sub s 0 (ae s - 1)).length<=s.length:=by
 have e:ae s - 1=((s.length - 1:Nat):Int):=by unfold ae; omega
 obtain ⟨x,hx⟩:∃ x,s[s.length - 1]? = some x:=⟨s[s.length - 1]'(by omega),by simp⟩;refine ⟨x,mx hd x (List.mem_of_getElem? hx),?_,?_,?_,?_⟩
 . rw [e]; exact az hx
 . rw [e]; exact eD hx
 . rw [e]; unfold dO fO bH;rw [decide_eq_true (by decide),decide_eq_true (by omega),decide_eq_true (by omega)]; rfl
 . rw [e]; unfold sub; simp
theorem Km (s:List UInt8) (hs:s.length<=aT):Nh s=some ((),((rj s,()),())):=by
 have hbig:aT=140737488355328:=rfl;unfold Nh rj;rw [fN s hs];dsimp only [Option.bind_some];cases hd:aW s with
 | false=>rfl
 | true =>
   by_cases h2:2<=s.length
   . obtain ⟨x,h3,h4,h5,h6,h7⟩:=OX hd h2;have e1:bH 2 (ae s)=true:=decide_eq_true (by unfold ae; omega);have e2:aM .i64 (ae s) 1=ae s - 1:=aS (by unfold ae; omega) (by unfold ae; omega);rw [ax (show ¬ ae s < 2 by unfold ae; omega),e1,e2];dsimp only [cond_true,cond_false,Bool.not_true];rw [h6,h4,RG _ (Nat.le_trans h7 hs),h5,PO h3]; rfl
   . have e1:bH 2 (ae s)=false:=decide_eq_false (by unfold ae; omega);rw [aG (show ae s < 2 by unfold ae; omega),e1]; rfl
theorem J1 (s:List UInt8) (hs:s.length<=aT):MG s=some ((),((rj s,()),())):=by
 have hbig:aT=140737488355328:=rfl;unfold MG rj;have e2:aM .i64 (ae s) 1=ae s - 1:=aS (by unfold ae; omega) (by unfold ae; omega);dsimp only;rw [gJ s hs,e2];dsimp only [Option.bind_some];by_cases h2:2<=s.length
 . have e1:bH 2 (ae s)=true:=decide_eq_true (by unfold ae; omega);have e3:bH 1 (ae s - 1)=true:=decide_eq_true (by unfold ae; omega);rw [e1,e3];cases hd:aW s with
   | false=>rfl
   | true => obtain ⟨x,h3,h4,h5,h6,h7⟩:=OX hd h2;dsimp only [cond_true,cond_false,Bool.not_true];rw [h6,h4,Rv _ (Nat.le_trans h7 hs),h5,OR h3]; rfl
 . have e1:bH 2 (ae s)=false:=decide_eq_false (by unfold ae; omega);have e3:bH 1 (ae s - 1)=false:=decide_eq_false (by unfold ae; omega);rw [e1,e3];cases aW s <;> rfl
def fD (s:List UInt8):Bool:=cond (bH (ae s) 19) (rj s) false
theorem vE (s:List UInt8) (hs:s.length<=aT):su s=some ((),((fD s,()),())):=by unfold su fD;rw [Km s hs];cases bH (ae s) 19 <;> rfl
theorem xw (s:List UInt8) (hs:s.length<=aT):sF s=some ((),((fD s,()),())):=by unfold sF fD;rw [J1 s hs];cases bH (ae s) 19 <;> rfl
def gm (a:Int):Int:=if a < 0 then 0 else if 4611686018427387904 < a then 4611686018427387904 else a
theorem np (a:Int):0<=gm a/\gm a<=4611686018427387904:=by
 unfold gm;split
 . omega
 . split <;> omega
def xS (a b:Int):Int:=if 4611686018427387904 - gm b < gm a then 4611686018427387904 else gm a + gm b
theorem Ei (a:Int):KG a 0 4611686018427387904=some ((),((gm a,()),())):=by
 unfold KG gm;by_cases h:a < 0
 . rw [aG h,if_pos h]; rfl
 . by_cases h2:4611686018427387904 < a
   . rw [ax h,if_neg h,aG h2,if_pos h2]; rfl
   . rw [ax h,if_neg h,ax h2,if_neg h2]; rfl
theorem vn {a:Int} (h:0<=a/\a<=4611686018427387904):cO a=true:=gM.2 h
theorem Ph (a b:Int):JY a b=some ((),((xS a b,()),())):=by
 unfold JY Rr xS;have h1:=np a;have h2:=np b;rw [Ei,Ei];dsimp only [Option.bind_some];rw [rq,rq,vn h1,vn h2,aS (by omega) (by omega)];dsimp only [Option.bind_some,Bool.not_true,cond_false];by_cases h:4611686018427387904 - gm b < gm a
 . rw [aG h,if_pos h]; rfl
 . rw [ax h,if_neg h,ay (by omega) (by omega)]; rfl
theorem PH (a b:Int):Ig a b=some ((),((xS a b,()),())):=by
 have e:∀ x:Int,Hj 0 (FJ x 4611686018427387904)=gm x:=fun x=>by unfold Hj FJ gm;split <;> split <;> (try split) <;> omega
 have h1:=np a;have h2:=np b;unfold Ig xS;dsimp only;rw [e,e,aS (by omega) (by omega)];by_cases h:4611686018427387904 - gm b < gm a
 . rw [aG h,if_pos h]; rfl
 . rw [ax h,if_neg h,ay (by omega) (by omega)]; rfl
def Ao (xs:List jS):Int:=xs.foldl (fun a h=>xS a h.2.1) 0
theorem HP (xs:List jS) (hs:xs.length<=aT):NS xs=some ((),((Ao xs,()),())):=by
 unfold NS;have h:=aH (step:=cV qf) xs (fun i (a:Int)=>(a,xs,ae xs,((i:Nat):Int),())) (fun _ x a=>Sum.inl (xS a x.2.1)) (fun a=> .inl (a,xs,ae xs,(xs.length:Int),())) (a0:=0) (fun i x a hx=>by
  have hlt:=aj hx;show qf a xs (ae xs) (i:Int)=_;unfold qf;rw [aD hx,az hx,aV _ hx,aJ (by omega),Ph]; rfl) (fun a=>by
  show qf a xs (ae xs) (xs.length:Int)=_;unfold qf;rw [aw rfl]; rfl)
 rw [bY (fun (x:jS) a=>xS a x.2.1)] at h;have h':K4 0 xs (ae xs) 0=_:=h;rw [h']; rfl
theorem I1 (xs:List jS) (hs:xs.length<=aT):LZ xs=some ((),((Ao xs,()),())):=by
 unfold LZ;have h:=aH (step:=cV pU) xs (fun i (a:Int)=>(a,xs,ae xs,((i:Nat):Int),())) (fun _ x a=>Sum.inl (xS a x.2.1)) (fun a=> .inl (a,xs,ae xs,(xs.length:Int),())) (a0:=0) (fun i x a hx=>by
  have hlt:=aj hx;show pU a xs (ae xs) (i:Int)=_;unfold pU;rw [aD hx,az hx,aV _ hx,aJ (by omega),PH]; rfl) (fun a=>by
  show pU a xs (ae xs) (xs.length:Int)=_;unfold pU;rw [aw rfl]; rfl)
 rw [bY (fun (x:jS) a=>xS a x.2.1)] at h;have h':Li 0 xs (ae xs) 0=_:=h;rw [h']; rfl
def xv (r:wg):Bool:=cond (dI r.1 1 1000) (cond (dI (ae r.2.2.1) 1 8) (cond (aq (ae r.2.2.2.1) (ae r.2.2.1)) (cond (dU r.2.1) (r.2.2.1.all (fun x=>cO x.1) && r.2.2.2.1.all (fun x=>cO x.1)) false) false) false) false
def Ce (r:wg):Prop:=r.2.2.1.length<=1048576/\r.2.2.2.1.length<=1048576
theorem fY {a b:Int}:aq a b=true↔a=b:=by simp [aq]
theorem QC (r:wg) (hb:Ce r):IT r=some ((),((xv r,()),())):=by
 have hbig:aT=140737488355328:=rfl;obtain ⟨hb1,hb2⟩:=hb;unfold IT xv;dsimp only;rw [kN,kN,mm];dsimp only [Option.bind_some];cases dI r.1 1 1000 with
 | false=>rfl
 | true =>
 cases dI (ae r.2.2.1) 1 8 with
 | false=>rfl
 | true =>
 cases he:aq (ae r.2.2.2.1) (ae r.2.2.1) with
 | false=>rfl
 | true =>
 cases dU r.2.1 with
 | false=>rfl
 | true =>
 have hlen:r.2.2.2.1.length=r.2.2.1.length:=by have:=fY.1 he;unfold ae at this; omega
 dsimp only [cond_true,cond_false,Bool.not_true];have h:=aH (step:=dk pd) (r.2.2.1.zip r.2.2.2.1) (fun i (_:Unit)=>(ae r.2.2.1,((i:Nat):Int),r,())) (fun _ x _=>bif cO x.1.1 && cO x.2.1 then Sum.inl () else .inr (.inr (false,()))) (fun _=> .inl (ae r.2.2.1,(r.2.2.1.length:Int),r,())) (a0:=()) (fun i x a hx=>by
  have hx':=List.getElem?_zip_eq_some.1 hx;have hlt:=aj hx'.1;show pd (ae r.2.2.1) (i:Int) r=_;unfold pd;rw [aD hx'.1,az hx'.1,az hx'.2,aV _ hx'.1,aV _ hx'.2,rq,rq,aJ (by omega)];dsimp only [cond_true,Option.bind_some];cases cO x.1.1 <;> cases cO x.2.1 <;> rfl) (fun a=>by
  have e:(r.2.2.1.zip r.2.2.2.1).length=r.2.2.1.length:=by rw [List.length_zip,hlen,Nat.min_self]
  rw [e];show pd (ae r.2.2.1) (r.2.2.1.length:Int) r=_;unfold pd;rw [aw rfl]; rfl)
 rw [gi (fun (x:(Int×Unit)×(Int×Unit))=>cO x.1.1 && cO x.2.1)] at h;have h':JM (ae r.2.2.1) 0 r=_:=h;rw [h'];have hz:∀ (a b:List (Int×Unit)),b.length=a.length->(a.zip b).all (fun x=>cO x.1.1 && cO x.2.1)=(a.all (fun x=>cO x.1) && b.all (fun x=>cO x.1)):=by
  intro a;induction a with
  | nil=>intro b hb; cases b with | nil=>rfl | cons _ _=>simp at hb
  | cons x a ih =>
    intro b hb;cases b with
    | nil=>simp at hb
    | cons y b => simp only [List.zip_cons_cons,List.all_cons];rw [ih b (by simpa using hb)];cases cO x.1 <;> cases cO y.1 <;> simp
 rw [hz _ _ hlen];cases r.2.2.1.all (fun x=>cO x.1) && r.2.2.2.1.all (fun x=>cO x.1) <;> rfl
theorem JV (a b:List (Int×Unit)) (ha:a.length<=1048576) (hb:b.length<=1048576):LX [(a,()),(b,())]=some ((),((a ++ b,()),())):=by
 have hbig:aT=140737488355328:=rfl;unfold LX;have hlen:((a.length + b.length:Nat):Int)=(a.length:Int) + b.length:=by omega
 have h:Du [(a,()),(b,())] 0 [(a,()),(b,())] 2 0=some (.inl ([(a,()),(b,())],(a.length:Int) + b.length,[(a,()),(b,())],2,2,())):=by
  refine aU _ (x':=([(a,()),(b,())],(a.length:Int),[(a,()),(b,())],2,1,())) ?_ (aU _ (x':=([(a,()),(b,())],(a.length:Int) + b.length,[(a,()),(b,())],2,2,())) ?_ (aK _ ?_))
  . show sJ [(a,()),(b,())] 0 [(a,()),(b,())] 2 0=_;unfold sJ;have e:ai .i64 0 (ae (gt d54 [(a,()),(b,())] 0).1)=(a.length:Int):=by
     show ai .i64 0 (ae a)=_;rw [ay (by unfold ae; omega) (by unfold ae; omega)]; unfold ae; omega
    dsimp only;rw [e,ax (a:=(a.length:Int)) (b:=0) (by omega)]; rfl
  . show sJ [(a,()),(b,())] (a.length:Int) [(a,()),(b,())] 2 1=_;unfold sJ;have e:ai .i64 (a.length:Int) (ae (gt d54 [(a,()),(b,())] 1).1)=(a.length:Int) + b.length:=by
     show ai .i64 (a.length:Int) (ae b)=_;rw [ay (by unfold ae; omega) (by unfold ae; omega)]; unfold ae; omega
    dsimp only;rw [e,ax (a:=(a.length:Int) + b.length) (b:=0) (by omega)]; rfl
  . rfl
 have h1:Du [(a,()),(b,())] 0 [(a,()),(b,())] (ae [(a,()),(b,())]) 0=_:=h;have hg:Mq ((a.length:Int) + b.length)=some ((),(([],()),())):=by
  unfold Mq;dsimp only;rw [ax (by omega),aS (a:=0) (b:=0) (by decide) (by decide),aS (by omega) (by omega)];by_cases h0:(0:Int) < (a.length:Int) + b.length - (0 - 0)
  . have e2:mzB 8 ((a.length:Int) + b.length - (0 - 0))=true:=by
     unfold mzB bH;rw [decide_eq_true (by omega),decide_eq_true (by rw [hbig]; omega)]; rfl
    have e3:dO 0 0 (xh d3 ((a.length:Int) + b.length - (0 - 0)))=true:=by unfold dO fO bH;rw [decide_eq_true (by decide),decide_eq_true (by omega)]; rfl
    rw [aG h0,e2,e3];rfl
  . rw [ax h0]; rfl
 have h2:Dp [] [(a,()),(b,())] 2 0=some (.inl (a ++ b,[(a,()),(b,())],2,2,())):=by
  refine aU _ (x':=(a,[(a,()),(b,())],2,1,())) ?_ (aU _ (x':=(a ++ b,[(a,()),(b,())],2,2,())) ?_ (aK _ ?_))
  . show rL [] [(a,()),(b,())] 2 0=_;unfold rL;have e:ct 8 ([]:List (Int×Unit)) (gt d54 [(a,()),(b,())] 0).1=true:=Nat.ble_eq_true_of_le (by show (0 + a.length) * 8<=aT; omega);rw [e]; rfl
  . show rL a [(a,()),(b,())] 2 1=_;unfold rL;have e:ct 8 a (gt d54 [(a,()),(b,())] 1).1=true:=Nat.ble_eq_true_of_le (by show (a.length + b.length) * 8<=aT; omega);rw [e]; rfl
  . rfl
 have h2':Dp [] [(a,()),(b,())] (ae [(a,()),(b,())]) 0=_:=h2;rw [h1];dsimp only [Option.bind_some,Sum.elim_inl];rw [hg];dsimp only [Option.bind_some,Sum.elim_inl];rw [h2']; rfl
theorem Ql (r:wg) (hb:Ce r):Lh r=some ((),((xv r,()),())):=by
 have hbig:aT=140737488355328:=rfl;obtain ⟨hb1,hb2⟩:=hb;unfold Lh;rw [JV _ _ hb1 hb2];dsimp only [Option.bind_some];have h:=aH (step:=fh nU) (r.2.2.1 ++ r.2.2.2.1) (fun i (_:Unit)=>(ae r.2.2.1,r.2.2.1 ++ r.2.2.2.1,ae (r.2.2.1 ++ r.2.2.2.1),((i:Nat):Int),r,())) (fun _ x _=>bif cO x.1 then Sum.inl () else .inr (.inr (false,()))) (fun _=> .inl (ae r.2.2.1,r.2.2.1 ++ r.2.2.2.1,ae (r.2.2.1 ++ r.2.2.2.1),((r.2.2.1 ++ r.2.2.2.1).length:Int),r,())) (a0:=()) (fun i x a hx=>by
  have hlt:=aj hx;rw [List.length_append] at hlt;show nU (ae r.2.2.1) (r.2.2.1 ++ r.2.2.2.1) (ae (r.2.2.1 ++ r.2.2.2.1)) (i:Int) r=_;unfold nU;rw [aD hx,az hx,aV _ hx,EF,aJ (by omega)];dsimp only [cond_true,Option.bind_some];cases cO x.1 <;> rfl) (fun a=>by
  show nU (ae r.2.2.1) (r.2.2.1 ++ r.2.2.2.1) (ae (r.2.2.1 ++ r.2.2.2.1)) ((r.2.2.1 ++ r.2.2.2.1).length:Int) r=_;unfold nU;rw [aw rfl]; rfl)
 rw [gi (fun (x:Int×Unit)=>cO x.1)] at h;have h':JI (ae r.2.2.1) (r.2.2.1 ++ r.2.2.2.1) (ae (r.2.2.1 ++ r.2.2.2.1)) 0 r=_:=h;rw [h',List.all_append];unfold xv;cases r.2.2.1.all (fun x=>cO x.1) && r.2.2.2.1.all (fun x=>cO x.1) with
 | false => cases dI r.1 1 1000 <;> cases dI (ae r.2.2.1) 1 8 <;> cases aq (ae r.2.2.2.1) (ae r.2.2.1) <;> cases dU r.2.1 <;> rfl
 | true => dsimp only [cond_true,Option.bind_some,Sum.elim_inl];rw [jb,jb,mR];dsimp only [Option.bind_some];cases dI r.1 1 1000 <;> cases dI (ae r.2.2.1) 1 8 <;> cases aq (ae r.2.2.2.1) (ae r.2.2.1) <;> cases dU r.2.1 <;> rfl
def vo (s:eL):Bool:=cond (cond (aW s.1) (aq (ae s.1) 6) false) (cond (cond (aW s.2.1) (aq (ae s.2.1) 4) false) (dI (ae s.2.2.1) 1 200) false) false
def K0 (s:eL):Prop:=s.1.length<=aT/\s.2.1.length<=aT
theorem Sb (s:eL) (hb:K0 s):M8 s=some ((),((vo s,()),())):=by unfold M8 vo;rw [fN _ hb.1,fN _ hb.2];dsimp only [Option.bind_some];rw [kN];cases cond (aW s.1) (aq (ae s.1) 6) false <;> cases cond (aW s.2.1) (aq (ae s.2.1) 4) false <;> rfl
theorem Se (s:eL) (hb:K0 s):LQ s=some ((),((vo s,()),())):=by unfold LQ uV vo;rw [gJ _ hb.1,gJ _ hb.2];dsimp only [Option.bind_some];rw [jb];cases cond (aW s.1) (aq (ae s.1) 6) false <;> cases cond (aW s.2.1) (aq (ae s.2.1) 4) false <;> rfl
def iG (a b:eL):Bool:=cond (cq a.1 b.1) (cq a.2.1 b.2.1) false
def jV (xs:List eL) (i:Nat) (x:eL):Bool:=cond (vo x) ((xs.take i).all (fun y=> !iG y x)) false
def oX (xs:List eL):Bool:=cond (allI (jV xs) 0 xs) (bH (ae xs) 6) false
def DO (xs:List eL):Prop:=xs.length<=1048576/\∀ y∈xs,K0 y
theorem qH {α:Type} (xs:List α) (i:Nat):sub xs 0 (i:Int)=xs.take i:=by unfold sub; simp
theorem ji {α:Type} {xs:List α} {i:Nat} (h:i<=xs.length):dO 0 (i:Int) xs=true:=by unfold dO fO bH;rw [decide_eq_true (by decide),decide_eq_true (by omega),decide_eq_true (by omega)]; rfl
theorem Ni (xs:List eL) (hb:DO xs):No xs=some ((),((oX xs,()),())):=by
 have hbig:aT=140737488355328:=rfl;have hb1:=hb.1;unfold No;have inner:∀ (i:Nat) (x:eL),i<=xs.length->IM xs xs (ae xs) (i:Int) (xs.take i) (ae (xs.take i)) 0 x=some (bif (xs.take i).all (fun y=> !iG y x) then .inl (xs,xs,ae xs,(i:Int),xs.take i,ae (xs.take i),((xs.take i).length:Int),x,()) else .inr (false,())):=fun i x hi=>by
  have hti:(xs.take i).length<=xs.length:=by rw [List.length_take]; exact Nat.min_le_right _ _
  have h:=aH (step:=yz pP) (xs.take i) (fun j (_:Unit)=>(xs,xs,ae xs,(i:Int),xs.take i,ae (xs.take i),((j:Nat):Int),x,())) (fun _ y _=>bif !iG y x then Sum.inl () else .inr (.inr (false,()))) (fun _=> .inl (xs,xs,ae xs,(i:Int),xs.take i,ae (xs.take i),((xs.take i).length:Int),x,())) (a0:=()) (fun j y a hy=>by
   have hlt:=aj hy;show pP xs xs (ae xs) (i:Int) (xs.take i) (ae (xs.take i)) (j:Int) x=_;unfold pP iG;rw [aD hy,az hy,aV _ hy,aJ (by omega)];dsimp only [cond_true];cases cond (cq y.1 x.1) (cq y.2.1 x.2.1) false <;> rfl) (fun a=>by
   show pP xs xs (ae xs) (i:Int) (xs.take i) (ae (xs.take i)) ((xs.take i).length:Int) x=_;unfold pP;rw [aw rfl]; rfl)
  rw [gi (fun y=> !iG y x)] at h;exact h
 have h:=aH (step:=cV qb) xs (fun i (_:Unit)=>(xs,xs,ae xs,((i:Nat):Int),())) (fun i x _=>bif jV xs i x then Sum.inl () else .inr (.inr (false,()))) (fun _=> .inl (xs,xs,ae xs,(xs.length:Int),())) (a0:=()) (fun i x a hx=>by
  have hlt:=aj hx;show qb xs xs (ae xs) (i:Int)=_;unfold qb jV;rw [aD hx,az hx,aV _ hx];dsimp only [cond_true];rw [Sb x (hb.2 x (List.mem_of_getElem? hx)),ji (Nat.le_of_lt hlt),qH];dsimp only [cond_true,Option.bind_some];rw [inner i x (Nat.le_of_lt hlt)];cases vo x with
  | false=>rfl
  | true =>
    cases (xs.take i).all (fun y=> !iG y x) with
    | false=>rfl
    | true =>
      dsimp only [cond_true,cond_false,Bool.not_true,Option.bind_some,Sum.elim_inl];rw [aJ (by omega)]; rfl) (fun a=>by
  show qb xs xs (ae xs) (xs.length:Int)=_;unfold qb;rw [aw rfl]; rfl)
 rw [cK] at h;have h':J3 xs xs (ae xs) 0=_:=h;rw [h'];unfold oX;cases allI (jV xs) 0 xs <;> rfl
def gz {α:Type} (p:α->Bool):Nat->List α->Int
 | _,[] => -1
 | i,x :: r=>bif p x then (i:Int) else gz p (i + 1) r
theorem mQ {α Y:Type} (p:α->Bool) (y:Int->Y) (z:Y) (out:Y->Int) (hy:∀ n,out (y n)=n) (hz:out z = -1):∀ (xs:List α) (i:Nat),out (jO (fun i x _=>bif p x then Sum.inr (y (i:Int)) else .inl ()) (fun _=>z) i xs ())=gz p i xs
 | [],_=>hz
 | x :: r,i=>by
   rw [jO,gz];cases hp:p x with
   | true=>exact hy _
   | false=>exact mQ p y z out hy hz r (i + 1)
theorem vV {α:Type} (p:α->Bool):∀ (xs:List α) (i:Nat),gz p i xs = -1∨((i:Int)<=gz p i xs/\gz p i xs < i + xs.length)
 | [],_=> .inl rfl
 | x :: r,i=>by
   rw [gz];cases p x with
   | true=>right; simp only [cond_true,List.length_cons]; omega
   | false =>
     rcases vV p r (i + 1) with h | h
     . exact .inl h
     . right; simp only [cond_false,List.length_cons]; omega
theorem BQ {α:Type} (p:α->Bool):∀ {xs:List α} {i:Nat} {x:α} (k:Nat),xs[i]? = some x->p x=true->(gz p k xs=((k + i:Nat):Int)↔(xs.take i).all (fun y=> !p y)=true)
 | [],i,x,k,h,_=>by simp at h
 | y :: r,0,x,k,h,hp=>by simp only [List.getElem?_cons_zero,Option.some.injEq] at h;subst h;rw [gz,hp]; simp
 | y :: r,i + 1,x,k,h,hp=>by
   have ih:=BQ p (xs:=r) (i:=i) (x:=x) (k + 1) (by simpa using h) hp;rw [gz,List.take_succ_cons,List.all_cons];cases hy:p y with
   | true => simp only [cond_true,Bool.not_true,Bool.false_and,Bool.false_eq_true,iff_false];omega
   | false => simp only [cond_false,Bool.not_false,Bool.true_and];rw [<- ih,show k + 1 + i=k + (i + 1) by omega]
theorem Il (xs:List eL) (a b:List UInt8) (hs:xs.length<=1048576):Nf xs a b=some ((),((gz (fun y=>cond (cq y.1 a) (cq y.2.1 b) false) 0 xs,()),())):=by
 have hbig:aT=140737488355328:=rfl;unfold Nf SG;have h:=aH (step:=cV pX) xs (fun i (_:Unit)=>(xs,((a,()),(b,()),()),ae xs,((i:Nat):Int),())) (fun i y _=>bif cond (cq y.1 a) (cq y.2.1 b) false then Sum.inr (.inr ((i:Int),())) else Sum.inl ()) (fun _=> .inl (xs,((a,()),(b,()),()),ae xs,(xs.length:Int),())) (a0:=()) (fun i y u hy=>by
  have hlt:=aj hy;show pX xs ((a,()),(b,()),()) (ae xs) (i:Int)=_;unfold pX QZ;rw [aD hy,az hy,aV _ hy,aJ (by omega)];dsimp only [cond_true,Option.bind_some];cases cond (cq y.1 a) (cq y.2.1 b) false <;> rfl) (fun u=>by
  show pX xs ((a,()),(b,()),()) (ae xs) (xs.length:Int)=_;unfold pX;rw [aw rfl]; rfl)
 have h':KK xs ((a,()),(b,()),()) (ae xs) 0=_:=h;rw [h'];have hf:=mQ (Y:=Sum ((List eL)×(((List UInt8)×Unit)×((List UInt8)×Unit)×Unit)×Int×Int×Unit) (Int×Unit)) (fun (y:eL)=>cond (cq y.1 a) (cq y.2.1 b) false) (fun n=> .inr (n,())) (.inl (xs,((a,()),(b,()),()),ae xs,(xs.length:Int),())) (fun y=>match y with | .inl _ => -1 | .inr z=>z.1) (fun _=>rfl) rfl xs 0;rw [<- hf];dsimp only [Option.bind_some];cases jO _ _ 0 xs () <;> rfl
theorem MJ (xs:List eL) (hb:DO xs):LN xs=some ((),((oX xs,()),())):=by
 have hbig:aT=140737488355328:=rfl;have hb1:=hb.1;unfold LN;have h:=aH (step:=cV ow) xs (fun i (_:Unit)=>(xs,xs,ae xs,((i:Nat):Int),())) (fun i x _=>bif jV xs i x then Sum.inl () else .inr (.inr (false,()))) (fun _=> .inl (xs,xs,ae xs,(xs.length:Int),())) (a0:=()) (fun i x a hx=>by
  have hlt:=aj hx;show ow xs xs (ae xs) (i:Int)=_;unfold ow jV;rw [aD hx,az hx,aV _ hx];dsimp only [cond_true];rw [Se x (hb.2 x (List.mem_of_getElem? hx))];dsimp only [cond_true,Option.bind_some];rw [Il xs _ _ hb1,aJ (by omega)];have hp:cond (cq x.1 x.1) (cq x.2.1 x.2.1) false=true:=by rw [cW,cW]; rfl
  have hk:=BQ (fun (y:eL)=>cond (cq y.1 x.1) (cq y.2.1 x.2.1) false) 0 hx hp;rw [Nat.zero_add,<- fY] at hk;have hk':aq (gz (fun (y:eL)=>cond (cq y.1 x.1) (cq y.2.1 x.2.1) false) 0 xs) (i:Int)=(xs.take i).all (fun y=> !iG y x):=by rw [Bool.eq_iff_iff]; exact hk
  cases vo x with
  | false=>rfl
  | true =>
    dsimp only [cond_true,cond_false,Bool.not_true,Option.bind_some];rw [hk'];cases (xs.take i).all (fun y=> !iG y x) <;> rfl) (fun a=>by
  show ow xs xs (ae xs) (xs.length:Int)=_;unfold ow;rw [aw rfl]; rfl)
 rw [cK] at h;have h':Kg xs xs (ae xs) 0=_:=h;rw [h'];unfold oX;cases allI (jV xs) 0 xs <;> rfl
abbrev aO:=List UInt8×Int×Int×Int×Int×List jS×Int×Int×List (Int×Unit)×List (Int×Unit)×List eL×Unit
def xY (a:aO):wg:=(a.2.2.2.2.2.2.1,a.2.2.2.2.2.2.2.1,a.2.2.2.2.2.2.2.2.1,a.2.2.2.2.2.2.2.2.2.1,())
def iW (a:aO):Prop:=a.1.length<=1048576/\(a.2.2.2.2.2.1.length<=1048576/\∀ y∈a.2.2.2.2.2.1,y.1.length<=1048576)/\Ce (xY a)/\a.2.2.2.2.2.2.2.2.2.2.1.length<=1048576/\∀ y∈a.2.2.2.2.2.2.2.2.2.2.1,y.1.length<=1048576/\y.2.1.length<=1048576/\y.2.2.1.length<=1048576
theorem cD {n:Nat} (h:n<=1048576):n<=aT:=Nat.le_trans h (by decide)
theorem iW.hs {a:aO} (h:iW a):DH a.2.2.2.2.2.1:=⟨cD h.2.1.1,fun y hy=>cD (h.2.1.2 y hy)⟩
theorem iW.ss {a:aO} (h:iW a):DO a.2.2.2.2.2.2.2.2.2.2.1:=⟨h.2.2.2.1,fun y hy=>⟨cD (h.2.2.2.2 y hy).1,cD (h.2.2.2.2 y hy).2.1⟩⟩
def vQ (a:aO):Bool:=cond (fD a.1) (cond (dI a.2.1 0 9007199254740992) (cond (dI a.2.2.2.1 0 1000) (cond (dI a.2.2.2.2.1 0 9007199254740992) (cond (cO a.2.2.1) (cond (oV a.2.2.2.2.2.1) (cond (xv (xY a)) (cond (oX a.2.2.2.2.2.2.2.2.2.2.1) (bH (xS a.2.2.1 (Ao a.2.2.2.2.2.1)) a.2.1) false) false) false) false) false) false) false) false
theorem Qh (a:aO) (hb:iW a):Xe a=some ((),((vQ a,()),())):=by
 have h1:=vE a.1 (cD hb.1);have h2:=MY _ hb.hs;have h3:IT (a.2.2.2.2.2.2.1,a.2.2.2.2.2.2.2.1,a.2.2.2.2.2.2.2.2.1,a.2.2.2.2.2.2.2.2.2.1,())=_:=QC (xY a) hb.2.2.1;have h4:=Ni _ hb.ss;have h5:=HP _ hb.hs.1;unfold Xe vQ;rw [h1,h2,h3,h4,h5,kN,kN,kN,rq];dsimp only [Option.bind_some];rw [Ph];dsimp only [Option.bind_some];cases fD a.1 <;> first | rfl | skip
 cases dI a.2.1 0 9007199254740992 <;> first | rfl | skip
 cases dI a.2.2.2.1 0 1000 <;> first | rfl | skip
 cases dI a.2.2.2.2.1 0 9007199254740992 <;> first | rfl | skip
 cases cO a.2.2.1 <;> first | rfl | skip
 cases oV a.2.2.2.2.2.1 <;> first | rfl | skip
 cases xv (xY a) <;> first | rfl | skip
 cases oX a.2.2.2.2.2.2.2.2.2.2.1 <;> rfl
theorem Q4 (a:aO) (hb:iW a):W4 a=some ((),((vQ a,()),())):=by
 have h1:=xw a.1 (cD hb.1);have h2:=Oa _ hb.hs;have h3:Lh (a.2.2.2.2.2.2.1,a.2.2.2.2.2.2.2.1,a.2.2.2.2.2.2.2.2.1,a.2.2.2.2.2.2.2.2.2.1,())=_:=Ql (xY a) hb.2.2.1;have h4:=MJ _ hb.ss;have h5:=I1 _ hb.hs.1;unfold W4 vQ;rw [h1,h2,h3,h4,h5,jb,jb,jb,EF];dsimp only [Option.bind_some];rw [PH];dsimp only [Option.bind_some];cases fD a.1 <;> first | rfl | skip
 cases dI a.2.1 0 9007199254740992 <;> first | rfl | skip
 cases dI a.2.2.2.1 0 1000 <;> first | rfl | skip
 cases dI a.2.2.2.2.1 0 9007199254740992 <;> first | rfl | skip
 cases cO a.2.2.1 <;> first | rfl | skip
 cases oV a.2.2.2.2.2.1 <;> first | rfl | skip
 cases xv (xY a) <;> first | rfl | skip
 cases oX a.2.2.2.2.2.2.2.2.2.2.1 <;> rfl
theorem dF {α:Type} {b:Nat} {xs:List α} (h:xs.length * b<=aT):ct b ([]:List α) xs=true:=Nat.ble_eq_true_of_le (by simpa using h)
theorem IP (r:wg) (hb:Ce r):Lk r=some ((),(r,())):=by have hbig:aT=140737488355328:=rfl;obtain ⟨h1,h2⟩:=hb;unfold Lk;rw [dF (by omega),dF (by omega)]; rfl
theorem Kq (r:wg) (hb:Ce r):IW r=some ((),(r,())):=by have hbig:aT=140737488355328:=rfl;obtain ⟨h1,h2⟩:=hb;unfold IW BH;rw [dF (by omega),dF (by omega)]; rfl
theorem Fx (xs:List eL) (hs:xs.length<=1048576) (hb:∀ y∈xs,y.2.2.1.length<=1048576):N2 xs=some ((),((xs,()),())):=by
 have hbig:aT=140737488355328:=rfl;unfold N2;have h:=aI (step:=cV qd) xs (fun i (a:List eL)=>(a,xs,ae xs,((i:Nat):Int),())) (fun _ x a=>Sum.inl (a ++ [x])) (fun a=> .inl (a,xs,ae xs,(xs.length:Int),())) (fun i a=>a.length=i) (a0:=[]) rfl (fun i x a hx ha=>by
  have hlt:=aj hx;have hm:=hb x (List.mem_of_getElem? hx);show qd a xs (ae xs) (i:Int)=_;unfold qd;have e:∀ y:eL,ct 56 a [y]=true:=fun y=>Nat.ble_eq_true_of_le (by simp; omega)
  rw [aD hx,az hx,aV _ hx];dsimp only [cond_true];rw [dF (by omega),e,aJ (by omega)];rfl) (fun i x a a' hx ha hf=>by
  simp only [Sum.inl.injEq] at hf;rw [<- hf,List.length_append,ha]; rfl) (fun a ha=>by
  show qd a xs (ae xs) (xs.length:Int)=_;unfold qd;rw [aw rfl]; rfl)
 rw [fJ] at h;have h':HS [] xs (ae xs) 0=_:=h;rw [h']; rfl
theorem Gk (xs:List eL) (hs:xs.length<=1048576) (hb:∀ y∈xs,y.2.2.1.length<=1048576):NX xs=some ((),((xs,()),())):=by
 have hbig:aT=140737488355328:=rfl;unfold NX;have h:=aI (step:=cV pk) xs (fun i (a:List eL)=>(a,xs,ae xs,((i:Nat):Int),())) (fun _ x a=>Sum.inl (a ++ [x])) (fun a=> .inl (a,xs,ae xs,(xs.length:Int),())) (fun i a=>a.length=i) (a0:=[]) rfl (fun i x a hx ha=>by
  have hlt:=aj hx;have hm:=hb x (List.mem_of_getElem? hx);show pk a xs (ae xs) (i:Int)=_;unfold pk Pl;have e:∀ y:eL,ct 56 a [y]=true:=fun y=>Nat.ble_eq_true_of_le (by simp; omega)
  rw [aD hx,az hx,aV _ hx];dsimp only [cond_true];rw [dF (by omega),aJ (by omega)];dsimp only [cond_true,Option.bind_some];rw [e];rfl) (fun i x a a' hx ha hf=>by
  simp only [Sum.inl.injEq] at hf;rw [<- hf,List.length_append,ha]; rfl) (fun a ha=>by
  show pk a xs (ae xs) (xs.length:Int)=_;unfold pk;rw [aw rfl]; rfl)
 rw [fJ] at h;have h':HN [] xs (ae xs) 0=_:=h;rw [h']; rfl
theorem Bm (a:aO) (hb:iW a):Tj a=some ((),(a,())):=by have hbig:aT=140737488355328:=rfl;have h1:=hb.2.1.1;have h2:Lk (a.2.2.2.2.2.2.1,a.2.2.2.2.2.2.2.1,a.2.2.2.2.2.2.2.2.1,a.2.2.2.2.2.2.2.2.2.1,())=_:=IP (xY a) hb.2.2.1;have h3:=Fx _ hb.2.2.2.1 (fun y hy=>(hb.2.2.2.2 y hy).2.2);unfold Tj;rw [dF (by omega),h2,h3]; rfl
theorem J8 (a:aO) (hb:iW a):Mu a=some ((),(a,())):=by have hbig:aT=140737488355328:=rfl;have h1:=hb.2.1.1;have h2:IW (a.2.2.2.2.2.2.1,a.2.2.2.2.2.2.2.1,a.2.2.2.2.2.2.2.2.1,a.2.2.2.2.2.2.2.2.2.1,())=_:=Kq (xY a) hb.2.2.1;have h3:=Gk _ hb.2.2.2.1 (fun y hy=>(hb.2.2.2.2 y hy).2.2);unfold Mu HK;rw [dF (by omega),h2,h3]; rfl
def gW (h:Nat) (c:UInt8):Nat:=((h ^^^ c.toNat) * 16777619) % 4294967296
def D0 (s:List UInt8):Nat:=s.foldl gW 2166136261
theorem DW (h:Nat) (c:UInt8):gW h c < 4294967296:=Nat.mod_lt _ (by decide)
theorem It {a c:Nat} (ha:a < 4294967296) (hc:c < 256):a ^^^ c < 4294967296:=by have:=Nat.xor_lt_two_pow (x:=a) (y:=c) (n:=32) (by omega) (by omega);omega
theorem jk (n a:Nat):BitVec.ofInt n (a:Int)=BitVec.ofNat n a:=by simp
theorem CW {a:Nat} (c:UInt8) (ha:a < 4294967296):Ad .i64 (jZ .i64 (Br .i64 (a:Int) (bG .i64 (c.toNat:Int))) 16777619) 4294967295=((gW a c:Nat):Int):=by
 have hc:c.toNat < 256:=c.toNat_lt;have hx:=It ha hc;have e1:bG .i64 (c.toNat:Int)=(c.toNat:Int):=IntWalk.i64_in _ (by omega);have e2:Br .i64 (a:Int) (c.toNat:Int)=((a ^^^ c.toNat:Nat):Int):=by
  unfold Br;have:(BitVec.ofInt IntKind.i64.bits (a:Int) ^^^ BitVec.ofInt IntKind.i64.bits (c.toNat:Int)).toNat=a ^^^ c.toNat:=by
   rw [jk,jk,BitVec.toNat_xor,BitVec.toNat_ofNat,BitVec.toNat_ofNat];have h64:2 ^ IntKind.i64.bits=18446744073709551616:=by decide
   rw [h64,Nat.mod_eq_of_lt (by omega),Nat.mod_eq_of_lt (by omega)]
  rw [this];exact IntWalk.i64_in _ (by omega)
 have e3:jZ .i64 ((a ^^^ c.toNat:Nat):Int) 16777619=(((a ^^^ c.toNat) * 16777619:Nat):Int):=by unfold jZ;rw [IntWalk.i64_in _ (by omega)];omega
 rw [e1,e2,e3];unfold Ad gW;have:(BitVec.ofInt IntKind.i64.bits (((a ^^^ c.toNat) * 16777619:Nat):Int) &&& BitVec.ofInt IntKind.i64.bits (4294967295:Int)).toNat=((a ^^^ c.toNat) * 16777619) % 4294967296:=by
  have h32:(4294967295:Int)=((4294967295:Nat):Int):=rfl;rw [h32,jk,jk,BitVec.toNat_and,BitVec.toNat_ofNat,BitVec.toNat_ofNat];have h64:2 ^ IntKind.i64.bits=18446744073709551616:=by decide
  rw [h64,Nat.mod_eq_of_lt (by omega:(a ^^^ c.toNat) * 16777619 < 18446744073709551616),Nat.mod_eq_of_lt (by omega:4294967295 < 18446744073709551616)];exact Nat.and_two_pow_sub_one_eq_mod _ 32
 rw [this];have:=Nat.mod_lt ((a ^^^ c.toNat) * 16777619) (show 0 < 4294967296 by decide);exact IntWalk.i64_in _ (by omega)
theorem CN {a:Nat} (c:UInt8) (ha:a < 4294967296):jZ .u32 (Br .u32 (a:Int) (bG .u32 (c.toNat:Int))) 16777619=((gW a c:Nat):Int):=by
 have hc:c.toNat < 256:=c.toNat_lt;have hx:=It ha hc;have e1:bG .u32 (c.toNat:Int)=(c.toNat:Int):=IntWalk.u32_in _ (by omega);have e2:Br .u32 (a:Int) (c.toNat:Int)=((a ^^^ c.toNat:Nat):Int):=by
  unfold Br;have:(BitVec.ofInt IntKind.u32.bits (a:Int) ^^^ BitVec.ofInt IntKind.u32.bits (c.toNat:Int)).toNat=a ^^^ c.toNat:=by
   rw [jk,jk,BitVec.toNat_xor,BitVec.toNat_ofNat,BitVec.toNat_ofNat];have h32:2 ^ IntKind.u32.bits=4294967296:=by decide
   rw [h32,Nat.mod_eq_of_lt ha,Nat.mod_eq_of_lt (by omega)]
  rw [this];exact IntWalk.u32_in _ (by omega)
 rw [e1,e2];unfold jZ gW;rw [IntKind.wrap_u32];omega
theorem Uw (s:List UInt8) (hb:s.length<=aT):MA s=some ((),((((D0 s:Nat):Int),()),())):=by
 have hbig:aT=140737488355328:=rfl;unfold MA;have h:=aI (step:=dk o7) s (fun i (a:Nat)=>(s,((a:Nat):Int),((i:Nat):Int),())) (fun _ x a=>Sum.inl (gW a x)) (fun a=> .inl (s,((a:Nat):Int),(s.length:Int),())) (fun _ a=>a < 4294967296) (a0:=2166136261) (by decide) (fun i x a hx ha=>by
  have hlt:=aj hx;show o7 s (a:Int) (i:Int)=_;unfold o7;rw [aD hx,az hx,eD hx,aJ (by omega),CW x ha]; rfl) (fun i x a a' hx ha hf=>by
  simp only [Sum.inl.injEq] at hf;rw [<- hf]; exact DW a x) (fun a ha=>by
  show o7 s (a:Int) (s.length:Int)=_;unfold o7;rw [aw rfl]; rfl)
 rw [bY (fun x a=>gW a x)] at h;have h':HJ s 2166136261 0=_:=h;rw [h']; rfl
theorem LD (s:List UInt8):D0 s < 4294967296:=by
 have:∀ (s:List UInt8) (a:Nat),a < 4294967296->s.foldl gW a < 4294967296:=fun s=>by
  induction s with
  | nil=>exact fun a h=>h
  | cons c r ih=>exact fun a _=>ih _ (DW a c)
 exact this s _ (by decide)
theorem Vy (s:List UInt8) (hb:s.length<=aT):Ml s=some ((),((((D0 s:Nat):Int),()),())):=by
 have hbig:aT=140737488355328:=rfl;unfold Ml;have h:=aI (step:=cV oE) s (fun i (a:Nat)=>(s,((a:Nat):Int),ae s,((i:Nat):Int),())) (fun _ x a=>Sum.inl (gW a x)) (fun a=> .inl (s,((a:Nat):Int),ae s,(s.length:Int),())) (fun _ a=>a < 4294967296) (a0:=2166136261) (by decide) (fun i x a hx ha=>by
  have hlt:=aj hx;show oE s (a:Int) (ae s) (i:Int)=_;unfold oE;rw [aD hx,az hx,eD hx,aJ (by omega),CN x ha]; rfl) (fun i x a a' hx ha hf=>by
  simp only [Sum.inl.injEq] at hf;rw [<- hf]; exact DW a x) (fun a ha=>by
  show oE s (a:Int) (ae s) (s.length:Int)=_;unfold oE;rw [aw rfl]; rfl)
 rw [bY (fun x a=>gW a x)] at h;have h':Kt s 2166136261 (ae s) 0=_:=h;rw [h'];have:=LD s;have e:bG .i64 ((D0 s:Nat):Int)=((D0 s:Nat):Int):=IntWalk.i64_in _ (by omega);show some ((),((bG .i64 ((D0 s:Nat):Int),()),()))=_;rw [e]
def aF (s:List UInt8) (n:Int):Int:=cond (au n 1) 0 (fx ((D0 s:Nat):Int) n)
theorem rE (s:List UInt8) (n:Int) (hb:s.length<=aT):Bj s n=some ((),((aF s n,()),())):=by
 unfold Bj aF;rw [Uw s hb];by_cases h:n < 1
 . rw [aG h]; rfl
 . rw [ax h];have:aq n 0=false:=by
    rw [Bool.eq_false_iff]; intro hh; rw [fY] at hh; omega
   dsimp only [cond_false,Option.bind_some];rw [this]; rfl
theorem Cj (s:List UInt8) (n:Int) (hb:s.length<=aT):Kn s n=some ((),((aF s n,()),())):=by
 unfold Kn aF;rw [Vy s hb];by_cases h:n < 1
 . rw [aG h]; rfl
 . rw [ax h];have:aq n 0=false:=by
    rw [Bool.eq_false_iff]; intro hh; rw [fY] at hh; omega
   dsimp only [cond_false,Option.bind_some];rw [this]; rfl
def jU (xs:List aO) (i:Nat) (x:aO):Bool:=cond (vQ x) (cond (decide (0 < i)) (j8 (gt ([],0,0,0,0,[],0,0,[],[],[],()) xs ((i:Int) - 1)).1 x.1) true) false
def AH (b:List aO):Bool:=cond (allI (jU b) 0 b) (bH (ae b) 6) false
def EJ (b:List aO):Prop:=b.length<=1048576/\∀ a∈b,iW a
theorem Sx (b:List aO) (hb:EJ b):I9 (b,())=some ((),((AH b,()),())):=by
 have hbig:aT=140737488355328:=rfl;have hl:=hb.1;unfold I9;have h:=aH (step:=cV oe) b (fun i (_:Unit)=>(b,ae b,((i:Nat):Int),(b,()),())) (fun i x _=>bif jU b i x then Sum.inl () else .inr (.inr (false,()))) (fun _=> .inl (b,ae b,(b.length:Int),(b,()),())) (a0:=()) (fun i x a hx=>by
  have hlt:=aj hx;show oe b (ae b) (i:Int) (b,())=_;unfold oe jU;rw [aD hx,az hx,aV _ hx];dsimp only [cond_true];rw [Qh x (hb.2 x (List.mem_of_getElem? hx)),aJ (by omega)];dsimp only [Option.bind_some];cases vQ x with
  | false=>rfl
  | true =>
    by_cases h0:0 < i
    . rw [aG (show (0:Int) < i by omega),aS (by omega) (by omega),iJ hx h0];dsimp only [cond_true,cond_false,Bool.not_true];have e:gt d59 b ((i:Int) - 1)=gt ([],0,0,0,0,[],0,0,[],[],[],()) b ((i:Int) - 1):=rfl;rw [e,decide_eq_true h0];cases j8 (gt ([],0,0,0,0,[],0,0,[],[],[],()) b ((i:Int) - 1)).1 x.1 <;> rfl
    . rw [ax (show ¬ (0:Int) < i by omega),decide_eq_false h0]; rfl) (fun a=>by
  show oe b (ae b) (b.length:Int) (b,())=_;unfold oe;rw [aw rfl]; rfl)
 rw [cK] at h;have h':Jj b (ae b) 0 (b,())=_:=h;dsimp only;rw [h'];unfold AH;cases allI (jU b) 0 b <;> rfl
theorem Qv (b:List aO) (hb:EJ b):IA (b,())=some ((),((AH b,()),())):=by
 have hbig:aT=140737488355328:=rfl;have hl:=hb.1;unfold IA;have h:=aH (step:=cV pw) b (fun i (_:Unit)=>(b,ae b,((i:Nat):Int),(b,()),())) (fun i x _=>bif jU b i x then Sum.inl () else .inr (.inr (false,()))) (fun _=> .inl (b,ae b,(b.length:Int),(b,()),())) (a0:=()) (fun i x a hx=>by
  have hlt:=aj hx;show pw b (ae b) (i:Int) (b,())=_;unfold pw jU;rw [aD hx,az hx,aV _ hx];dsimp only [cond_true];rw [Q4 x (hb.2 x (List.mem_of_getElem? hx)),aJ (by omega)];dsimp only [Option.bind_some];cases vQ x with
  | false=>rfl
  | true =>
    by_cases h0:0 < i
    . rw [aG (show (0:Int) < i by omega),aS (by omega) (by omega),iJ hx h0];dsimp only [cond_true,cond_false,Bool.not_true];rw [uv];have e:gt d59 b ((i:Int) - 1)=gt ([],0,0,0,0,[],0,0,[],[],[],()) b ((i:Int) - 1):=rfl;rw [e,decide_eq_true h0];cases j8 (gt ([],0,0,0,0,[],0,0,[],[],[],()) b ((i:Int) - 1)).1 x.1 <;> rfl
    . rw [ax (show ¬ (0:Int) < i by omega),decide_eq_false h0]; rfl) (fun a=>by
  show pw b (ae b) (b.length:Int) (b,())=_;unfold pw;rw [aw rfl]; rfl)
 rw [cK] at h;have h':Ip b (ae b) 0 (b,())=_:=h;dsimp only;rw [h'];unfold AH;cases allI (jU b) 0 b <;> rfl
abbrev dy (a b:aO):Bool:=j8 a.1 b.1
theorem fC:Lr dy:=MN (fun (a:aO)=>a.1)
abbrev bS:Nat:=1099511627776
theorem My (a b:aO):∃ v,DE a b=some ((),((v,()),()))/\au v 0=dy a b:=by
 unfold DE;cases h:j8 a.1 b.1 with
 | true=>exact ⟨_,rfl,by show _=j8 a.1 b.1; rw [h]; rfl⟩
 | false =>
   cases !(Qi a.1 b.1) with
   | true=>exact ⟨_,rfl,by show _=j8 a.1 b.1; rw [h]; rfl⟩
   | false=>exact ⟨_,rfl,by show _=j8 a.1 b.1; rw [h]; rfl⟩
theorem QI (P S:List aO) (x:aO) (b i:Int):∀ (n:Nat) (A1 A2:List aO),A1.length=n->(P ++ (A1 ++ x :: A2) ++ S).length<=bS ->
 ∃ B1 B2 j',A1=B1 ++ B2/\(∀ y∈B2,dy x y=true)/\(∀ C y,B1=C ++ [y]->dy x y=false) /\
  Ab (P ++ (A1 ++ x :: A2) ++ S) (P.length:Int) b () i ((P.length + A1.length:Nat):Int)=some (.inl (P ++ (B1 ++ x :: (B2 ++ A2)) ++ S,(P.length:Int),b,(),i,j',())):=by
 intro n;induction n with
 | zero => intro A1 A2 hn hl;have:A1=[]:=List.length_eq_zero_iff.1 hn;subst this;refine ⟨[],[],((P.length + 0:Nat):Int),rfl,fun y hy=>by simp at hy,fun C y h=>by simp at h,aK _ ?_⟩;show pg (P ++ ([] ++ x :: A2) ++ S) (P.length:Int) b () i ((P.length + 0:Nat):Int)=_;unfold pg;rw [ax (by omega)];rfl
 | succ n ih =>
   intro A1 A2 hn hl;obtain ⟨B,y,rfl⟩:=uj (a:=A1) (fun h=>by subst h; simp at hn);have hB:B.length=n:=by simpa using hn
   simp only [bS,List.length_append,List.length_cons,List.length_nil] at hl;have e0:P ++ (B ++ [y] ++ x :: A2) ++ S=(P ++ B) ++ y :: x :: (A2 ++ S):=by simp
   have e1:P ++ (B ++ [y] ++ x :: A2) ++ S=(P ++ B ++ [y]) ++ x :: (A2 ++ S):=by simp
   have hj:((P.length + (B ++ [y]).length:Nat):Int)=((P ++ B ++ [y]).length:Int):=by simp <;> omega
   have hj1:aM .i64 ((P.length + (B ++ [y]).length:Nat):Int) 1=((P ++ B).length:Int):=by rw [aS (by simp <;> omega) (by simp <;> omega)]; simp <;> omega
   obtain ⟨v,hv1,hv2⟩:=My x y
   have hstep:pg (P ++ (B ++ [y] ++ x :: A2) ++ S) (P.length:Int) b () i ((P.length + (B ++ [y]).length:Nat):Int) =
    cond (dy x y) (some (.inl (P ++ (B ++ x :: (y :: A2)) ++ S,(P.length:Int),b,(),i,((P.length + B.length:Nat):Int),()))) (some (.inr (.inl (P ++ (B ++ [y] ++ x :: A2) ++ S,(P.length:Int),b,(),i,((P.length + (B ++ [y]).length:Nat):Int),())))):=by
    unfold pg;have i1:aR ((P.length + (B ++ [y]).length:Nat):Int) (P ++ (B ++ [y] ++ x :: A2) ++ S)=true:=by rw [e1]; exact iq _ _ _ hj
    have i2:aR ((P ++ B).length:Int) (P ++ (B ++ [y] ++ x :: A2) ++ S)=true:=by rw [e0]; exact iq _ _ _ rfl
    have a1:AE ((P.length + (B ++ [y]).length:Nat):Int) (P ++ (B ++ [y] ++ x :: A2) ++ S) ((P.length + (B ++ [y]).length:Nat):Int)=true:=by rw [e1]; exact j9 _ _ _ hj
    have a2:AE ((P ++ B).length:Int) (P ++ (B ++ [y] ++ x :: A2) ++ S) ((P ++ B).length:Int)=true:=by rw [e0]; exact j9 _ _ _ rfl
    have t1:gt d59 (P ++ (B ++ [y] ++ x :: A2) ++ S) ((P.length + (B ++ [y]).length:Nat):Int)=x:=by rw [e1]; exact xl _ _ _ _ hj
    have t2:gt d59 (P ++ (B ++ [y] ++ x :: A2) ++ S) ((P ++ B).length:Int)=y:=by rw [e0]; exact xl _ _ _ _ rfl
    rw [aG (by simp <;> omega)];dsimp only [cond_true];rw [hj1,i1,i2,t1,t2,a1,a2,hv1];dsimp only [cond_true,Option.bind_some];rw [hv2];cases dy x y with
    | false=>rfl
    | true =>
      have sw:Hv d59 (P ++ (B ++ [y] ++ x :: A2) ++ S) ((P.length + (B ++ [y]).length:Nat):Int) ((P ++ B).length:Int)=P ++ (B ++ x :: (y :: A2)) ++ S:=by
       rw [e0];unfold Hv;have:=yB d59 (P ++ B) y x (A2 ++ S);have k1:((P.length + (B ++ [y]).length:Nat):Int).toNat=(P ++ B).length + 1:=by simp <;> omega
       rw [k1,Int.toNat_natCast,this];simp
      rw [sw];have k2:((P ++ B).length:Int)=((P.length + B.length:Nat):Int):=by simp
      rw [k2]
   cases hc:dy x y with
   | false => rw [hc] at hstep;refine ⟨B ++ [y],[],((P.length + (B ++ [y]).length:Nat):Int),by simp,fun y hy=>by simp at hy,fun C z h => ?_,aK _ hstep⟩;have:=List.append_inj' h rfl;have h2:=this.2;simp only [List.cons.injEq,and_true] at h2;rw [<- h2]; exact hc
   | true =>
     rw [hc] at hstep;obtain ⟨B1,B2,j',q1,q2,q3,q4⟩:=ih B (y :: A2) hB (by simp [bS]; omega);refine ⟨B1,B2 ++ [y],j',by rw [q1]; simp,fun z hz => ?_,q3,aU _ hstep ?_⟩
     . rcases List.mem_append.1 hz with hz | hz
       . exact q2 z hz
       . simp only [List.mem_singleton] at hz; subst hz; exact hc
     . have:B2 ++ [y] ++ A2=B2 ++ y :: A2:=by simp
       rw [this];exact q4
theorem Mk (P S:List aO) (b:Int):∀ (n:Nat) (A R:List aO),R.length=n->lI dy A->b=((P.length + A.length + R.length:Nat):Int)->(P ++ (A ++ R) ++ S).length<=bS ->
 ∃ M,lI dy M/\ez dy (A ++ R) M/\oM (P ++ (A ++ R) ++ S) (P.length:Int) b () ((P.length + A.length:Nat):Int)=some (.inl (P ++ M ++ S,(P.length:Int),b,(),b,())):=by
 intro n;induction n with
 | zero =>
   intro A R hn hA hb hl;have:R=[]:=List.length_eq_zero_iff.1 hn;subst this;have hb':b=((P.length + A.length:Nat):Int):=by simpa using hb
   refine ⟨A,hA,by rw [List.append_nil]; exact ez.refl _,aK _ ?_⟩;show lC (P ++ (A ++ []) ++ S) (P.length:Int) b () ((P.length + A.length:Nat):Int)=_;unfold lC;rw [ax (by omega),List.append_nil,<- hb'];rfl
 | succ n ih =>
   intro A R hn hA hb hl;cases R with
   | nil=>simp at hn
   | cons x R =>
     have hR:R.length=n:=by simpa using hn
     have hl':=hl;simp only [bS,List.length_append,List.length_cons] at hl';have e0:P ++ (A ++ x :: R) ++ S=P ++ (A ++ x :: []) ++ (R ++ S):=by simp
     obtain ⟨B1,B2,j',q1,q2,q3,q4⟩:=QI P (R ++ S) x b ((P.length + A.length:Nat):Int) A.length A [] rfl (by rw [<- e0]; exact hl);rw [List.append_nil,<- e0] at q4;subst q1;have hs:=cC.1 hA;have hlast:∀ y∈B1,dy x y=false:=fun y hy=>by
      obtain ⟨C,z,rfl⟩:=uj (a:=B1) (fun h=>by subst h; simp at hy);have hz:=q3 C z rfl;rcases List.mem_append.1 hy with hy | hy
      . exact fC.le_trans ((cC.1 hs.1).2.2 y hy z (by simp)) hz
      . simp only [List.mem_singleton] at hy; subst hy; exact hz
     have hsrt:lI dy (B1 ++ x :: B2):=by
      refine cC.2 ⟨hs.1,List.pairwise_cons.2 ⟨fun y hy => ?_,hs.2.1⟩,fun y hy z hz => ?_⟩
      . cases h:dy y x with
        | false=>rfl
        | true => have:=fC.trans _ _ _ h (q2 y hy);rw [fC.irr] at this;simp at this
      . rcases List.mem_cons.1 hz with rfl | hz
        . exact hlast y hy
        . exact hs.2.2 y hy z hz
     have hstb:ez dy (B1 ++ B2 ++ x :: R) (B1 ++ x :: B2 ++ R):=by
      have h1:ez dy (B2 ++ [x]) ([x] ++ B2):=ez.swap fC fun y hy z hz=>by simp only [List.mem_singleton] at hz; subst hz; exact q2 y hy
      have h2:=((ez.refl B1).append h1).append (ez.refl R);simpa using h2
     obtain ⟨M,m1,m2,m3⟩:=ih (B1 ++ x :: B2) R hR hsrt (by rw [hb]; simp only [List.length_append,List.length_cons]; omega) (by simp only [bS,List.length_append,List.length_cons] at hl' ⊢; omega);refine ⟨M,m1,hstb.trans m2,aU _ (x':=(P ++ (B1 ++ x :: B2 ++ R) ++ S,(P.length:Int),b,(),((P.length + (B1 ++ x :: B2).length:Nat):Int),())) ?_ m3⟩;show lC (P ++ (B1 ++ B2 ++ x :: R) ++ S) (P.length:Int) b () ((P.length + (B1 ++ B2).length:Nat):Int)=_;unfold lC;rw [aG (by rw [hb]; simp only [List.length_append,List.length_cons]; omega),q4];dsimp only [cond_true,Option.bind_some,Sum.elim_inl];have k1:ai .i64 ((P.length + (B1 ++ B2).length:Nat):Int) 1=((P.length + (B1 ++ x :: B2).length:Nat):Int):=by rw [ay (by omega) (by simp only [List.length_append] at *; omega)];simp only [List.length_append,List.length_cons]; omega
     rw [k1];simp
theorem PN (P L S:List aO) (hl:(P ++ L ++ S).length<=bS):∃ M,lI dy M/\ez dy L M/\GI (P ++ L ++ S) (P.length:Int) ((P.length + L.length:Nat):Int)=some (((P ++ M ++ S,()),()),()):=by
 have hl':=hl;simp only [bS,List.length_append] at hl';unfold GI;have k0:ai .i64 (P.length:Int) 1=((P.length + 1:Nat):Int):=by rw [ay (by omega) (by omega)]; omega
 rw [k0];cases L with
 | nil => refine ⟨[],EI,ez.refl _,?_⟩;have:oM (P ++ [] ++ S) (P.length:Int) ((P.length + 0:Nat):Int) () ((P.length + 1:Nat):Int)=some (.inl (P ++ [] ++ S,(P.length:Int),((P.length + 0:Nat):Int),(),((P.length + 1:Nat):Int),())):=aK _ (by show lC (P ++ [] ++ S) (P.length:Int) ((P.length + 0:Nat):Int) () ((P.length + 1:Nat):Int)=_;unfold lC;rw [ax (by omega)]; rfl);show Option.bind (oM (P ++ [] ++ S) (P.length:Int) ((P.length + 0:Nat):Int) () ((P.length + 1:Nat):Int)) _=_;rw [this];rfl
 | cons x L => obtain ⟨M,m1,m2,m3⟩:=Mk P S ((P.length + (x :: L).length:Nat):Int) L.length [x] L rfl (Ng x) (by simp only [List.length_cons,List.length_nil]; omega) (by simpa using hl);refine ⟨M,m1,m2,?_⟩;have m3':oM (P ++ x :: L ++ S) (P.length:Int) ((P.length + (x :: L).length:Nat):Int) () ((P.length + 1:Nat):Int)=_:=m3;rw [m3'];rfl
theorem Kd {α:Type} (d:α) (u:List α) (p:α) (v:List α) (q:α) (w:List α):kn d (u ++ p :: (v ++ q :: w)) u.length (u.length + (1 + v.length))=u ++ q :: (v ++ p :: w):=by
 unfold kn;have h1:(u ++ p :: (v ++ q :: w)).getD u.length d=p:=by simp [List.getD]
 have h2:(u ++ p :: (v ++ q :: w)).getD (u.length + (1 + v.length)) d=q:=by rw [List.getD,List.getElem?_append_right (by omega),show u.length + (1 + v.length) - u.length=v.length + 1 by omega,List.getElem?_cons_succ,List.getElem?_append_right (by omega),Nat.sub_self];rfl
 rw [h1,h2,List.set_append,if_neg (by omega),Nat.sub_self,List.set_append,if_neg (by omega),show u.length + (1 + v.length) - u.length=v.length + 1 by omega];show u ++ (q :: (v ++ q :: w)).set (v.length + 1) p=_;rw [List.set_cons_succ,List.set_append,if_neg (by omega),Nat.sub_self];rfl
theorem Js (P Y S:List aO):∀ (n:Nat) (Z1 X2 X1 Z2:List aO),X2.length=n->Z2.length=n->X1.length=Z1.length->(P ++ (Z1 ++ X2) ++ Y ++ (X1 ++ Z2) ++ S).length<=bS ->
 xI (P ++ (Z1 ++ X2) ++ Y ++ (X1 ++ Z2) ++ S) (P.length:Int) ((P.length + (Z1.length + n) + Y.length:Nat):Int) ((Z1.length + n:Nat):Int) (Z1.length:Int) =
  some (.inl (P ++ (Z1 ++ Z2) ++ Y ++ (X1 ++ X2) ++ S,(P.length:Int),((P.length + (Z1.length + n) + Y.length:Nat):Int),((Z1.length + n:Nat):Int),((Z1.length + n:Nat):Int),())):=by
 intro n;induction n with
 | zero => intro Z1 X2 X1 Z2 h1 h2 h3 hl;have e1:X2=[]:=List.length_eq_zero_iff.1 h1;have e2:Z2=[]:=List.length_eq_zero_iff.1 h2;subst e1; subst e2;refine aK _ ?_;show o8 (P ++ (Z1 ++ []) ++ Y ++ (X1 ++ []) ++ S) (P.length:Int) ((P.length + (Z1.length + 0) + Y.length:Nat):Int) ((Z1.length + 0:Nat):Int) (Z1.length:Int)=_;unfold o8;rw [ax (by omega)];rfl
 | succ n ih =>
   intro Z1 X2 X1 Z2 h1 h2 h3 hl;cases X2 with
   | nil=>simp at h1
   | cons x X2 =>
   cases Z2 with
   | nil=>simp at h2
   | cons z Z2 =>
   have hx:X2.length=n:=by simpa using h1
   have hz:Z2.length=n:=by simpa using h2
   have hl':=hl;simp only [bS,List.length_append,List.length_cons] at hl';have ih':=ih (Z1 ++ [z]) X2 (X1 ++ [x]) Z2 hx hz (by simp [h3]) (by simp only [bS,List.length_append,List.length_cons,List.length_nil]; omega);have e1:((P.length + ((Z1 ++ [z]).length + n) + Y.length:Nat):Int)=((P.length + (Z1.length + (n + 1)) + Y.length:Nat):Int):=by simp only [List.length_append,List.length_cons,List.length_nil]; omega
   have e2:(((Z1 ++ [z]).length + n:Nat):Int)=((Z1.length + (n + 1):Nat):Int):=by simp only [List.length_append,List.length_cons,List.length_nil]; omega
   have e3:(((Z1 ++ [z]).length:Nat):Int)=ai .i64 (Z1.length:Int) 1:=by rw [ay (by omega) (by omega)]; simp
   rw [e1,e2,e3] at ih';have ef:P ++ (Z1 ++ [z] ++ Z2) ++ Y ++ (X1 ++ [x] ++ X2) ++ S=P ++ (Z1 ++ z :: Z2) ++ Y ++ (X1 ++ x :: X2) ++ S:=by simp
   rw [ef] at ih';refine aU _ ?_ ih';show o8 (P ++ (Z1 ++ x :: X2) ++ Y ++ (X1 ++ z :: Z2) ++ S) (P.length:Int) ((P.length + (Z1.length + (n + 1)) + Y.length:Nat):Int) ((Z1.length + (n + 1):Nat):Int) (Z1.length:Int)=_;have d1:P ++ (Z1 ++ x :: X2) ++ Y ++ (X1 ++ z :: Z2) ++ S=(P ++ Z1) ++ x :: ((X2 ++ Y ++ X1) ++ z :: (Z2 ++ S)):=by simp
   have d2:P ++ (Z1 ++ x :: X2) ++ Y ++ (X1 ++ z :: Z2) ++ S=(P ++ Z1 ++ x :: (X2 ++ Y ++ X1)) ++ z :: (Z2 ++ S):=by simp
   have k1:ai .i64 ((P.length + (Z1.length + (n + 1)) + Y.length:Nat):Int) (Z1.length:Int)=((P ++ Z1 ++ x :: (X2 ++ Y ++ X1)).length:Int):=by rw [ay (by omega) (by omega)];simp only [List.length_append,List.length_cons]; omega
   have k2:ai .i64 (P.length:Int) (Z1.length:Int)=((P ++ Z1).length:Int):=by rw [ay (by omega) (by omega)];simp only [List.length_append]; omega
   unfold o8;rw [aG (by omega),k1,k2];dsimp only [cond_true];have i1:aR ((P ++ Z1 ++ x :: (X2 ++ Y ++ X1)).length:Int) (P ++ (Z1 ++ x :: X2) ++ Y ++ (X1 ++ z :: Z2) ++ S)=true:=by rw [d2]; exact iq _ _ _ rfl
   have i2:aR ((P ++ Z1).length:Int) (P ++ (Z1 ++ x :: X2) ++ Y ++ (X1 ++ z :: Z2) ++ S)=true:=by rw [d1]; exact iq _ _ _ rfl
   have a1:AE ((P ++ Z1 ++ x :: (X2 ++ Y ++ X1)).length:Int) (P ++ (Z1 ++ x :: X2) ++ Y ++ (X1 ++ z :: Z2) ++ S) ((P ++ Z1 ++ x :: (X2 ++ Y ++ X1)).length:Int)=true:=by rw [d2]; exact j9 _ _ _ rfl
   have a2:AE ((P ++ Z1).length:Int) (P ++ (Z1 ++ x :: X2) ++ Y ++ (X1 ++ z :: Z2) ++ S) ((P ++ Z1).length:Int)=true:=by rw [d1]; exact j9 _ _ _ rfl
   rw [i1,i2,a1,a2];dsimp only [cond_true];have sw:Hv d59 (P ++ (Z1 ++ x :: X2) ++ Y ++ (X1 ++ z :: Z2) ++ S) ((P ++ Z1).length:Int) ((P ++ Z1 ++ x :: (X2 ++ Y ++ X1)).length:Int)=P ++ (Z1 ++ [z] ++ X2) ++ Y ++ (X1 ++ [x] ++ Z2) ++ S:=by
    unfold Hv;rw [Int.toNat_natCast,Int.toNat_natCast,d1];have k3:(P ++ Z1 ++ x :: (X2 ++ Y ++ X1)).length=(P ++ Z1).length + (1 + (X2 ++ Y ++ X1).length):=by simp only [List.length_append,List.length_cons]; omega
    rw [k3,Kd];simp
   rw [sw]
theorem IV (P X Y Z S:List aO) (hx:X.length=Z.length) (hl:(P ++ X ++ Y ++ Z ++ S).length<=bS):zu (P ++ X ++ Y ++ Z ++ S) (P.length:Int) ((P.length + X.length + Y.length:Nat):Int) (X.length:Int)=some (((P ++ Z ++ Y ++ X ++ S,()),()),()):=by unfold zu;have h:=Js P Y S X.length [] X [] Z rfl hx.symm rfl hl;simp only [List.nil_append,List.length_nil,Nat.zero_add] at h;have h':xI (P ++ X ++ Y ++ Z ++ S) (P.length:Int) ((P.length + X.length + Y.length:Nat):Int) (X.length:Int) 0=_:=h;rw [h'];rfl
theorem IE:∀ (n:Nat) (P X Y S:List aO) (m:Nat),X.length + Y.length=n->0 < X.length->0 < Y.length->m=P.length + X.length->(P ++ X ++ Y ++ S).length<=bS ->
 ∃ (t:List aO) (i:Nat),i<=m/\i<=n/\Jw (P ++ X ++ Y ++ S) (m:Int) () (X.length:Int) (Y.length:Int)=some (.inl (t,(m:Int),(),(i:Int),(i:Int),())) /\
  zu t ((m - i:Nat):Int) (m:Int) (i:Int)=some (((P ++ Y ++ X ++ S,()),()),()):=by
 intro n;induction n using Nat.strongRecOn with
 | _ n ih =>
 intro P X Y S m hn hX hY hm hl;subst hm;have hl':=hl;simp only [bS,List.length_append] at hl';rcases Nat.lt_trichotomy X.length Y.length with h | h | h
 . -- the second is longer: its end comes ahead
   obtain ⟨Y1,Y2,rfl,hY2⟩:∃ Y1 Y2,Y=Y1 ++ Y2/\Y2.length=X.length:=⟨Y.take (Y.length - X.length),Y.drop (Y.length - X.length),(List.take_append_drop _ _).symm,by rw [List.length_drop]; omega⟩;simp only [List.length_append] at h hn hl' hY;obtain ⟨t,i,i1,i2,q1,q2⟩:=ih (Y2.length + Y1.length) (by omega) P Y2 Y1 (X ++ S) (P.length + X.length) rfl (by omega) (by omega) (by omega) (by simp only [bS,List.length_append]; omega);refine ⟨t,i,i1,by omega,aU _ ?_ q1,by rw [q2]; simp⟩;show mG (P ++ X ++ (Y1 ++ Y2) ++ S) ((P.length + X.length:Nat):Int) () (X.length:Int) ((Y1 ++ Y2).length:Int)=_;have hs:=IV P X Y1 Y2 S (by omega) (by simp only [bS,List.length_append]; omega);have e0:P ++ X ++ (Y1 ++ Y2) ++ S=P ++ X ++ Y1 ++ Y2 ++ S:=by simp
   have k0:aq (X.length:Int) ((Y1 ++ Y2).length:Int)=false:=by rw [Bool.eq_false_iff]; intro hh; rw [fY] at hh; simp only [List.length_append] at hh; omega
   have k1:aM .i64 ((P.length + X.length:Nat):Int) (X.length:Int)=(P.length:Int):=by rw [aS (by omega) (by omega)]; omega
   have k2:ai .i64 ((P.length + X.length:Nat):Int) ((Y1 ++ Y2).length:Int)=((P.length + X.length + (Y1 ++ Y2).length:Nat):Int):=by rw [ay (by omega) (by simp only [List.length_append]; omega)]; omega
   have k3:aM .i64 ((P.length + X.length + (Y1 ++ Y2).length:Nat):Int) (X.length:Int)=((P.length + X.length + Y1.length:Nat):Int):=by rw [aS (by omega) (by simp only [List.length_append]; omega)]; simp only [List.length_append]; omega
   have k4:aM .i64 ((Y1 ++ Y2).length:Int) (X.length:Int)=(Y1.length:Int):=by rw [aS (by omega) (by simp only [List.length_append]; omega)]; simp only [List.length_append]; omega
   unfold mG;rw [k0,ax (by simp only [List.length_append]; omega)];dsimp only [cond_true,cond_false,Bool.not_false];rw [k1,k2,k3,k4,e0,hs];dsimp only [Option.bind_some];rw [hY2];simp
 . -- alike
   refine ⟨P ++ X ++ Y ++ S,X.length,by omega,by omega,aK _ ?_,?_⟩
   . show mG (P ++ X ++ Y ++ S) ((P.length + X.length:Nat):Int) () (X.length:Int) (Y.length:Int)=_;unfold mG;rw [<- h,bg];rfl
   . have hs:=IV P X [] Y S h (by simp only [bS,List.length_append,List.length_nil]; omega);rw [List.append_nil,List.append_nil,List.length_nil,Nat.add_zero] at hs;rw [show P.length + X.length - X.length=P.length by omega];exact hs
 . -- the first is longer: its begin goes behind
   obtain ⟨X1,X2,rfl,hX1⟩:∃ X1 X2,X=X1 ++ X2/\X1.length=Y.length:=⟨X.take Y.length,X.drop Y.length,(List.take_append_drop _ _).symm,by rw [List.length_take]; omega⟩;simp only [List.length_append] at h hn hl' hX;obtain ⟨t,i,i1,i2,q1,q2⟩:=ih (X2.length + X1.length) (by omega) (P ++ Y) X2 X1 S (P.length + (X1 ++ X2).length) rfl (by omega) (by omega) (by simp only [List.length_append]; omega) (by simp only [bS,List.length_append]; omega);refine ⟨t,i,i1,by omega,aU _ ?_ q1,by rw [q2]; simp⟩;show mG (P ++ (X1 ++ X2) ++ Y ++ S) ((P.length + (X1 ++ X2).length:Nat):Int) () ((X1 ++ X2).length:Int) (Y.length:Int)=_;have hs:=IV P X1 X2 Y S hX1 (by simp only [bS,List.length_append]; omega);have e0:P ++ (X1 ++ X2) ++ Y ++ S=P ++ X1 ++ X2 ++ Y ++ S:=by simp
   have k0:aq ((X1 ++ X2).length:Int) (Y.length:Int)=false:=by rw [Bool.eq_false_iff]; intro hh; rw [fY] at hh; simp only [List.length_append] at hh; omega
   have k1:aM .i64 ((P.length + (X1 ++ X2).length:Nat):Int) ((X1 ++ X2).length:Int)=(P.length:Int):=by rw [aS (by omega) (by simp only [List.length_append]; omega)]; omega
   have k3:((P.length + (X1 ++ X2).length:Nat):Int)=((P.length + X1.length + X2.length:Nat):Int):=by simp only [List.length_append]; omega
   have k4:aM .i64 ((X1 ++ X2).length:Int) (Y.length:Int)=(X2.length:Int):=by rw [aS (by omega) (by simp only [List.length_append]; omega)]; simp only [List.length_append]; omega
   unfold mG;rw [k0,aG (by simp only [List.length_append]; omega)];dsimp only [cond_true,cond_false,Bool.not_false];rw [k1,k4,e0,<- hX1];have hs':zu (P ++ X1 ++ X2 ++ Y ++ S) (P.length:Int) ((P.length + (X1 ++ X2).length:Nat):Int) (X1.length:Int)=some (((P ++ Y ++ X2 ++ X1 ++ S,()),()),()):=by rw [k3]; exact hs
   rw [hs'];dsimp only [Option.bind_some];simp
theorem WD (P X Y S:List aO) (hX:0 < X.length) (hY:0 < Y.length) (hl:(P ++ X ++ Y ++ S).length<=bS) :
 An (P ++ X ++ Y ++ S) (P.length:Int) ((P.length + X.length:Nat):Int) ((P.length + X.length + Y.length:Nat):Int)=some (((P ++ Y ++ X ++ S,()),()),()):=by
 have hl':=hl;simp only [bS,List.length_append] at hl';obtain ⟨t,i,i1,i2,q1,q2⟩:=IE (X.length + Y.length) P X Y S (P.length + X.length) rfl hX hY rfl hl;unfold An;have k1:aM .i64 ((P.length + X.length:Nat):Int) (P.length:Int)=(X.length:Int):=by rw [aS (by omega) (by omega)]; omega
 have k2:aM .i64 ((P.length + X.length + Y.length:Nat):Int) ((P.length + X.length:Nat):Int)=(Y.length:Int):=by rw [aS (by omega) (by omega)]; omega
 rw [k1,k2,q1];dsimp only [Option.bind_some,Sum.elim_inl];have k3:aM .i64 ((P.length + X.length:Nat):Int) (i:Int)=((P.length + X.length - i:Nat):Int):=by rw [aS (by omega) (by omega)]; omega
 rw [k3,q2];rfl
theorem Ku (P S:List aO) (x:aO) (i:Nat):∀ (n:Nat) (D U:List aO),U.length=n->i=P.length + D.length + U.length + 1->(P ++ (D ++ x :: U) ++ S).length<=bS ->
 ∃ k',wE (P ++ (D ++ x :: U) ++ S) (i:Int) ((P.length + D.length:Nat):Int)=some (.inl (P ++ (D ++ U ++ [x]) ++ S,(i:Int),k',())):=by
 intro n;induction n with
 | zero =>
   intro D U hn hi hl;have:U=[]:=List.length_eq_zero_iff.1 hn;subst this;simp only [List.length_nil] at hi;simp only [bS,List.length_append,List.length_cons] at hl;refine ⟨((P.length + D.length:Nat):Int),aK _ ?_⟩;show nT (P ++ (D ++ [x]) ++ S) (i:Int) ((P.length + D.length:Nat):Int)=_;unfold nT;have k1:aM .i64 (i:Int) 1=((P.length + D.length:Nat):Int):=by rw [aS (by omega) (by omega)]; omega
   rw [k1,ax (by omega),List.append_nil];rfl
 | succ n ih =>
   intro D U hn hi hl;cases U with
   | nil=>simp at hn
   | cons u U =>
     have hU:U.length=n:=by simpa using hn
     simp only [List.length_cons] at hi;have hl':=hl;simp only [bS,List.length_append,List.length_cons] at hl';obtain ⟨k',hk⟩:=ih (D ++ [u]) U hU (by simp only [List.length_append,List.length_cons,List.length_nil]; omega) (by simp only [bS,List.length_append,List.length_cons,List.length_nil]; omega);refine ⟨k',?_⟩;have ef:P ++ (D ++ [u] ++ U ++ [x]) ++ S=P ++ (D ++ u :: U ++ [x]) ++ S:=by simp
     rw [ef] at hk;refine aU _ ?_ hk;show nT (P ++ (D ++ x :: u :: U) ++ S) (i:Int) ((P.length + D.length:Nat):Int)=_;have d1:P ++ (D ++ x :: u :: U) ++ S=(P ++ D) ++ x :: u :: (U ++ S):=by simp
     have d2:P ++ (D ++ x :: u :: U) ++ S=(P ++ D ++ [x]) ++ u :: (U ++ S):=by simp
     have k1:aM .i64 (i:Int) 1=((P.length + D.length + U.length + 1:Nat):Int):=by rw [aS (by omega) (by omega)]; omega
     have k2:((P.length + D.length:Nat):Int)=((P ++ D).length:Int):=by simp
     have k3:ai .i64 ((P ++ D).length:Int) 1=((P ++ D ++ [x]).length:Int):=by rw [ay (by omega) (by simp only [List.length_append]; omega)]; simp only [List.length_append,List.length_cons,List.length_nil]; omega
     unfold nT;rw [k1,aG (by omega),k2,k3];dsimp only [cond_true];have i1:aR ((P ++ D ++ [x]).length:Int) (P ++ (D ++ x :: u :: U) ++ S)=true:=by rw [d2]; exact iq _ _ _ rfl
     have i2:aR ((P ++ D).length:Int) (P ++ (D ++ x :: u :: U) ++ S)=true:=by rw [d1]; exact iq _ _ _ rfl
     have a1:AE ((P ++ D ++ [x]).length:Int) (P ++ (D ++ x :: u :: U) ++ S) ((P ++ D ++ [x]).length:Int)=true:=by rw [d2]; exact j9 _ _ _ rfl
     have a2:AE ((P ++ D).length:Int) (P ++ (D ++ x :: u :: U) ++ S) ((P ++ D).length:Int)=true:=by rw [d1]; exact j9 _ _ _ rfl
     rw [i1,i2,a1,a2];dsimp only [cond_true];have sw:Hv d59 (P ++ (D ++ x :: u :: U) ++ S) ((P ++ D).length:Int) ((P ++ D ++ [x]).length:Int)=P ++ (D ++ [u] ++ x :: U) ++ S:=by
      unfold Hv;have e1:(P ++ D ++ [x]).length=(P ++ D).length + 1:=by simp only [List.length_append,List.length_cons,List.length_nil]
      rw [Int.toNat_natCast,Int.toNat_natCast,e1,d1,DZ];simp
     rw [sw];have k4:((P ++ D ++ [x]).length:Int)=((P.length + (D ++ [u]).length:Nat):Int):=by simp only [List.length_append,List.length_cons,List.length_nil]; omega
     rw [k4]
theorem H8 (P S:List aO) (y:aO):∀ (n:Nat) (D U:List aO),D.length=n->(P ++ (D ++ y :: U) ++ S).length<=bS ->
 ∃ k',vZ (P ++ (D ++ y :: U) ++ S) (P.length:Int) ((P.length + D.length:Nat):Int)=some (.inl (P ++ (y :: (D ++ U)) ++ S,(P.length:Int),k',())):=by
 intro n;induction n with
 | zero => intro D U hn hl;have:D=[]:=List.length_eq_zero_iff.1 hn;subst this;refine ⟨((P.length + 0:Nat):Int),aK _ ?_⟩;show pN (P ++ ([] ++ y :: U) ++ S) (P.length:Int) ((P.length + 0:Nat):Int)=_;unfold pN;rw [ax (by omega)];rfl
 | succ n ih =>
   intro D U hn hl;obtain ⟨B,u,rfl⟩:=uj (a:=D) (fun h=>by subst h; simp at hn);have hB:B.length=n:=by simpa using hn
   have hl':=hl;simp only [bS,List.length_append,List.length_cons,List.length_nil] at hl';obtain ⟨k',hk⟩:=ih B (u :: U) hB (by simp only [bS,List.length_append,List.length_cons]; omega);refine ⟨k',?_⟩;have ef:P ++ (y :: (B ++ u :: U)) ++ S=P ++ (y :: (B ++ [u] ++ U)) ++ S:=by simp
   rw [ef] at hk;refine aU _ ?_ hk;show pN (P ++ (B ++ [u] ++ y :: U) ++ S) (P.length:Int) ((P.length + (B ++ [u]).length:Nat):Int)=_;have d1:P ++ (B ++ [u] ++ y :: U) ++ S=(P ++ B) ++ u :: y :: (U ++ S):=by simp
   have d2:P ++ (B ++ [u] ++ y :: U) ++ S=(P ++ B ++ [u]) ++ y :: (U ++ S):=by simp
   have k1:aM .i64 ((P.length + (B ++ [u]).length:Nat):Int) 1=((P ++ B).length:Int):=by rw [aS (by simp only [List.length_append,List.length_cons,List.length_nil]; omega) (by simp only [List.length_append,List.length_cons,List.length_nil]; omega)];simp only [List.length_append,List.length_cons,List.length_nil]; omega
   have k2:((P.length + (B ++ [u]).length:Nat):Int)=((P ++ B ++ [u]).length:Int):=by simp only [List.length_append,List.length_cons,List.length_nil]; omega
   unfold pN;rw [k1,aG (by simp only [List.length_append,List.length_cons,List.length_nil]; omega),k2];dsimp only [cond_true];have i1:aR ((P ++ B ++ [u]).length:Int) (P ++ (B ++ [u] ++ y :: U) ++ S)=true:=by rw [d2]; exact iq _ _ _ rfl
   have i2:aR ((P ++ B).length:Int) (P ++ (B ++ [u] ++ y :: U) ++ S)=true:=by rw [d1]; exact iq _ _ _ rfl
   have a1:AE ((P ++ B ++ [u]).length:Int) (P ++ (B ++ [u] ++ y :: U) ++ S) ((P ++ B ++ [u]).length:Int)=true:=by rw [d2]; exact j9 _ _ _ rfl
   have a2:AE ((P ++ B).length:Int) (P ++ (B ++ [u] ++ y :: U) ++ S) ((P ++ B).length:Int)=true:=by rw [d1]; exact j9 _ _ _ rfl
   rw [i1,i2,a1,a2];dsimp only [cond_true];have sw:Hv d59 (P ++ (B ++ [u] ++ y :: U) ++ S) ((P ++ B ++ [u]).length:Int) ((P ++ B).length:Int)=P ++ (B ++ y :: u :: U) ++ S:=by
    unfold Hv;have e1:(P ++ B ++ [u]).length=(P ++ B).length + 1:=by simp only [List.length_append,List.length_cons,List.length_nil]
    rw [Int.toNat_natCast,Int.toNat_natCast,e1,d1,yB];simp
   rw [sw];have k4:((P ++ B).length:Int)=((P.length + B.length:Nat):Int):=by simp
   rw [k4]
theorem TR (P S:List aO) (x:aO) (R:List aO) (hR:lI dy R) (hl:(P ++ x :: R ++ S).length<=bS):∃ n,n<=R.length/\(∀ y∈R.take n,dy y x=true)/\(∀ y∈R.drop n,dy y x=false) /\
 wD (P ++ x :: R ++ S) (P.length:Int) () ((P.length + 1:Nat):Int) ((P.length + 1 + R.length:Nat):Int)=some (.inl (P ++ x :: R ++ S,(P.length:Int),(),((P.length + 1 + n:Nat):Int),((P.length + 1 + n:Nat):Int),())):=by
 have hl':=hl;simp only [bS,List.length_append,List.length_cons] at hl';have e0:P ++ x :: R ++ S=(P ++ [x]) ++ R ++ S:=by simp
 have hpl:(P ++ [x]).length=P.length + 1:=by simp
 have hg:∀ q,q < R.length->(P ++ x :: R ++ S).getD (P.length + 1 + q) d59=R.getD q d59:=fun q hq=>by rw [e0,<- hpl]; exact rJ _ _ _ _ hq
 have h:=bsearch (fun (z:(List aO)×Int×Unit×Int×Int×Unit)=>mY z.1 z.2.1 z.2.2.1 z.2.2.2.1 z.2.2.2.2.1) (fun lo hi=>(P ++ x :: R ++ S,(P.length:Int),(),(lo:Int),(hi:Int),())) (fun k=> .inl (P ++ x :: R ++ S,(P.length:Int),(),(k:Int),(k:Int),()))
  (fun h=>dy ((P ++ x :: R ++ S).getD h d59) x) (P.length + 1) (P.length + 1 + R.length) (fun h h' h1 h2 h3 hf=>by
    obtain ⟨q,rfl⟩:∃ q,h=P.length + 1 + q:=⟨h - (P.length + 1),by omega⟩;obtain ⟨q',rfl⟩:∃ q',h'=P.length + 1 + q':=⟨h' - (P.length + 1),by omega⟩;rw [hg q (by omega)] at hf;rw [hg q' (by omega)];rcases fC.neg _ (R.getD q' d59) _ hf with h4 | h4
    . rw [iO fC _ hR (by omega) (by omega)] at h4; simp at h4
    . exact h4) (fun lo hi h1 h2 h3=>by
    show mY (P ++ x :: R ++ S) (P.length:Int) () (lo:Int) (hi:Int)=_;unfold mY;obtain ⟨v,hv1,hv2⟩:=My ((P ++ x :: R ++ S).getD ((lo + hi) / 2) d59) x;have hx:gt d59 (P ++ x :: R ++ S) (P.length:Int)=x:=by
     have:P ++ x :: R ++ S=P ++ x :: (R ++ S):=by simp
     rw [this]; exact xl _ _ _ _ rfl
    rw [aG (by omega),uD (by omega)];dsimp only [cond_true];rw [ny (by simp only [List.length_append,List.length_cons]; omega),ny (by simp only [List.length_append,List.length_cons]; omega),zN,hx,hv1];dsimp only [cond_true,Option.bind_some];rw [hv2,aJ (by have:aT=140737488355328:=rfl; omega)];cases dy ((P ++ x :: R ++ S).getD ((lo + hi) / 2) d59) x <;> rfl) (fun k h1 h2=>by
    show mY (P ++ x :: R ++ S) (P.length:Int) () (k:Int) (k:Int)=_;unfold mY;rw [ax (by omega)]; rfl)
  _ (P.length + 1) (P.length + 1 + R.length) rfl (Nat.le_refl _) (by omega) (Nat.le_refl _) (fun h h1 h2=>by omega) (fun h h1 h2=>by omega)
 obtain ⟨k,k1,k2,k3,k4,k5⟩:=h;obtain ⟨n,rfl⟩:∃ n,k=P.length + 1 + n:=⟨k - (P.length + 1),by omega⟩;refine ⟨n,by omega,fun y hy => ?_,fun y hy => ?_,k5⟩
 . obtain ⟨q,q1,q2,rfl⟩:=mZ d59 hy;rw [<- hg q q2]; exact k3 _ (by omega) (by omega)
 . obtain ⟨q,q1,q2,rfl⟩:=nB d59 hy;rw [<- hg q q2]; exact k4 _ (by omega) (by omega)
theorem UQ (P S:List aO) (y:aO) (L:List aO) (hL:lI dy L) (hl:(P ++ L ++ y :: S).length<=bS):∃ n,n<=L.length/\(∀ x∈L.take n,dy y x=false)/\(∀ x∈L.drop n,dy y x=true) /\
 uN (P ++ L ++ y :: S) ((P.length + L.length:Nat):Int) () (P.length:Int) ((P.length + L.length:Nat):Int)=some (.inl (P ++ L ++ y :: S,((P.length + L.length:Nat):Int),(),((P.length + n:Nat):Int),((P.length + n:Nat):Int),())):=by
 have hl':=hl;simp only [bS,List.length_append,List.length_cons] at hl';have hg:∀ q,q < L.length->(P ++ L ++ y :: S).getD (P.length + q) d59=L.getD q d59:=fun q hq=>rJ _ _ _ _ hq
 have h:=bsearch (fun (z:(List aO)×Int×Unit×Int×Int×Unit)=>mU z.1 z.2.1 z.2.2.1 z.2.2.2.1 z.2.2.2.2.1) (fun lo hi=>(P ++ L ++ y :: S,((P.length + L.length:Nat):Int),(),(lo:Int),(hi:Int),())) (fun k=> .inl (P ++ L ++ y :: S,((P.length + L.length:Nat):Int),(),(k:Int),(k:Int),()))
  (fun h=> !dy y ((P ++ L ++ y :: S).getD h d59)) P.length (P.length + L.length) (fun h h' h1 h2 h3 hf=>by
    obtain ⟨q,rfl⟩:∃ q,h=P.length + q:=⟨h - P.length,by omega⟩;obtain ⟨q',rfl⟩:∃ q',h'=P.length + q':=⟨h' - P.length,by omega⟩;rw [hg q (by omega),Bool.not_eq_true'] at hf;rw [hg q' (by omega),Bool.not_eq_true'];exact fC.le_trans (iO fC _ hL (by omega) (by omega)) hf) (fun lo hi h1 h2 h3=>by
    show mU (P ++ L ++ y :: S) ((P.length + L.length:Nat):Int) () (lo:Int) (hi:Int)=_;unfold mU;obtain ⟨v,hv1,hv2⟩:=My y ((P ++ L ++ y :: S).getD ((lo + hi) / 2) d59);have hy:gt d59 (P ++ L ++ y :: S) ((P.length + L.length:Nat):Int)=y:=xl _ (P ++ L) _ _ (by simp);rw [aG (by omega),uD (by omega)];dsimp only [cond_true];rw [ny (by simp only [List.length_append,List.length_cons]; omega),ny (by simp only [List.length_append,List.length_cons]; omega),zN d59 _ ((lo + hi) / 2),hy,hv1];dsimp only [cond_true,Option.bind_some];rw [hv2,aJ (by have:aT=140737488355328:=rfl; omega)];cases dy y ((P ++ L ++ y :: S).getD ((lo + hi) / 2) d59) <;> rfl) (fun k h1 h2=>by
    show mU (P ++ L ++ y :: S) ((P.length + L.length:Nat):Int) () (k:Int) (k:Int)=_;unfold mU;rw [ax (by omega)]; rfl)
  _ P.length (P.length + L.length) rfl (Nat.le_refl _) (by omega) (Nat.le_refl _) (fun h h1 h2=>by omega) (fun h h1 h2=>by omega)
 obtain ⟨k,k1,k2,k3,k4,k5⟩:=h;obtain ⟨n,rfl⟩:∃ n,k=P.length + n:=⟨k - P.length,by omega⟩;refine ⟨n,by omega,fun x hx => ?_,fun x hx => ?_,k5⟩
 . obtain ⟨q,q1,q2,rfl⟩:=mZ d59 hx;have:=k3 (P.length + q) (by omega) (by omega);rw [hg q q2,Bool.not_eq_true'] at this;exact this
 . obtain ⟨q,q1,q2,rfl⟩:=nB d59 hx;have:=k4 (P.length + q) (by omega) (by omega);rw [hg q q2,Bool.not_eq_false'] at this;exact this
theorem US (P L R S:List aO) (hL:lI dy L) (hR:lI dy R) (mid lo0 hi0:Nat) (c1:P.length<=lo0) (c2:lo0<=hi0) (c3:hi0<=P.length + L.length) (c4:hi0<=mid) (c5:mid<=lo0 + R.length) (hm:mid<=bS) (b:Int) (hl:(P ++ L ++ R ++ S).length<=bS) :
 ∃ k,lo0<=k/\k<=hi0/\(∀ c,lo0<=c->c < k->dy (R.getD (mid - 1 - c) d59) (L.getD (c - P.length) d59)=false)/\(∀ c,k<=c->c < hi0->dy (R.getD (mid - 1 - c) d59) (L.getD (c - P.length) d59)=true) /\
 lF (P ++ L ++ R ++ S) (P.length:Int) ((P.length + L.length:Nat):Int) b () (mid:Int) ((mid + (P.length + L.length):Nat):Int) (lo0:Int) (hi0:Int) ((mid + (P.length + L.length):Nat) - 1:Int) =
  some (.inl (P ++ L ++ R ++ S,(P.length:Int),((P.length + L.length:Nat):Int),b,(),(mid:Int),((mid + (P.length + L.length):Nat):Int),(k:Int),(k:Int),((mid + (P.length + L.length):Nat) - 1:Int),())):=by
 have hl':=hl;simp only [bS,List.length_append] at hl' hm;have hgL:∀ c,P.length<=c->c < P.length + L.length->(P ++ L ++ R ++ S).getD c d59=L.getD (c - P.length) d59:=fun c h1 h2=>by have:=rJ d59 P L (R ++ S) (q:=c - P.length) (by omega);rw [show P.length + (c - P.length)=c by omega] at this;rw [List.append_assoc (P ++ L)];exact this
 have hgR:∀ q,q < R.length->(P ++ L ++ R ++ S).getD (P.length + L.length + q) d59=R.getD q d59:=fun q hq=>by have:=rJ d59 (P ++ L) R S hq;rw [List.length_append] at this;exact this
 have h:=bsearch (fun (z:(List aO)×Int×Int×Int×Unit×Int×Int×Int×Int×Int×Unit)=>mB z.1 z.2.1 z.2.2.1 z.2.2.2.1 z.2.2.2.2.1 z.2.2.2.2.2.1 z.2.2.2.2.2.2.1 z.2.2.2.2.2.2.2.1 z.2.2.2.2.2.2.2.2.1 z.2.2.2.2.2.2.2.2.2.1)
  (fun lo hi=>(P ++ L ++ R ++ S,(P.length:Int),((P.length + L.length:Nat):Int),b,(),(mid:Int),((mid + (P.length + L.length):Nat):Int),(lo:Int),(hi:Int),((mid + (P.length + L.length):Nat) - 1:Int),())) (fun k=> .inl (P ++ L ++ R ++ S,(P.length:Int),((P.length + L.length:Nat):Int),b,(),(mid:Int),((mid + (P.length + L.length):Nat):Int),(k:Int),(k:Int),((mid + (P.length + L.length):Nat) - 1:Int),()))
  (fun c=> !dy (R.getD (mid - 1 - c) d59) (L.getD (c - P.length) d59)) lo0 hi0 (fun h h' h1 h2 h3 hf=>by
    rw [Bool.not_eq_true'] at hf ⊢;refine fC.le_trans (b:=R.getD (mid - 1 - h) d59) (fC.le_trans (iO fC _ hL (by omega) (by omega)) hf) (iO fC _ hR (by omega) (by omega))) (fun lo hi h1 h2 h3=>by
    show mB (P ++ L ++ R ++ S) (P.length:Int) ((P.length + L.length:Nat):Int) b () (mid:Int) ((mid + (P.length + L.length):Nat):Int) (lo:Int) (hi:Int) ((mid + (P.length + L.length):Nat) - 1:Int)=_;unfold mB;have hc1:lo<=(lo + hi) / 2:=by omega
    have hc2:(lo + hi) / 2 < hi:=by omega
    rw [uD (by omega)];generalize (lo + hi) / 2=c at hc1 hc2;obtain ⟨v,hv1,hv2⟩:=My (R.getD (mid - 1 - c) d59) (L.getD (c - P.length) d59);have k1:aM .i64 ((mid + (P.length + L.length):Nat) - 1:Int) (c:Int)=((P.length + L.length + (mid - 1 - c):Nat):Int):=by rw [aS (by omega) (by omega)]; omega
    rw [aG (by omega)];dsimp only [cond_true];rw [k1,ny (by simp only [List.length_append]; omega),ny (by simp only [List.length_append]; omega),zN,zN,hgR _ (by omega),hgL _ (by omega) (by omega),hv1];dsimp only [cond_true,Option.bind_some];rw [hv2,aJ (by have:aT=140737488355328:=rfl; omega)];cases dy (R.getD (mid - 1 - c) d59) (L.getD (c - P.length) d59) <;> rfl) (fun k h1 h2=>by
    show mB (P ++ L ++ R ++ S) (P.length:Int) ((P.length + L.length:Nat):Int) b () (mid:Int) ((mid + (P.length + L.length):Nat):Int) (k:Int) (k:Int) ((mid + (P.length + L.length):Nat) - 1:Int)=_;unfold mB;rw [ax (by omega)]; rfl)
  _ lo0 hi0 rfl (Nat.le_refl _) c2 (Nat.le_refl _) (fun h h1 h2=>by omega) (fun h h1 h2=>by omega)
 obtain ⟨k,k1,k2,k3,k4,k5⟩:=h;refine ⟨k,k1,k2,fun c h1 h2 => ?_,fun c h1 h2 => ?_,k5⟩
 . have:=k3 c h1 h2;rwa [Bool.not_eq_true'] at this
 . have:=k4 c h1 h2;rwa [Bool.not_eq_false'] at this
noncomputable def zW (n:Nat) (t:List aO) (a m b mid k e:Int):Option ((((List aO)×Unit)×Unit)×Unit) :=
 Option.bind (cond (cond (au k m) (au m e) false) (An t k m e) (some (((t,()),()),()))) fun y2 =>
 Option.bind (cond (cond (au a k) (au k mid) false) (eS n y2.1.1.1 a k mid) (some (((y2.1.1.1,()),()),()))) fun y3 =>
 Option.bind (cond (cond (au mid e) (au e b) false) (eS n y3.1.1.1 mid e b) (some (((y3.1.1.1,()),()),()))) fun y4=>some ((y4.1.1,()),())
theorem Fw (n:Nat) (t:List aO) (a m b:Int) (h1:aq (aM .i64 m a) 1=false) (h2:aq (aM .i64 b m) 1=false) (mid nn lo hi k:Int) (hmid:bG .i64 (iC .u64 (bG .u64 (ai .i64 a b)) 1)=mid) (hnn:ai .i64 mid m=nn) (hlo:lo=cond (au mid m) (aM .i64 nn b) a) (hhi:hi=cond (au mid m) mid m)
 (hs:lF t a m b () mid nn lo hi (aM .i64 nn 1)=some (.inl (t,a,m,b,(),mid,nn,k,k,aM .i64 nn 1,()))) :
 eS (n + 1) t a m b=zW n t a m b mid k (aM .i64 nn k):=by
 rw [px,h1,h2,hmid];dsimp only [cond_false];rw [hnn];unfold zW;cases hm:au mid m with
 | true =>
   rw [hm] at hlo hhi;dsimp only [cond_true] at hlo hhi ⊢;rw [<- hlo,<- hhi]
   conv=>lhs; rw [show lF t a m b () hi nn lo hi (aM .i64 nn 1)=some (.inl (t,a,m,b,(),hi,nn,k,k,aM .i64 nn 1,())) by rw [hhi] at hs ⊢; exact hs]
   dsimp only [Option.bind_some,Sum.elim_inl];rw [hhi];cases (cond (au k m) (au m (aM .i64 nn k)) false) <;> cases (cond (au a k) (au k mid) false) <;> cases (cond (au mid (aM .i64 nn k)) (au (aM .i64 nn k) b) false) <;> rfl
 | false => rw [hm] at hlo hhi;dsimp only [cond_false] at hlo hhi ⊢;subst hlo; subst hhi;rw [hs];dsimp only [Option.bind_some,Sum.elim_inl];cases (cond (au k hi) (au hi (aM .i64 nn k)) false) <;> cases (cond (au lo k) (au k mid) false) <;> cases (cond (au mid (aM .i64 nn k)) (au (aM .i64 nn k) b) false) <;> rfl
theorem EX {a b:aO} (h:dy a b=true):dy b a=false:=by
 cases hb:dy b a with
 | false=>rfl
 | true => have:=fC.trans _ _ _ h hb;rw [fC.irr] at this;simp at this
theorem Qb:∀ (n:Nat) (P L R S:List aO),L.length + R.length<=n->0 < L.length->0 < R.length->lI dy L->lI dy R->(P ++ L ++ R ++ S).length<=bS ->
 ∃ M,lI dy M/\ez dy (L ++ R) M/\eS n (P ++ L ++ R ++ S) (P.length:Int) ((P.length + L.length:Nat):Int) ((P.length + L.length + R.length:Nat):Int)=some (((P ++ M ++ S,()),()),()):=by
 intro n;induction n with
 | zero=>intro P L R S h1 h2 h3; omega
 | succ n ih =>
 intro P L R S hn hL0 hR0 hL hR hl;have hl':=hl;simp only [bS,List.length_append] at hl';have km:aM .i64 ((P.length + L.length:Nat):Int) (P.length:Int)=(L.length:Int):=by rw [aS (by omega) (by omega)]; omega
 have kb:aM .i64 ((P.length + L.length + R.length:Nat):Int) ((P.length + L.length:Nat):Int)=(R.length:Int):=by rw [aS (by omega) (by omega)]; omega
 by_cases hA:L.length=1
 . obtain ⟨x,rfl⟩:∃ x,L=[x]:=List.length_eq_one_iff.1 hA;have e0:P ++ [x] ++ R ++ S=P ++ x :: R ++ S:=by simp
   obtain ⟨k,k1,k2,k3,k4⟩:=TR P S x R hR (by rw [<- e0]; exact hl);have hs:=hR;rw [<- List.take_append_drop k R] at hs;have hs:=cC.1 hs;obtain ⟨kk,hk⟩:=Ku P (R.drop k ++ S) x (P.length + 1 + k) (R.take k).length [] (R.take k) rfl (by rw [List.length_take]; simp only [List.length_nil]; omega) (by simp only [bS,List.length_append,List.length_cons,List.length_take,List.length_drop,List.length_nil] at hl' ⊢; omega);have e1:P ++ ([] ++ x :: R.take k) ++ (R.drop k ++ S)=P ++ x :: R ++ S:=by have:R.take k ++ R.drop k=R:=List.take_append_drop k R;simp only [List.nil_append,List.append_assoc,List.cons_append];rw [<- List.append_assoc (R.take k),this]
   rw [e1] at hk;refine ⟨R.take k ++ [x] ++ R.drop k,?_,?_,?_⟩
   . rw [List.append_assoc];refine cC.2 ⟨hs.1,List.pairwise_cons.2 ⟨fun y hy=>k3 y hy,hs.2.1⟩,fun y hy z hz => ?_⟩;rcases List.mem_cons.1 hz with rfl | hz
     . exact EX (k2 y hy)
     . exact hs.2.2 y hy z hz
   . have h1:ez dy ([x] ++ R.take k) (R.take k ++ [x]):=ez.swap fC fun z hz y hy=>by
      simp only [List.mem_singleton] at hz; subst hz; exact k2 y hy
     have h2:=h1.append (ez.refl (R.drop k));rw [List.append_assoc,List.take_append_drop] at h2;exact h2
   . rw [px,km,hA];have:aq ((1:Nat):Int) 1=true:=rfl;rw [this];dsimp only [cond_true];rw [e0,k4];dsimp only [Option.bind_some,Sum.elim_inl];simp only [List.length_nil,Nat.add_zero] at hk;rw [hk];dsimp only [Option.bind_some,Sum.elim_inl];simp
 by_cases hB:R.length=1
 . obtain ⟨y,rfl⟩:∃ y,R=[y]:=List.length_eq_one_iff.1 hB;have e0:P ++ L ++ [y] ++ S=P ++ L ++ y :: S:=by simp
   obtain ⟨k,k1,k2,k3,k4⟩:=UQ P S y L hL (by rw [<- e0]; exact hl);have hs:=hL;rw [<- List.take_append_drop k L] at hs;have hs:=cC.1 hs;obtain ⟨kk,hk⟩:=H8 (P ++ L.take k) S y (L.drop k).length (L.drop k) [] rfl (by simp only [bS,List.length_append,List.length_cons,List.length_take,List.length_drop,List.length_nil] at hl' ⊢; omega);have e1:P ++ L.take k ++ (L.drop k ++ [y]) ++ S=P ++ L ++ y :: S:=by have:L.take k ++ L.drop k=L:=List.take_append_drop k L;simp only [List.append_assoc,List.cons_append,List.nil_append];rw [<- List.append_assoc (L.take k),this]
   have e2:(((P ++ L.take k).length:Nat):Int)=((P.length + k:Nat):Int):=by simp only [List.length_append,List.length_take]; omega
   have e3:(((P ++ L.take k).length + (L.drop k).length:Nat):Int)=((P.length + L.length:Nat):Int):=by simp only [List.length_append,List.length_take,List.length_drop]; omega
   rw [e1,e2,e3] at hk;refine ⟨L.take k ++ (y :: L.drop k),?_,?_,?_⟩
   . refine cC.2 ⟨hs.1,List.pairwise_cons.2 ⟨fun x hx=>EX (k3 x hx),hs.2.1⟩,fun x hx z hz => ?_⟩;rcases List.mem_cons.1 hz with rfl | hz
     . exact k2 x hx
     . exact hs.2.2 x hx z hz
   . have h1:ez dy (L.drop k ++ [y]) ([y] ++ L.drop k):=ez.swap fC fun z hz x hx=>by
      simp only [List.mem_singleton] at hx; subst hx; exact k3 z hz
     have h2:=(ez.refl (L.take k)).append h1;rw [<- List.append_assoc,List.take_append_drop] at h2;exact h2
   . have hA':aq (L.length:Int) 1=false:=by
      rw [Bool.eq_false_iff]; intro hh; rw [fY] at hh; omega
     rw [px,km,kb,hA',hB];have:aq ((1:Nat):Int) 1=true:=rfl;rw [this];dsimp only [cond_true,cond_false];rw [e0,k4];dsimp only [Option.bind_some,Sum.elim_inl];rw [hk];dsimp only [Option.bind_some,Sum.elim_inl];simp
 -- the long case
 obtain ⟨mid,hmidN⟩:∃ mid,mid=(P.length + (P.length + L.length + R.length)) / 2:=⟨_,rfl⟩;obtain ⟨lo0,hlo0⟩:∃ lo0,lo0=if mid < P.length + L.length then mid - R.length else P.length:=⟨_,rfl⟩
 obtain ⟨hi0,hhi0⟩:∃ hi0,hi0=if mid < P.length + L.length then mid else P.length + L.length:=⟨_,rfl⟩
 have c1:P.length<=lo0:=by rw [hlo0]; split <;> omega
 have c2:lo0<=hi0:=by rw [hlo0,hhi0]; split <;> omega
 have c3:hi0<=P.length + L.length:=by rw [hhi0]; split <;> omega
 have c4:hi0<=mid:=by rw [hhi0]; split <;> omega
 have c5:mid<=lo0 + R.length:=by rw [hlo0]; split <;> omega
 obtain ⟨k,k1,k2,k3,k4,k5⟩:=US P L R S hL hR mid lo0 hi0 c1 c2 c3 c4 c5 (by show mid<=1099511627776; omega) ((P.length + L.length + R.length:Nat):Int) hl;have hmid:=uD (i:=P.length) (j:=P.length + L.length + R.length) (by omega);rw [<- hmidN] at hmid;have hnn:ai .i64 (mid:Int) ((P.length + L.length:Nat):Int)=((mid + (P.length + L.length):Nat):Int):=by rw [ay (by omega) (by omega)]; omega
 have hsub1:aM .i64 ((mid + (P.length + L.length):Nat):Int) 1=((mid + (P.length + L.length):Nat) - 1:Int):=by rw [aS (by omega) (by omega)]
 have hA':aq (aM .i64 ((P.length + L.length:Nat):Int) (P.length:Int)) 1=false:=by rw [km,Bool.eq_false_iff]; intro hh; rw [fY] at hh; omega
 have hB':aq (aM .i64 ((P.length + L.length + R.length:Nat):Int) ((P.length + L.length:Nat):Int)) 1=false:=by rw [kb,Bool.eq_false_iff]; intro hh; rw [fY] at hh; omega
 have hlo:(lo0:Int)=cond (au (mid:Int) ((P.length + L.length:Nat):Int)) (aM .i64 ((mid + (P.length + L.length):Nat):Int) ((P.length + L.length + R.length:Nat):Int)) (P.length:Int):=by
  rw [hlo0];by_cases hm:mid < P.length + L.length
  . rw [if_pos hm,aG (by omega),cond_true,aS (by omega) (by omega)]; omega
  . rw [if_neg hm,ax (by omega),cond_false]
 have hhi:(hi0:Int)=cond (au (mid:Int) ((P.length + L.length:Nat):Int)) (mid:Int) ((P.length + L.length:Nat):Int):=by
  rw [hhi0];by_cases hm:mid < P.length + L.length
  . rw [if_pos hm,aG (by omega),cond_true]
  . rw [if_neg hm,ax (by omega),cond_false]
 have hsp:=Fw n (P ++ L ++ R ++ S) (P.length:Int) ((P.length + L.length:Nat):Int) ((P.length + L.length + R.length:Nat):Int) hA' hB' (mid:Int) ((mid + (P.length + L.length):Nat):Int) (lo0:Int) (hi0:Int) (k:Int) hmid hnn hlo hhi (by rw [hsub1]; exact k5);have he:aM .i64 ((mid + (P.length + L.length):Nat):Int) (k:Int)=((P.length + L.length + (mid - k):Nat):Int):=by rw [aS (by omega) (by omega)]; omega
 rw [he] at hsp
 -- the parts
 obtain ⟨L1,L2,hLe,hL1,hL2⟩:∃ L1 L2,L=L1 ++ L2/\L1=L.take (k - P.length)/\L2=L.drop (k - P.length):=⟨_,_,(List.take_append_drop _ _).symm,rfl,rfl⟩;obtain ⟨R1,R2,hRe,hR1,hR2⟩:∃ R1 R2,R=R1 ++ R2/\R1=R.take (mid - k)/\R2=R.drop (mid - k):=⟨_,_,(List.take_append_drop _ _).symm,rfl,rfl⟩;have n1:L1.length=k - P.length:=by rw [hL1,List.length_take]; omega
 have n2:L2.length=P.length + L.length - k:=by rw [hL2,List.length_drop]; omega
 have n3:R1.length=mid - k:=by rw [hR1,List.length_take]; omega
 have n4:R2.length=R.length - (mid - k):=by rw [hR2,List.length_drop]
 have sL:=hL;rw [hLe] at sL;have sL:=cC.1 sL;have sR:=hR;rw [hRe] at sR;have sR:=cC.1 sR;have xRL:∀ x∈R1,∀ y∈L2,dy x y=true:=fun x hx y hy=>by
  rw [hR1] at hx;rw [hL2] at hy;obtain ⟨q,q1,q2,rfl⟩:=mZ d59 hx;obtain ⟨q',p1,p2,rfl⟩:=nB d59 hy;have hk:k < hi0:=by
   rcases Nat.lt_or_ge k hi0 with hh | hh
   . exact hh
   . exfalso;rw [hhi0] at hh;split at hh <;> omega
  have h0:=k4 k (Nat.le_refl _) hk;have h1:=iO fC d59 hR (q':=q) (q:=mid - 1 - k) (by omega) (by omega);have h2:=iO fC d59 hL (q':=k - P.length) (q:=q') (by omega) (by omega);rcases fC.neg _ (R.getD q d59) _ h0 with h3 | h3
  . rw [h1] at h3; simp at h3
  . rcases fC.neg _ (L.getD q' d59) _ h3 with h4 | h4
    . exact h4
    . rw [h2] at h4; simp at h4
 have xLR:∀ x∈L1,∀ y∈R2,dy y x=false:=fun x hx y hy=>by
  rw [hL1] at hx;rw [hR2] at hy;obtain ⟨q,q1,q2,rfl⟩:=mZ d59 hx;obtain ⟨q',p1,p2,rfl⟩:=nB d59 hy;have hk:lo0 < k:=by
   rcases Nat.lt_or_ge lo0 k with hh | hh
   . exact hh
   . exfalso;rw [hlo0] at hh k1;split at hh <;> omega
  have h0:=k3 (k - 1) (by omega) (by omega);rw [show mid - 1 - (k - 1)=mid - k by omega,show k - 1 - P.length=k - P.length - 1 by omega] at h0;have h1:=iO fC d59 hL (q':=q) (q:=k - P.length - 1) (by omega) (by omega);have h2:=iO fC d59 hR (q':=mid - k) (q:=q') (by omega) (by omega);exact fC.le_trans (fC.le_trans h1 h0) h2
 -- the rotation
 have st1:cond (cond (au (k:Int) ((P.length + L.length:Nat):Int)) (au ((P.length + L.length:Nat):Int) ((P.length + L.length + (mid - k):Nat):Int)) false) (An (P ++ L ++ R ++ S) (k:Int) ((P.length + L.length:Nat):Int) ((P.length + L.length + (mid - k):Nat):Int)) (some (((P ++ L ++ R ++ S,()),()),()))=some (((P ++ L1 ++ R1 ++ (L2 ++ R2 ++ S),()),()),()):=by
  by_cases z1:k < P.length + L.length
  . by_cases z2:0 < mid - k
    . rw [aG (by omega),aG (by omega)];dsimp only [cond_true];have h:=WD (P ++ L1) L2 R1 (R2 ++ S) (by omega) (by omega) (by simp only [bS,List.length_append]; omega);have e1:P ++ L1 ++ L2 ++ R1 ++ (R2 ++ S)=P ++ L ++ R ++ S:=by rw [hLe,hRe]; simp
      have e2:(((P ++ L1).length:Nat):Int)=(k:Int):=by simp only [List.length_append]; omega
      have e3:(((P ++ L1).length + L2.length:Nat):Int)=((P.length + L.length:Nat):Int):=by simp only [List.length_append]; omega
      have e4:(((P ++ L1).length + L2.length + R1.length:Nat):Int)=((P.length + L.length + (mid - k):Nat):Int):=by simp only [List.length_append]; omega
      rw [e1,e2,e3,e4] at h;rw [h];simp
    . have hz:R1=[]:=List.length_eq_zero_iff.1 (by omega);rw [aG (by omega),ax (by omega)];dsimp only [cond_true,cond_false];rw [hLe,hRe,hz];simp
  . have hz:L2=[]:=List.length_eq_zero_iff.1 (by omega);rw [ax (by omega)];dsimp only [cond_false];rw [hLe,hRe,hz];simp
 -- the left half
 obtain ⟨M1,s1,t1,u1⟩:∃ M1,lI dy M1/\ez dy (L1 ++ R1) M1/\cond (cond (au (P.length:Int) (k:Int)) (au (k:Int) (mid:Int)) false) (eS n (P ++ L1 ++ R1 ++ (L2 ++ R2 ++ S)) (P.length:Int) (k:Int) (mid:Int)) (some (((P ++ L1 ++ R1 ++ (L2 ++ R2 ++ S),()),()),()))=some (((P ++ M1 ++ (L2 ++ R2 ++ S),()),()),()):=by
  by_cases z1:P.length < k
  . by_cases z2:k < mid
    . obtain ⟨M,m1,m2,m3⟩:=ih P L1 R1 (L2 ++ R2 ++ S) (by omega) (by omega) (by omega) sL.1 sR.1 (by simp only [bS,List.length_append]; omega);refine ⟨M,m1,m2,?_⟩;rw [aG (by omega),aG (by omega)];dsimp only [cond_true];rw [show ((P.length + L1.length:Nat):Int)=(k:Int) by omega,show ((P.length + L1.length + R1.length:Nat):Int)=(mid:Int) by omega] at m3;exact m3
    . have hz:R1=[]:=List.length_eq_zero_iff.1 (by omega);refine ⟨L1,sL.1,by rw [hz,List.append_nil]; exact ez.refl _,?_⟩;rw [aG (by omega),ax (by omega),hz];simp
  . have hz:L1=[]:=List.length_eq_zero_iff.1 (by omega);refine ⟨R1,sR.1,by rw [hz]; exact ez.refl _,?_⟩;rw [ax (by omega),hz];simp
 have nM1:M1.length=L1.length + R1.length:=by have:=t1.1; rw [List.length_append] at this; omega
 -- the right half
 obtain ⟨M2,s2,t2,u2⟩:∃ M2,lI dy M2/\ez dy (L2 ++ R2) M2/\cond (cond (au (mid:Int) ((P.length + L.length + (mid - k):Nat):Int)) (au ((P.length + L.length + (mid - k):Nat):Int) ((P.length + L.length + R.length:Nat):Int)) false) (eS n (P ++ M1 ++ (L2 ++ R2 ++ S)) (mid:Int) ((P.length + L.length + (mid - k):Nat):Int) ((P.length + L.length + R.length:Nat):Int)) (some (((P ++ M1 ++ (L2 ++ R2 ++ S),()),()),()))=some (((P ++ (M1 ++ M2) ++ S,()),()),()):=by
  by_cases z1:0 < L2.length
  . by_cases z2:0 < R2.length
    . obtain ⟨M,m1,m2,m3⟩:=ih (P ++ M1) L2 R2 S (by omega) z1 z2 sL.2.1 sR.2.1 (by simp only [bS,List.length_append]; omega);refine ⟨M,m1,m2,?_⟩;rw [aG (by omega),aG (by omega)];dsimp only [cond_true];rw [show (((P ++ M1).length:Nat):Int)=(mid:Int) by simp only [List.length_append]; omega,show (((P ++ M1).length + L2.length:Nat):Int)=((P.length + L.length + (mid - k):Nat):Int) by simp only [List.length_append]; omega,show (((P ++ M1).length + L2.length + R2.length:Nat):Int)=((P.length + L.length + R.length:Nat):Int) by simp only [List.length_append]; omega] at m3;have e1:P ++ M1 ++ L2 ++ R2 ++ S=P ++ M1 ++ (L2 ++ R2 ++ S):=by simp
      rw [e1] at m3;rw [m3];simp
    . have hz:R2=[]:=List.length_eq_zero_iff.1 (by omega);refine ⟨L2,sL.2.1,by rw [hz,List.append_nil]; exact ez.refl _,?_⟩;rw [ax (a:=((P.length + L.length + (mid - k):Nat):Int)) (by omega),hz];cases au (mid:Int) ((P.length + L.length + (mid - k):Nat):Int) <;> simp
  . have hz:L2=[]:=List.length_eq_zero_iff.1 (by omega);refine ⟨R2,sR.2.1,by rw [hz]; exact ez.refl _,?_⟩;rw [ax (a:=(mid:Int)) (by omega),hz];simp
 refine ⟨M1 ++ M2,cC.2 ⟨s1,s2,fun x hx y hy => ?_⟩,?_,?_⟩
 . rcases List.mem_append.1 ((t1.mem fC).2 hx) with hx | hx
   . rcases List.mem_append.1 ((t2.mem fC).2 hy) with hy | hy
     . exact sL.2.2 x hx y hy
     . exact xLR x hx y hy
   . rcases List.mem_append.1 ((t2.mem fC).2 hy) with hy | hy
     . exact EX (xRL x hx y hy)
     . exact sR.2.2 x hx y hy
 . have h1:ez dy (L2 ++ R1) (R1 ++ L2):=ez.swap fC fun y hy x hx=>xRL x hx y hy
   have h2:=((ez.refl L1).append h1).append (ez.refl R2);have h3:=t1.append t2;have e1:L ++ R=L1 ++ (L2 ++ R1) ++ R2:=by rw [hLe,hRe]; simp
   have e2:L1 ++ (R1 ++ L2) ++ R2=L1 ++ R1 ++ (L2 ++ R2):=by simp
   rw [e1];rw [e2] at h2;exact h2.trans h3
 . rw [hsp];unfold zW;rw [st1];dsimp only [Option.bind_some];rw [u1];dsimp only [Option.bind_some];rw [u2];rfl
theorem E4 (P L R S:List aO) (h2:0 < L.length) (h3:0 < R.length) (hL:lI dy L) (hR:lI dy R) (hl:(P ++ L ++ R ++ S).length<=bS) :
 ∃ M,lI dy M/\ez dy (L ++ R) M/\mw (P ++ L ++ R ++ S) (P.length:Int) ((P.length + L.length:Nat):Int) ((P.length + L.length + R.length:Nat):Int)=some (((P ++ M ++ S,()),()),()):=by
 obtain ⟨M,m1,m2,m3⟩:=Qb (L.length + R.length) P L R S (Nat.le_refl _) h2 h3 hL hR hl;refine ⟨M,m1,m2,MM (n:=L.length + R.length) fun m hm => ?_⟩;obtain ⟨M',p1,p2,p3⟩:=Qb m P L R S hm h2 h3 hL hR hl;rw [p3,rn fC p1 m1 (p2.symm.trans m2)]
def Mz (k:Nat) (cs:List (List aO)):Prop:=∀ c∈cs,c.length=k/\lI dy c
theorem zD {k:Nat}:∀ {cs:List (List aO)},Mz k cs->cs.flatten.length=cs.length * k
 | [],_=>by simp
 | c :: cs,h=>by
   have h1:=(h c (List.mem_cons_self ..)).1;have h2:=zD (cs:=cs) fun x hx=>h x (List.mem_cons_of_mem _ hx)
   rw [List.flatten_cons,List.length_append,h1,h2,List.length_cons,Nat.add_mul,Nat.one_mul,Nat.add_comm]
theorem FP (N:Nat):∀ (n:Nat) (P R:List aO),R.length=n->(P ++ R).length=N->N<=4194304 ->
 ∃ (cs:List (List aO)) (T:List aO),Mz 20 cs/\T.length < 20/\ez dy R (cs.flatten ++ T) /\
  Dx (P ++ R) (N:Int) () 20 (P.length:Int) ((P.length + 20:Nat):Int)=some (.inl (P ++ cs.flatten ++ T,(N:Int),(),20,((N - T.length:Nat):Int),((N - T.length + 20:Nat):Int),())):=by
 intro n;induction n using Nat.strongRecOn with
 | _ n ih =>
 intro P R hn hN hB;have hN':=hN;rw [List.length_append] at hN';by_cases h:R.length < 20
 . refine ⟨[],R,fun c hc=>by simp at hc,h,ez.refl _,aK _ ?_⟩;show sf (P ++ R) (N:Int) () 20 (P.length:Int) ((P.length + 20:Nat):Int)=_;unfold sf;have:bH ((P.length + 20:Nat):Int) (N:Int)=false:=decide_eq_false (by omega);rw [this];have e:N - R.length=P.length:=by omega
   rw [e];simp
 . obtain ⟨L,S,rfl,hL⟩:∃ L S,R=L ++ S/\L.length=20:=⟨R.take 20,R.drop 20,(List.take_append_drop _ _).symm,by rw [List.length_take]; omega⟩;simp only [List.length_append] at hN' hn h;obtain ⟨M,m1,m2,m3⟩:=PN P L S (by simp only [bS,List.length_append]; omega);have hM:M.length=20:=by rw [<- m2.1]; exact hL
   obtain ⟨cs,T,q1,q2,q3,q4⟩:=ih S.length (by omega) (P ++ M) S rfl (by simp only [List.length_append]; omega) hB;refine ⟨M :: cs,T,fun c hc => ?_,q2,?_,?_⟩
   . rcases List.mem_cons.1 hc with rfl | hc
     . exact ⟨hM,m1⟩
     . exact q1 c hc
   . have:=m2.append q3;rw [List.flatten_cons,List.append_assoc];exact this
   . have e1:P ++ M ++ cs.flatten ++ T=P ++ (M :: cs).flatten ++ T:=by simp
     rw [e1] at q4;refine aU _ ?_ q4;show sf (P ++ (L ++ S)) (N:Int) () 20 (P.length:Int) ((P.length + 20:Nat):Int)=_;unfold sf;have k1:bH ((P.length + 20:Nat):Int) (N:Int)=true:=decide_eq_true (by omega);have e2:P ++ (L ++ S)=P ++ L ++ S:=by simp
     rw [hL] at m3;rw [k1,e2,m3];dsimp only [cond_true,Option.bind_some];have k2:ai .i64 ((P.length + 20:Nat):Int) 20=(((P ++ M).length + 20:Nat):Int):=by rw [ay (by omega) (by omega)]; simp only [List.length_append]; omega
     have k3:((P.length + 20:Nat):Int)=((P ++ M).length:Int):=by simp only [List.length_append]; omega
     rw [k2,k3]
theorem QU {k:Nat} (h:k<=1073741824):jZ .i64 2 (k:Int)=((2 * k:Nat):Int)/\jZ .i64 (k:Int) 2=((2 * k:Nat):Int):=by unfold jZ;rw [IntWalk.i64_in _ (by omega),IntWalk.i64_in _ (by omega)];omega
theorem Hd (N k:Nat) (hk:0 < k) (hkB:k<=1073741824) (hB:N<=4194304) (T:List aO) (hT:T.length < k):∀ (n:Nat) (cs:List (List aO)) (P:List aO),cs.length=n->Mz k cs->(P ++ cs.flatten ++ T).length=N ->
 ∃ (ds c2:List (List aO)) (b':Int),Mz (2 * k) ds/\Mz k c2/\c2.length<=1/\ez dy cs.flatten (ds.flatten ++ c2.flatten) /\
  zi (P ++ cs.flatten ++ T) (N:Int) () (k:Int) (P.length:Int) ((P.length + 2 * k:Nat):Int)=some (.inl (P ++ ds.flatten ++ c2.flatten ++ T,(N:Int),(),(k:Int),((P ++ ds.flatten).length:Int),b',())):=by
 intro n;induction n using Nat.strongRecOn with
 | _ n ih =>
 intro cs P hn hc hN;have hN':=hN;simp only [List.length_append] at hN'
 have stop:cs.length<=1->∃ (ds c2:List (List aO)) (b':Int),Mz (2 * k) ds/\Mz k c2/\c2.length<=1/\ez dy cs.flatten (ds.flatten ++ c2.flatten) /\
  zi (P ++ cs.flatten ++ T) (N:Int) () (k:Int) (P.length:Int) ((P.length + 2 * k:Nat):Int)=some (.inl (P ++ ds.flatten ++ c2.flatten ++ T,(N:Int),(),(k:Int),((P ++ ds.flatten).length:Int),b',())):=fun h1=>by
  refine ⟨[],cs,((P.length + 2 * k:Nat):Int),fun c hc=>by simp at hc,hc,h1,by simpa using ez.refl _,aK _ ?_⟩;show rN (P ++ cs.flatten ++ T) (N:Int) () (k:Int) (P.length:Int) ((P.length + 2 * k:Nat):Int)=_;unfold rN;have hf:=zD hc;have:cs.length * k<=k:=by have:=Nat.mul_le_mul_right k h1;omega
  have:bH ((P.length + 2 * k:Nat):Int) (N:Int)=false:=decide_eq_false (by omega);rw [this];simp
 cases cs with
 | nil=>exact stop (by simp)
 | cons c1 cs =>
 cases cs with
 | nil=>exact stop (by simp)
 | cons c2 cs =>
   have h1:=hc c1 (by simp);have h2:=hc c2 (by simp);have h3:Mz k cs:=fun c h=>hc c (by simp [h])
   simp only [List.flatten_cons,List.length_append] at hN';obtain ⟨M,m1,m2,m3⟩:=E4 P c1 c2 (cs.flatten ++ T) (by omega) (by omega) h1.2 h2.2 (by simp only [bS,List.length_append]; omega);have hM:M.length=2 * k:=by have:=m2.1; rw [List.length_append] at this; omega
   obtain ⟨ds,e2,b',q1,q2,q3,q4,q5⟩:=ih cs.length (by simp only [List.length_cons] at hn; omega) cs (P ++ M) rfl h3 (by simp only [List.length_append]; omega);refine ⟨M :: ds,e2,b',fun d hd => ?_,q2,q3,?_,?_⟩
   . rcases List.mem_cons.1 hd with rfl | hd
     . exact ⟨hM,m1⟩
     . exact q1 d hd
   . have:=m2.append q4;simpa using this
   . have e3:P ++ M ++ ds.flatten ++ e2.flatten ++ T=P ++ (M :: ds).flatten ++ e2.flatten ++ T:=by simp
     have e4:P ++ M ++ ds.flatten=P ++ (M :: ds).flatten:=by simp
     rw [e3,e4] at q5;refine aU _ ?_ q5;show rN (P ++ (c1 :: c2 :: cs).flatten ++ T) (N:Int) () (k:Int) (P.length:Int) ((P.length + 2 * k:Nat):Int)=_;unfold rN;have k1:bH ((P.length + 2 * k:Nat):Int) (N:Int)=true:=decide_eq_true (by omega);have e5:P ++ (c1 :: c2 :: cs).flatten ++ T=P ++ c1 ++ c2 ++ (cs.flatten ++ T):=by simp
     have k2:ai .i64 (P.length:Int) (k:Int)=((P.length + c1.length:Nat):Int):=by rw [ay (by omega) (by omega)]; omega
     have k3:((P.length + 2 * k:Nat):Int)=((P.length + c1.length + c2.length:Nat):Int):=by omega
     rw [k1,(QU hkB).1,k2,k3,e5,m3];dsimp only [cond_true,Option.bind_some];have k4:ai .i64 ((P.length + c1.length + c2.length:Nat):Int) ((2 * k:Nat):Int)=(((P ++ M).length + 2 * k:Nat):Int):=by rw [ay (by omega) (by omega)]; simp only [List.length_append]; omega
     have k5:((P.length + c1.length + c2.length:Nat):Int)=((P ++ M).length:Int):=by simp only [List.length_append]; omega
     rw [k4,k5];simp
theorem FI (N:Nat) (hB:N<=4194304):∀ (f k:Nat) (cs:List (List aO)) (T:List aO),N - k<=f->0 < k->k<=8388608->Mz k cs->T.length < k->lI dy T->(cs.flatten ++ T).length=N ->
 ∃ (M:List aO) (k':Int),lI dy M/\ez dy (cs.flatten ++ T) M/\DM (cs.flatten ++ T) (N:Int) () (k:Int)=some (.inl (M,(N:Int),(),k',())):=by
 intro f;induction f using Nat.strongRecOn with
 | _ f ih =>
 intro k cs T hf hk hkB hc hT hTs hN;have hN':=hN;rw [List.length_append,zD hc] at hN';by_cases h:k < N
 . obtain ⟨ds,c2,b',q1,q2,q3,q4,q5⟩:=Hd N k hk (by omega) hB T hT cs.length cs [] rfl hc (by simpa using hN);simp only [List.nil_append,List.length_nil,Nat.zero_add] at q5;have q5':zi (cs.flatten ++ T) (N:Int) () (k:Int) 0 ((2 * k:Nat):Int)=_:=q5;have hlen:ds.flatten.length + c2.flatten.length + T.length=N:=by
    have:=q4.1;rw [List.length_append] at this;rw [List.length_append] at hN;omega
   -- the rest behind the pairs
   obtain ⟨T',t1,t2,t3,t4⟩:∃ T',T'.length < 2 * k/\lI dy T'/\ez dy (c2.flatten ++ T) T' /\
    sM (cs.flatten ++ T) (N:Int) () (k:Int)=some (.inl (ds.flatten ++ T',(N:Int),(),((2 * k:Nat):Int),())):=by
    unfold sM;rw [aG (by omega),(QU (by omega)).1,q5'];dsimp only [cond_true,Option.bind_some,Sum.elim_inl];rw [(QU (k:=k) (by omega)).2];have k2:ai .i64 ((ds.flatten.length:Nat):Int) (k:Int)=((ds.flatten.length + k:Nat):Int):=by rw [ay (by omega) (by omega)]; omega
    rw [k2];cases c2 with
    | nil => simp only [List.flatten_nil,List.length_nil,Nat.add_zero] at hlen;refine ⟨T,by omega,hTs,by simpa using ez.refl _,?_⟩;rw [ax (by omega)];simp
    | cons c c2 =>
      have:c2=[]:=List.length_eq_zero_iff.1 (by simp only [List.length_cons] at q3; omega);subst this;have hcc:=q2 c (by simp);simp only [List.flatten_cons,List.flatten_nil,List.append_nil] at hlen ⊢;by_cases hz:0 < T.length
      . obtain ⟨M,m1,m2,m3⟩:=E4 ds.flatten c T [] (by omega) hz hcc.2 hTs (by simp only [bS,List.length_append,List.length_nil]; omega);refine ⟨M,by have:=m2.1; rw [List.length_append] at this; omega,m1,m2,?_⟩;rw [hcc.1] at m3;rw [show ((ds.flatten.length + k + T.length:Nat):Int)=(N:Int) by omega,List.append_nil,List.append_nil] at m3;rw [aG (by omega),m3];simp
      . have:T=[]:=List.length_eq_zero_iff.1 (by omega);subst this;refine ⟨c,by omega,hcc.2,by simpa using ez.refl _,?_⟩;rw [ax (by simp only [List.length_nil] at hlen; omega)];simp
   obtain ⟨M,k',m1,m2,m3⟩:=ih (N - 2 * k) (by omega) (2 * k) ds T' (Nat.le_refl _) (by omega) (by omega) q1 t1 t2 (by have:=t3.1; rw [List.length_append] at this ⊢; omega);refine ⟨M,k',m1,?_,aU _ t4 m3⟩;have h1:=q4.append (ez.refl T);have h2:=(ez.refl ds.flatten).append t3;rw [List.append_assoc] at h1;exact (h1.trans h2).trans m2
 . refine ⟨cs.flatten ++ T,(k:Int),?_,ez.refl _,aK _ ?_⟩
   . cases cs with
     | nil=>simpa using hTs
     | cons c cs =>
       simp only [List.length_cons,Nat.add_mul,Nat.one_mul] at hN';have h0:T=[]:=List.length_eq_zero_iff.1 (by omega);have h1:cs=[]:=by
        cases cs with
        | nil=>rfl
        | cons d cs=>simp only [List.length_cons,Nat.add_mul,Nat.one_mul] at hN'; omega
       subst h0; subst h1;simpa using (hc c (by simp)).2
   . show sM (cs.flatten ++ T) (N:Int) () (k:Int)=_;unfold sM;rw [ax (by omega)];rfl
theorem RT (xs:List aO) (hB:xs.length<=4194304):∃ M,lI dy M/\ez dy xs M/\Ok xs=some (((M,()),()),()):=by
 obtain ⟨cs,T,q1,q2,q3,q4⟩:=FP xs.length xs.length [] xs rfl rfl hB;simp only [List.nil_append,List.length_nil,Nat.zero_add] at q4;have hlen:cs.flatten.length + T.length=xs.length:=by have:=q3.1; rw [List.length_append] at this; omega
 obtain ⟨T',t1,t2,t3⟩:=PN cs.flatten T [] (by simp only [bS,List.length_append,List.length_nil]; omega);rw [List.append_nil,List.append_nil] at t3;have hT':T'.length=T.length:=t2.1.symm;obtain ⟨M,k',m1,m2,m3⟩:=FI xs.length hB (xs.length) 20 cs T' (by omega) (by decide) (by decide) q1 (by omega) t1 (by rw [List.length_append]; omega);refine ⟨M,m1,(q3.trans ((ez.refl _).append t2)).trans m2,?_⟩;have q4':Dx xs (ae xs) () 20 0 20=_:=q4;have e1:((cs.flatten.length + T.length:Nat):Int)=(xs.length:Int):=by omega
 have e2:((xs.length - T.length:Nat):Int)=(cs.flatten.length:Int):=by omega
 rw [e1] at t3;unfold Ok Sw;rw [q4'];dsimp only [Option.bind_some,Sum.elim_inl];rw [e2,t3];dsimp only [Option.bind_some];have m3':DM (cs.flatten ++ T') (xs.length:Int) () 20=_:=m3;rw [m3'];rfl
theorem KO (out:List aO) (x:aO) (hS:lI dy out) (hl:out.length<=4194304) (t11:List (eb)) (t12 t13:Int) (t18:List aO) (t19 t20:Int) (b2:List aO×Unit):∀ (n:Nat) (A B:List aO),out=A ++ B->A.length=n->(∀ y∈B,dy x y=true) ->
 ∃ A' B',out=A' ++ B'/\(∀ y∈B',dy x y=true)/\(∀ y∈A',dy x y=false)/\Ci out (A.length:Int) t11 t12 t13 t18 t19 t20 b2 x=some (.inl (out,(A'.length:Int),t11,t12,t13,t18,t19,t20,b2,x,())):=by
 have hbig:aT=140737488355328:=rfl;intro n;induction n with
 | zero => intro A B hAB hn hB;have:A=[]:=List.length_eq_zero_iff.1 hn;subst this;refine ⟨[],B,hAB,hB,fun y hy=>by simp at hy,aK _ ?_⟩;show vY out 0 t11 t12 t13 t18 t19 t20 b2 x=_;unfold vY;rfl
 | succ n ih =>
   intro A B hAB hn hB;obtain ⟨C,y,rfl⟩:=uj (a:=A) (fun h=>by subst h; simp at hn);have hC:C.length=n:=by simpa using hn
   have hlen:=congrArg List.length hAB;simp only [List.length_append,List.length_cons,List.length_nil] at hlen;have k1:aM .i64 ((C ++ [y]).length:Int) 1=(C.length:Int):=by rw [aS (by simp only [List.length_append,List.length_cons,List.length_nil]; omega) (by simp only [List.length_append,List.length_cons,List.length_nil]; omega)]; simp only [List.length_append,List.length_cons,List.length_nil]; omega
   have e0:out=C ++ y :: B:=by rw [hAB]; simp
   have i1:aR (C.length:Int) out=true:=by rw [e0]; exact iq _ _ _ rfl
   have g1:gt d59 out (C.length:Int)=y:=by rw [e0]; exact xl _ _ _ _ rfl
   have hstep:vY out ((C ++ [y]).length:Int) t11 t12 t13 t18 t19 t20 b2 x=cond (dy x y) (some (.inl (out,(C.length:Int),t11,t12,t13,t18,t19,t20,b2,x,()))) (some (.inr (.inl (out,((C ++ [y]).length:Int),t11,t12,t13,t18,t19,t20,b2,x,())))):=by unfold vY;rw [aG (by simp only [List.length_append,List.length_cons,List.length_nil]; omega)];dsimp only [cond_true];rw [k1,i1,g1,uv];dsimp only [cond_true];rw [Bool.not_not]
   cases hc:dy x y with
   | true =>
     rw [hc] at hstep;obtain ⟨A',B',r1,r2,r3,r4⟩:=ih C (y :: B) e0 hC (fun z hz=>by
      rcases List.mem_cons.1 hz with rfl | hz
      . exact hc
      . exact hB z hz)
     exact ⟨A',B',r1,r2,r3,aU _ hstep r4⟩
   | false =>
     rw [hc] at hstep;refine ⟨C ++ [y],B,hAB,hB,fun z hz => ?_,aK _ hstep⟩;rcases List.mem_append.1 hz with hz | hz
     . rw [hAB] at hS;have:=(cC.1 (cC.1 hS).1).2.2 z hz y (by simp);exact fC.le_trans this hc
     . simp only [List.mem_singleton] at hz; subst hz; exact hc
abbrev er:=Int×List aO×Unit
def fz (l:List er):List aO:=(l.map fun s=>s.2.1).flatten
def si (l:List er):Prop:=l.length<=1048576/\(fz l).length<=1048576/\∀ s∈l,∀ a∈s.2.1,iW a
theorem na {l:List er} {i:Nat} {s:er} (h:l[i]? = some s):fz (l.take (i + 1))=fz (l.take i) ++ s.2.1:=by unfold fz;rw [List.take_add_one,h];simp
theorem uu (l:List er) (i:Nat):(fz (l.take i)).length<=(fz l).length:=by
 have:fz l=fz (l.take i) ++ fz (l.drop i):=by unfold fz;rw [<- List.flatten_append,<- List.map_append,List.take_append_drop]
 rw [this,List.length_append];omega
theorem Rg (base acc:List aO) (hb:∀ a∈acc,iW a) (hl:(base ++ acc).length<=1048576) (t11:List er) (t12 t13:Int) (b2:List aO×Unit) (out:List aO) (h1:lI dy out) (h2:ez dy base out) :
 ∃ M,(lI dy M/\ez dy (base ++ acc.take acc.length) M)/\EL out t11 t12 t13 acc (ae acc) 0 b2=some (.inl (M,t11,t12,t13,acc,ae acc,(acc.length:Int),b2,())):=by
 have hbig:aT=140737488355328:=rfl;rw [List.length_append] at hl;refine nf (step:=yz th) acc (fun i (o:List aO)=>(o,t11,t12,t13,acc,ae acc,((i:Nat):Int),b2,())) (fun o=> .inl (o,t11,t12,t13,acc,ae acc,(acc.length:Int),b2,())) (fun i o=>lI dy o/\ez dy (base ++ acc.take i) o) (fun i x o hx ho => ?_) (fun o ho => ?_) acc.length 0 out (by omega) ⟨h1,by simpa using h2⟩
 . have hlt:=aj hx;have hxB:=hb x (List.mem_of_getElem? hx);have hol:o.length<=1048576:=by
    have:=ho.2.1;rw [List.length_append,List.length_take] at this;omega
   obtain ⟨A,B,r1,r2,r3,r4⟩:=KO o x ho.1 (by omega) t11 t12 t13 acc (ae acc) (i:Int) b2 o.length o [] (by simp) rfl (fun y hy=>by simp at hy);have hAB:o.length=A.length + B.length:=by rw [r1,List.length_append]
   refine ⟨A ++ [x] ++ B,?_,?_,?_⟩
   . show th o t11 t12 t13 acc (ae acc) (i:Int) b2=_;unfold th;have r4':Ci o (ae o) t11 t12 t13 acc (ae acc) (i:Int) b2 x=_:=r4;have f1:dO 0 (A.length:Int) o=true:=by
      show (decide ((0:Int)<=0) && (decide ((0:Int)<=(A.length:Int)) && decide ((A.length:Int)<=(o.length:Int))))=true;rw [decide_eq_true (by omega),decide_eq_true (by omega),decide_eq_true (by omega)]; rfl
     have f2:VC 160 [] o (A.length:Int)=true:=Nat.ble_eq_true_of_le (by simp only [List.length_nil,Int.toNat_natCast]; omega);have f3:PU o (A.length:Int)=A:=by unfold PU; rw [Int.toNat_natCast,r1]; simp
     have f4:drI o (A.length:Int)=B:=by unfold drI; rw [Int.toNat_natCast,r1]; simp
     have f5:QP (A.length:Int) (A.length:Int)=true:=by unfold QP preB bH;rw [decide_eq_true (by omega),Nat.beq_refl]; rfl
     have f6:ct 160 (j3 [] A) [x]=true:=Nat.ble_eq_true_of_le (by show ((([]:List aO) ++ A).length + 1) * 160<=aT; simp only [List.nil_append]; omega);have f7:ct 160 (j3 (j3 [] A) [x]) B=true:=Nat.ble_eq_true_of_le (by show ((([]:List aO) ++ A ++ [x]).length + B.length) * 160<=aT; simp only [List.nil_append,List.length_append,List.length_cons,List.length_nil]; omega);rw [aD hx,az hx,aV _ hx,r4'];dsimp only [cond_true,Option.bind_some,Sum.elim_inl];rw [f1,f2,f3,f4,f5,Bm x hxB,aJ (by omega)];dsimp only [cond_true,Option.bind_some];rw [f6,f7];rfl
   . have hs:=ho.1;rw [r1] at hs;have hs:=cC.1 hs;rw [List.append_assoc];refine cC.2 ⟨hs.1,List.pairwise_cons.2 ⟨fun y hy=>EX (r2 y hy),hs.2.1⟩,fun y hy z hz => ?_⟩;rcases List.mem_cons.1 hz with rfl | hz
     . exact r3 y hy
     . exact hs.2.2 y hy z hz
   . have e1:base ++ acc.take (i + 1)=base ++ acc.take i ++ [x]:=by rw [List.take_add_one,hx]; simp
     rw [e1];have q1:=ho.2.append (ez.refl [x]);have q2:ez dy (B ++ [x]) ([x] ++ B):=ez.swap fC fun y hy z hz=>by simp only [List.mem_singleton] at hz; subst hz; exact r2 y hy
     have q3:=(ez.refl A).append q2;rw [r1] at q1;rw [List.append_assoc A] at q1;rw [List.append_assoc A];exact q1.trans q3
 . show th o t11 t12 t13 acc (ae acc) (acc.length:Int) b2=_;unfold th;rw [aw rfl]; rfl
theorem Cp (l:List er) (hB:si l):∃ M,(lI dy M/\ez dy (fz l) M)/\Pb l=some ((),((M,()),())):=by
 have hbig:aT=140737488355328:=rfl;have hl:=hB.1;obtain ⟨M,⟨m1,m2⟩,m3⟩:=nf (step:=fh tz) l (fun j (o:List aO)=>(o,l,ae l,((j:Nat):Int),(([]:List aO),()),())) (fun o=> .inl (o,l,ae l,(l.length:Int),([],()),())) (fun j o=>lI dy o/\ez dy (fz (l.take j)) o) (fun j s o hx ho=>by
  have hlt:=aj hx;have hs:=hB.2.2 s (List.mem_of_getElem? hx);have e1:=na hx;have e2:=uu l (j + 1);have e3:=hB.2.1;obtain ⟨M,⟨m1,m2⟩,m3⟩:=Rg (fz (l.take j)) s.2.1 hs (by rw [<- e1]; omega) l (ae l) (j:Int) ([],()) o ho.1 ho.2;rw [List.take_length,<- e1] at m2;refine ⟨M,?_,m1,m2⟩;show tz o l (ae l) (j:Int) ([],())=_;unfold tz;rw [aD hx,az hx,aV _ hx];dsimp only [cond_true];rw [m3];dsimp only [Option.bind_some,Sum.elim_inl];rw [aJ (by omega)]) (fun o ho=>by
  show tz o l (ae l) (l.length:Int) ([],())=_;unfold tz;rw [aw rfl]; rfl) l.length 0 [] (by omega) ⟨EI,ez.refl _⟩
 rw [List.take_length] at m2;refine ⟨M,⟨m1,m2⟩,?_⟩;unfold Pb;have m3':Ew [] l (ae l) 0 ([],())=_:=m3;rw [m3'];rfl
theorem Bc (acc:List aO) (hb:∀ a∈acc,iW a) (hl:acc.length<=1048576):Jl (acc,())=some ((),((acc,()),())):=by
 have hbig:aT=140737488355328:=rfl;unfold Jl SF;have h:=aI (step:=D5 oI) acc (fun i (a:List aO)=>((),acc,ae acc,((i:Nat):Int),(([]:List aO),()),(a,()),())) (fun _ x a=>Sum.inl (a ++ [x])) (fun a=> .inl ((),acc,ae acc,(acc.length:Int),([],()),(a,()),())) (fun i a=>a.length=i) (a0:=[]) rfl (fun i x a hx ha=>by
  have hlt:=aj hx;show oI () acc (ae acc) (i:Int) ([],()) (a,())=_;unfold oI;have e:∀ y:aO,ct 160 a [y]=true:=fun y=>Nat.ble_eq_true_of_le (by simp; omega)
  rw [aD hx,az hx,aV _ hx,J8 x (hb x (List.mem_of_getElem? hx)),aJ (by omega)];dsimp only [cond_true,Option.bind_some];rw [e];rfl) (fun i x a a' hx ha hf=>by
  simp only [Sum.inl.injEq] at hf;rw [<- hf,List.length_append,ha]; rfl) (fun a ha=>by
  show oI () acc (ae acc) (acc.length:Int) ([],()) (a,())=_;unfold oI;rw [aw rfl]; rfl)
 rw [fJ] at h;have h':Kp () acc (ae acc) 0 ([],()) ([],())=_:=h;dsimp only;rw [h'];rfl
theorem Lg (l:List er) (hB:si l):∃ M,(lI dy M/\ez dy (fz l) M)/\RI l=some ((),((M,()),())):=by
 have hbig:aT=140737488355328:=rfl;have hl:=hB.1;have hl2:=hB.2.1;obtain ⟨o,ho,hm⟩:=nf (step:=fh wG) l (fun j (o:List aO)=>(l,ae l,((j:Nat):Int),(([]:List aO),()),(o,()),())) (fun o=> .inl (l,ae l,(l.length:Int),([],()),(o,()),())) (fun j o=>o=fz (l.take j)) (fun j s o hx ho=>by
  have hlt:=aj hx;have hs:=hB.2.2 s (List.mem_of_getElem? hx);have e1:=na hx;have e2:=uu l (j + 1);rw [e1,List.length_append] at e2;refine ⟨o ++ s.2.1,?_,by rw [ho,e1]⟩;show wG l (ae l) (j:Int) ([],()) (o,())=_;unfold wG;have e:ct 160 o s.2.1=true:=Nat.ble_eq_true_of_le (by rw [ho]; omega);rw [aD hx,az hx,aV _ hx];dsimp only [cond_true];rw [Bc s.2.1 hs (by omega)];dsimp only [cond_true,Option.bind_some];rw [e,aJ (by omega)];rfl) (fun o ho=>by
  show wG l (ae l) (l.length:Int) ([],()) (o,())=_;unfold wG;rw [aw rfl]; rfl) l.length 0 [] (by omega) rfl
 rw [List.take_length] at ho;subst ho;obtain ⟨M,m1,m2,m3⟩:=RT (fz l) (by omega);refine ⟨M,⟨m1,m2⟩,?_⟩;unfold RI;have hm':Ov l (ae l) 0 ([],()) ([],())=_:=hm;rw [hm'];dsimp only [Option.bind_some,Sum.elim_inl];rw [m3];rfl
theorem GX (l:List er) (hB:si l):∃ M,M.length=(fz l).length/\(∀ x∈M,x∈fz l)/\ez dy (fz l) M/\Pb l=some ((),((M,()),()))/\RI l=some ((),((M,()),())):=by obtain ⟨M,⟨m1,m2⟩,m3⟩:=Cp l hB;obtain ⟨M',⟨p1,p2⟩,p3⟩:=Lg l hB;have e:=rn fC p1 m1 (p2.symm.trans m2);subst e;exact ⟨M',p2.1.symm,fun x hx=>(p2.mem fC).2 hx,p2,m3,p3⟩
abbrev aY:=List (Int×Unit)
def yL (b:aY):Prop:=b.length<=1048576/\∀ x∈b,0<=x.1/\x.1<=255
def eG (b:aY) (a k:Nat):aY:=(b.drop a).take k
theorem J9 (b:aY) (a k:Nat):sub b (a:Int) ((a + k:Nat):Int)=eG b a k:=by unfold sub eG;rw [Int.toNat_natCast,Int.toNat_natCast,List.drop_take,Nat.add_sub_cancel_left]
theorem lE {b:aY} {a k:Nat} (h:a + k<=b.length):(eG b a k).length=k:=by unfold eG;rw [List.length_take,List.length_drop];omega
theorem Ja {b:aY} {a k i:Nat} {x:Int×Unit} (h:(eG b a k)[i]? = some x):i < k/\b[a + i]? = some x:=by
 unfold eG at h;rw [List.getElem?_take] at h;split at h
 . rw [List.getElem?_drop] at h;exact ⟨by assumption,h⟩
 . simp at h
theorem R7 {b:aY} {a k:Nat} {x:Int×Unit} (h:x∈eG b a k):x∈b:=List.mem_of_mem_drop (List.mem_of_mem_take h)
theorem EZ {b:aY} {a k:Nat} (h:a + k<=b.length):dO (a:Int) ((a + k:Nat):Int) b=true:=by show (decide ((0:Int)<=(a:Int)) && (decide ((a:Int)<=((a + k:Nat):Int)) && decide (((a + k:Nat):Int)<=(b.length:Int))))=true;rw [decide_eq_true (by omega),decide_eq_true (by omega),decide_eq_true (by omega)]; rfl
theorem zQ (b:aY) (a k:Nat) (hb:b.length<=1048576) (ha:a<=b.length) (hk:k<=1048576):zX b a k=some ((),(if a + k<=b.length then ((eG b a k,()),(true,()),()) else (([],()),(false,()),()))):=by
 unfold zX;have e:aM .i64 (ae b) (a:Int)=(b.length:Int) - a:=aS (by show -4611686018427387904<=(b.length:Int) - a; omega) (by show (b.length:Int) - a<=_; omega);have i1:dI (a:Int) 0 (ae b)=true:=gM.2 ⟨by omega,by show (a:Int)<=(b.length:Int); omega⟩;have e2:ai .i64 (a:Int) (k:Int)=((a + k:Nat):Int):=by rw [ay (by omega) (by omega)]; omega
 dsimp only;rw [jb,e,e2];dsimp only [Option.bind_some];rw [i1,ax (a:=(k:Int)) (b:=0) (by omega)];by_cases h:a + k<=b.length
 . rw [ax (by omega),if_pos h,EZ h,J9];rfl
 . rw [aG (by omega),if_neg h]; rfl
def dV (s:List UInt8):Bool:=s.all fun x=>cond (au (x.toNat:Int) 32) false (!(au 126 (x.toNat:Int)))
theorem Fa (s:List UInt8) (hs:s.length<=aT):zy s=some ((),((dV s,()),())):=by
 unfold zy;have h:=aH (step:=xo pH) s (fun i (_:Unit)=>(s,((i:Nat):Int),())) (fun _ x _=>bif cond (au (x.toNat:Int) 32) false (!(au 126 (x.toNat:Int))) then Sum.inl () else .inr (.inr (false,()))) (fun _=> .inl (s,(s.length:Int),())) (a0:=()) (fun i x a hx=>by
  have hlt:=aj hx;show pH s (i:Int)=_;unfold pH;rw [aD hx,az hx,eD hx,aJ (by omega)];dsimp only [cond_true];cases au (x.toNat:Int) 32 <;> cases au 126 (x.toNat:Int) <;> rfl) (fun a=>by
  show pH s (s.length:Int)=_;unfold pH;rw [aw rfl]; rfl)
 rw [gi] at h;have h':Iu s 0=_:=h;rw [h'];unfold dV;cases s.all _ <;> rfl
theorem LO (s:List UInt8) (hs:s.length<=aT):Hh s=some ((),((dV s,()),())):=by
 unfold Hh;have h:=aH (step:=dk oG) s (fun i (_:Unit)=>(s,ae s,((i:Nat):Int),())) (fun _ x _=>bif cond (au (x.toNat:Int) 32) false (!(au 126 (x.toNat:Int))) then Sum.inl () else .inr (.inr (false,()))) (fun _=> .inl (s,ae s,(s.length:Int),())) (a0:=()) (fun i x a hx=>by
  have hlt:=aj hx;show oG s (ae s) (i:Int)=_;unfold oG;rw [aD hx,az hx,eD hx,aJ (by omega)];dsimp only [cond_true];cases au (x.toNat:Int) 32 <;> cases au 126 (x.toNat:Int) <;> rfl) (fun a=>by
  show oG s (ae s) (s.length:Int)=_;unfold oG;rw [aw rfl]; rfl)
 rw [gi] at h;have h':Iz s (ae s) 0=_:=h;rw [h'];unfold dV;cases s.all _ <;> rfl
def lg (acc:Nat) (s:List UInt8):Nat:=s.foldl (fun n x=>n * 10 + (x.toNat - 48)) acc
theorem Ay:∀ (s:List UInt8) (acc k:Nat),s.all fM=true->acc < 10 ^ k->lg acc s < 10 ^ (k + s.length)
 | [],acc,k,_,h=>h
 | x :: s,acc,k,hd,h=>by simp only [List.all_cons,Bool.and_eq_true] at hd;have:=fR.1 hd.1;have h2:=Ay s (acc * 10 + (x.toNat - 48)) (k + 1) hd.2 (by rw [Nat.pow_succ]; omega);rw [List.length_cons,show k + (s.length + 1)=k + 1 + s.length by omega];exact h2
theorem B6:∀ (s:List UInt8) (acc:Nat),s.all fM=true->lg acc s < 1844674407370955162->Lib.parseUint10 acc s= .ok (lg acc s)
 | [],acc,_,_=>rfl
 | x :: s,acc,hd,h=>by
   simp only [List.all_cons,Bool.and_eq_true] at hd;have hx:=fR.1 hd.1;have hmono:∀ (s:List UInt8) (a:Nat),a<=lg a s:=fun s=>by
    induction s with
    | nil=>intro a; exact Nat.le_refl _
    | cons y s ih=>intro a; exact Nat.le_trans (by omega) (ih (a * 10 + (y.toNat - 48)))
   have h1:=hmono s (acc * 10 + (x.toNat - 48));have h:lg (acc * 10 + (x.toNat - 48)) s < 1844674407370955162:=h;have ih:=B6 s (acc * 10 + (x.toNat - 48)) hd.2 h;unfold Lib.parseUint10;rw [if_pos hx,if_neg (by omega),if_neg (by omega),ih];rfl
theorem dj {s:List UInt8}:aW s=true↔s.all fM=true/\s≠[]:=by
 unfold aW;cases s.all fM with
 | false=>simp
 | true=>cases s <;> simp [au,ae]
def yb (s:List UInt8):Option Nat:=if aW s=true/\s.length<=18 then some (lg 0 s) else none
def L4 (o:Option Nat):Option (Unit×((Int×Unit)×(Bool×Unit)×Unit)):=some ((),match o with | some n=>(((n:Int),()),(true,()),()) | none=>((0,()),(false,()),()))
theorem OO (s:List UInt8) (hs:s.length<=aT):DX s=L4 (yb s):=by
 unfold DX ug yb;rw [gJ s hs];dsimp only [Option.bind_some];cases hd:aW s with
 | false=>rfl
 | true =>
   by_cases h18:s.length<=18
   . rw [if_pos ⟨rfl,h18⟩,Nat.ble_eq_true_of_le h18];obtain ⟨h1,h2⟩:=dj.1 hd;have hb:=Ay s 0 0 h1 (by decide);have hb2:lg 0 s < 1000000000000000000:=Nat.lt_of_lt_of_le hb (by rw [Nat.zero_add]; exact Nat.pow_le_pow_right (by decide) h18);have hu:=B6 s 0 h1 (by omega);have hv:Lib.atoiAll s= .ok (lg 0 s:Int):=by
      cases s with
      | nil=>exact absurd rfl h2
      | cons c r => have hc:=List.all_eq_true.1 h1 c (by simp);have hc:=fR.1 hc;rw [Lib.atoiAll_plain c r (by omega) (by omega)];unfold Lib.parseMag;rw [if_neg (by simp),hu];show (if 9223372036854775808<=lg 0 (c :: r) then _ else _)=_;rw [if_neg (by omega)]
     rw [hv];rfl
   . rw [if_neg (fun h=>h18 h.2)];have:Nat.ble s.length 18=false:=by
      cases h:Nat.ble s.length 18 with
      | false=>rfl
      | true=>exact absurd (Nat.le_of_ble_eq_true h) h18
     rw [this];rfl
theorem EV (s:List UInt8) (hs:s.length<=aT):ua s=L4 (yb s):=by
 have hbig:aT=140737488355328:=rfl;unfold ua yb;rw [fN s hs];dsimp only [Option.bind_some];cases hd:aW s with
 | false=>rfl
 | true =>
   by_cases h18:s.length<=18
   . rw [if_pos ⟨rfl,h18⟩,ax (by show ¬ (18:Int) < (s.length:Int); omega)];obtain ⟨h1,h2⟩:=dj.1 hd;have h:=aI (step:=dk nW) s (fun i (a:Nat)=>(s,(a:Int),((i:Nat):Int),())) (fun _ x a=>Sum.inl (a * 10 + (x.toNat - 48))) (fun a=> .inl (s,(a:Int),(s.length:Int),())) (fun i a=>a < 10 ^ i) (a0:=0) (by decide) (fun i x a hx ha=>by
      have hlt:=aj hx;have hc:=fR.1 (List.all_eq_true.1 h1 x (List.mem_of_getElem? hx));have h17:a < 10 ^ 17:=Nat.lt_of_lt_of_le ha (Nat.pow_le_pow_right (by decide) (by omega));have h17':a < 100000000000000000:=h17;show nW s (a:Int) (i:Int)=_;unfold nW;have m:jZ .i64 (a:Int) 10=((a * 10:Nat):Int):=by unfold jZ; rw [IntKind.wrap_i64]; omega
      have c:bG .i64 (x.toNat:Int)=(x.toNat:Int):=by unfold bG; rw [IntKind.wrap_i64]; omega
      rw [aD hx,az hx,eD hx,aJ (by omega),m,c,ay (by omega) (by omega),aS (by omega) (by omega)];dsimp only [cond_true];rw [show ((a * 10:Nat):Int) + (x.toNat:Int) - 48=((a * 10 + (x.toNat - 48):Nat):Int) by omega]) (fun i x a a' hx ha hf=>by
      have hc:=fR.1 (List.all_eq_true.1 h1 x (List.mem_of_getElem? hx));simp only [Sum.inl.injEq] at hf;rw [<- hf,Nat.pow_succ];omega) (fun a ha=>by
      show nW s (a:Int) (s.length:Int)=_;unfold nW;rw [aw rfl]; rfl)
     rw [bY] at h;have h':KW s 0 0=_:=h;rw [h'];rfl
   . rw [if_neg (fun h=>h18 h.2),aG (by show (18:Int) < (s.length:Int); omega)];rfl
theorem JJ {s t:List UInt8} (h:s.length + t.length<=aT):FQ s t=true:=Nat.ble_eq_true_of_le h
def Lu (x:Int×Unit):List UInt8:=[UInt8.ofNat (48 + x.1.toNat / 16),UInt8.ofNat (48 + x.1.toNat % 16)]
def oL (l:aY):List UInt8:=(l.map Lu).flatten
theorem qT:∀ l:aY,(oL l).length=2 * l.length
 | []=>rfl
 | x :: r=>by have:=qT r;unfold oL at this ⊢;simp only [List.map_cons,List.flatten_cons,List.length_append,this,Lu,List.length_cons,List.length_nil];omega
def zI:List UInt8->aY
 | []=>[]
 | x :: r=>((x.toNat:Int),()) :: zI r
theorem sE:∀ q:List UInt8,strOf (zI q)=q
 | []=>rfl
 | x :: r=>by show UInt8.ofNat (Int.toNat (x.toNat:Int)) :: strOf (zI r)=_;rw [sE r,Int.toNat_natCast];simp
theorem uk:∀ q:List UInt8,(zI q).length=q.length
 | []=>rfl
 | x :: r=>congrArg (· + 1) (uk r)
theorem Ey:∀ q r:List UInt8,zI (q ++ r)=zI q ++ zI r
 | [],r=>rfl
 | x :: q,r=>congrArg (((x.toNat:Int),()) :: ·) (Ey q r)
theorem Co:∀ (n:Nat) (q:List UInt8),(zI q).drop n=zI (q.drop n)
 | 0,q=>by simp
 | n + 1,[]=>rfl
 | n + 1,x :: r=>Co n r
def jf (b:aY) (a n:Nat):Option (List UInt8) :=
 if 1<=n/\n<=38/\a + (n + 1) / 2<=b.length then
  (if (oL (eG b a ((n + 1) / 2))).all fM=true/\(n % 2=1->(oL (eG b a ((n + 1) / 2))).head? = some 48) then some ((oL (eG b a ((n + 1) / 2))).drop (n % 2)) else none)
 else none
def xX (o:Option (List UInt8)) (e:Int):Option (Unit×((List UInt8×Unit)×(Int×Unit)×(Bool×Unit)×Unit)):=some ((),match o with | some s=>((s,()),(e,()),(true,()),()) | none=>(([],()),(0,()),(false,()),()))
theorem zY {s:List UInt8}:s.head? = some 48↔∃ r,s=48 :: r:=by
 cases s with
 | nil=>simp
 | cons x r=>simp
theorem Kk (n:Nat) (h:n<=1048576):l9 .i64 (ai .i64 (n:Int) 1) 2=(((n + 1) / 2:Nat):Int):=by rw [ay (by omega) (by omega)];unfold l9;rw [Int.tdiv_eq_ediv_of_nonneg (by omega),IntKind.wrap_i64];omega
theorem OM (n:Nat):aq (fx (n:Int) 2) 1=decide (n % 2=1):=by
 unfold aq fx;rw [Int.tmod_eq_emod_of_nonneg (by omega)];by_cases h:n % 2=1
 . rw [decide_eq_true h]; exact beq_iff_eq.2 (by omega)
 . rw [decide_eq_false h]; exact beq_eq_false_iff_ne.2 (by omega)
theorem S4 (x:Int×Unit) (h:0<=x.1/\x.1<=255):strOf [((bG .u8 (ai .i64 48 (l9 .i64 (bG .i64 x.1) 16))),()),((bG .u8 (ai .i64 48 (fx (bG .i64 x.1) 16))),())]=Lu x:=by
 obtain ⟨⟨n,hn⟩,hn2⟩:(∃ n:Nat,x.1=n)/\x.1<=255:=⟨⟨x.1.toNat,by omega⟩,h.2⟩;have c:bG .i64 x.1=(n:Int):=by unfold bG; rw [IntKind.wrap_i64]; omega
 have q:l9 .i64 (n:Int) 16=((n / 16:Nat):Int):=by unfold l9; rw [Int.tdiv_eq_ediv_of_nonneg (by omega),IntKind.wrap_i64]; omega
 have r:fx (n:Int) 16=((n % 16:Nat):Int):=by unfold fx; rw [Int.tmod_eq_emod_of_nonneg (by omega)]; omega
 have u:∀ k:Nat,k<=16->bG .u8 (ai .i64 48 (k:Int))=((48 + k:Nat):Int):=fun k hk=>by rw [ay (by omega) (by omega)]; unfold bG; rw [IntKind.wrap_u8]; omega
 rw [c,q,r,u _ (by omega),u _ (by omega)];unfold strOf Lu;rw [hn];rfl
theorem VW:∀ c:Fin 256,ai .u8 48 (iC .u8 (c.val:Int) 4)=((48 + c.val / 16:Nat):Int)/\ai .u8 48 (Ad .u8 (c.val:Int) 15)=((48 + c.val % 16:Nat):Int):=by decide +kernel
theorem FU {s:List UInt8} (h:∃ r,s=48 :: r):(s.drop 1).all fM=s.all fM:=by obtain ⟨r,rfl⟩:=h;rfl
theorem Ik {s:List UInt8} (hs:s≠[]):aq (dx s 0) 48=true↔∃ r,s=48 :: r:=by
 cases s with
 | nil=>exact absurd rfl hs
 | cons x r =>
   show ((x.toNat:Int) == 48)=true↔_;rw [beq_iff_eq];refine ⟨fun h=>⟨r,?_⟩,fun ⟨r',h⟩ => ?_⟩
   . have:x=48:=UInt8.toNat_inj.1 (by show x.toNat=48; omega);rw [this]
   . rw [(List.cons.inj h).1]; rfl
theorem mV {s:List UInt8} (hs:s≠[]):aW s=s.all fM:=by
 cases h:s.all fM with
 | true=>exact dj.2 ⟨h,hs⟩
 | false =>
   cases h2:aW s with
   | false=>rfl
   | true=>rw [(dj.1 h2).1] at h; simp at h
theorem Mt {s:List UInt8} {n:Nat} (h:n < s.length):s.drop n≠[]:=fun e=>by have:=congrArg List.length e;rw [List.length_drop] at this;simp only [List.length_nil] at this;omega
theorem Eh (b:aY) (a n:Nat) (hb:yL b) (ha:a<=b.length) (hn:n<=1048576):xx b a n=xX (jf b a n) ((a + (n + 1) / 2:Nat):Int):=by
 have hbig:aT=140737488355328:=rfl;have hl:=hb.1;unfold xx jf;have e:aM .i64 (ae b) (a:Int)=(b.length:Int) - a:=aS (by show -4611686018427387904<=(b.length:Int) - a; omega) (by show (b.length:Int) - a<=_; omega);have hq:=Kk n hn;dsimp only;rw [e,hq,ax (a:=(a:Int)) (b:=0) (by omega),ax (a:=ae b) (b:=(a:Int)) (by show ¬ (b.length:Int) < a; omega)];by_cases h1:1<=n/\n<=38;rotate_left
 . rw [if_neg (fun h=>h1 ⟨h.1,h.2.1⟩)];by_cases h0:(n:Int) < 1
   . rw [aG h0]; rfl
   . rw [ax h0,aG (by omega)]; rfl
 rw [ax (a:=(n:Int)) (b:=1) (by omega),ax (a:=38) (b:=(n:Int)) (by omega)];dsimp only [cond_false,cond_true];by_cases h2:a + (n + 1) / 2<=b.length;rotate_left
 . rw [if_neg (fun h=>h2 h.2.2),aG (by omega)]; rfl
 rw [if_pos ⟨h1.1,h1.2,h2⟩,ax (by omega)];dsimp only [cond_false];have hpl:=lE h2;have h:=aI (step:=fh oY) (eG b a ((n + 1) / 2)) (fun i (o:List UInt8)=>(b,(a:Int),(n:Int),o,((a + i:Nat):Int),())) (fun _ x o=>Sum.inl (o ++ Lu x)) (fun o=> .inl (b,(a:Int),(n:Int),o,((a + (n + 1) / 2:Nat):Int),())) (fun i o=>o.length=2 * i) (a0:=[]) rfl (fun i x o hx ho=>by
  obtain ⟨hik,hg⟩:=Ja hx;have hlt:=aj hg;show oY b (a:Int) (n:Int) o ((a + i:Nat):Int)=_;unfold oY;rw [hq,ay (by omega) (by omega),aG (by omega),az hg,aV _ hg];dsimp only [cond_true];rw [S4 x (hb.2 x (List.mem_of_getElem? hg)),JJ (by show o.length + 2<=aT; omega),aJ (by omega)];rfl) (fun i x o o' hx ho hf=>by
  simp only [Sum.inl.injEq] at hf;rw [<- hf,List.length_append,ho];show 2 * i + 2=_;omega) (fun o ho=>by
  show oY b (a:Int) (n:Int) o ((a + (eG b a ((n + 1) / 2)).length:Nat):Int)=_;unfold oY;rw [hq,ay (by omega) (by omega),hpl,ax (by omega)]; rfl)
 have hfold:∀ (l:aY) (o:List UInt8),l.foldl (fun o x=>o ++ Lu x) o=o ++ oL l:=fun l=>by
  induction l with
  | nil=>intro o; simp [oL]
  | cons x r ih=>intro o; rw [List.foldl_cons,ih]; simp [oL]
 rw [bY,hfold,List.nil_append] at h;have h':KQ b (a:Int) (n:Int) [] (a:Int)=_:=h;rw [h'];generalize hs:oL (eG b a ((n + 1) / 2))=s;have hsl:s.length=2 * ((n + 1) / 2):=by rw [<- hs,qT,hpl]
 have hsne:s≠[]:=fun e=>by rw [e] at hsl; simp only [List.length_nil] at hsl; omega
 dsimp only [Option.bind_some,Sum.elim_inl];rw [OM,hq,ay (by omega) (by omega),show (a:Int) + (((n + 1) / 2:Nat):Int)=((a + (n + 1) / 2:Nat):Int) by omega];by_cases hp:n % 2=1
 . rw [decide_eq_true hp,hp];have i0:aR 0 s=true:=lq (i:=0) (by omega);have c1:dO 1 (ae s) s=true:=by
    show (decide ((0:Int)<=1) && (decide ((1:Int)<=(s.length:Int)) && decide ((s.length:Int)<=(s.length:Int))))=true;rw [decide_eq_true (by omega),decide_eq_true (by omega),decide_eq_true (by omega)]; rfl
   have sb:sub s 1 (ae s)=s.drop 1:=by show (s.take (Int.toNat (s.length:Int))).drop 1=_;rw [Int.toNat_natCast,List.take_length]
   rw [i0];dsimp only [cond_true];by_cases h48:∃ r,s=48 :: r
   . rw [(Ik hsne).2 h48];rw [c1,sb,fN _ (by rw [List.length_drop]; omega),mV (Mt (by omega)),FU h48];dsimp only [cond_true,Option.bind_some];cases hd:s.all fM with
     | false=>rw [if_neg (fun h=>by simp at h)]; rfl
     | true=>rw [if_pos ⟨rfl,fun _=>zY.2 h48⟩]; rfl
   . have:aq (dx s 0) 48=false:=by
      cases h:aq (dx s 0) 48 with
      | false=>rfl
      | true=>exact absurd ((Ik hsne).1 h) h48
     rw [this,if_neg (fun h=>h48 (zY.1 (h.2 rfl)))]; rfl
 . rw [decide_eq_false hp];have hp0:n % 2=0:=by omega
   rw [hp0];dsimp only [cond_false];rw [fN _ (by omega),mV hsne];dsimp only [Option.bind_some];cases hd:s.all fM with
   | false=>rw [if_neg (fun h=>by simp at h)]; rfl
   | true=>rw [if_pos ⟨rfl,fun h=>by simp at h⟩]; rfl
theorem Kz (b:aY) (a n:Nat) (hb:yL b) (ha:a<=b.length) (hn:n<=1048576):zS b a n=xX (jf b a n) ((a + (n + 1) / 2:Nat):Int):=by
 have hbig:aT=140737488355328:=rfl;have hl:=hb.1;unfold zS jf;rw [jb,Kk n hn];dsimp only [Option.bind_some];by_cases h1:1<=n/\n<=38;rotate_left
 . rw [if_neg (fun h=>h1 ⟨h.1,h.2.1⟩)];have:dI (n:Int) 1 38=false:=by
    cases h:dI (n:Int) 1 38 with
    | false=>rfl
    | true=>have:=gM.1 h; omega
   rw [this]; rfl
 rw [gM.2 (by omega:(1:Int)<=n/\(n:Int)<=38),zQ b a _ hl ha (by omega)];have hloop:∀ (t9:aY) (t10:Bool) (p:aY),(∀ x∈p,0<=x.1/\x.1<=255)->p.length<=20->Im (a:Int) (n:Int) t9 t10 [] p (ae p) 0=some (.inl ((a:Int),(n:Int),t9,t10,zI (oL p),p,ae p,(p.length:Int),())):=fun t9 t10 p hp hpl=>by
  have h:=aI (step:=yz pR) p (fun i (o:aY)=>((a:Int),(n:Int),t9,t10,o,p,ae p,((i:Nat):Int),())) (fun _ x o=>Sum.inl (o ++ zI (Lu x))) (fun o=> .inl ((a:Int),(n:Int),t9,t10,o,p,ae p,(p.length:Int),())) (fun i o=>o.length=2 * i) (a0:=[]) rfl (fun i x o hx ho=>by
   have hlt:=aj hx;have hx2:=hp x (List.mem_of_getElem? hx);show pR (a:Int) (n:Int) t9 t10 o p (ae p) (i:Int)=_;unfold pR;rw [aD hx,az hx,aV _ hx,aJ (by omega)];obtain ⟨k,hk⟩:∃ k:Nat,x.1=k:=⟨x.1.toNat,by omega⟩;have hf:=VW ⟨k,by omega⟩;dsimp only at hf;rw [hk,hf.1,hf.2];dsimp only [cond_true];have:∀ ys:aY,ys.length=2->ct 1 o ys=true:=fun ys hy=>Nat.ble_eq_true_of_le (by rw [hy]; omega)
   rw [this _ rfl];have e1:∀ m:Nat,m < 256->(UInt8.ofNat m).toNat=m:=fun m hm=>by simp [Nat.mod_eq_of_lt hm]
   show some (Sum.inl _)=some (Sum.inl _);unfold Lu;rw [hk];simp only [Int.toNat_natCast,zI,j3,e1 (48 + k / 16) (by omega),e1 (48 + k % 16) (by omega)]) (fun i x o o' hx ho hf=>by
   simp only [Sum.inl.injEq] at hf;rw [<- hf,List.length_append,ho];show 2 * i + 2=_;omega) (fun o ho=>by
   show pR (a:Int) (n:Int) t9 t10 o p (ae p) (p.length:Int)=_;unfold pR;rw [aw rfl]; rfl)
  have hfold:∀ (l:aY) (o:aY),l.foldl (fun o x=>o ++ zI (Lu x)) o=o ++ zI (oL l):=fun l=>by
   induction l with
   | nil=>intro o; show o=o ++ []; rw [List.append_nil]
   | cons x r ih=>intro o; rw [List.foldl_cons,ih,show oL (x :: r)=Lu x ++ oL r from rfl,Ey,List.append_assoc]
  rw [bY,hfold,List.nil_append] at h;exact h
 by_cases h2:a + (n + 1) / 2<=b.length;rotate_left
 . rw [if_neg h2,if_neg (fun h=>h2 h.2.2)];exact (bn (hloop [] false [] (fun x hx=>by simp at hx) (by simp))).trans rfl
 rw [if_pos h2,if_pos ⟨h1.1,h1.2,h2⟩];have hpl:=lE h2;refine (bn (hloop _ true _ (fun x hx=>hb.2 x (R7 hx)) (by omega))).trans ?_;generalize hs:oL (eG b a ((n + 1) / 2))=s;have hsl:s.length=2 * ((n + 1) / 2):=by rw [<- hs,qT,hpl]
 have hsne:s≠[]:=fun e=>by rw [e] at hsl; simp only [List.length_nil] at hsl; omega
 show Option.bind (tZ (strOf (zI s))) _=_;rw [sE,gJ _ (by omega),mV hsne];generalize hm:zI s=m;have hlm:ae m=(s.length:Int):=by rw [<- hm]; show ((zI s).length:Int)=_; rw [uk]
 have hcut:aM .i64 (s.length:Int) (n:Int)=((n % 2:Nat):Int):=by rw [aS (by omega) (by omega)]; omega
 have hpc:ae (eG b a ((n + 1) / 2))=(((n + 1) / 2:Nat):Int):=by show ((eG b a _).length:Int)=_; rw [hpl]
 have c1:dO ((n % 2:Nat):Int) (s.length:Int) m=true:=by show (decide ((0:Int)<=((n % 2:Nat):Int)) && (decide (((n % 2:Nat):Int)<=(s.length:Int)) && decide ((s.length:Int)<=(m.length:Int))))=true;rw [show (m.length:Int)=(s.length:Int) from hlm,decide_eq_true (by omega),decide_eq_true (by omega),decide_eq_true (by omega)]; rfl
 have sb:strOf (sub m ((n % 2:Nat):Int) (s.length:Int))=s.drop (n % 2):=by rw [<- hm];show strOf (((zI s).take (Int.toNat (s.length:Int))).drop (Int.toNat ((n % 2:Nat):Int)))=_;rw [Int.toNat_natCast,Int.toNat_natCast,List.take_of_length_le (by rw [uk]; exact Nat.le_refl _)];exact (congrArg strOf (Co _ _)).trans (sE _)
 have hF:(cond (dO (aM .i64 (ae m) (n:Int)) (ae m) m) (some ((),((strOf (sub m (aM .i64 (ae m) (n:Int)) (ae m)),()),(ai .i64 (a:Int) (ae (eG b a ((n + 1) / 2))),()),(true,()),()))) none:Option (Unit×((List UInt8×Unit)×(Int×Unit)×(Bool×Unit)×Unit)))=xX (some (s.drop (n % 2))) ((a + (n + 1) / 2:Nat):Int):=by rw [hlm,hcut,hpc,ay (by omega) (by omega),c1,sb,show (a:Int) + (((n + 1) / 2:Nat):Int)=((a + (n + 1) / 2:Nat):Int) by omega];rfl
 show cond (!(s.all fM)) (some ((),(([],()),(0,()),(false,()),()))) (cond (aq (fx (n:Int) 2) 1) (cond (aR 0 m) (cond (!(aq (gt (0,()) m 0).1 48)) (some ((),(([],()),(0,()),(false,()),()))) (cond (dO (aM .i64 (ae m) (n:Int)) (ae m) m) (some ((),((strOf (sub m (aM .i64 (ae m) (n:Int)) (ae m)),()),(ai .i64 (a:Int) (ae (eG b a ((n + 1) / 2))),()),(true,()),()))) none)) none)
  (cond (dO (aM .i64 (ae m) (n:Int)) (ae m) m) (some ((),((strOf (sub m (aM .i64 (ae m) (n:Int)) (ae m)),()),(ai .i64 (a:Int) (ae (eG b a ((n + 1) / 2))),()),(true,()),()))) none))=_
 rw [hF,OM];cases hd:s.all fM with
 | false=>rw [if_neg (fun h=>by simp at h)]; rfl
 | true =>
   by_cases hp:n % 2=1
   . rw [decide_eq_true hp];subst hm;have hm0:∃ x r,s=x :: r:=by
      cases s with
      | nil=>exact absurd rfl hsne
      | cons x r=>exact ⟨x,r,rfl⟩
     obtain ⟨x,r,rfl⟩:=hm0;have i0:aR 0 (zI (x :: r))=true:=lq (i:=0) (by rw [uk]; simp);rw [i0];show cond (!(aq (x.toNat:Int) 48)) _ _=_;by_cases h48:x.toNat=48
     . have hx:x=48:=UInt8.toNat_inj.1 h48;rw [show aq (x.toNat:Int) 48=true from beq_iff_eq.2 (by omega),if_pos ⟨rfl,fun _=>by rw [hx]; rfl⟩]; rfl
     . rw [show aq (x.toNat:Int) 48=false from beq_eq_false_iff_ne.2 (by omega),if_neg (fun h=>by obtain ⟨r',h⟩:=zY.1 (h.2 hp);rw [(List.cons.inj h).1] at h48;exact h48 rfl)]; rfl
   . rw [decide_eq_false hp,if_pos ⟨rfl,fun h=>absurd h hp⟩]; rfl
def qM (p:aY) (i:Nat):Bool:=aq (fx (iC .i64 (bG .i64 (p.getD (i / 8) (0,())).1) ((7 - i % 8:Nat):Int)) 2) 1
def dS (p:aY):aY:=((List.range 64).filter (qM p)).map fun i=>(((i + 1:Nat):Int),())
theorem RK:∀ (c:Fin 256) (r:Fin 8),(!(aq (Ad .u8 (c.val:Int) (iC .u8 128 (r.val:Int))) 0))=aq (fx (iC .i64 (bG .i64 (c.val:Int)) ((7 - r.val:Nat):Int)) 2) 1:=by decide +kernel
theorem sO (p:aY):∀ (l:List Nat) (o:aY),l.foldl (fun o i=>bif qM p i then o ++ [(((i + 1:Nat):Int),())] else o) o=o ++ (l.filter (qM p)).map fun i=>(((i + 1:Nat):Int),())
 | [],o=>by simp
 | i :: l,o=>by rw [List.foldl_cons,sO p l,List.filter_cons];cases qM p i <;> simp
theorem Fh {i x:Nat} (h:(List.range 64)[i]? = some x):x=i/\i < 64:=by have:=(List.getElem?_eq_some_iff.1 h);obtain ⟨h1,h2⟩:=this;rw [List.getElem_range] at h2;exact ⟨h2.symm,by simpa using h1⟩
theorem U5 {i:Nat} (h:i < 64):aM .i64 ((i + 1:Nat):Int) 1=(i:Int)/\l9 .i64 (i:Int) 8=((i / 8:Nat):Int)/\fx (i:Int) 8=((i % 8:Nat):Int)/\bH ((i + 1:Nat):Int) 64=true:=by
 refine ⟨by rw [aS (by omega) (by omega)]; omega,?_,?_,decide_eq_true (by omega)⟩
 . unfold l9;rw [Int.tdiv_eq_ediv_of_nonneg (by omega),IntKind.wrap_i64];omega
 . unfold fx;rw [Int.tmod_eq_emod_of_nonneg (by omega)];omega
def nL (b:aY) (a:Nat):Option (Unit×((aY×Unit)×(Int×Unit)×(Bool×Unit)×Unit)):=some ((),(if a + 8<=b.length then ((dS (eG b a 8),()),(((a + 8:Nat):Int),()),(true,()),()) else (([],()),(0,()),(false,()),())))
theorem Ea (b:aY) (a k i:Nat) (hi:i < k) (h:a + k<=b.length):∃ x,b[a + i]? = some x/\(eG b a k).getD i (0,())=x/\(eG b a k)[i]? = some x:=by obtain ⟨x,hx⟩:∃ x,(eG b a k)[i]? = some x:=⟨_,List.getElem?_eq_getElem (by rw [lE h]; exact hi)⟩;exact ⟨x,(Ja hx).2,by rw [List.getD_eq_getElem?_getD,hx]; rfl,hx⟩
theorem Kf (b:aY) (a:Nat) (hb:yL b) (ha:a<=b.length):CV b a=nL b a:=by
 have hbig:aT=140737488355328:=rfl;have hl:=hb.1;unfold CV nL;have e:aM .i64 (ae b) 8=(b.length:Int) - 8:=aS (by show -4611686018427387904<=(b.length:Int) - 8; omega) (by show (b.length:Int) - 8<=_; omega);rw [e,ax (a:=(a:Int)) (b:=0) (by omega)];by_cases h8:a + 8<=b.length;rotate_left
 . rw [if_neg h8,aG (by omega)]; rfl
 rw [if_pos h8,ax (by omega)];have h:=aI (step:=cV sx) (List.range 64) (fun i (o:aY)=>(b,(a:Int),o,((i + 1:Nat):Int),())) (fun _ x o=>Sum.inl (bif qM (eG b a 8) x then o ++ [(((x + 1:Nat):Int),())] else o)) (fun o=> .inl (b,(a:Int),o,65,())) (fun i o=>o.length<=i) (a0:=[]) (Nat.le_refl _) (fun i x o hx ho=>by
  obtain ⟨rfl,hi⟩:=Fh hx;obtain ⟨e1,e2,e3,e4⟩:=U5 hi;obtain ⟨c,hc,hd,_⟩:=Ea b a 8 (x / 8) (by omega) h8;show sx b (a:Int) o ((x + 1:Nat):Int)=_;unfold sx;have e5:aM .i64 7 ((x % 8:Nat):Int)=((7 - x % 8:Nat):Int):=by rw [aS (by omega) (by omega)]; omega
  have e6:ai .i64 (a:Int) ((x / 8:Nat):Int)=((a + x / 8:Nat):Int):=by rw [ay (by omega) (by omega)]; omega
  have hbit:qM (eG b a 8) x=aq (fx (iC .i64 (bG .i64 c.1) ((7 - x % 8:Nat):Int)) 2) 1:=by unfold qM; rw [hd]
  dsimp only;rw [e4,e1,e2,e3,e5,e6,az hc,aV _ hc,show bH 0 ((7 - x % 8:Nat):Int)=true from decide_eq_true (by omega),<- hbit,aJ (by omega)];have:ct 8 o [(((x + 1:Nat):Int),())]=true:=Nat.ble_eq_true_of_le (by show (o.length + 1) * 8<=aT; omega);rw [this];cases qM (eG b a 8) x <;> rfl) (fun i x o o' hx ho hf=>by
  simp only [Sum.inl.injEq] at hf;rw [<- hf];cases qM (eG b a 8) x with
  | false=>show o.length<=_; omega
  | true=>show (o ++ [_]).length<=_; rw [List.length_append]; show o.length + 1<=_; omega) (fun o ho=>by
  show sx b (a:Int) o (((List.range 64).length + 1:Nat):Int)=_;rfl)
 rw [bY,sO,List.nil_append] at h;have h':Ih b (a:Int) [] 1=_:=h;refine (bn h').trans ?_;show some ((),((_,()),(ai .i64 (a:Int) 8,()),(true,()),()))=_;rw [ay (by omega) (by omega)];rfl
theorem H7 (b:aY) (a:Nat) (hb:yL b) (ha:a<=b.length):AF b a=nL b a:=by
 have hbig:aT=140737488355328:=rfl;have hl:=hb.1;unfold AF nL;have hp:zX b (a:Int) 8=_:=zQ b a 8 hl ha (by decide);rw [hp];by_cases h8:a + 8<=b.length;rotate_left
 . rw [if_neg h8,if_neg h8]; rfl
 rw [if_pos h8,if_pos h8];generalize hq:eG b a 8=p;have h:=aI (step:=cV rQ) (List.range 64) (fun i (o:aY)=>((a:Int),p,o,((i + 1:Nat):Int),())) (fun _ x o=>Sum.inl (bif qM p x then o ++ [(((x + 1:Nat):Int),())] else o)) (fun o=> .inl ((a:Int),p,o,65,())) (fun i o=>o.length<=i) (a0:=[]) (Nat.le_refl _) (fun i x o hx ho=>by
  obtain ⟨rfl,hi⟩:=Fh hx;obtain ⟨e1,e2,e3,e4⟩:=U5 hi;obtain ⟨c,hc,hd,hc2⟩:=Ea b a 8 (x / 8) (by omega) h8;rw [hq] at hd hc2;have hcb:=hb.2 c (List.mem_of_getElem? hc);show rQ (a:Int) p o ((x + 1:Nat):Int)=_;unfold rQ;obtain ⟨k,hk⟩:∃ k:Nat,c.1=k:=⟨c.1.toNat,by omega⟩;have hbe:=RK ⟨k,by omega⟩ ⟨x % 8,by omega⟩;dsimp only at hbe;have hbit:qM p x= !(aq (Ad .u8 c.1 (iC .u8 128 ((x % 8:Nat):Int))) 0):=by unfold qM; rw [hd,hk,hbe]
  dsimp only;rw [e4,e1,e2,e3,az hc2,aV _ hc2,show bH 0 ((x % 8:Nat):Int)=true from decide_eq_true (by omega),<- hbit,aJ (by omega)];have:ct 8 o [(((x + 1:Nat):Int),())]=true:=Nat.ble_eq_true_of_le (by show (o.length + 1) * 8<=aT; omega);rw [this];cases qM p x <;> rfl) (fun i x o o' hx ho hf=>by
  simp only [Sum.inl.injEq] at hf;rw [<- hf];cases qM p x with
  | false=>show o.length<=_; omega
  | true=>show (o ++ [_]).length<=_; rw [List.length_append]; show o.length + 1<=_; omega) (fun o ho=>by
  show rQ (a:Int) p o (((List.range 64).length + 1:Nat):Int)=_;rfl)
 rw [bY,sO,List.nil_append] at h;have h':IY (a:Int) p [] 1=_:=h;refine (bn h').trans ?_;show some ((),((_,()),(ai .i64 (a:Int) 8,()),(true,()),()))=_;rw [ay (by omega) (by omega)];rfl
theorem kL (p:aY):(dS p).length<=64:=by unfold dS;rw [List.length_map];exact Nat.le_trans (List.length_filter_le _ _) (by simp)
theorem Jd {p:aY} {x:Int×Unit} (h:x∈dS p):1<=x.1/\x.1<=64:=by obtain ⟨i,hi,rfl⟩:=List.mem_map.1 h;have:=List.mem_range.1 (List.mem_filter.1 hi).1;constructor <;> (show _<=_) <;> omega
abbrev P7:=Int×Int×Int×Unit
def iE:List P7:=[(2,3,19,()),(3,1,6,()),(4,1,12,()),(7,1,10,()),(11,1,6,()),(14,1,4,()),(37,2,12,()),(38,2,6,()),(39,2,2,()),(41,2,8,()),(48,5,60,()),(49,1,3,()),(54,5,60,()),(95,2,12,()),(102,4,20,()),(103,4,20,())]
def FC (no:Int):P7:=(iE.find? fun r=>aq r.1 no).getD (0,0,0,())
def bt (no:Int):Int:=(FC no).2.1
def gQ (no:Int):Int:=(FC no).2.2.1
theorem nD {α Y:Type} (p:α->Bool) (y:α->Y) (z:Y):∀ (l:List α) (i:Nat),jO (fun _ x (_:Unit)=>bif p x then .inr (y x) else .inl ()) (fun _=>z) i l ()=match l.find? p with | some x=>y x | none=>z
 | [],_=>rfl
 | x :: l,i=>by
   have ih:=nD p y z l (i + 1);rw [List.find?_cons,jO];cases p x with
   | true=>rfl
   | false=>exact ih
theorem Ir (no:Int):FO no=some ((),(FC no,())):=by
 unfold FO;have h:=aH (step:=fh rU) iE (fun i (_:Unit)=>(no,iE,ae iE,((i:Nat):Int),(0,0,0,()),())) (fun _ x _=>bif aq x.1 no then .inr (.inr (x,())) else .inl ()) (fun _=> .inl (no,iE,ae iE,(iE.length:Int),(0,0,0,()),())) (a0:=()) (fun i x a hx=>by
  have hlt:=aj hx;have h16:iE.length=16:=rfl;have hbig:aT=140737488355328:=rfl;show rU no iE (ae iE) (i:Int) (0,0,0,())=_;unfold rU;rw [aD hx,az hx,aV _ hx,aJ (by omega)];dsimp only [cond_true];cases aq x.1 no <;> rfl) (fun a=>by
  show rU no iE (ae iE) (iE.length:Int) (0,0,0,())=_;rfl)
 rw [nD] at h;have h':Ii no iE (ae iE) 0 (0,0,0,())=_:=h;refine (bn h').trans ?_;unfold FC;cases iE.find? _ <;> rfl
theorem sG (no:Int):no=2∨no=3∨no=4∨no=7∨no=11∨no=14∨no=37∨no=38∨no=39∨no=41∨no=48∨no=49∨no=54∨no=95∨no=102∨no=103∨∀ k∈[2,3,4,7,11,14,37,38,39,41,48,49,54,95,102,103],aq no k=false/\aq k no=false:=by
 by_cases h:∀ k∈[2,3,4,7,11,14,37,38,39,41,48,49,54,95,102,103],no≠k
 . have:∀ k∈[2,3,4,7,11,14,37,38,39,41,48,49,54,95,102,103],aq no k=false/\aq k no=false:=fun k hk=>⟨beq_eq_false_iff_ne.2 (h k hk),beq_eq_false_iff_ne.2 (Ne.symm (h k hk))⟩
   iterate 16 right
   exact this
 . simp only [Classical.not_forall,Classical.not_not] at h;obtain ⟨k,hk,rfl⟩:=h;simp only [List.mem_cons,List.not_mem_nil,or_false] at hk;rcases hk with h | h | h | h | h | h | h | h | h | h | h | h | h | h | h | h <;> simp [h]
theorem zz {no:Int} (h:∀ k∈[2,3,4,7,11,14,37,38,39,41,48,49,54,95,102,103],aq no k=false/\aq k no=false):FC no=(0,0,0,()):=by unfold FC iE;simp only [List.find?_cons,(h 2 (by simp)).2,(h 3 (by simp)).2,(h 4 (by simp)).2,(h 7 (by simp)).2,(h 11 (by simp)).2,(h 14 (by simp)).2,(h 37 (by simp)).2,(h 38 (by simp)).2,(h 39 (by simp)).2,(h 41 (by simp)).2,(h 48 (by simp)).2,(h 49 (by simp)).2,(h 54 (by simp)).2,(h 95 (by simp)).2,(h 102 (by simp)).2,(h 103 (by simp)).2,List.find?_nil,Option.getD_none]
theorem Dq (no:Int):F4 no=some ((),((bt no,()),())):=by
 rcases sG no with rfl | rfl | rfl | rfl | rfl | rfl | rfl | rfl | rfl | rfl | rfl | rfl | rfl | rfl | rfl | rfl | h
 all_goals first | rfl | skip
 unfold F4 bt;rw [zz h];simp only [(h 2 (by simp)).1,(h 3 (by simp)).1,(h 4 (by simp)).1,(h 7 (by simp)).1,(h 11 (by simp)).1,(h 14 (by simp)).1,(h 37 (by simp)).1,(h 38 (by simp)).1,(h 39 (by simp)).1,(h 41 (by simp)).1,(h 48 (by simp)).1,(h 49 (by simp)).1,(h 54 (by simp)).1,(h 95 (by simp)).1,(h 102 (by simp)).1,(h 103 (by simp)).1,cond_false]
theorem Ix (no:Int):Is no=some ((),((gQ no,()),())):=by
 rcases sG no with rfl | rfl | rfl | rfl | rfl | rfl | rfl | rfl | rfl | rfl | rfl | rfl | rfl | rfl | rfl | rfl | h
 all_goals first | rfl | skip
 unfold Is gQ;rw [zz h];simp only [(h 2 (by simp)).1,(h 3 (by simp)).1,(h 4 (by simp)).1,(h 7 (by simp)).1,(h 11 (by simp)).1,(h 14 (by simp)).1,(h 37 (by simp)).1,(h 38 (by simp)).1,(h 39 (by simp)).1,(h 41 (by simp)).1,(h 48 (by simp)).1,(h 49 (by simp)).1,(h 54 (by simp)).1,(h 95 (by simp)).1,(h 102 (by simp)).1,(h 103 (by simp)).1,cond_false]
theorem z8 (no:Int):CR no=some ((),((bt no,()),())):=by unfold CR; rw [Ir]; rfl
theorem QN (no:Int):Ly no=some ((),((gQ no,()),())):=by unfold Ly; rw [Ir]; rfl
theorem kinds (no:Int):∃ n:Nat,gQ no=n/\((bt no=0/\n=0)∨(bt no=1/\1<=n/\n<=12)∨(bt no=2/\1<=n/\n<=12)∨(bt no=3/\n=19)∨(bt no=4/\n=20)∨(bt no=5/\n=60)):=by
 rcases sG no with rfl | rfl | rfl | rfl | rfl | rfl | rfl | rfl | rfl | rfl | rfl | rfl | rfl | rfl | rfl | rfl | h
 . exact ⟨19,rfl,by decide⟩
 . exact ⟨6,rfl,by decide⟩
 . exact ⟨12,rfl,by decide⟩
 . exact ⟨10,rfl,by decide⟩
 . exact ⟨6,rfl,by decide⟩
 . exact ⟨4,rfl,by decide⟩
 . exact ⟨12,rfl,by decide⟩
 . exact ⟨6,rfl,by decide⟩
 . exact ⟨2,rfl,by decide⟩
 . exact ⟨8,rfl,by decide⟩
 . exact ⟨60,rfl,by decide⟩
 . exact ⟨3,rfl,by decide⟩
 . exact ⟨60,rfl,by decide⟩
 . exact ⟨12,rfl,by decide⟩
 . exact ⟨20,rfl,by decide⟩
 . exact ⟨20,rfl,by decide⟩
 . exact ⟨0,by unfold gQ; rw [zz h]; rfl,.inl ⟨by unfold bt; rw [zz h],rfl⟩⟩
theorem dR {b:aY} {a n:Nat} {s:List UInt8} (h:jf b a n=some s):s.all fM=true/\s.length=n/\1<=n/\n<=38/\a + (n + 1) / 2<=b.length:=by
 unfold jf at h;split at h
 . rename_i h1;split at h
   . rename_i h2;cases h;have hl:(oL (eG b a ((n + 1) / 2))).length=2 * ((n + 1) / 2):=by rw [qT,lE h1.2.2]
     refine ⟨List.all_eq_true.2 fun x hx=>List.all_eq_true.1 h2.1 x (List.mem_of_mem_drop hx),?_,h1⟩;rw [List.length_drop,hl];omega
   . simp at h
 . simp at h
theorem lh {s:List UInt8} {n:Nat} (h:s.length=n) (hn:1<=n):s≠[]:=fun e=>by rw [e] at h; simp only [List.length_nil] at h; omega
theorem BE {s:List UInt8} {n:Nat} (h:s.all fM=true) (hl:s.length=n) (h1:1<=n) (h2:n<=18):yb s=some (lg 0 s):=by unfold yb;rw [if_pos ⟨dj.2 ⟨h,lh hl h1⟩,by omega⟩]
def FA (b:aY) (a d:Nat):Option (Unit×((Int×Unit)×(Int×Unit)×(Bool×Unit)×Unit)):=some ((),match jf b a d with | some t=>(((lg 0 t:Int),()),(((a + (d + 1) / 2:Nat):Int),()),(true,()),()) | none=>((0,()),(0,()),(false,()),()))
theorem G3:ua []=some ((),((0,()),(false,()),())):=EV [] (Nat.zero_le _)
theorem Te (b:aY) (a d:Nat) (hb:yL b) (ha:a<=b.length) (hd:d=2∨d=3):Io b a d=FA b a d:=by
 have hbig:aT=140737488355328:=rfl;unfold Io FA;have hc:cond (!(aq (d:Int) 2)) (!(aq (d:Int) 3)) false=false:=by rcases hd with rfl | rfl <;> rfl
 rw [hc,Eh b a d hb ha (by omega)];unfold xX;cases ho:jf b a d with
 | none => refine (bn G3).trans ?_;rfl
 | some t => obtain ⟨h1,h2,h3,h4,h5⟩:=dR ho;have hn:ua t=_:=EV t (by omega);rw [BE h1 h2 h3 (by omega)] at hn;refine (bn hn).trans ?_;rfl
theorem WG (b:aY) (a d:Nat) (hb:yL b) (ha:a<=b.length) (hd:d=2∨d=3):GO b a d=FA b a d:=by
 have hbig:aT=140737488355328:=rfl;unfold GO FA;rw [jb,gM.2 (by omega:(2:Int)<=d/\(d:Int)<=3),Kz b a d hb ha (by omega)];unfold xX;cases ho:jf b a d with
 | none=>rfl
 | some t => obtain ⟨h1,h2,h3,h4,h5⟩:=dR ho;have hn:DX t=_:=OO t (by omega);rw [BE h1 h2 h3 (by omega)] at hn;refine (bn hn).trans ?_;rfl
def ja (no:Int) (s:List UInt8):Bool:=cond (aq (bt no) 1) (cond (aW s) (aq (ae s) (gQ no)) false) (cond (aq (bt no) 2) (cond (dV s) (aq (ae s) (gQ no)) false) (cond (aq (bt no) 3) (cond (aW s) (dI (ae s) 1 (gQ no)) false) (cond (aq (bt no) 4) (cond (dV s) (dI (ae s) 1 (gQ no)) false) (cond (aq (bt no) 5) (cond (dV s) (dI (ae s) 1 (gQ no)) false) false))))
theorem UH (no:Int) (s:List UInt8) (hs:s.length<=aT):Nx no s=some ((),((ja no s,()),())):=by
 unfold Nx ja;rw [Dq,Ix];dsimp only [Option.bind_some];rw [fN s hs,Fa s hs];dsimp only [Option.bind_some];rw [kN];dsimp only [Option.bind_some];cases aq (bt no) 1 with
 | true=>rfl
 | false =>
 cases aq (bt no) 2 with
 | true=>rfl
 | false =>
 cases aq (bt no) 3 with
 | true =>
   show some ((),((cond (aW s) (bH (ae s) (gQ no)) false,()),()))=some ((),((cond (aW s) (dI (ae s) 1 (gQ no)) false,()),()));cases hd:aW s with
   | false=>rfl
   | true =>
     have h1:bH 1 (ae s)=true:=by
      have:=(dj.1 hd).2;cases s with
      | nil=>exact absurd rfl this
      | cons x r=>exact decide_eq_true (by show (1:Int)<=((r.length + 1:Nat):Int); omega)
     unfold dI;rw [h1]; rfl
 | false =>
 cases aq (bt no) 4 with
 | true=>cases dV s <;> rfl
 | false =>
 cases aq (bt no) 5 with
 | true=>cases dV s <;> rfl
 | false=>rfl
theorem JZ (no:Int) (s:List UInt8) (hs:s.length<=aT):xU no s=some ((),((ja no s,()),())):=by
 unfold xU ja;rw [Ir,gJ s hs,LO s hs];dsimp only [Option.bind_some];rw [jb];dsimp only [Option.bind_some];show cond (aq (bt no) 1) _ (cond (aq (bt no) 2) _ (cond (aq (bt no) 3) _ (cond (aq (bt no) 4) _ (cond (aq (bt no) 5) _ _))))=_;cases aq (bt no) 1 with
 | true=>rfl
 | false =>
 cases aq (bt no) 2 with
 | true=>rfl
 | false =>
 cases aq (bt no) 3 with
 | true=>cases aW s <;> rfl
 | false =>
 cases aq (bt no) 4 with
 | true=>cases dV s <;> rfl
 | false =>
 cases aq (bt no) 5 with
 | true=>cases dV s <;> rfl
 | false=>rfl
def oP (b:aY) (a n:Nat):Option (List UInt8×Nat):=if a + n<=b.length then (bif dV (strOf (eG b a n)) then some (strOf (eG b a n),a + n) else none) else none
def rf (b:aY) (a n:Nat):Option (List UInt8×Nat):=(jf b a n).map fun s=>(s,a + (n + 1) / 2)
def Aj (b:aY) (a d n:Nat) (f:Nat->Nat->Option (List UInt8×Nat)):Option (List UInt8×Nat):=match jf b a d with
 | some t=>if 1<=lg 0 t/\lg 0 t<=n then f (a + (d + 1) / 2) (lg 0 t) else none
 | none=>none
def nK (b:aY) (a:Nat) (no:Int):Option (List UInt8×Nat) :=
 if bt no=1 then rf b a (gQ no).toNat else if bt no=2 then oP b a (gQ no).toNat
 else if bt no=3 then Aj b a 2 (gQ no).toNat (rf b) else if bt no=4 then Aj b a 2 (gQ no).toNat (oP b)
 else if bt no=5 then Aj b a 3 (gQ no).toNat (oP b) else none
def lR (o:Option (List UInt8×Nat)):Option (Unit×((List UInt8×Unit)×(Int×Unit)×(Bool×Unit)×Unit)):=some ((),match o with | some s=>((s.1,()),((s.2:Int),()),(true,()),()) | none=>(([],()),(0,()),(false,()),()))
theorem kJ (p:aY):(strOf p).length=p.length:=by unfold strOf; exact List.length_map _
theorem EY (b:aY) (a n:Nat):(match xX (jf b a n) ((a + (n + 1) / 2:Nat):Int) with | some y=>some ((),(y.2.1,y.2.2.1,y.2.2.2.1,())) | none=>none)=lR (rf b a n):=by unfold xX rf lR;cases jf b a n <;> rfl
noncomputable def Oh (b:aY) (a n:Int):Option (Unit×((List UInt8×Unit)×(Int×Unit)×(Bool×Unit)×Unit)) :=
 cond (cond (au (ae b) a) true (au (aM .i64 (ae b) a) n)) (some ((),(([],()),(0,()),(false,()),()))) (cond (dO a (ai .i64 a n) b) (Option.bind (zy (strOf (sub b a (ai .i64 a n)))) fun y=>cond (!y.2.1.1) (some ((),(([],()),(0,()),(false,()),()))) (cond (dO a (ai .i64 a n) b) (some ((),((strOf (sub b a (ai .i64 a n)),()),(ai .i64 a n,()),(true,()),()))) none)) none)
theorem JO (b:aY) (a n:Nat) (hb:yL b) (ha:a<=b.length) (hn:n<=1048576) :
 Oh b a n=lR (oP b a n):=by
 have hbig:aT=140737488355328:=rfl;have hl:=hb.1;have e:aM .i64 (ae b) (a:Int)=(b.length:Int) - a:=aS (by show -4611686018427387904<=(b.length:Int) - a; omega) (by show (b.length:Int) - a<=_; omega);have e2:ai .i64 (a:Int) (n:Int)=((a + n:Nat):Int):=by rw [ay (by omega) (by omega)]; omega
 unfold oP Oh;rw [e,e2,ax (a:=ae b) (b:=(a:Int)) (by show ¬ (b.length:Int) < a; omega)];by_cases h:a + n<=b.length;rotate_left
 . rw [if_neg h,aG (by omega)]; rfl
 have hs:strOf (sub b (a:Int) ((a + n:Nat):Int))=strOf (eG b a n):=congrArg strOf (J9 b a n);rw [if_pos h,ax (by omega),EZ h,hs,Fa _ (by rw [kJ,lE h]; omega)];dsimp only [Option.bind_some,cond_false,cond_true];cases dV (strOf (eG b a n)) <;> rfl
theorem Vc (b:aY) (a:Nat) (no:Int) (hb:yL b) (ha:a<=b.length):M9 b a no=lR (nK b a no):=by
 have hbig:aT=140737488355328:=rfl;have hl:=hb.1;obtain ⟨n,hn,hk⟩:=kinds no;have h0:au (a:Int) 0=false:=ax (by omega)
 have hvar:∀ (d:Nat) (w:Int) (f:Nat->Nat->Option (List UInt8×Nat)) (F:Int->Int->Option (Unit×((List UInt8×Unit)×(Int×Unit)×(Bool×Unit)×Unit))),(d=2∨d=3)->(∀ a' k:Nat,a'<=b.length->k<=1048576->F (a':Int) (k:Int)=lR (f a' k)) ->
  (Option.bind (Io b a d) fun y5=>cond (!y5.2.2.2.1.1) (some ((),(([],()),(0,()),(false,()),()))) (Option.bind (qN y5.2.1.1 1 (n:Int)) fun y6=>cond (!y6.2.1.1) (some ((),(([],()),(0,()),(false,()),()))) (F y5.2.2.1.1 y5.2.1.1)))=lR (Aj b a d n f):=by
  intro d w f F hd hF;rw [Te b a d hb ha hd];unfold FA Aj;cases ho:jf b a d with
  | none=>rfl
  | some t =>
    obtain ⟨h1,h2,h3,h4,h5⟩:=dR ho;have hv:=Ay t 0 0 h1 (by decide);have hv2:lg 0 t < 1000:=Nat.lt_of_lt_of_le hv (by rw [Nat.zero_add,h2]; exact Nat.pow_le_pow_right (by decide) (by omega:d<=3));dsimp only [Option.bind_some];rw [kN];dsimp only [Option.bind_some];by_cases hin:1<=lg 0 t/\lg 0 t<=n
    . rw [if_pos hin,gM.2 (by omega)];exact hF _ _ h5 (by omega)
    . rw [if_neg hin];have:dI (lg 0 t:Int) 1 (n:Int)=false:=by
       cases h:dI (lg 0 t:Int) 1 (n:Int) with
       | false=>rfl
       | true=>have:=gM.1 h; omega
      rw [this]; rfl
 unfold M9 nK;rw [Dq,Ix,hn,h0];have hnn:Int.toNat (n:Int)=n:=Int.toNat_natCast n;rcases hk with ⟨hk,hz⟩ | ⟨hk,hz⟩ | ⟨hk,hz⟩ | ⟨hk,hz⟩ | ⟨hk,hz⟩ | ⟨hk,hz⟩
 . rw [hk]; rfl
 . rw [hk,hnn];show (Option.bind (xx b a n) fun y=>some ((),(y.2.1,y.2.2.1,y.2.2.2.1,())))=lR (rf b a n);rw [Eh b a n hb ha (by omega),<- EY];rfl
 . rw [hk,hnn];exact JO b a n hb ha (by omega)
 . rw [hk,hnn];exact hvar 2 0 (rf b) (fun a' k=>Option.bind (xx b a' k) fun y=>some ((),(y.2.1,y.2.2.1,y.2.2.2.1,()))) (.inl rfl) fun a' k ha' hk'=>by show (Option.bind (xx b (a':Int) (k:Int)) _)=_;rw [Eh b a' k hb ha' hk',<- EY];rfl
 . rw [hk,hnn];exact hvar 2 0 (oP b) (Oh b) (.inl rfl) fun a' k ha' hk'=>JO b a' k hb ha' hk'
 . rw [hk,hnn];exact hvar 3 0 (oP b) (Oh b) (.inr rfl) fun a' k ha' hk'=>JO b a' k hb ha' hk'
noncomputable def Gd (b:aY) (no a n:Int):Option (Unit×((List UInt8×Unit)×(Int×Unit)×(Bool×Unit)×Unit)) :=
 Option.bind (zS b a n) fun y5=>cond (!y5.2.2.2.1.1) (some ((),(([],()),(0,()),(false,()),()))) (Option.bind (xU no y5.2.1.1) fun y6=>cond (!y6.2.1.1) (some ((),(([],()),(0,()),(false,()),()))) (some ((),(y5.2.1,y5.2.2.1,(true,()),()))))
noncomputable def Bn (b:aY) (no a n:Int):Option (Unit×((List UInt8×Unit)×(Int×Unit)×(Bool×Unit)×Unit)) :=
 Option.bind (zX b a n) fun y5=>cond (!y5.2.2.1.1) (some ((),(([],()),(0,()),(false,()),()))) (Option.bind (xU no (strOf y5.2.1.1)) fun y6=>cond (!y6.2.1.1) (some ((),(([],()),(0,()),(false,()),()))) (some ((),((strOf y5.2.1.1,()),(ai .i64 a n,()),(true,()),()))))
theorem EE (b:aY) (no:Int) (a n:Nat) (hb:yL b) (ha:a<=b.length) (hn:n<=1048576):Gd b no a n=lR ((rf b a n).filter fun s=>ja no s.1):=by
 have hbig:aT=140737488355328:=rfl;unfold Gd rf;rw [Kz b a n hb ha hn];unfold xX;cases ho:jf b a n with
 | none=>rfl
 | some s => obtain ⟨h1,h2,h3,h4,h5⟩:=dR ho;dsimp only [Option.bind_some];rw [JZ no s (by omega)];dsimp only [Option.bind_some,Option.map_some];rw [Option.filter_some];dsimp only;cases ja no s <;> rfl
def GU (b:aY) (a n:Nat):Option (List UInt8×Nat):=if a + n<=b.length then some (strOf (eG b a n),a + n) else none
theorem uA (b:aY) (no:Int) (a n:Nat) (hb:yL b) (ha:a<=b.length) (hn:n<=1048576):Bn b no a n=lR ((GU b a n).filter fun s=>ja no s.1):=by
 have hbig:aT=140737488355328:=rfl;have hl:=hb.1;unfold Bn GU;rw [zQ b a n hb.1 ha hn];by_cases h:a + n<=b.length;rotate_left
 . rw [if_neg h,if_neg h]; rfl
 rw [if_pos h,if_pos h,Option.filter_some];have hf:=JZ no (strOf (eG b a n)) (by rw [kJ,lE h]; omega);refine (bn hf).trans ?_;have e2:ai .i64 (a:Int) (n:Int)=((a + n:Nat):Int):=by rw [ay (by omega) (by omega)]; omega
 show cond (!(ja no (strOf (eG b a n)))) _ (some ((),((_,()),(ai .i64 (a:Int) (n:Int),()),(true,()),())))=_;rw [e2];dsimp only;cases ja no (strOf (eG b a n)) <;> rfl
theorem IU (b:aY) (a d:Nat) (hb:yL b) (ha:a<=b.length) (hd:d=2∨d=3) (F:Int->Int->Option (Unit×((List UInt8×Unit)×(Int×Unit)×(Bool×Unit)×Unit))) (f:Nat->Nat->Option (List UInt8×Nat)) (n:Nat)
 (hF:∀ a' k:Nat,a'<=b.length->k<=1048576->F (a':Int) (k:Int)=lR (if 1<=k/\k<=n then f a' k else none)) :
 (Option.bind (GO b a d) fun y4=>cond (!y4.2.2.2.1.1) (some ((),(([],()),(0,()),(false,()),()))) (F y4.2.2.1.1 y4.2.1.1))=lR (Aj b a d n f):=by
 rw [WG b a d hb ha hd];unfold FA Aj;cases ho:jf b a d with
 | none=>rfl
 | some t => obtain ⟨h1,h2,h3,h4,h5⟩:=dR ho;have hv:=Ay t 0 0 h1 (by decide);have hv2:lg 0 t < 1000:=Nat.lt_of_lt_of_le hv (by rw [Nat.zero_add,h2]; exact Nat.pow_le_pow_right (by decide) (by omega:d<=3));exact hF _ _ h5 (by omega)
theorem jd {s:List UInt8} {n:Nat} (h:s.length=n):ae s=(n:Int):=by show (s.length:Int)=n; rw [h]
theorem qq {k n:Nat}:dI (k:Int) 1 (n:Int)=decide (1<=k/\k<=n):=by
 by_cases h:1<=k/\k<=n
 . rw [decide_eq_true h]; exact gM.2 (by omega)
 . rw [decide_eq_false h];cases h2:dI (k:Int) 1 (n:Int) with
   | false=>rfl
   | true=>have:=gM.1 h2; omega
theorem qE {no:Int} {n:Nat} (hn:gQ no=n) (s:List UInt8):(bt no=1->ja no s=cond (aW s) (aq (ae s) (n:Int)) false)/\(bt no=2->ja no s=cond (dV s) (aq (ae s) (n:Int)) false)/\(bt no=3->ja no s=cond (aW s) (dI (ae s) 1 (n:Int)) false) /\
 ((bt no=4∨bt no=5)->ja no s=cond (dV s) (dI (ae s) 1 (n:Int)) false):=by
 unfold ja;rw [hn];refine ⟨fun h=>by rw [h]; rfl,fun h=>by rw [h]; rfl,fun h=>by rw [h]; rfl,fun h => ?_⟩;rcases h with h | h <;> (rw [h]; rfl)
theorem Fj {b:aY} {no:Int} {n:Nat} (hn:gQ no=n) (hk:bt no=4∨bt no=5) (a k:Nat):(GU b a k).filter (fun s=>ja no s.1)=if 1<=k/\k<=n then oP b a k else none:=by
 unfold GU oP;by_cases h:a + k<=b.length;rotate_left
 . rw [if_neg h,if_neg h]; simp
 rw [if_pos h,if_pos h,Option.filter_some];dsimp only;rw [(qE hn _).2.2.2 hk,jd (by rw [kJ,lE h]:(strOf (eG b a k)).length=k),qq];by_cases hin:1<=k/\k<=n
 . rw [decide_eq_true hin,if_pos hin]; cases dV (strOf (eG b a k)) <;> rfl
 . rw [decide_eq_false hin,if_neg hin]; cases dV (strOf (eG b a k)) <;> rfl
theorem S9 (b:aY) (a:Nat) (no:Int) (hb:yL b) (ha:a<=b.length):K1 b a no=lR (nK b a no):=by
 have hbig:aT=140737488355328:=rfl;have hl:=hb.1;obtain ⟨n,hn,hk⟩:=kinds no;have hnn:Int.toNat (n:Int)=n:=Int.toNat_natCast n;have hlen:NK no=some ((),((cond (aq (bt no) 5) 3 2,()),())):=by unfold NK;rw [z8];dsimp only [Option.bind_some];cases aq (bt no) 5 <;> rfl
 have base:K1 b a no=cond (cond (cond (aq (bt no) 3) true (aq (bt no) 4)) true (aq (bt no) 5)) (Option.bind (GO b a (cond (aq (bt no) 5) 3 2)) fun y4=>cond (!y4.2.2.2.1.1) (some ((),(([],()),(0,()),(false,()),()))) (cond (cond (aq (bt no) 1) true (aq (bt no) 3)) (Gd b no y4.2.2.1.1 y4.2.1.1) (Bn b no y4.2.2.1.1 y4.2.1.1)))
  (cond (cond (aq (bt no) 1) true (aq (bt no) 3)) (Gd b no a (n:Int)) (Bn b no a (n:Int))):=by
  unfold K1;rw [QN,z8,hlen,hn];rfl
 rw [base];unfold nK;rw [hn,hnn];rcases hk with ⟨hk,hz⟩ | ⟨hk,hz⟩ | ⟨hk,hz⟩ | ⟨hk,hz⟩ | ⟨hk,hz⟩ | ⟨hk,hz⟩
 . rw [hk];show Bn b no a (n:Int)=lR none;rw [uA b no a n hb ha (by omega)];have:∀ s,ja no s=false:=fun s=>by unfold ja; rw [hk]; rfl
   unfold GU;by_cases h:a + n<=b.length
   . rw [if_pos h,Option.filter_some,this]; rfl
   . rw [if_neg h]; rfl
 . rw [hk];show Gd b no a (n:Int)=lR (rf b a n);rw [EE b no a n hb ha (by omega)];unfold rf;cases ho:jf b a n with
   | none=>rfl
   | some s => obtain ⟨h1,h2,h3,h4,h5⟩:=dR ho;rw [Option.map_some,Option.filter_some];dsimp only;rw [(qE hn s).1 hk,dj.2 ⟨h1,lh h2 h3⟩,jd h2,bg];rfl
 . rw [hk];show Bn b no a (n:Int)=lR (oP b a n);rw [uA b no a n hb ha (by omega)];unfold GU oP;by_cases h:a + n<=b.length;rotate_left
   . rw [if_neg h,if_neg h]; rfl
   rw [if_pos h,if_pos h,Option.filter_some];dsimp only;rw [(qE hn _).2.1 hk,jd (by rw [kJ,lE h]:(strOf (eG b a n)).length=n),bg];cases dV (strOf (eG b a n)) <;> rfl
 . rw [hk];exact IU b a 2 hb ha (.inl rfl) (Gd b no) (rf b) n fun a' k ha' hk'=>by
    rw [EE b no a' k hb ha' hk'];unfold rf;cases ho:jf b a' k with
    | none => show lR none=lR (if _ then none else none);rw [ite_self]
    | some s =>
      obtain ⟨h1,h2,h3,h4,h5⟩:=dR ho;rw [Option.map_some,Option.filter_some];dsimp only;rw [(qE hn s).2.2.1 hk,dj.2 ⟨h1,lh h2 h3⟩,jd h2,qq];by_cases hin:1<=k/\k<=n
      . rw [decide_eq_true hin,if_pos hin]; rfl
      . rw [decide_eq_false hin,if_neg hin]; rfl
 . rw [hk];exact IU b a 2 hb ha (.inl rfl) (Bn b no) (oP b) n fun a' k ha' hk'=>by rw [uA b no a' k hb ha' hk',Fj hn (.inl hk)]
 . rw [hk];exact IU b a 3 hb ha (.inr rfl) (Bn b no) (oP b) n fun a' k ha' hk'=>by rw [uA b no a' k hb ha' hk',Fj hn (.inr hk)]
theorem se {b:aY} {a:Nat} {no:Int} {s:List UInt8} {e:Nat} (ha:a<=b.length) (h:nK b a no=some (s,e)):ja no s=true/\s.length<=60/\e<=b.length:=by
 obtain ⟨n,hn,hk⟩:=kinds no;have hnn:Int.toNat (n:Int)=n:=Int.toNat_natCast n;have num:∀ a k,rf b a k=some (s,e)->s.all fM=true/\s.length=k/\1<=k/\e<=b.length:=fun a k h=>by unfold rf at h;obtain ⟨q,hq,h⟩:=Option.map_eq_some_iff.1 h;cases h;obtain ⟨h1,h2,h3,h4,h5⟩:=dR hq;exact ⟨h1,h2,h3,h5⟩
 have txt:∀ a k,oP b a k=some (s,e)->dV s=true/\s.length=k/\e<=b.length:=fun a k h=>by
  unfold oP at h;split at h
  . rename_i hl;cases hp:dV (strOf (eG b a k)) with
    | false=>rw [hp] at h; simp at h
    | true => rw [hp] at h;cases h;exact ⟨hp,by rw [kJ,lE hl],hl⟩
  . simp at h
 have var:∀ d f,Aj b a d n f=some (s,e)->∃ a' k,1<=k/\k<=n/\f a' k=some (s,e):=fun d f h=>by
  unfold Aj at h;split at h
  . split at h
    . rename_i hin;exact ⟨_,_,hin.1,hin.2,h⟩
    . simp at h
  . simp at h
 unfold nK at h;rw [hn,hnn] at h;rcases hk with ⟨hk,hz⟩ | ⟨hk,hz⟩ | ⟨hk,hz⟩ | ⟨hk,hz⟩ | ⟨hk,hz⟩ | ⟨hk,hz⟩ <;> rw [hk] at h
 . simp at h
 . obtain ⟨h1,h2,h3,h4⟩:=num _ _ h;exact ⟨by rw [(qE hn s).1 hk,dj.2 ⟨h1,lh h2 h3⟩,jd h2,bg]; rfl,by omega,h4⟩
 . obtain ⟨h1,h2,h4⟩:=txt _ _ h;exact ⟨by rw [(qE hn s).2.1 hk,h1,jd h2,bg]; rfl,by omega,h4⟩
 . obtain ⟨a',k,k1,k2,h⟩:=var _ _ h;obtain ⟨h1,h2,h3,h4⟩:=num _ _ h;exact ⟨by rw [(qE hn s).2.2.1 hk,dj.2 ⟨h1,lh h2 h3⟩,jd h2,qq,decide_eq_true ⟨k1,k2⟩]; rfl,by omega,h4⟩
 . obtain ⟨a',k,k1,k2,h⟩:=var _ _ h;obtain ⟨h1,h2,h4⟩:=txt _ _ h;exact ⟨by rw [(qE hn s).2.2.2 (.inl hk),h1,jd h2,qq,decide_eq_true ⟨k1,k2⟩]; rfl,by omega,h4⟩
 . obtain ⟨a',k,k1,k2,h⟩:=var _ _ h;obtain ⟨h1,h2,h4⟩:=txt _ _ h;exact ⟨by rw [(qE hn s).2.2.2 (.inr hk),h1,jd h2,qq,decide_eq_true ⟨k1,k2⟩]; rfl,by omega,h4⟩
end Go.Av
