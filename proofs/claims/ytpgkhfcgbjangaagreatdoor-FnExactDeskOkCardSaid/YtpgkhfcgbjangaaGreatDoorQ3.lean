/- Part of a proof that the law FnExactDeskOk answers true for every input: the printed functions of this program and their plain laws. No conditions beyond the statement. -/
import Derived.Test.YtpgkhfcgbjangaaGreatDoorP1
import Derived.Test.YtpgkhfcgbjangaaGreatDoorFw4
set_option maxRecDepth 100000
set_option maxHeartbeats 4000000
namespace Go.Av
abbrev jc:=List UInt8×Int×Int×Unit
abbrev er:=List UInt8×List UInt8×List (Int×Unit)×Unit
abbrev wJ:=Int×Int×List (Int×Unit)×List (Int×Unit)×Unit
def dJ (a lo hi:Int):Bool:=cond (bC lo a) (bC a hi) false
theorem gF {a lo hi:Int}:dJ a lo hi=true↔lo<=a/\a<=hi:=by unfold dJ bC;by_cases h:lo<=a <;> simp [h]
theorem kQ (a lo hi:Int):qG a lo hi=some ((),((dJ a lo hi,()),())):=rfl
theorem jd (a lo hi:Int):ni a lo hi=some ((),((dJ a lo hi,()),())):=rfl
def cF (a:Int):Bool:=dJ a 0 4611686018427387904
theorem qb (a:Int):Pn a=some ((),((cF a,()),())):=rfl
theorem D0 (a:Int):Kv a=some ((),((cF a,()),())):=rfl
def dP (a:Int):Bool:=dJ a 0 1000000000
theorem mu (a:Int):F3 a=some ((),((dP a,()),())):=rfl
theorem mg (a:Int):sS a=some ((),((dP a,()),())):=rfl
def fE (x:UInt8):Bool:=cond (au (x.toNat:Int) 48) false (!(au 57 (x.toNat:Int)))
theorem fB {x:UInt8}:fE x=true↔48<=x.toNat/\x.toNat<=57:=by
 unfold fE au;by_cases h:(x.toNat:Int) < 48
 . simp [h]; omega
 . by_cases h2:(57:Int) < x.toNat
   . simp [h,h2]; omega
   . simp [h,h2]; omega
def aT (s:List UInt8):Bool:=cond (s.all fE) (au 0 (ae s)) false
theorem fz (s:List UInt8) (hs:s.length<=aW):pH s=some ((),((aT s,()),())):=by
 unfold pH;have h:=aE (step:=wR ow) s (fun i (_:Unit)=>(s,((i:Nat):Int),())) (fun _ x _=>bif fE x then Sum.inl () else .inr (.inr (false,()))) (fun _=> .inl (s,(s.length:Int),())) (a0:=()) (fun i x a hx=>by
  have hlt:=aj hx;show ow s (i:Int)=_;unfold ow fE;rw [aG hx,aC hx,ew hx,aQ (by omega)];dsimp only [cond_true];cases au (x.toNat:Int) 48 <;> cases au 57 (x.toNat:Int) <;> rfl) (fun a=>by
  show ow s (s.length:Int)=_;unfold ow;rw [aw rfl]; rfl)
 rw [fJ] at h;have h':Ia s 0=_:=h;rw [h'];unfold aT;cases s.all fE <;> rfl
theorem gv (s:List UInt8) (hs:s.length<=aW):sH s=some ((),((aT s,()),())):=by
 unfold sH;have h:=aE (step:=fb oJ) s (fun i (_:Unit)=>(s,ae s,((i:Nat):Int),())) (fun _ x _=>bif fE x then Sum.inl () else .inr (.inr (false,()))) (fun _=> .inl (s,ae s,(s.length:Int),())) (a0:=()) (fun i x a hx=>by
  have hlt:=aj hx;show oJ s (ae s) (i:Int)=_;unfold oJ fE;rw [aG hx,aC hx,ew hx,aQ (by omega)];dsimp only [cond_true];cases au (x.toNat:Int) 48 <;> cases au 57 (x.toNat:Int) <;> rfl) (fun a=>by
  show oJ s (ae s) (s.length:Int)=_;unfold oJ;rw [aw rfl]; rfl)
 rw [fJ] at h;have h':Ir s (ae s) 0=_:=h;rw [h'];unfold aT;cases s with
 | nil=>rfl
 | cons x r =>
   have e1:au 0 (ae (x :: r))=true:=aF (by unfold ae; simp only [List.length_cons]; omega);have e2:bY (x :: r) []=false:=rfl;cases (x :: r).all fE
   . rfl
   . dsimp only [cond_true,cond_false,Option.bind_some,Sum.elim_inl];rw [e1,e2]; rfl
def kP (x:UInt8):Bool:=cond (au (x.toNat:Int) 48) (cond (au (x.toNat:Int) 97) false (!(au 122 (x.toNat:Int)))) (cond (au 57 (x.toNat:Int)) (cond (au (x.toNat:Int) 97) false (!(au 122 (x.toNat:Int)))) true)
def hD (s:List UInt8):Bool:=cond (s.all kP) (dJ (ae s) 1 6) false
theorem Ax (s:List UInt8) (hs:s.length<=aW):IB s=some ((),((hD s,()),())):=by
 unfold IB;have h:=aE (step:=wR nC) s (fun i (_:Unit)=>(s,((i:Nat):Int),())) (fun _ x _=>bif kP x then Sum.inl () else .inr (.inr (false,()))) (fun _=> .inl (s,(s.length:Int),())) (a0:=()) (fun i x a hx=>by
  have hlt:=aj hx;show nC s (i:Int)=_;unfold nC kP;rw [aG hx,aC hx,ew hx,aQ (by omega)];dsimp only [cond_true];cases au (x.toNat:Int) 48 <;> cases au 57 (x.toNat:Int) <;> cases au (x.toNat:Int) 97 <;> cases au 122 (x.toNat:Int) <;> rfl) (fun a=>by
  show nC s (s.length:Int)=_;unfold nC;rw [aw rfl]; rfl)
 rw [fJ] at h;have h':IN s 0=_:=h;rw [h'];unfold hD;cases s.all kP <;> rfl
theorem AS (s:List UInt8) (hs:s.length<=aW):HM s=some ((),((hD s,()),())):=by
 unfold HM;have h:=aE (step:=fb ny) s (fun i (_:Unit)=>(s,ae s,((i:Nat):Int),())) (fun _ x _=>bif kP x then Sum.inl () else .inr (.inr (false,()))) (fun _=> .inl (s,ae s,(s.length:Int),())) (a0:=()) (fun i x a hx=>by
  have hlt:=aj hx;show ny s (ae s) (i:Int)=_;unfold ny kP;rw [aG hx,aC hx,ew hx,aQ (by omega)];dsimp only [cond_true];cases au (x.toNat:Int) 48 <;> cases au 57 (x.toNat:Int) <;> cases au (x.toNat:Int) 97 <;> cases au 122 (x.toNat:Int) <;> rfl) (fun a=>by
  show ny s (ae s) (s.length:Int)=_;unfold ny;rw [aw rfl]; rfl)
 rw [fJ] at h;have h':Hb s (ae s) 0=_:=h;rw [h'];unfold hD;cases s.all kP <;> rfl
def ua (h:jc):Bool:=cond (hD h.1) (cond (dJ h.2.1 1 9007199254740992) (dP h.2.2.1) false) false
theorem OQ (h:jc) (hs:h.1.length<=aW):L8 h=some ((),((ua h,()),())):=by unfold L8 ua;simp only [Ax _ hs,kQ,mu,Option.bind_some];cases hD h.1 <;> cases dJ h.2.1 1 9007199254740992 <;> rfl
theorem OT (h:jc) (hs:h.1.length<=aW):Le h=some ((),((ua h,()),())):=by unfold Le ua;simp only [AS _ hs,jd,mg,Option.bind_some];cases hD h.1 <;> cases dJ h.2.1 1 9007199254740992 <;> rfl
def jC (xs:List jc) (i:Nat) (x:jc):Bool:=cond (ua x) (cond (au 0 (i:Int)) (jT (gt ([],0,0,()) xs ((i:Int) - 1)).1 x.1) true) false
def pj (xs:List jc):Bool:=cond (allI (jC xs) 0 xs) (bC (ae xs) 4) false
theorem nu:∀ (s t:List UInt8),(Op.bytesLess s t || bY s t)= !(Op.bytesLess t s)
 | [],[]=>rfl
 | [],_ :: _=>rfl
 | _ :: _,[]=>rfl
 | a :: s,b :: t=>by
   have ih:=nu s t;have e:bY (a :: s) (b :: t)=(a == b && bY s t):=rfl;show ((decide (a < b) || (a == b && Op.bytesLess s t)) || bY (a :: s) (b :: t))= !(decide (b < a) || (b == a && Op.bytesLess t s));rw [e];rcases Nat.lt_trichotomy a.toNat b.toNat with h | h | h
   . have h1:a < b:=UInt8.lt_iff_toNat_lt.2 h;have h2:¬ b < a:=fun hh=>by have:=UInt8.lt_iff_toNat_lt.1 hh; omega
     have h3:(b == a)=false:=by rw [beq_eq_false_iff_ne]; intro hh; subst hh; omega
     simp [h1,h2,h3]
   . have h1:a=b:=UInt8.toNat_inj.1 h;subst h1;have h2:¬ a < a:=fun hh=>by have:=UInt8.lt_iff_toNat_lt.1 hh; omega
     simpa [h2] using ih
   . have h1:¬ a < b:=fun hh=>by have:=UInt8.lt_iff_toNat_lt.1 hh; omega
     have h2:b < a:=UInt8.lt_iff_toNat_lt.2 h;have h3:(a == b)=false:=by rw [beq_eq_false_iff_ne]; intro hh; subst hh; omega
     simp [h1,h2,h3]
theorem sU (s t:List UInt8):NK s t= !(jT t s):=nu s t
def BJ (xs:List jc):Prop:=xs.length<=aW/\∀ y∈xs,y.1.length<=aW
theorem hJ {α:Type} {xs:List α} {i:Nat} {x:α} (hx:xs[i]? = some x) (h:0 < i):a7 ((i:Int) - 1) xs=true:=by
 have:=aj hx;have e:(i:Int) - 1=((i - 1:Nat):Int):=by omega
 rw [e]; exact kY (by omega)
theorem K3 (xs:List jc) (hb:BJ xs):Lt xs=some ((),((pj xs,()),())):=by
 have hbig:aW=140737488355328:=rfl;unfold Lt;have h:=aE (step:=cU oI) xs (fun i (_:Unit)=>(xs,xs,ae xs,((i:Nat):Int),())) (fun i x _=>bif jC xs i x then Sum.inl () else .inr (.inr (false,()))) (fun _=> .inl (xs,xs,ae xs,(xs.length:Int),())) (a0:=()) (fun i x a hx=>by
  have hlt:=aj hx;have hl:=hb.1;show oI xs xs (ae xs) (i:Int)=_;unfold oI jC;rw [aG hx,aC hx,aX _ hx];dsimp only [cond_true];rw [OQ x (hb.2 x (List.mem_of_getElem? hx)),aQ (by omega)];dsimp only [Option.bind_some];cases ua x with
  | false=>rfl
  | true =>
    by_cases h0:0 < i
    . rw [aF (show (0:Int) < i by omega),aO (by omega) (by omega),hJ hx h0];dsimp only [cond_true,cond_false,Bool.not_true];have e:gt d157 xs ((i:Int) - 1)=gt ([],0,0,()) xs ((i:Int) - 1):=rfl;rw [e];cases jT (gt ([],0,0,()) xs ((i:Int) - 1)).1 x.1 <;> rfl
    . rw [ax (show ¬ (0:Int) < i by omega)]; rfl) (fun a=>by
  show oI xs xs (ae xs) (xs.length:Int)=_;unfold oI;rw [aw rfl]; rfl)
 rw [cC] at h;have h':H7 xs xs (ae xs) 0=_:=h;rw [h'];unfold pj;cases allI (jC xs) 0 xs <;> rfl
theorem LS (xs:List jc) (hb:BJ xs):K8 xs=some ((),((pj xs,()),())):=by
 have hbig:aW=140737488355328:=rfl;unfold K8;have h:=aE (step:=cU nL) xs (fun i (_:Unit)=>(xs,xs,ae xs,((i:Nat):Int),())) (fun i x _=>bif jC xs i x then Sum.inl () else .inr (.inr (false,()))) (fun _=> .inl (xs,xs,ae xs,(xs.length:Int),())) (a0:=()) (fun i x a hx=>by
  have hlt:=aj hx;have hl:=hb.1;show nL xs xs (ae xs) (i:Int)=_;unfold nL jC;rw [aG hx,aC hx,aX _ hx];dsimp only [cond_true];rw [OT x (hb.2 x (List.mem_of_getElem? hx)),aQ (by omega)];dsimp only [Option.bind_some];cases ua x with
  | false=>rfl
  | true =>
    by_cases h0:0 < i
    . rw [aF (show (0:Int) < i by omega),aO (by omega) (by omega),hJ hx h0];dsimp only [cond_true,cond_false,Bool.not_true];rw [sU];have e:gt d157 xs ((i:Int) - 1)=gt ([],0,0,()) xs ((i:Int) - 1):=rfl;rw [e];cases jT (gt ([],0,0,()) xs ((i:Int) - 1)).1 x.1 <;> rfl
    . rw [ax (show ¬ (0:Int) < i by omega)]; rfl) (fun a=>by
  show nL xs xs (ae xs) (xs.length:Int)=_;unfold nL;rw [aw rfl]; rfl)
 rw [cC] at h;have h':Js xs xs (ae xs) 0=_:=h;rw [h'];unfold pj;cases allI (jC xs) 0 xs <;> rfl
def eE (dbl:Bool) (x:UInt8):Int:=cond dbl (cond (au 9 (2 * ((x.toNat:Int) - 48))) (2 * ((x.toNat:Int) - 48) - 9) (2 * ((x.toNat:Int) - 48))) ((x.toNat:Int) - 48)
theorem tr (b:Bool) {x:UInt8} (h:fE x=true):0<=eE b x/\eE b x<=9:=by
 obtain ⟨h1,h2⟩:=fB.1 h;unfold eE au;cases b
 . dsimp only [cond_false]; omega
 . dsimp only [cond_true];by_cases h9:9 < 2 * ((x.toNat:Int) - 48)
   . rw [decide_eq_true h9]; dsimp only [cond_true]; omega
   . rw [decide_eq_false h9]; dsimp only [cond_false]; omega
def yw (xs:List UInt8) (a:Int×Bool):Int×Bool:=xs.foldl (fun a x=>(a.1 + eE a.2 x,!a.2)) a
def Gm (xs:List UInt8) (a:Int×Bool):Int×Bool:=xs.foldl (fun a x=>((a.1 + eE a.2 x) % 10,!a.2)) a
theorem DV:∀ (xs:List UInt8) (a:Int) (b:Bool),Gm xs (a % 10,b)=((yw xs (a,b)).1 % 10,(yw xs (a,b)).2)
 | [],a,b=>rfl
 | x :: r,a,b=>by
   have e:(a % 10 + eE b x) % 10=(a + eE b x) % 10:=by omega
   show Gm r ((a % 10 + eE b x) % 10,!b)=((yw r (a + eE b x,!b)).1 % 10,(yw r (a + eE b x,!b)).2);rw [e];exact DV r _ _
def Ab (s:List UInt8):Int:=cond (aT s) ((10 - (yw s.reverse (0,true)).1 % 10) % 10) (-1)
theorem lV {s:List UInt8} (h:aT s=true):∀ x∈s,fE x=true:=by
 unfold aT at h;cases hs:s.all fE with
 | true=>exact fun x hx=>List.all_eq_true.1 hs x hx
 | false=>rw [hs] at h; simp at h
theorem yg {s:List UInt8} {i:Nat} {x:UInt8} (h:s.reverse[i]? = some x):i < s.length/\s[s.length - 1 - i]? = some x:=by
 have hl:i < s.length:=by simpa using aj h
 refine ⟨hl,?_⟩;rwa [List.getElem?_reverse hl] at h
theorem Np {x:UInt8} (h:fE x=true):aI .i64 (bN .i64 (x.toNat:Int)) 48=(x.toNat:Int) - 48:=by obtain ⟨h1,h2⟩:=fB.1 h;have e:bN .i64 (x.toNat:Int)=(x.toNat:Int):=IntWalk.i64_in _ (by omega);rw [e]; exact aO (by omega) (by omega)
theorem My {x:UInt8} (h:fE x=true):bN .i64 (aI .u8 (x.toNat:Int) 48)=(x.toNat:Int) - 48:=by obtain ⟨h1,h2⟩:=fB.1 h;have e:aI .u8 (x.toNat:Int) 48=(x.toNat:Int) - 48:=IntWalk.u8_in _ (by omega);rw [e]; exact IntWalk.i64_in _ (by omega)
theorem D7 {a b:Int} (h1 : -4611686018427387904<=a * b) (h2:a * b<=4611686018427387904):jH .i64 a b=a * b:=by unfold jH; rw [IntWalk.i64_in _ (by omega)]
theorem mM {a:Int} (h:0<=a):gI a 10=a % 10:=by unfold gI; exact Int.tmod_eq_emod_of_nonneg h
theorem PS (s:List UInt8) (hs:s.length<=aW):KD s=some ((),((Ab s,()),())):=by
 have hbig:aW=140737488355328:=rfl;unfold KD Ab;rw [fz s hs];dsimp only [Option.bind_some];cases hd:aT s with
 | false=>rfl
 | true =>
 have hall:=lV hd
 have h:=a6 (step:=cU qZ) s.reverse (fun i (a:Int×Bool)=>(s,a.1,a.2,(s.length:Int) - 1 - ((i:Nat):Int),())) (fun _ x a=>Sum.inl ((a.1 + eE a.2 x) % 10,!a.2)) (fun a=> .inl (s,a.1,a.2,(-1:Int),()))
  (fun _ a=>0<=a.1/\a.1 < 10) (a0:=(0,true)) ⟨by decide,by decide⟩ (fun i x a hx ha=>by
    obtain ⟨hlt,hx'⟩:=yg hx;have hdx:=hall x (List.mem_of_getElem? hx');have hbd:=tr a.2 hdx;have hdd:=fB.1 hdx;have e:(s.length:Int) - 1 - (i:Int)=((s.length - 1 - i:Nat):Int):=by omega
    have e':(s.length:Int) - 1 - ((i + 1:Nat):Int)=((s.length - 1 - i:Nat):Int) - 1:=by omega
    obtain ⟨a1,a2⟩:=a;show qZ s a1 a2 ((s.length:Int) - 1 - (i:Int))=some (.inl (s,(a1 + eE a2 x) % 10,!a2,(s.length:Int) - 1 - ((i + 1:Nat):Int),()));rw [e,e'];have hle:bC 0 ((s.length - 1 - i:Nat):Int)=true:=decide_eq_true (by omega);have ha:0<=a1/\a1 < 10:=ha;unfold qZ;rw [hle,aC hx',ew hx',Np hdx,aO (a:=((s.length - 1 - i:Nat):Int)) (b:=1) (by omega) (by omega)];have hb:(0<=eE a2 x/\eE a2 x<=9):=hbd;cases a2 with
    | false => have hv:eE false x=(x.toNat:Int) - 48:=rfl;dsimp only [cond_true,cond_false,Bool.not_false];rw [bf (by omega) (by omega),mM (by omega),hv]
    | true =>
      dsimp only [cond_true,cond_false,Bool.not_false,Bool.not_true];rw [D7 (by omega) (by omega)];by_cases h9:9 < 2 * ((x.toNat:Int) - 48)
      . have hv:eE true x=2 * ((x.toNat:Int) - 48) - 9:=by unfold eE; rw [aF h9]; rfl
        rw [aF h9]; dsimp only [cond_true,cond_false,Bool.not_false]; rw [aO (by omega) (by omega),bf (by omega) (by omega),mM (by omega),hv]
      . have hv:eE true x=2 * ((x.toNat:Int) - 48):=by unfold eE; rw [ax h9]; rfl
        rw [ax h9]; dsimp only [cond_true,cond_false,Bool.not_false]; rw [bf (by omega) (by omega),mM (by omega),hv]) (fun i x a a' hx ha hf=>by
    simp only [Sum.inl.injEq] at hf;subst hf;show 0<=(a.1 + eE a.2 x) % 10/\(a.1 + eE a.2 x) % 10 < 10;omega) (fun a ha=>by
    have e:(s.length:Int) - 1 - ((s.reverse.length:Nat):Int) = -1:=by simp; omega
    show qZ s a.1 a.2 ((s.length:Int) - 1 - ((s.reverse.length:Nat):Int))=_;rw [e];rfl)
 rw [bQ (fun x a=>((a.1 + eE a.2 x) % 10,!a.2))] at h;have h':I7 s 0 true ((s.length:Int) - 1 - ((0:Nat):Int))=some (.inl (s,(Gm s.reverse (0,true)).1,(Gm s.reverse (0,true)).2,(-1:Int),())):=h;have e0:(s.length:Int) - 1 - ((0:Nat):Int)=aI .i64 (ae s) 1:=by rw [aO (by unfold ae; omega) (by unfold ae; omega)]; unfold ae; omega
 have eT:(Gm s.reverse (0,true)).1=(yw s.reverse (0,true)).1 % 10:=by have:=DV s.reverse 0 true;rw [show (0:Int) % 10=0 from rfl] at this;rw [this]
 rw [e0] at h';rw [h',eT];dsimp only [Option.bind_some,Sum.elim_inl,cond_true,cond_false,Bool.not_true];rw [aO (by omega) (by omega),mM (by omega)]; rfl
theorem PA (s:List UInt8) (hs:s.length<=aW):Ki s=some ((),((Ab s,()),())):=by
 have hbig:aW=140737488355328:=rfl;unfold Ki Ab;rw [gv s hs];dsimp only [Option.bind_some];cases hd:aT s with
 | false=>rfl
 | true =>
 have hall:=lV hd
 have h:=a6 (step:=cU qJ) s.reverse (fun i (a:Int×Bool)=>(s,a.1,a.2,(s.length:Int) - 1 - ((i:Nat):Int),())) (fun _ x a=>Sum.inl (a.1 + eE a.2 x,!a.2)) (fun a=> .inl (s,a.1,a.2,(-1:Int),()))
  (fun i a=>0<=a.1/\a.1<=9 * i) (a0:=(0,true)) ⟨by decide,by decide⟩ (fun i x a hx ha=>by
    obtain ⟨hlt,hx'⟩:=yg hx;have hdx:=hall x (List.mem_of_getElem? hx');have hbd:=tr a.2 hdx;have hdd:=fB.1 hdx;have e:(s.length:Int) - 1 - (i:Int)=((s.length - 1 - i:Nat):Int):=by omega
    have e':(s.length:Int) - 1 - ((i + 1:Nat):Int)=((s.length - 1 - i:Nat):Int) - 1:=by omega
    obtain ⟨a1,a2⟩:=a;show qJ s a1 a2 ((s.length:Int) - 1 - (i:Int))=some (.inl (s,a1 + eE a2 x,!a2,(s.length:Int) - 1 - ((i + 1:Nat):Int),()));rw [e,e'];have hle:bC 0 ((s.length - 1 - i:Nat):Int)=true:=decide_eq_true (by omega);have ha:0<=a1/\a1<=9 * i:=ha;unfold qJ;rw [hle,aC hx',ew hx',My hdx,aO (a:=((s.length - 1 - i:Nat):Int)) (b:=1) (by omega) (by omega)];have hb:(0<=eE a2 x/\eE a2 x<=9):=hbd;cases a2 with
    | false => have hv:eE false x=(x.toNat:Int) - 48:=rfl;dsimp only [cond_true,cond_false,Bool.not_false];rw [bf (by omega) (by omega),hv]
    | true =>
      dsimp only [cond_true,cond_false,Bool.not_false,Bool.not_true];have em:jH .i64 ((x.toNat:Int) - 48) 2=2 * ((x.toNat:Int) - 48):=by rw [D7 (by omega) (by omega)]; omega
      rw [em];by_cases h9:9 < 2 * ((x.toNat:Int) - 48)
      . have hv:eE true x=2 * ((x.toNat:Int) - 48) - 9:=by unfold eE; rw [aF h9]; rfl
        rw [aF h9]; dsimp only [cond_true,cond_false,Bool.not_false]; rw [aO (by omega) (by omega),bf (by omega) (by omega),hv]
      . have hv:eE true x=2 * ((x.toNat:Int) - 48):=by unfold eE; rw [ax h9]; rfl
        rw [ax h9]; dsimp only [cond_true,cond_false,Bool.not_false]; rw [bf (by omega) (by omega),hv]) (fun i x a a' hx ha hf=>by
    have hbd:=tr a.2 (hall x (List.mem_of_getElem? (yg hx).2));simp only [Sum.inl.injEq] at hf;subst hf;show 0<=a.1 + eE a.2 x/\a.1 + eE a.2 x<=9 * ((i + 1:Nat):Int);omega) (fun a ha=>by
    have e:(s.length:Int) - 1 - ((s.reverse.length:Nat):Int) = -1:=by simp; omega
    show qJ s a.1 a.2 ((s.length:Int) - 1 - ((s.reverse.length:Nat):Int))=_;rw [e];rfl)
 rw [bQ (fun x a=>(a.1 + eE a.2 x,!a.2))] at h;have h':GQ s 0 true ((s.length:Int) - 1 - ((0:Nat):Int))=some (.inl (s,(yw s.reverse (0,true)).1,(yw s.reverse (0,true)).2,(-1:Int),())):=h;have e0:(s.length:Int) - 1 - ((0:Nat):Int)=aI .i64 (ae s) 1:=by rw [aO (by unfold ae; omega) (by unfold ae; omega)]; unfold ae; omega
 have hS:∀ (xs:List UInt8) (a:Int×Bool),(∀ x∈xs,fE x=true)->0<=a.1->0<=(yw xs a).1:=by
  intro xs;induction xs with
  | nil=>intro a _ h; exact h
  | cons x r ih => intro a hx h;have:=tr a.2 (hx x (List.mem_cons_self ..));exact ih (a.1 + eE a.2 x,!a.2) (fun y hy=>hx y (List.mem_cons_of_mem _ hy)) (by show 0<=a.1 + eE a.2 x; omega)
 have h0:=hS s.reverse (0,true) (fun x hx=>hall x (List.mem_reverse.1 hx)) (by decide);rw [e0] at h';rw [h'];dsimp only [Option.bind_some,Sum.elim_inl,cond_true,cond_false,Bool.not_true];rw [mM h0,aO (by omega) (by omega),mM (by omega)]; rfl
def qE (s:List UInt8):Bool:=cond (aT s) (cond (bC 2 (ae s)) (ak (Ab (sub s 0 (ae s - 1))) (dm s (ae s - 1) - 48)) false) false
theorem Mx {s:List UInt8} (hd:aT s=true) (h:2<=s.length):∃ x,fE x=true/\a7 (ae s - 1) s=true/\dm s (ae s - 1)=(x.toNat:Int)/\dH 0 (ae s - 1) s=true/\(sub s 0 (ae s - 1)).length<=s.length:=by
 have e:ae s - 1=((s.length - 1:Nat):Int):=by unfold ae; omega
 obtain ⟨x,hx⟩:∃ x,s[s.length - 1]? = some x:=⟨s[s.length - 1]'(by omega),by simp⟩;refine ⟨x,lV hd x (List.mem_of_getElem? hx),?_,?_,?_,?_⟩
 . rw [e]; exact aC hx
 . rw [e]; exact ew hx
 . rw [e]; unfold dH fI bC;rw [decide_eq_true (by decide),decide_eq_true (by omega),decide_eq_true (by omega)]; rfl
 . rw [e]; unfold sub; simp
theorem HC (s:List UInt8) (hs:s.length<=aW):LK s=some ((),((qE s,()),())):=by
 have hbig:aW=140737488355328:=rfl;unfold LK qE;rw [fz s hs];dsimp only [Option.bind_some];cases hd:aT s with
 | false=>rfl
 | true =>
   by_cases h2:2<=s.length
   . obtain ⟨x,h3,h4,h5,h6,h7⟩:=Mx hd h2;have e1:bC 2 (ae s)=true:=decide_eq_true (by unfold ae; omega);have e2:aI .i64 (ae s) 1=ae s - 1:=aO (by unfold ae; omega) (by unfold ae; omega);rw [ax (show ¬ ae s < 2 by unfold ae; omega),e1,e2];dsimp only [cond_true,cond_false,Bool.not_true];rw [h6,h4,PS _ (Nat.le_trans h7 hs),h5,Np h3]; rfl
   . have e1:bC 2 (ae s)=false:=decide_eq_false (by unfold ae; omega);rw [aF (show ae s < 2 by unfold ae; omega),e1]; rfl
theorem Jr (s:List UInt8) (hs:s.length<=aW):K7 s=some ((),((qE s,()),())):=by
 have hbig:aW=140737488355328:=rfl;unfold K7 qE;have e2:aI .i64 (ae s) 1=ae s - 1:=aO (by unfold ae; omega) (by unfold ae; omega);dsimp only;rw [gv s hs,e2];dsimp only [Option.bind_some];by_cases h2:2<=s.length
 . have e1:bC 2 (ae s)=true:=decide_eq_true (by unfold ae; omega);have e3:bC 1 (ae s - 1)=true:=decide_eq_true (by unfold ae; omega);rw [e1,e3];cases hd:aT s with
   | false=>rfl
   | true => obtain ⟨x,h3,h4,h5,h6,h7⟩:=Mx hd h2;dsimp only [cond_true,cond_false,Bool.not_true];rw [h6,h4,PA _ (Nat.le_trans h7 hs),h5,My h3]; rfl
 . have e1:bC 2 (ae s)=false:=decide_eq_false (by unfold ae; omega);have e3:bC 1 (ae s - 1)=false:=decide_eq_false (by unfold ae; omega);rw [e1,e3];cases aT s <;> rfl
def fk (s:List UInt8):Bool:=cond (bC (ae s) 19) (qE s) false
theorem vM (s:List UInt8) (hs:s.length<=aW):Fu s=some ((),((fk s,()),())):=by unfold Fu fk;rw [HC s hs];cases bC (ae s) 19 <;> rfl
theorem tT (s:List UInt8) (hs:s.length<=aW):q8 s=some ((),((fk s,()),())):=by unfold q8 fk;rw [Jr s hs];cases bC (ae s) 19 <;> rfl
def fV (a:Int):Int:=if a < 0 then 0 else if 4611686018427387904 < a then 4611686018427387904 else a
theorem mK (a:Int):0<=fV a/\fV a<=4611686018427387904:=by
 unfold fV;split
 . omega
 . split <;> omega
def wS (a b:Int):Int:=if 4611686018427387904 - fV b < fV a then 4611686018427387904 else fV a + fV b
theorem Eb (a:Int):I4 a 0 4611686018427387904=some ((),((fV a,()),())):=by
 unfold I4 fV;by_cases h:a < 0
 . rw [aF h,if_pos h]; rfl
 . by_cases h2:4611686018427387904 < a
   . rw [ax h,if_neg h,aF h2,if_pos h2]; rfl
   . rw [ax h,if_neg h,ax h2,if_neg h2]; rfl
theorem uC {a:Int} (h:0<=a/\a<=4611686018427387904):cF a=true:=gF.2 h
theorem MG (a b:Int):Jf a b=some ((),((wS a b,()),())):=by
 unfold Jf Qb wS;have h1:=mK a;have h2:=mK b;rw [Eb,Eb];dsimp only [Option.bind_some];rw [qb,qb,uC h1,uC h2,aO (by omega) (by omega)];dsimp only [Option.bind_some,Bool.not_true,cond_false];by_cases h:4611686018427387904 - fV b < fV a
 . rw [aF h,if_pos h]; rfl
 . rw [ax h,if_neg h,bf (by omega) (by omega)]; rfl
theorem MD (a b:Int):IJ a b=some ((),((wS a b,()),())):=by
 have e:∀ x:Int,FD 0 (Ex x 4611686018427387904)=fV x:=fun x=>by unfold FD Ex fV;split <;> split <;> (try split) <;> omega
 have h1:=mK a;have h2:=mK b;unfold IJ wS;dsimp only;rw [e,e,aO (by omega) (by omega)];by_cases h:4611686018427387904 - fV b < fV a
 . rw [aF h,if_pos h]; rfl
 . rw [ax h,if_neg h,bf (by omega) (by omega)]; rfl
def za (xs:List jc):Int:=xs.foldl (fun a h=>wS a h.2.1) 0
theorem Gd (xs:List jc) (hs:xs.length<=aW):LZ xs=some ((),((za xs,()),())):=by
 unfold LZ;have h:=aE (step:=cU oR) xs (fun i (a:Int)=>(a,xs,ae xs,((i:Nat):Int),())) (fun _ x a=>Sum.inl (wS a x.2.1)) (fun a=> .inl (a,xs,ae xs,(xs.length:Int),())) (a0:=0) (fun i x a hx=>by
  have hlt:=aj hx;show oR a xs (ae xs) (i:Int)=_;unfold oR;rw [aG hx,aC hx,aX _ hx,aQ (by omega),MG]; rfl) (fun a=>by
  show oR a xs (ae xs) (xs.length:Int)=_;unfold oR;rw [aw rfl]; rfl)
 rw [bQ (fun (x:jc) a=>wS a x.2.1)] at h;have h':Il 0 xs (ae xs) 0=_:=h;rw [h']; rfl
theorem Jb (xs:List jc) (hs:xs.length<=aW):Lc xs=some ((),((za xs,()),())):=by
 unfold Lc;have h:=aE (step:=cU o9) xs (fun i (a:Int)=>(a,xs,ae xs,((i:Nat):Int),())) (fun _ x a=>Sum.inl (wS a x.2.1)) (fun a=> .inl (a,xs,ae xs,(xs.length:Int),())) (a0:=0) (fun i x a hx=>by
  have hlt:=aj hx;show o9 a xs (ae xs) (i:Int)=_;unfold o9;rw [aG hx,aC hx,aX _ hx,aQ (by omega),MD]; rfl) (fun a=>by
  show o9 a xs (ae xs) (xs.length:Int)=_;unfold o9;rw [aw rfl]; rfl)
 rw [bQ (fun (x:jc) a=>wS a x.2.1)] at h;have h':HW 0 xs (ae xs) 0=_:=h;rw [h']; rfl
def uS (r:wJ):Bool:=cond (dJ r.1 1 1000) (cond (dJ (ae r.2.2.1) 1 8) (cond (ak (ae r.2.2.2.1) (ae r.2.2.1)) (cond (dP r.2.1) (r.2.2.1.all (fun x=>cF x.1) && r.2.2.2.1.all (fun x=>cF x.1)) false) false) false) false
def A7 (r:wJ):Prop:=r.2.2.1.length<=1048576/\r.2.2.2.1.length<=1048576
theorem fL {a b:Int}:ak a b=true↔a=b:=by simp [ak]
theorem Oi (r:wJ) (hb:A7 r):JA r=some ((),((uS r,()),())):=by
 have hbig:aW=140737488355328:=rfl;obtain ⟨hb1,hb2⟩:=hb;unfold JA uS;dsimp only;rw [kQ,kQ,mu];dsimp only [Option.bind_some];cases dJ r.1 1 1000 with
 | false=>rfl
 | true =>
 cases dJ (ae r.2.2.1) 1 8 with
 | false=>rfl
 | true =>
 cases he:ak (ae r.2.2.2.1) (ae r.2.2.1) with
 | false=>rfl
 | true =>
 cases dP r.2.1 with
 | false=>rfl
 | true =>
 have hlen:r.2.2.2.1.length=r.2.2.1.length:=by have:=fL.1 he;unfold ae at this; omega
 dsimp only [cond_true,cond_false,Bool.not_true];have h:=aE (step:=fb nR) (r.2.2.1.zip r.2.2.2.1) (fun i (_:Unit)=>(ae r.2.2.1,((i:Nat):Int),r,())) (fun _ x _=>bif cF x.1.1 && cF x.2.1 then Sum.inl () else .inr (.inr (false,()))) (fun _=> .inl (ae r.2.2.1,(r.2.2.1.length:Int),r,())) (a0:=()) (fun i x a hx=>by
  have hx':=List.getElem?_zip_eq_some.1 hx;have hlt:=aj hx'.1;show nR (ae r.2.2.1) (i:Int) r=_;unfold nR;rw [aG hx'.1,aC hx'.1,aC hx'.2,aX _ hx'.1,aX _ hx'.2,qb,qb,aQ (by omega)];dsimp only [cond_true,Option.bind_some];cases cF x.1.1 <;> cases cF x.2.1 <;> rfl) (fun a=>by
  have e:(r.2.2.1.zip r.2.2.2.1).length=r.2.2.1.length:=by rw [List.length_zip,hlen,Nat.min_self]
  rw [e];show nR (ae r.2.2.1) (r.2.2.1.length:Int) r=_;unfold nR;rw [aw rfl]; rfl)
 rw [fJ (fun (x:(Int×Unit)×(Int×Unit))=>cF x.1.1 && cF x.2.1)] at h;have h':Hj (ae r.2.2.1) 0 r=_:=h;rw [h'];have hz:∀ (a b:List (Int×Unit)),b.length=a.length->(a.zip b).all (fun x=>cF x.1.1 && cF x.2.1)=(a.all (fun x=>cF x.1) && b.all (fun x=>cF x.1)):=by
  intro a;induction a with
  | nil=>intro b hb; cases b with | nil=>rfl | cons _ _=>simp at hb
  | cons x a ih =>
    intro b hb;cases b with
    | nil=>simp at hb
    | cons y b => simp only [List.zip_cons_cons,List.all_cons];rw [ih b (by simpa using hb)];cases cF x.1 <;> cases cF y.1 <;> simp
 rw [hz _ _ hlen];cases r.2.2.1.all (fun x=>cF x.1) && r.2.2.2.1.all (fun x=>cF x.1) <;> rfl
theorem HI (a b:List (Int×Unit)) (ha:a.length<=1048576) (hb:b.length<=1048576):KF [(a,()),(b,())]=some ((),((a ++ b,()),())):=by
 have hbig:aW=140737488355328:=rfl;unfold KF;have hlen:((a.length + b.length:Nat):Int)=(a.length:Int) + b.length:=by omega
 have h:CR [(a,()),(b,())] 0 [(a,()),(b,())] 2 0=some (.inl ([(a,()),(b,())],(a.length:Int) + b.length,[(a,()),(b,())],2,2,())):=by
  refine aR _ (x':=([(a,()),(b,())],(a.length:Int),[(a,()),(b,())],2,1,())) ?_ (aR _ (x':=([(a,()),(b,())],(a.length:Int) + b.length,[(a,()),(b,())],2,2,())) ?_ (aJ _ ?_))
  . show ru [(a,()),(b,())] 0 [(a,()),(b,())] 2 0=_;unfold ru;have e:aq .i64 0 (ae (gt d53 [(a,()),(b,())] 0).1)=(a.length:Int):=by
     show aq .i64 0 (ae a)=_;rw [bf (by unfold ae; omega) (by unfold ae; omega)]; unfold ae; omega
    dsimp only;rw [e,ax (a:=(a.length:Int)) (b:=0) (by omega)]; rfl
  . show ru [(a,()),(b,())] (a.length:Int) [(a,()),(b,())] 2 1=_;unfold ru;have e:aq .i64 (a.length:Int) (ae (gt d53 [(a,()),(b,())] 1).1)=(a.length:Int) + b.length:=by
     show aq .i64 (a.length:Int) (ae b)=_;rw [bf (by unfold ae; omega) (by unfold ae; omega)]; unfold ae; omega
    dsimp only;rw [e,ax (a:=(a.length:Int) + b.length) (b:=0) (by omega)]; rfl
  . rfl
 have h1:CR [(a,()),(b,())] 0 [(a,()),(b,())] (ae [(a,()),(b,())]) 0=_:=h;have hg:Lp ((a.length:Int) + b.length)=some ((),(([],()),())):=by
  unfold Lp;dsimp only;rw [ax (by omega),aO (a:=0) (b:=0) (by decide) (by decide),aO (by omega) (by omega)];by_cases h0:(0:Int) < (a.length:Int) + b.length - (0 - 0)
  . have e2:Wh 8 ((a.length:Int) + b.length - (0 - 0))=true:=by
     unfold Wh bC;rw [decide_eq_true (by omega),decide_eq_true (by rw [hbig]; omega)]; rfl
    have e3:dH 0 0 (uj d3 ((a.length:Int) + b.length - (0 - 0)))=true:=by unfold dH fI bC;rw [decide_eq_true (by decide),decide_eq_true (by omega)]; rfl
    rw [aF h0,e2,e3];rfl
  . rw [ax h0]; rfl
 have h2:BF [] [(a,()),(b,())] 2 0=some (.inl (a ++ b,[(a,()),(b,())],2,2,())):=by
  refine aR _ (x':=(a,[(a,()),(b,())],2,1,())) ?_ (aR _ (x':=(a ++ b,[(a,()),(b,())],2,2,())) ?_ (aJ _ ?_))
  . show rD [] [(a,()),(b,())] 2 0=_;unfold rD;have e:cS 8 ([]:List (Int×Unit)) (gt d53 [(a,()),(b,())] 0).1=true:=Nat.ble_eq_true_of_le (by show (0 + a.length) * 8<=aW; omega);rw [e]; rfl
  . show rD a [(a,()),(b,())] 2 1=_;unfold rD;have e:cS 8 a (gt d53 [(a,()),(b,())] 1).1=true:=Nat.ble_eq_true_of_le (by show (a.length + b.length) * 8<=aW; omega);rw [e]; rfl
  . rfl
 have h2':BF [] [(a,()),(b,())] (ae [(a,()),(b,())]) 0=_:=h2;rw [h1];dsimp only [Option.bind_some,Sum.elim_inl];rw [hg];dsimp only [Option.bind_some,Sum.elim_inl];rw [h2']; rfl
theorem PB (r:wJ) (hb:A7 r):GB r=some ((),((uS r,()),())):=by
 have hbig:aW=140737488355328:=rfl;obtain ⟨hb1,hb2⟩:=hb;unfold GB;rw [HI _ _ hb1 hb2];dsimp only [Option.bind_some];have h:=aE (step:=gj nS) (r.2.2.1 ++ r.2.2.2.1) (fun i (_:Unit)=>(ae r.2.2.1,r.2.2.1 ++ r.2.2.2.1,ae (r.2.2.1 ++ r.2.2.2.1),((i:Nat):Int),r,())) (fun _ x _=>bif cF x.1 then Sum.inl () else .inr (.inr (false,()))) (fun _=> .inl (ae r.2.2.1,r.2.2.1 ++ r.2.2.2.1,ae (r.2.2.1 ++ r.2.2.2.1),((r.2.2.1 ++ r.2.2.2.1).length:Int),r,())) (a0:=()) (fun i x a hx=>by
  have hlt:=aj hx;rw [List.length_append] at hlt;show nS (ae r.2.2.1) (r.2.2.1 ++ r.2.2.2.1) (ae (r.2.2.1 ++ r.2.2.2.1)) (i:Int) r=_;unfold nS;rw [aG hx,aC hx,aX _ hx,D0,aQ (by omega)];dsimp only [cond_true,Option.bind_some];cases cF x.1 <;> rfl) (fun a=>by
  show nS (ae r.2.2.1) (r.2.2.1 ++ r.2.2.2.1) (ae (r.2.2.1 ++ r.2.2.2.1)) ((r.2.2.1 ++ r.2.2.2.1).length:Int) r=_;unfold nS;rw [aw rfl]; rfl)
 rw [fJ (fun (x:Int×Unit)=>cF x.1)] at h;have h':HB (ae r.2.2.1) (r.2.2.1 ++ r.2.2.2.1) (ae (r.2.2.1 ++ r.2.2.2.1)) 0 r=_:=h;rw [h',List.all_append];unfold uS;cases r.2.2.1.all (fun x=>cF x.1) && r.2.2.2.1.all (fun x=>cF x.1) with
 | false => cases dJ r.1 1 1000 <;> cases dJ (ae r.2.2.1) 1 8 <;> cases ak (ae r.2.2.2.1) (ae r.2.2.1) <;> cases dP r.2.1 <;> rfl
 | true => dsimp only [cond_true,Option.bind_some,Sum.elim_inl];rw [jd,jd,mg];dsimp only [Option.bind_some];cases dJ r.1 1 1000 <;> cases dJ (ae r.2.2.1) 1 8 <;> cases ak (ae r.2.2.2.1) (ae r.2.2.1) <;> cases dP r.2.1 <;> rfl
def vC (s:er):Bool:=cond (cond (aT s.1) (ak (ae s.1) 6) false) (cond (cond (aT s.2.1) (ak (ae s.2.1) 4) false) (dJ (ae s.2.2.1) 1 200) false) false
def Gj (s:er):Prop:=s.1.length<=aW/\s.2.1.length<=aW
theorem PN (s:er) (hb:Gj s):J8 s=some ((),((vC s,()),())):=by unfold J8 vC;rw [fz _ hb.1,fz _ hb.2];dsimp only [Option.bind_some];rw [kQ];cases cond (aT s.1) (ak (ae s.1) 6) false <;> cases cond (aT s.2.1) (ak (ae s.2.1) 4) false <;> rfl
theorem PO (s:er) (hb:Gj s):LQ s=some ((),((vC s,()),())):=by unfold LQ wF vC;rw [gv _ hb.1,gv _ hb.2];dsimp only [Option.bind_some];rw [jd];cases cond (aT s.1) (ak (ae s.1) 6) false <;> cases cond (aT s.2.1) (ak (ae s.2.1) 4) false <;> rfl
def ij (a b:er):Bool:=cond (bY a.1 b.1) (bY a.2.1 b.2.1) false
def jo (xs:List er) (i:Nat) (x:er):Bool:=cond (vC x) ((xs.take i).all (fun y=> !ij y x)) false
def od (xs:List er):Bool:=cond (allI (jo xs) 0 xs) (bC (ae xs) 6) false
def BM (xs:List er):Prop:=xs.length<=1048576/\∀ y∈xs,Gj y
theorem qf {α:Type} (xs:List α) (i:Nat):sub xs 0 (i:Int)=xs.take i:=by unfold sub; simp
theorem iQ {α:Type} {xs:List α} {i:Nat} (h:i<=xs.length):dH 0 (i:Int) xs=true:=by unfold dH fI bC;rw [decide_eq_true (by decide),decide_eq_true (by omega),decide_eq_true (by omega)]; rfl
theorem Lb (xs:List er) (hb:BM xs):Lh xs=some ((),((od xs,()),())):=by
 have hbig:aW=140737488355328:=rfl;have hb1:=hb.1;unfold Lh;have inner:∀ (i:Nat) (x:er),i<=xs.length->GY xs xs (ae xs) (i:Int) (xs.take i) (ae (xs.take i)) 0 x=some (bif (xs.take i).all (fun y=> !ij y x) then .inl (xs,xs,ae xs,(i:Int),xs.take i,ae (xs.take i),((xs.take i).length:Int),x,()) else .inr (false,())):=fun i x hi=>by
  have hti:(xs.take i).length<=xs.length:=by rw [List.length_take]; exact Nat.min_le_right _ _
  have h:=aE (step:=xd nH) (xs.take i) (fun j (_:Unit)=>(xs,xs,ae xs,(i:Int),xs.take i,ae (xs.take i),((j:Nat):Int),x,())) (fun _ y _=>bif !ij y x then Sum.inl () else .inr (.inr (false,()))) (fun _=> .inl (xs,xs,ae xs,(i:Int),xs.take i,ae (xs.take i),((xs.take i).length:Int),x,())) (a0:=()) (fun j y a hy=>by
   have hlt:=aj hy;show nH xs xs (ae xs) (i:Int) (xs.take i) (ae (xs.take i)) (j:Int) x=_;unfold nH ij;rw [aG hy,aC hy,aX _ hy,aQ (by omega)];dsimp only [cond_true];cases cond (bY y.1 x.1) (bY y.2.1 x.2.1) false <;> rfl) (fun a=>by
   show nH xs xs (ae xs) (i:Int) (xs.take i) (ae (xs.take i)) ((xs.take i).length:Int) x=_;unfold nH;rw [aw rfl]; rfl)
  rw [fJ (fun y=> !ij y x)] at h;exact h
 have h:=aE (step:=cU oM) xs (fun i (_:Unit)=>(xs,xs,ae xs,((i:Nat):Int),())) (fun i x _=>bif jo xs i x then Sum.inl () else .inr (.inr (false,()))) (fun _=> .inl (xs,xs,ae xs,(xs.length:Int),())) (a0:=()) (fun i x a hx=>by
  have hlt:=aj hx;show oM xs xs (ae xs) (i:Int)=_;unfold oM jo;rw [aG hx,aC hx,aX _ hx];dsimp only [cond_true];rw [PN x (hb.2 x (List.mem_of_getElem? hx)),iQ (Nat.le_of_lt hlt),qf];dsimp only [cond_true,Option.bind_some];rw [inner i x (Nat.le_of_lt hlt)];cases vC x with
  | false=>rfl
  | true =>
    cases (xs.take i).all (fun y=> !ij y x) with
    | false=>rfl
    | true =>
      dsimp only [cond_true,cond_false,Bool.not_true,Option.bind_some,Sum.elim_inl];rw [aQ (by omega)]; rfl) (fun a=>by
  show oM xs xs (ae xs) (xs.length:Int)=_;unfold oM;rw [aw rfl]; rfl)
 rw [cC] at h;have h':GX xs xs (ae xs) 0=_:=h;rw [h'];unfold od;cases allI (jo xs) 0 xs <;> rfl
def gf {α:Type} (p:α->Bool):Nat->List α->Int
 | _,[] => -1
 | i,x :: r=>bif p x then (i:Int) else gf p (i + 1) r
theorem l6 {α Y:Type} (p:α->Bool) (y:Int->Y) (z:Y) (out:Y->Int) (hy:∀ n,out (y n)=n) (hz:out z = -1):∀ (xs:List α) (i:Nat),out (kB (fun i x _=>bif p x then Sum.inr (y (i:Int)) else .inl ()) (fun _=>z) i xs ())=gf p i xs
 | [],_=>hz
 | x :: r,i=>by
   rw [kB,gf];cases hp:p x with
   | true=>exact hy _
   | false=>exact l6 p y z out hy hz r (i + 1)
theorem vX {α:Type} (p:α->Bool):∀ (xs:List α) (i:Nat),gf p i xs = -1∨((i:Int)<=gf p i xs/\gf p i xs < i + xs.length)
 | [],_=> .inl rfl
 | x :: r,i=>by
   rw [gf];cases p x with
   | true=>right; simp only [cond_true,List.length_cons]; omega
   | false =>
     rcases vX p r (i + 1) with h | h
     . exact .inl h
     . right; simp only [cond_false,List.length_cons]; omega
theorem A8 {α:Type} (p:α->Bool):∀ {xs:List α} {i:Nat} {x:α} (k:Nat),xs[i]? = some x->p x=true->(gf p k xs=((k + i:Nat):Int)↔(xs.take i).all (fun y=> !p y)=true)
 | [],i,x,k,h,_=>by simp at h
 | y :: r,0,x,k,h,hp=>by simp only [List.getElem?_cons_zero,Option.some.injEq] at h;subst h;rw [gf,hp]; simp
 | y :: r,i + 1,x,k,h,hp=>by
   have ih:=A8 p (xs:=r) (i:=i) (x:=x) (k + 1) (by simpa using h) hp;rw [gf,List.take_succ_cons,List.all_cons];cases hy:p y with
   | true => simp only [cond_true,Bool.not_true,Bool.false_and,Bool.false_eq_true,iff_false];omega
   | false => simp only [cond_false,Bool.not_false,Bool.true_and];rw [<- ih,show k + 1 + i=k + (i + 1) by omega]
theorem H2 (xs:List er) (a b:List UInt8) (hs:xs.length<=1048576):JT xs a b=some ((),((gf (fun y=>cond (bY y.1 a) (bY y.2.1 b) false) 0 xs,()),())):=by
 have hbig:aW=140737488355328:=rfl;unfold JT NT;have h:=aE (step:=cU oV) xs (fun i (_:Unit)=>(xs,((a,()),(b,()),()),ae xs,((i:Nat):Int),())) (fun i y _=>bif cond (bY y.1 a) (bY y.2.1 b) false then Sum.inr (.inr ((i:Int),())) else Sum.inl ()) (fun _=> .inl (xs,((a,()),(b,()),()),ae xs,(xs.length:Int),())) (a0:=()) (fun i y u hy=>by
  have hlt:=aj hy;show oV xs ((a,()),(b,()),()) (ae xs) (i:Int)=_;unfold oV PC;rw [aG hy,aC hy,aX _ hy,aQ (by omega)];dsimp only [cond_true,Option.bind_some];cases cond (bY y.1 a) (bY y.2.1 b) false <;> rfl) (fun u=>by
  show oV xs ((a,()),(b,()),()) (ae xs) (xs.length:Int)=_;unfold oV;rw [aw rfl]; rfl)
 have h':Hw xs ((a,()),(b,()),()) (ae xs) 0=_:=h;rw [h'];have hf:=l6 (Y:=Sum ((List er)×(((List UInt8)×Unit)×((List UInt8)×Unit)×Unit)×Int×Int×Unit) (Int×Unit)) (fun (y:er)=>cond (bY y.1 a) (bY y.2.1 b) false) (fun n=> .inr (n,())) (.inl (xs,((a,()),(b,()),()),ae xs,(xs.length:Int),())) (fun y=>match y with | .inl _ => -1 | .inr z=>z.1) (fun _=>rfl) rfl xs 0;rw [<- hf];dsimp only [Option.bind_some];cases kB _ _ 0 xs () <;> rfl
theorem J6 (xs:List er) (hb:BM xs):Ld xs=some ((),((od xs,()),())):=by
 have hbig:aW=140737488355328:=rfl;have hb1:=hb.1;unfold Ld;have h:=aE (step:=cU nN) xs (fun i (_:Unit)=>(xs,xs,ae xs,((i:Nat):Int),())) (fun i x _=>bif jo xs i x then Sum.inl () else .inr (.inr (false,()))) (fun _=> .inl (xs,xs,ae xs,(xs.length:Int),())) (a0:=()) (fun i x a hx=>by
  have hlt:=aj hx;show nN xs xs (ae xs) (i:Int)=_;unfold nN jo;rw [aG hx,aC hx,aX _ hx];dsimp only [cond_true];rw [PO x (hb.2 x (List.mem_of_getElem? hx))];dsimp only [cond_true,Option.bind_some];rw [H2 xs _ _ hb1,aQ (by omega)];have hp:cond (bY x.1 x.1) (bY x.2.1 x.2.1) false=true:=by rw [dx,dx]; rfl
  have hk:=A8 (fun (y:er)=>cond (bY y.1 x.1) (bY y.2.1 x.2.1) false) 0 hx hp;rw [Nat.zero_add,<- fL] at hk;have hk':ak (gf (fun (y:er)=>cond (bY y.1 x.1) (bY y.2.1 x.2.1) false) 0 xs) (i:Int)=(xs.take i).all (fun y=> !ij y x):=by rw [Bool.eq_iff_iff]; exact hk
  cases vC x with
  | false=>rfl
  | true =>
    dsimp only [cond_true,cond_false,Bool.not_true,Option.bind_some];rw [hk'];cases (xs.take i).all (fun y=> !ij y x) <;> rfl) (fun a=>by
  show nN xs xs (ae xs) (xs.length:Int)=_;unfold nN;rw [aw rfl]; rfl)
 rw [cC] at h;have h':I5 xs xs (ae xs) 0=_:=h;rw [h'];unfold od;cases allI (jo xs) 0 xs <;> rfl
abbrev aN:=List UInt8×Int×Int×Int×Int×List jc×Int×Int×List (Int×Unit)×List (Int×Unit)×List er×Unit
def wX (a:aN):wJ:=(a.2.2.2.2.2.2.1,a.2.2.2.2.2.2.2.1,a.2.2.2.2.2.2.2.2.1,a.2.2.2.2.2.2.2.2.2.1,())
def ju (a:aN):Prop:=a.1.length<=1048576/\(a.2.2.2.2.2.1.length<=1048576/\∀ y∈a.2.2.2.2.2.1,y.1.length<=1048576)/\A7 (wX a)/\a.2.2.2.2.2.2.2.2.2.2.1.length<=1048576/\∀ y∈a.2.2.2.2.2.2.2.2.2.2.1,y.1.length<=1048576/\y.2.1.length<=1048576/\y.2.2.1.length<=1048576
theorem ct {n:Nat} (h:n<=1048576):n<=aW:=Nat.le_trans h (by decide)
theorem ju.hs {a:aN} (h:ju a):BJ a.2.2.2.2.2.1:=⟨ct h.2.1.1,fun y hy=>ct (h.2.1.2 y hy)⟩
theorem ju.ss {a:aN} (h:ju a):BM a.2.2.2.2.2.2.2.2.2.2.1:=⟨h.2.2.2.1,fun y hy=>⟨ct (h.2.2.2.2 y hy).1,ct (h.2.2.2.2 y hy).2.1⟩⟩
def ve (a:aN):Bool:=cond (fk a.1) (cond (dJ a.2.1 0 9007199254740992) (cond (dJ a.2.2.2.1 0 1000) (cond (dJ a.2.2.2.2.1 0 9007199254740992) (cond (cF a.2.2.1) (cond (pj a.2.2.2.2.2.1) (cond (uS (wX a)) (cond (od a.2.2.2.2.2.2.2.2.2.2.1) (bC (wS a.2.2.1 (za a.2.2.2.2.2.1)) a.2.1) false) false) false) false) false) false) false) false
theorem Pc (a:aN) (hb:ju a):Uz a=some ((),((ve a,()),())):=by
 have h1:=vM a.1 (ct hb.1);have h2:=K3 _ hb.hs;have h3:JA (a.2.2.2.2.2.2.1,a.2.2.2.2.2.2.2.1,a.2.2.2.2.2.2.2.2.1,a.2.2.2.2.2.2.2.2.2.1,())=_:=Oi (wX a) hb.2.2.1;have h4:=Lb _ hb.ss;have h5:=Gd _ hb.hs.1;unfold Uz ve;rw [h1,h2,h3,h4,h5,kQ,kQ,kQ,qb];dsimp only [Option.bind_some];rw [MG];dsimp only [Option.bind_some];cases fk a.1 <;> first | rfl | skip
 cases dJ a.2.1 0 9007199254740992 <;> first | rfl | skip
 cases dJ a.2.2.2.1 0 1000 <;> first | rfl | skip
 cases dJ a.2.2.2.2.1 0 9007199254740992 <;> first | rfl | skip
 cases cF a.2.2.1 <;> first | rfl | skip
 cases pj a.2.2.2.2.2.1 <;> first | rfl | skip
 cases uS (wX a) <;> first | rfl | skip
 cases od a.2.2.2.2.2.2.2.2.2.2.1 <;> rfl
theorem Oh (a:aN) (hb:ju a):Ul a=some ((),((ve a,()),())):=by
 have h1:=tT a.1 (ct hb.1);have h2:=LS _ hb.hs;have h3:GB (a.2.2.2.2.2.2.1,a.2.2.2.2.2.2.2.1,a.2.2.2.2.2.2.2.2.1,a.2.2.2.2.2.2.2.2.2.1,())=_:=PB (wX a) hb.2.2.1;have h4:=J6 _ hb.ss;have h5:=Jb _ hb.hs.1;unfold Ul ve;rw [h1,h2,h3,h4,h5,jd,jd,jd,D0];dsimp only [Option.bind_some];rw [MD];dsimp only [Option.bind_some];cases fk a.1 <;> first | rfl | skip
 cases dJ a.2.1 0 9007199254740992 <;> first | rfl | skip
 cases dJ a.2.2.2.1 0 1000 <;> first | rfl | skip
 cases dJ a.2.2.2.2.1 0 9007199254740992 <;> first | rfl | skip
 cases cF a.2.2.1 <;> first | rfl | skip
 cases pj a.2.2.2.2.2.1 <;> first | rfl | skip
 cases uS (wX a) <;> first | rfl | skip
 cases od a.2.2.2.2.2.2.2.2.2.2.1 <;> rfl
theorem ik {α:Type} {b:Nat} {xs:List α} (h:xs.length * b<=aW):cS b ([]:List α) xs=true:=Nat.ble_eq_true_of_le (by simpa using h)
theorem Gy (r:wJ) (hb:A7 r):HK r=some ((),(r,())):=by have hbig:aW=140737488355328:=rfl;obtain ⟨h1,h2⟩:=hb;unfold HK;rw [ik (by omega),ik (by omega)]; rfl
theorem IL (r:wJ) (hb:A7 r):Im r=some ((),(r,())):=by have hbig:aW=140737488355328:=rfl;obtain ⟨h1,h2⟩:=hb;unfold Im FB;rw [ik (by omega),ik (by omega)]; rfl
theorem Ej (xs:List er) (hs:xs.length<=1048576) (hb:∀ y∈xs,y.2.2.1.length<=1048576):Ko xs=some ((),((xs,()),())):=by
 have hbig:aW=140737488355328:=rfl;unfold Ko;have h:=a6 (step:=cU oP) xs (fun i (a:List er)=>(a,xs,ae xs,((i:Nat):Int),())) (fun _ x a=>Sum.inl (a ++ [x])) (fun a=> .inl (a,xs,ae xs,(xs.length:Int),())) (fun i a=>a.length=i) (a0:=[]) rfl (fun i x a hx ha=>by
  have hlt:=aj hx;have hm:=hb x (List.mem_of_getElem? hx);show oP a xs (ae xs) (i:Int)=_;unfold oP;have e:∀ y:er,cS 56 a [y]=true:=fun y=>Nat.ble_eq_true_of_le (by simp; omega)
  rw [aG hx,aC hx,aX _ hx];dsimp only [cond_true];rw [ik (by omega),e,aQ (by omega)];rfl) (fun i x a a' hx ha hf=>by
  simp only [Sum.inl.injEq] at hf;rw [<- hf,List.length_append,ha]; rfl) (fun a ha=>by
  show oP a xs (ae xs) (xs.length:Int)=_;unfold oP;rw [aw rfl]; rfl)
 rw [jk] at h;have h':GF [] xs (ae xs) 0=_:=h;rw [h']; rfl
theorem FV (xs:List er) (hs:xs.length<=1048576) (hb:∀ y∈xs,y.2.2.1.length<=1048576):Kf xs=some ((),((xs,()),())):=by
 have hbig:aW=140737488355328:=rfl;unfold Kf;have h:=a6 (step:=cU nW) xs (fun i (a:List er)=>(a,xs,ae xs,((i:Nat):Int),())) (fun _ x a=>Sum.inl (a ++ [x])) (fun a=> .inl (a,xs,ae xs,(xs.length:Int),())) (fun i a=>a.length=i) (a0:=[]) rfl (fun i x a hx ha=>by
  have hlt:=aj hx;have hm:=hb x (List.mem_of_getElem? hx);show nW a xs (ae xs) (i:Int)=_;unfold nW GI;have e:∀ y:er,cS 56 a [y]=true:=fun y=>Nat.ble_eq_true_of_le (by simp; omega)
  rw [aG hx,aC hx,aX _ hx];dsimp only [cond_true];rw [ik (by omega),aQ (by omega)];dsimp only [cond_true,Option.bind_some];rw [e];rfl) (fun i x a a' hx ha hf=>by
  simp only [Sum.inl.injEq] at hf;rw [<- hf,List.length_append,ha]; rfl) (fun a ha=>by
  show nW a xs (ae xs) (xs.length:Int)=_;unfold nW;rw [aw rfl]; rfl)
 rw [jk] at h;have h':HF [] xs (ae xs) 0=_:=h;rw [h']; rfl
theorem II (a:aN) (hb:ju a):US a=some ((),(a,())):=by have hbig:aW=140737488355328:=rfl;have h1:=hb.2.1.1;have h2:HK (a.2.2.2.2.2.2.1,a.2.2.2.2.2.2.2.1,a.2.2.2.2.2.2.2.2.1,a.2.2.2.2.2.2.2.2.2.1,())=_:=Gy (wX a) hb.2.2.1;have h3:=Ej _ hb.2.2.2.1 (fun y hy=>(hb.2.2.2.2 y hy).2.2);unfold US;rw [ik (by omega),h2,h3]; rfl
theorem GG (a:aN) (hb:ju a):J9 a=some ((),(a,())):=by have hbig:aW=140737488355328:=rfl;have h1:=hb.2.1.1;have h2:Im (a.2.2.2.2.2.2.1,a.2.2.2.2.2.2.2.1,a.2.2.2.2.2.2.2.2.1,a.2.2.2.2.2.2.2.2.2.1,())=_:=IL (wX a) hb.2.2.1;have h3:=FV _ hb.2.2.2.1 (fun y hy=>(hb.2.2.2.2 y hy).2.2);unfold J9 Jt;rw [ik (by omega),h2,h3]; rfl
def gH (h:Nat) (c:UInt8):Nat:=((h ^^^ c.toNat) * 16777619) % 4294967296
def CG (s:List UInt8):Nat:=s.foldl gH 2166136261
theorem Ca (h:Nat) (c:UInt8):gH h c < 4294967296:=Nat.mod_lt _ (by decide)
theorem HZ {a c:Nat} (ha:a < 4294967296) (hc:c < 256):a ^^^ c < 4294967296:=by have:=Nat.xor_lt_two_pow (x:=a) (y:=c) (n:=32) (by omega) (by omega);omega
theorem iU (n a:Nat):BitVec.ofInt n (a:Int)=BitVec.ofNat n a:=by simp
theorem CQ {a:Nat} (c:UInt8) (ha:a < 4294967296):yU .i64 (jH .i64 (Bl .i64 (a:Int) (bN .i64 (c.toNat:Int))) 16777619) 4294967295=((gH a c:Nat):Int):=by
 have hc:c.toNat < 256:=c.toNat_lt;have hx:=HZ ha hc;have e1:bN .i64 (c.toNat:Int)=(c.toNat:Int):=IntWalk.i64_in _ (by omega);have e2:Bl .i64 (a:Int) (c.toNat:Int)=((a ^^^ c.toNat:Nat):Int):=by
  unfold Bl;have:(BitVec.ofInt IntKind.i64.bits (a:Int) ^^^ BitVec.ofInt IntKind.i64.bits (c.toNat:Int)).toNat=a ^^^ c.toNat:=by
   rw [iU,iU,BitVec.toNat_xor,BitVec.toNat_ofNat,BitVec.toNat_ofNat];have h64:2 ^ IntKind.i64.bits=18446744073709551616:=by decide
   rw [h64,Nat.mod_eq_of_lt (by omega),Nat.mod_eq_of_lt (by omega)]
  rw [this];exact IntWalk.i64_in _ (by omega)
 have e3:jH .i64 ((a ^^^ c.toNat:Nat):Int) 16777619=(((a ^^^ c.toNat) * 16777619:Nat):Int):=by unfold jH;rw [IntWalk.i64_in _ (by omega)];omega
 rw [e1,e2,e3];unfold yU gH;have:(BitVec.ofInt IntKind.i64.bits (((a ^^^ c.toNat) * 16777619:Nat):Int) &&& BitVec.ofInt IntKind.i64.bits (4294967295:Int)).toNat=((a ^^^ c.toNat) * 16777619) % 4294967296:=by
  have h32:(4294967295:Int)=((4294967295:Nat):Int):=rfl;rw [h32,iU,iU,BitVec.toNat_and,BitVec.toNat_ofNat,BitVec.toNat_ofNat];have h64:2 ^ IntKind.i64.bits=18446744073709551616:=by decide
  rw [h64,Nat.mod_eq_of_lt (by omega:(a ^^^ c.toNat) * 16777619 < 18446744073709551616),Nat.mod_eq_of_lt (by omega:4294967295 < 18446744073709551616)];exact Nat.and_two_pow_sub_one_eq_mod _ 32
 rw [this];have:=Nat.mod_lt ((a ^^^ c.toNat) * 16777619) (show 0 < 4294967296 by decide);exact IntWalk.i64_in _ (by omega)
theorem Ch {a:Nat} (c:UInt8) (ha:a < 4294967296):jH .u32 (Bl .u32 (a:Int) (bN .u32 (c.toNat:Int))) 16777619=((gH a c:Nat):Int):=by
 have hc:c.toNat < 256:=c.toNat_lt;have hx:=HZ ha hc;have e1:bN .u32 (c.toNat:Int)=(c.toNat:Int):=IntWalk.u32_in _ (by omega);have e2:Bl .u32 (a:Int) (c.toNat:Int)=((a ^^^ c.toNat:Nat):Int):=by
  unfold Bl;have:(BitVec.ofInt IntKind.u32.bits (a:Int) ^^^ BitVec.ofInt IntKind.u32.bits (c.toNat:Int)).toNat=a ^^^ c.toNat:=by
   rw [iU,iU,BitVec.toNat_xor,BitVec.toNat_ofNat,BitVec.toNat_ofNat];have h32:2 ^ IntKind.u32.bits=4294967296:=by decide
   rw [h32,Nat.mod_eq_of_lt ha,Nat.mod_eq_of_lt (by omega)]
  rw [this];exact IntWalk.u32_in _ (by omega)
 rw [e1,e2];unfold jH gH;rw [IntKind.wrap_u32];omega
theorem QZ (s:List UInt8) (hb:s.length<=aW):UZ s=some ((),((((CG s:Nat):Int),()),())):=by
 have hbig:aW=140737488355328:=rfl;unfold UZ;have h:=a6 (step:=fb wa) s (fun i (a:Nat)=>(s,((a:Nat):Int),((i:Nat):Int),())) (fun _ x a=>Sum.inl (gH a x)) (fun a=> .inl (s,((a:Nat):Int),(s.length:Int),())) (fun _ a=>a < 4294967296) (a0:=2166136261) (by decide) (fun i x a hx ha=>by
  have hlt:=aj hx;show wa s (a:Int) (i:Int)=_;unfold wa;rw [aG hx,aC hx,ew hx,aQ (by omega),CQ x ha]; rfl) (fun i x a a' hx ha hf=>by
  simp only [Sum.inl.injEq] at hf;rw [<- hf]; exact Ca a x) (fun a ha=>by
  show wa s (a:Int) (s.length:Int)=_;unfold wa;rw [aw rfl]; rfl)
 rw [bQ (fun x a=>gH a x)] at h;have h':Nq s 2166136261 0=_:=h;rw [h']; rfl
theorem Kh (s:List UInt8):CG s < 4294967296:=by
 have:∀ (s:List UInt8) (a:Nat),a < 4294967296->s.foldl gH a < 4294967296:=fun s=>by
  induction s with
  | nil=>exact fun a h=>h
  | cons c r ih=>exact fun a _=>ih _ (Ca a c)
 exact this s _ (by decide)
theorem SS (s:List UInt8) (hb:s.length<=aW):UB s=some ((),((((CG s:Nat):Int),()),())):=by
 have hbig:aW=140737488355328:=rfl;unfold UB;have h:=a6 (step:=cU uK) s (fun i (a:Nat)=>(s,((a:Nat):Int),ae s,((i:Nat):Int),())) (fun _ x a=>Sum.inl (gH a x)) (fun a=> .inl (s,((a:Nat):Int),ae s,(s.length:Int),())) (fun _ a=>a < 4294967296) (a0:=2166136261) (by decide) (fun i x a hx ha=>by
  have hlt:=aj hx;show uK s (a:Int) (ae s) (i:Int)=_;unfold uK;rw [aG hx,aC hx,ew hx,aQ (by omega),Ch x ha]; rfl) (fun i x a a' hx ha hf=>by
  simp only [Sum.inl.injEq] at hf;rw [<- hf]; exact Ca a x) (fun a ha=>by
  show uK s (a:Int) (ae s) (s.length:Int)=_;unfold uK;rw [aw rfl]; rfl)
 rw [bQ (fun x a=>gH a x)] at h;have h':MR s 2166136261 (ae s) 0=_:=h;rw [h'];have:=Kh s;have e:bN .i64 ((CG s:Nat):Int)=((CG s:Nat):Int):=IntWalk.i64_in _ (by omega);show some ((),((bN .i64 ((CG s:Nat):Int),()),()))=_;rw [e]
def aD (s:List UInt8) (n:Int):Int:=cond (au n 1) 0 (gI ((CG s:Nat):Int) n)
theorem pz (s:List UInt8) (n:Int) (hb:s.length<=aW):Mj s n=some ((),((aD s n,()),())):=by
 unfold Mj aD;rw [QZ s hb];by_cases h:n < 1
 . rw [aF h]; rfl
 . rw [ax h];have:ak n 0=false:=by
    rw [Bool.eq_false_iff]; intro hh; rw [fL] at hh; omega
   dsimp only [cond_false,Option.bind_some];rw [this]; rfl
theorem AN (s:List UInt8) (n:Int) (hb:s.length<=aW):Sj s n=some ((),((aD s n,()),())):=by
 unfold Sj aD;rw [SS s hb];by_cases h:n < 1
 . rw [aF h]; rfl
 . rw [ax h];have:ak n 0=false:=by
    rw [Bool.eq_false_iff]; intro hh; rw [fL] at hh; omega
   dsimp only [cond_false,Option.bind_some];rw [this]; rfl
def jh (xs:List aN) (i:Nat) (x:aN):Bool:=cond (ve x) (cond (decide (0 < i)) (jT (gt ([],0,0,0,0,[],0,0,[],[],[],()) xs ((i:Int) - 1)).1 x.1) true) false
def rL (b:List aN):Bool:=cond (allI (jh b) 0 b) (bC (ae b) 6) false
def DK (b:List aN):Prop:=b.length<=1048576/\∀ a∈b,ju a
theorem Hz (b:List aN) (hb:DK b):Qi (b,())=some ((),((rL b,()),())):=by
 have hbig:aW=140737488355328:=rfl;have hl:=hb.1;unfold Qi;have h:=aE (step:=cU uE) b (fun i (_:Unit)=>(b,ae b,((i:Nat):Int),(b,()),())) (fun i x _=>bif jh b i x then Sum.inl () else .inr (.inr (false,()))) (fun _=> .inl (b,ae b,(b.length:Int),(b,()),())) (a0:=()) (fun i x a hx=>by
  have hlt:=aj hx;show uE b (ae b) (i:Int) (b,())=_;unfold uE jh;rw [aG hx,aC hx,aX _ hx];dsimp only [cond_true];rw [Pc x (hb.2 x (List.mem_of_getElem? hx)),aQ (by omega)];dsimp only [Option.bind_some];cases ve x with
  | false=>rfl
  | true =>
    by_cases h0:0 < i
    . rw [aF (show (0:Int) < i by omega),aO (by omega) (by omega),hJ hx h0];dsimp only [cond_true,cond_false,Bool.not_true];have e:gt d92 b ((i:Int) - 1)=gt ([],0,0,0,0,[],0,0,[],[],[],()) b ((i:Int) - 1):=rfl;rw [e,decide_eq_true h0];cases jT (gt ([],0,0,0,0,[],0,0,[],[],[],()) b ((i:Int) - 1)).1 x.1 <;> rfl
    . rw [ax (show ¬ (0:Int) < i by omega),decide_eq_false h0]; rfl) (fun a=>by
  show uE b (ae b) (b.length:Int) (b,())=_;unfold uE;rw [aw rfl]; rfl)
 rw [cC] at h;have h':Nn b (ae b) 0 (b,())=_:=h;dsimp only;rw [h'];unfold rL;cases allI (jh b) 0 b <;> rfl
theorem Hf (b:List aN) (hb:DK b):Qn (b,())=some ((),((rL b,()),())):=by
 have hbig:aW=140737488355328:=rfl;have hl:=hb.1;unfold Qn;have h:=aE (step:=cU wC) b (fun i (_:Unit)=>(b,ae b,((i:Nat):Int),(b,()),())) (fun i x _=>bif jh b i x then Sum.inl () else .inr (.inr (false,()))) (fun _=> .inl (b,ae b,(b.length:Int),(b,()),())) (a0:=()) (fun i x a hx=>by
  have hlt:=aj hx;show wC b (ae b) (i:Int) (b,())=_;unfold wC jh;rw [aG hx,aC hx,aX _ hx];dsimp only [cond_true];rw [Oh x (hb.2 x (List.mem_of_getElem? hx)),aQ (by omega)];dsimp only [Option.bind_some];cases ve x with
  | false=>rfl
  | true =>
    by_cases h0:0 < i
    . rw [aF (show (0:Int) < i by omega),aO (by omega) (by omega),hJ hx h0];dsimp only [cond_true,cond_false,Bool.not_true];rw [sU];have e:gt d92 b ((i:Int) - 1)=gt ([],0,0,0,0,[],0,0,[],[],[],()) b ((i:Int) - 1):=rfl;rw [e,decide_eq_true h0];cases jT (gt ([],0,0,0,0,[],0,0,[],[],[],()) b ((i:Int) - 1)).1 x.1 <;> rfl
    . rw [ax (show ¬ (0:Int) < i by omega),decide_eq_false h0]; rfl) (fun a=>by
  show wC b (ae b) (b.length:Int) (b,())=_;unfold wC;rw [aw rfl]; rfl)
 rw [cC] at h;have h':MV b (ae b) 0 (b,())=_:=h;dsimp only;rw [h'];unfold rL;cases allI (jh b) 0 b <;> rfl
abbrev dn (a b:aN):Bool:=jT a.1 b.1
theorem ff:JL dn:=Ks (fun (a:aN)=>a.1)
abbrev bI:Nat:=1099511627776
theorem KQ (a b:aN):∃ v,Oy a b=some ((),((v,()),()))/\au v 0=dn a b:=by
 unfold Oy;cases h:jT a.1 b.1 with
 | true=>exact ⟨_,rfl,by show _=jT a.1 b.1; rw [h]; rfl⟩
 | false =>
   cases !(NK a.1 b.1) with
   | true=>exact ⟨_,rfl,by show _=jT a.1 b.1; rw [h]; rfl⟩
   | false=>exact ⟨_,rfl,by show _=jT a.1 b.1; rw [h]; rfl⟩
theorem P3 (P S:List aN) (x:aN) (b i:Int):∀ (n:Nat) (A1 A2:List aN),A1.length=n->(P ++ (A1 ++ x :: A2) ++ S).length<=bI ->
 ∃ B1 B2 j',A1=B1 ++ B2/\(∀ y∈B2,dn x y=true)/\(∀ C y,B1=C ++ [y]->dn x y=false) /\
  zb (P ++ (A1 ++ x :: A2) ++ S) (P.length:Int) b () i ((P.length + A1.length:Nat):Int)=some (.inl (P ++ (B1 ++ x :: (B2 ++ A2)) ++ S,(P.length:Int),b,(),i,j',())):=by
 intro n;induction n with
 | zero => intro A1 A2 hn hl;have:A1=[]:=List.length_eq_zero_iff.1 hn;subst this;refine ⟨[],[],((P.length + 0:Nat):Int),rfl,fun y hy=>by simp at hy,fun C y h=>by simp at h,aJ _ ?_⟩;show nU (P ++ ([] ++ x :: A2) ++ S) (P.length:Int) b () i ((P.length + 0:Nat):Int)=_;unfold nU;rw [ax (by omega)];rfl
 | succ n ih =>
   intro A1 A2 hn hl;obtain ⟨B,y,rfl⟩:=s7 (a:=A1) (fun h=>by subst h; simp at hn);have hB:B.length=n:=by simpa using hn
   simp only [bI,List.length_append,List.length_cons,List.length_nil] at hl;have e0:P ++ (B ++ [y] ++ x :: A2) ++ S=(P ++ B) ++ y :: x :: (A2 ++ S):=by simp
   have e1:P ++ (B ++ [y] ++ x :: A2) ++ S=(P ++ B ++ [y]) ++ x :: (A2 ++ S):=by simp
   have hj:((P.length + (B ++ [y]).length:Nat):Int)=((P ++ B ++ [y]).length:Int):=by simp <;> omega
   have hj1:aI .i64 ((P.length + (B ++ [y]).length:Nat):Int) 1=((P ++ B).length:Int):=by rw [aO (by simp <;> omega) (by simp <;> omega)]; simp <;> omega
   obtain ⟨v,hv1,hv2⟩:=KQ x y
   have hstep:nU (P ++ (B ++ [y] ++ x :: A2) ++ S) (P.length:Int) b () i ((P.length + (B ++ [y]).length:Nat):Int) =
    cond (dn x y) (some (.inl (P ++ (B ++ x :: (y :: A2)) ++ S,(P.length:Int),b,(),i,((P.length + B.length:Nat):Int),()))) (some (.inr (.inl (P ++ (B ++ [y] ++ x :: A2) ++ S,(P.length:Int),b,(),i,((P.length + (B ++ [y]).length:Nat):Int),())))):=by
    unfold nU;have i1:a7 ((P.length + (B ++ [y]).length:Nat):Int) (P ++ (B ++ [y] ++ x :: A2) ++ S)=true:=by rw [e1]; exact gW _ _ _ hj
    have i2:a7 ((P ++ B).length:Int) (P ++ (B ++ [y] ++ x :: A2) ++ S)=true:=by rw [e0]; exact gW _ _ _ rfl
    have a1:zD ((P.length + (B ++ [y]).length:Nat):Int) (P ++ (B ++ [y] ++ x :: A2) ++ S) ((P.length + (B ++ [y]).length:Nat):Int)=true:=by rw [e1]; exact jM _ _ _ hj
    have a2:zD ((P ++ B).length:Int) (P ++ (B ++ [y] ++ x :: A2) ++ S) ((P ++ B).length:Int)=true:=by rw [e0]; exact jM _ _ _ rfl
    have t1:gt d92 (P ++ (B ++ [y] ++ x :: A2) ++ S) ((P.length + (B ++ [y]).length:Nat):Int)=x:=by rw [e1]; exact uR _ _ _ _ hj
    have t2:gt d92 (P ++ (B ++ [y] ++ x :: A2) ++ S) ((P ++ B).length:Int)=y:=by rw [e0]; exact uR _ _ _ _ rfl
    rw [aF (by simp <;> omega)];dsimp only [cond_true];rw [hj1,i1,i2,t1,t2,a1,a2,hv1];dsimp only [cond_true,Option.bind_some];rw [hv2];cases dn x y with
    | false=>rfl
    | true =>
      have sw:F6 d92 (P ++ (B ++ [y] ++ x :: A2) ++ S) ((P.length + (B ++ [y]).length:Nat):Int) ((P ++ B).length:Int)=P ++ (B ++ x :: (y :: A2)) ++ S:=by
       rw [e0];unfold F6;have:=xA d92 (P ++ B) y x (A2 ++ S);have k1:((P.length + (B ++ [y]).length:Nat):Int).toNat=(P ++ B).length + 1:=by simp <;> omega
       rw [k1,Int.toNat_natCast,this];simp
      rw [sw];have k2:((P ++ B).length:Int)=((P.length + B.length:Nat):Int):=by simp
      rw [k2]
   cases hc:dn x y with
   | false => rw [hc] at hstep;refine ⟨B ++ [y],[],((P.length + (B ++ [y]).length:Nat):Int),by simp,fun y hy=>by simp at hy,fun C z h => ?_,aJ _ hstep⟩;have:=List.append_inj' h rfl;have h2:=this.2;simp only [List.cons.injEq,and_true] at h2;rw [<- h2]; exact hc
   | true =>
     rw [hc] at hstep;obtain ⟨B1,B2,j',q1,q2,q3,q4⟩:=ih B (y :: A2) hB (by simp [bI]; omega);refine ⟨B1,B2 ++ [y],j',by rw [q1]; simp,fun z hz => ?_,q3,aR _ hstep ?_⟩
     . rcases List.mem_append.1 hz with hz | hz
       . exact q2 z hz
       . simp only [List.mem_singleton] at hz; subst hz; exact hc
     . have:B2 ++ [y] ++ A2=B2 ++ y :: A2:=by simp
       rw [this];exact q4
theorem J5 (P S:List aN) (b:Int):∀ (n:Nat) (A R:List aN),R.length=n->kZ dn A->b=((P.length + A.length + R.length:Nat):Int)->(P ++ (A ++ R) ++ S).length<=bI ->
 ∃ M,kZ dn M/\eh dn (A ++ R) M/\ot (P ++ (A ++ R) ++ S) (P.length:Int) b () ((P.length + A.length:Nat):Int)=some (.inl (P ++ M ++ S,(P.length:Int),b,(),b,())):=by
 intro n;induction n with
 | zero =>
   intro A R hn hA hb hl;have:R=[]:=List.length_eq_zero_iff.1 hn;subst this;have hb':b=((P.length + A.length:Nat):Int):=by simpa using hb
   refine ⟨A,hA,by rw [List.append_nil]; exact eh.refl _,aJ _ ?_⟩;show kS (P ++ (A ++ []) ++ S) (P.length:Int) b () ((P.length + A.length:Nat):Int)=_;unfold kS;rw [ax (by omega),List.append_nil,<- hb'];rfl
 | succ n ih =>
   intro A R hn hA hb hl;cases R with
   | nil=>simp at hn
   | cons x R =>
     have hR:R.length=n:=by simpa using hn
     have hl':=hl;simp only [bI,List.length_append,List.length_cons] at hl';have e0:P ++ (A ++ x :: R) ++ S=P ++ (A ++ x :: []) ++ (R ++ S):=by simp
     obtain ⟨B1,B2,j',q1,q2,q3,q4⟩:=P3 P (R ++ S) x b ((P.length + A.length:Nat):Int) A.length A [] rfl (by rw [<- e0]; exact hl);rw [List.append_nil,<- e0] at q4;subst q1;have hs:=cl.1 hA;have hlast:∀ y∈B1,dn x y=false:=fun y hy=>by
      obtain ⟨C,z,rfl⟩:=s7 (a:=B1) (fun h=>by subst h; simp at hy);have hz:=q3 C z rfl;rcases List.mem_append.1 hy with hy | hy
      . exact ff.le_trans ((cl.1 hs.1).2.2 y hy z (by simp)) hz
      . simp only [List.mem_singleton] at hy; subst hy; exact hz
     have hsrt:kZ dn (B1 ++ x :: B2):=by
      refine cl.2 ⟨hs.1,List.pairwise_cons.2 ⟨fun y hy => ?_,hs.2.1⟩,fun y hy z hz => ?_⟩
      . cases h:dn y x with
        | false=>rfl
        | true => have:=ff.trans _ _ _ h (q2 y hy);rw [ff.irr] at this;simp at this
      . rcases List.mem_cons.1 hz with rfl | hz
        . exact hlast y hy
        . exact hs.2.2 y hy z hz
     have hstb:eh dn (B1 ++ B2 ++ x :: R) (B1 ++ x :: B2 ++ R):=by
      have h1:eh dn (B2 ++ [x]) ([x] ++ B2):=eh.swap ff fun y hy z hz=>by simp only [List.mem_singleton] at hz; subst hz; exact q2 y hy
      have h2:=((eh.refl B1).append h1).append (eh.refl R);simpa using h2
     obtain ⟨M,m1,m2,m3⟩:=ih (B1 ++ x :: B2) R hR hsrt (by rw [hb]; simp only [List.length_append,List.length_cons]; omega) (by simp only [bI,List.length_append,List.length_cons] at hl' ⊢; omega);refine ⟨M,m1,hstb.trans m2,aR _ (x':=(P ++ (B1 ++ x :: B2 ++ R) ++ S,(P.length:Int),b,(),((P.length + (B1 ++ x :: B2).length:Nat):Int),())) ?_ m3⟩;show kS (P ++ (B1 ++ B2 ++ x :: R) ++ S) (P.length:Int) b () ((P.length + (B1 ++ B2).length:Nat):Int)=_;unfold kS;rw [aF (by rw [hb]; simp only [List.length_append,List.length_cons]; omega),q4];dsimp only [cond_true,Option.bind_some,Sum.elim_inl];have k1:aq .i64 ((P.length + (B1 ++ B2).length:Nat):Int) 1=((P.length + (B1 ++ x :: B2).length:Nat):Int):=by rw [bf (by omega) (by simp only [List.length_append] at *; omega)];simp only [List.length_append,List.length_cons]; omega
     rw [k1];simp
theorem M7 (P L S:List aN) (hl:(P ++ L ++ S).length<=bI):∃ M,kZ dn M/\eh dn L M/\Fw (P ++ L ++ S) (P.length:Int) ((P.length + L.length:Nat):Int)=some (((P ++ M ++ S,()),()),()):=by
 have hl':=hl;simp only [bI,List.length_append] at hl';unfold Fw;have k0:aq .i64 (P.length:Int) 1=((P.length + 1:Nat):Int):=by rw [bf (by omega) (by omega)]; omega
 rw [k0];cases L with
 | nil => refine ⟨[],Dk,eh.refl _,?_⟩;have:ot (P ++ [] ++ S) (P.length:Int) ((P.length + 0:Nat):Int) () ((P.length + 1:Nat):Int)=some (.inl (P ++ [] ++ S,(P.length:Int),((P.length + 0:Nat):Int),(),((P.length + 1:Nat):Int),())):=aJ _ (by show kS (P ++ [] ++ S) (P.length:Int) ((P.length + 0:Nat):Int) () ((P.length + 1:Nat):Int)=_;unfold kS;rw [ax (by omega)]; rfl);show Option.bind (ot (P ++ [] ++ S) (P.length:Int) ((P.length + 0:Nat):Int) () ((P.length + 1:Nat):Int)) _=_;rw [this];rfl
 | cons x L => obtain ⟨M,m1,m2,m3⟩:=J5 P S ((P.length + (x :: L).length:Nat):Int) L.length [x] L rfl (Lg x) (by simp only [List.length_cons,List.length_nil]; omega) (by simpa using hl);refine ⟨M,m1,m2,?_⟩;have m3':ot (P ++ x :: L ++ S) (P.length:Int) ((P.length + (x :: L).length:Nat):Int) () ((P.length + 1:Nat):Int)=_:=m3;rw [m3'];rfl
theorem F9 {α:Type} (d:α) (u:List α) (p:α) (v:List α) (q:α) (w:List α):jZ d (u ++ p :: (v ++ q :: w)) u.length (u.length + (1 + v.length))=u ++ q :: (v ++ p :: w):=by
 unfold jZ;have h1:(u ++ p :: (v ++ q :: w)).getD u.length d=p:=by simp [List.getD]
 have h2:(u ++ p :: (v ++ q :: w)).getD (u.length + (1 + v.length)) d=q:=by rw [List.getD,List.getElem?_append_right (by omega),show u.length + (1 + v.length) - u.length=v.length + 1 by omega,List.getElem?_cons_succ,List.getElem?_append_right (by omega),Nat.sub_self];rfl
 rw [h1,h2,List.set_append,if_neg (by omega),Nat.sub_self,List.set_append,if_neg (by omega),show u.length + (1 + v.length) - u.length=v.length + 1 by omega];show u ++ (q :: (v ++ q :: w)).set (v.length + 1) p=_;rw [List.set_cons_succ,List.set_append,if_neg (by omega),Nat.sub_self];rfl
theorem H9 (P Y S:List aN):∀ (n:Nat) (Z1 X2 X1 Z2:List aN),X2.length=n->Z2.length=n->X1.length=Z1.length->(P ++ (Z1 ++ X2) ++ Y ++ (X1 ++ Z2) ++ S).length<=bI ->
 wM (P ++ (Z1 ++ X2) ++ Y ++ (X1 ++ Z2) ++ S) (P.length:Int) ((P.length + (Z1.length + n) + Y.length:Nat):Int) ((Z1.length + n:Nat):Int) (Z1.length:Int) =
  some (.inl (P ++ (Z1 ++ Z2) ++ Y ++ (X1 ++ X2) ++ S,(P.length:Int),((P.length + (Z1.length + n) + Y.length:Nat):Int),((Z1.length + n:Nat):Int),((Z1.length + n:Nat):Int),())):=by
 intro n;induction n with
 | zero => intro Z1 X2 X1 Z2 h1 h2 h3 hl;have e1:X2=[]:=List.length_eq_zero_iff.1 h1;have e2:Z2=[]:=List.length_eq_zero_iff.1 h2;subst e1; subst e2;refine aJ _ ?_;show nJ (P ++ (Z1 ++ []) ++ Y ++ (X1 ++ []) ++ S) (P.length:Int) ((P.length + (Z1.length + 0) + Y.length:Nat):Int) ((Z1.length + 0:Nat):Int) (Z1.length:Int)=_;unfold nJ;rw [ax (by omega)];rfl
 | succ n ih =>
   intro Z1 X2 X1 Z2 h1 h2 h3 hl;cases X2 with
   | nil=>simp at h1
   | cons x X2 =>
   cases Z2 with
   | nil=>simp at h2
   | cons z Z2 =>
   have hx:X2.length=n:=by simpa using h1
   have hz:Z2.length=n:=by simpa using h2
   have hl':=hl;simp only [bI,List.length_append,List.length_cons] at hl';have ih':=ih (Z1 ++ [z]) X2 (X1 ++ [x]) Z2 hx hz (by simp [h3]) (by simp only [bI,List.length_append,List.length_cons,List.length_nil]; omega);have e1:((P.length + ((Z1 ++ [z]).length + n) + Y.length:Nat):Int)=((P.length + (Z1.length + (n + 1)) + Y.length:Nat):Int):=by simp only [List.length_append,List.length_cons,List.length_nil]; omega
   have e2:(((Z1 ++ [z]).length + n:Nat):Int)=((Z1.length + (n + 1):Nat):Int):=by simp only [List.length_append,List.length_cons,List.length_nil]; omega
   have e3:(((Z1 ++ [z]).length:Nat):Int)=aq .i64 (Z1.length:Int) 1:=by rw [bf (by omega) (by omega)]; simp
   rw [e1,e2,e3] at ih';have ef:P ++ (Z1 ++ [z] ++ Z2) ++ Y ++ (X1 ++ [x] ++ X2) ++ S=P ++ (Z1 ++ z :: Z2) ++ Y ++ (X1 ++ x :: X2) ++ S:=by simp
   rw [ef] at ih';refine aR _ ?_ ih';show nJ (P ++ (Z1 ++ x :: X2) ++ Y ++ (X1 ++ z :: Z2) ++ S) (P.length:Int) ((P.length + (Z1.length + (n + 1)) + Y.length:Nat):Int) ((Z1.length + (n + 1):Nat):Int) (Z1.length:Int)=_;have d1:P ++ (Z1 ++ x :: X2) ++ Y ++ (X1 ++ z :: Z2) ++ S=(P ++ Z1) ++ x :: ((X2 ++ Y ++ X1) ++ z :: (Z2 ++ S)):=by simp
   have d2:P ++ (Z1 ++ x :: X2) ++ Y ++ (X1 ++ z :: Z2) ++ S=(P ++ Z1 ++ x :: (X2 ++ Y ++ X1)) ++ z :: (Z2 ++ S):=by simp
   have k1:aq .i64 ((P.length + (Z1.length + (n + 1)) + Y.length:Nat):Int) (Z1.length:Int)=((P ++ Z1 ++ x :: (X2 ++ Y ++ X1)).length:Int):=by rw [bf (by omega) (by omega)];simp only [List.length_append,List.length_cons]; omega
   have k2:aq .i64 (P.length:Int) (Z1.length:Int)=((P ++ Z1).length:Int):=by rw [bf (by omega) (by omega)];simp only [List.length_append]; omega
   unfold nJ;rw [aF (by omega),k1,k2];dsimp only [cond_true];have i1:a7 ((P ++ Z1 ++ x :: (X2 ++ Y ++ X1)).length:Int) (P ++ (Z1 ++ x :: X2) ++ Y ++ (X1 ++ z :: Z2) ++ S)=true:=by rw [d2]; exact gW _ _ _ rfl
   have i2:a7 ((P ++ Z1).length:Int) (P ++ (Z1 ++ x :: X2) ++ Y ++ (X1 ++ z :: Z2) ++ S)=true:=by rw [d1]; exact gW _ _ _ rfl
   have a1:zD ((P ++ Z1 ++ x :: (X2 ++ Y ++ X1)).length:Int) (P ++ (Z1 ++ x :: X2) ++ Y ++ (X1 ++ z :: Z2) ++ S) ((P ++ Z1 ++ x :: (X2 ++ Y ++ X1)).length:Int)=true:=by rw [d2]; exact jM _ _ _ rfl
   have a2:zD ((P ++ Z1).length:Int) (P ++ (Z1 ++ x :: X2) ++ Y ++ (X1 ++ z :: Z2) ++ S) ((P ++ Z1).length:Int)=true:=by rw [d1]; exact jM _ _ _ rfl
   rw [i1,i2,a1,a2];dsimp only [cond_true];have sw:F6 d92 (P ++ (Z1 ++ x :: X2) ++ Y ++ (X1 ++ z :: Z2) ++ S) ((P ++ Z1).length:Int) ((P ++ Z1 ++ x :: (X2 ++ Y ++ X1)).length:Int)=P ++ (Z1 ++ [z] ++ X2) ++ Y ++ (X1 ++ [x] ++ Z2) ++ S:=by
    unfold F6;rw [Int.toNat_natCast,Int.toNat_natCast,d1];have k3:(P ++ Z1 ++ x :: (X2 ++ Y ++ X1)).length=(P ++ Z1).length + (1 + (X2 ++ Y ++ X1).length):=by simp only [List.length_append,List.length_cons]; omega
    rw [k3,F9];simp
   rw [sw]
theorem IQ (P X Y Z S:List aN) (hx:X.length=Z.length) (hl:(P ++ X ++ Y ++ Z ++ S).length<=bI):zq (P ++ X ++ Y ++ Z ++ S) (P.length:Int) ((P.length + X.length + Y.length:Nat):Int) (X.length:Int)=some (((P ++ Z ++ Y ++ X ++ S,()),()),()):=by unfold zq;have h:=H9 P Y S X.length [] X [] Z rfl hx.symm rfl hl;simp only [List.nil_append,List.length_nil,Nat.zero_add] at h;have h':wM (P ++ X ++ Y ++ Z ++ S) (P.length:Int) ((P.length + X.length + Y.length:Nat):Int) (X.length:Int) 0=_:=h;rw [h'];rfl
theorem Ii:∀ (n:Nat) (P X Y S:List aN) (m:Nat),X.length + Y.length=n->0 < X.length->0 < Y.length->m=P.length + X.length->(P ++ X ++ Y ++ S).length<=bI ->
 ∃ (t:List aN) (i:Nat),i<=m/\i<=n/\HG (P ++ X ++ Y ++ S) (m:Int) () (X.length:Int) (Y.length:Int)=some (.inl (t,(m:Int),(),(i:Int),(i:Int),())) /\
  zq t ((m - i:Nat):Int) (m:Int) (i:Int)=some (((P ++ Y ++ X ++ S,()),()),()):=by
 intro n;induction n using Nat.strongRecOn with
 | _ n ih =>
 intro P X Y S m hn hX hY hm hl;subst hm;have hl':=hl;simp only [bI,List.length_append] at hl';rcases Nat.lt_trichotomy X.length Y.length with h | h | h
 . -- the second is longer: its end comes ahead
   obtain ⟨Y1,Y2,rfl,hY2⟩:∃ Y1 Y2,Y=Y1 ++ Y2/\Y2.length=X.length:=⟨Y.take (Y.length - X.length),Y.drop (Y.length - X.length),(List.take_append_drop _ _).symm,by rw [List.length_drop]; omega⟩;simp only [List.length_append] at h hn hl' hY;obtain ⟨t,i,i1,i2,q1,q2⟩:=ih (Y2.length + Y1.length) (by omega) P Y2 Y1 (X ++ S) (P.length + X.length) rfl (by omega) (by omega) (by omega) (by simp only [bI,List.length_append]; omega);refine ⟨t,i,i1,by omega,aR _ ?_ q1,by rw [q2]; simp⟩;show mh (P ++ X ++ (Y1 ++ Y2) ++ S) ((P.length + X.length:Nat):Int) () (X.length:Int) ((Y1 ++ Y2).length:Int)=_;have hs:=IQ P X Y1 Y2 S (by omega) (by simp only [bI,List.length_append]; omega);have e0:P ++ X ++ (Y1 ++ Y2) ++ S=P ++ X ++ Y1 ++ Y2 ++ S:=by simp
   have k0:ak (X.length:Int) ((Y1 ++ Y2).length:Int)=false:=by rw [Bool.eq_false_iff]; intro hh; rw [fL] at hh; simp only [List.length_append] at hh; omega
   have k1:aI .i64 ((P.length + X.length:Nat):Int) (X.length:Int)=(P.length:Int):=by rw [aO (by omega) (by omega)]; omega
   have k2:aq .i64 ((P.length + X.length:Nat):Int) ((Y1 ++ Y2).length:Int)=((P.length + X.length + (Y1 ++ Y2).length:Nat):Int):=by rw [bf (by omega) (by simp only [List.length_append]; omega)]; omega
   have k3:aI .i64 ((P.length + X.length + (Y1 ++ Y2).length:Nat):Int) (X.length:Int)=((P.length + X.length + Y1.length:Nat):Int):=by rw [aO (by omega) (by simp only [List.length_append]; omega)]; simp only [List.length_append]; omega
   have k4:aI .i64 ((Y1 ++ Y2).length:Int) (X.length:Int)=(Y1.length:Int):=by rw [aO (by omega) (by simp only [List.length_append]; omega)]; simp only [List.length_append]; omega
   unfold mh;rw [k0,ax (by simp only [List.length_append]; omega)];dsimp only [cond_true,cond_false,Bool.not_false];rw [k1,k2,k3,k4,e0,hs];dsimp only [Option.bind_some];rw [hY2];simp
 . -- alike
   refine ⟨P ++ X ++ Y ++ S,X.length,by omega,by omega,aJ _ ?_,?_⟩
   . show mh (P ++ X ++ Y ++ S) ((P.length + X.length:Nat):Int) () (X.length:Int) (Y.length:Int)=_;unfold mh;rw [<- h,bp];rfl
   . have hs:=IQ P X [] Y S h (by simp only [bI,List.length_append,List.length_nil]; omega);rw [List.append_nil,List.append_nil,List.length_nil,Nat.add_zero] at hs;rw [show P.length + X.length - X.length=P.length by omega];exact hs
 . -- the first is longer: its begin goes behind
   obtain ⟨X1,X2,rfl,hX1⟩:∃ X1 X2,X=X1 ++ X2/\X1.length=Y.length:=⟨X.take Y.length,X.drop Y.length,(List.take_append_drop _ _).symm,by rw [List.length_take]; omega⟩;simp only [List.length_append] at h hn hl' hX;obtain ⟨t,i,i1,i2,q1,q2⟩:=ih (X2.length + X1.length) (by omega) (P ++ Y) X2 X1 S (P.length + (X1 ++ X2).length) rfl (by omega) (by omega) (by simp only [List.length_append]; omega) (by simp only [bI,List.length_append]; omega);refine ⟨t,i,i1,by omega,aR _ ?_ q1,by rw [q2]; simp⟩;show mh (P ++ (X1 ++ X2) ++ Y ++ S) ((P.length + (X1 ++ X2).length:Nat):Int) () ((X1 ++ X2).length:Int) (Y.length:Int)=_;have hs:=IQ P X1 X2 Y S hX1 (by simp only [bI,List.length_append]; omega);have e0:P ++ (X1 ++ X2) ++ Y ++ S=P ++ X1 ++ X2 ++ Y ++ S:=by simp
   have k0:ak ((X1 ++ X2).length:Int) (Y.length:Int)=false:=by rw [Bool.eq_false_iff]; intro hh; rw [fL] at hh; simp only [List.length_append] at hh; omega
   have k1:aI .i64 ((P.length + (X1 ++ X2).length:Nat):Int) ((X1 ++ X2).length:Int)=(P.length:Int):=by rw [aO (by omega) (by simp only [List.length_append]; omega)]; omega
   have k3:((P.length + (X1 ++ X2).length:Nat):Int)=((P.length + X1.length + X2.length:Nat):Int):=by simp only [List.length_append]; omega
   have k4:aI .i64 ((X1 ++ X2).length:Int) (Y.length:Int)=(X2.length:Int):=by rw [aO (by omega) (by simp only [List.length_append]; omega)]; simp only [List.length_append]; omega
   unfold mh;rw [k0,aF (by simp only [List.length_append]; omega)];dsimp only [cond_true,cond_false,Bool.not_false];rw [k1,k4,e0,<- hX1];have hs':zq (P ++ X1 ++ X2 ++ Y ++ S) (P.length:Int) ((P.length + (X1 ++ X2).length:Nat):Int) (X1.length:Int)=some (((P ++ Y ++ X2 ++ X1 ++ S,()),()),()):=by rw [k3]; exact hs
   rw [hs'];dsimp only [Option.bind_some];simp
theorem Rf (P X Y S:List aN) (hX:0 < X.length) (hY:0 < Y.length) (hl:(P ++ X ++ Y ++ S).length<=bI) :
 zm (P ++ X ++ Y ++ S) (P.length:Int) ((P.length + X.length:Nat):Int) ((P.length + X.length + Y.length:Nat):Int)=some (((P ++ Y ++ X ++ S,()),()),()):=by
 have hl':=hl;simp only [bI,List.length_append] at hl';obtain ⟨t,i,i1,i2,q1,q2⟩:=Ii (X.length + Y.length) P X Y S (P.length + X.length) rfl hX hY rfl hl;unfold zm;have k1:aI .i64 ((P.length + X.length:Nat):Int) (P.length:Int)=(X.length:Int):=by rw [aO (by omega) (by omega)]; omega
 have k2:aI .i64 ((P.length + X.length + Y.length:Nat):Int) ((P.length + X.length:Nat):Int)=(Y.length:Int):=by rw [aO (by omega) (by omega)]; omega
 rw [k1,k2,q1];dsimp only [Option.bind_some,Sum.elim_inl];have k3:aI .i64 ((P.length + X.length:Nat):Int) (i:Int)=((P.length + X.length - i:Nat):Int):=by rw [aO (by omega) (by omega)]; omega
 rw [k3,q2];rfl
theorem Gr (P S:List aN) (x:aN) (i:Nat):∀ (n:Nat) (D U:List aN),U.length=n->i=P.length + D.length + U.length + 1->(P ++ (D ++ x :: U) ++ S).length<=bI ->
 ∃ k',uJ (P ++ (D ++ x :: U) ++ S) (i:Int) ((P.length + D.length:Nat):Int)=some (.inl (P ++ (D ++ U ++ [x]) ++ S,(i:Int),k',())):=by
 intro n;induction n with
 | zero =>
   intro D U hn hi hl;have:U=[]:=List.length_eq_zero_iff.1 hn;subst this;simp only [List.length_nil] at hi;simp only [bI,List.length_append,List.length_cons] at hl;refine ⟨((P.length + D.length:Nat):Int),aJ _ ?_⟩;show nM (P ++ (D ++ [x]) ++ S) (i:Int) ((P.length + D.length:Nat):Int)=_;unfold nM;have k1:aI .i64 (i:Int) 1=((P.length + D.length:Nat):Int):=by rw [aO (by omega) (by omega)]; omega
   rw [k1,ax (by omega),List.append_nil];rfl
 | succ n ih =>
   intro D U hn hi hl;cases U with
   | nil=>simp at hn
   | cons u U =>
     have hU:U.length=n:=by simpa using hn
     simp only [List.length_cons] at hi;have hl':=hl;simp only [bI,List.length_append,List.length_cons] at hl';obtain ⟨k',hk⟩:=ih (D ++ [u]) U hU (by simp only [List.length_append,List.length_cons,List.length_nil]; omega) (by simp only [bI,List.length_append,List.length_cons,List.length_nil]; omega);refine ⟨k',?_⟩;have ef:P ++ (D ++ [u] ++ U ++ [x]) ++ S=P ++ (D ++ u :: U ++ [x]) ++ S:=by simp
     rw [ef] at hk;refine aR _ ?_ hk;show nM (P ++ (D ++ x :: u :: U) ++ S) (i:Int) ((P.length + D.length:Nat):Int)=_;have d1:P ++ (D ++ x :: u :: U) ++ S=(P ++ D) ++ x :: u :: (U ++ S):=by simp
     have d2:P ++ (D ++ x :: u :: U) ++ S=(P ++ D ++ [x]) ++ u :: (U ++ S):=by simp
     have k1:aI .i64 (i:Int) 1=((P.length + D.length + U.length + 1:Nat):Int):=by rw [aO (by omega) (by omega)]; omega
     have k2:((P.length + D.length:Nat):Int)=((P ++ D).length:Int):=by simp
     have k3:aq .i64 ((P ++ D).length:Int) 1=((P ++ D ++ [x]).length:Int):=by rw [bf (by omega) (by simp only [List.length_append]; omega)]; simp only [List.length_append,List.length_cons,List.length_nil]; omega
     unfold nM;rw [k1,aF (by omega),k2,k3];dsimp only [cond_true];have i1:a7 ((P ++ D ++ [x]).length:Int) (P ++ (D ++ x :: u :: U) ++ S)=true:=by rw [d2]; exact gW _ _ _ rfl
     have i2:a7 ((P ++ D).length:Int) (P ++ (D ++ x :: u :: U) ++ S)=true:=by rw [d1]; exact gW _ _ _ rfl
     have a1:zD ((P ++ D ++ [x]).length:Int) (P ++ (D ++ x :: u :: U) ++ S) ((P ++ D ++ [x]).length:Int)=true:=by rw [d2]; exact jM _ _ _ rfl
     have a2:zD ((P ++ D).length:Int) (P ++ (D ++ x :: u :: U) ++ S) ((P ++ D).length:Int)=true:=by rw [d1]; exact jM _ _ _ rfl
     rw [i1,i2,a1,a2];dsimp only [cond_true];have sw:F6 d92 (P ++ (D ++ x :: u :: U) ++ S) ((P ++ D).length:Int) ((P ++ D ++ [x]).length:Int)=P ++ (D ++ [u] ++ x :: U) ++ S:=by
      unfold F6;have e1:(P ++ D ++ [x]).length=(P ++ D).length + 1:=by simp only [List.length_append,List.length_cons,List.length_nil]
      rw [Int.toNat_natCast,Int.toNat_natCast,e1,d1,B3];simp
     rw [sw];have k4:((P ++ D ++ [x]).length:Int)=((P.length + (D ++ [u]).length:Nat):Int):=by simp only [List.length_append,List.length_cons,List.length_nil]; omega
     rw [k4]
theorem Jh (P S:List aN) (y:aN):∀ (n:Nat) (D U:List aN),D.length=n->(P ++ (D ++ y :: U) ++ S).length<=bI ->
 ∃ k',v8 (P ++ (D ++ y :: U) ++ S) (P.length:Int) ((P.length + D.length:Nat):Int)=some (.inl (P ++ (y :: (D ++ U)) ++ S,(P.length:Int),k',())):=by
 intro n;induction n with
 | zero => intro D U hn hl;have:D=[]:=List.length_eq_zero_iff.1 hn;subst this;refine ⟨((P.length + 0:Nat):Int),aJ _ ?_⟩;show nK (P ++ ([] ++ y :: U) ++ S) (P.length:Int) ((P.length + 0:Nat):Int)=_;unfold nK;rw [ax (by omega)];rfl
 | succ n ih =>
   intro D U hn hl;obtain ⟨B,u,rfl⟩:=s7 (a:=D) (fun h=>by subst h; simp at hn);have hB:B.length=n:=by simpa using hn
   have hl':=hl;simp only [bI,List.length_append,List.length_cons,List.length_nil] at hl';obtain ⟨k',hk⟩:=ih B (u :: U) hB (by simp only [bI,List.length_append,List.length_cons]; omega);refine ⟨k',?_⟩;have ef:P ++ (y :: (B ++ u :: U)) ++ S=P ++ (y :: (B ++ [u] ++ U)) ++ S:=by simp
   rw [ef] at hk;refine aR _ ?_ hk;show nK (P ++ (B ++ [u] ++ y :: U) ++ S) (P.length:Int) ((P.length + (B ++ [u]).length:Nat):Int)=_;have d1:P ++ (B ++ [u] ++ y :: U) ++ S=(P ++ B) ++ u :: y :: (U ++ S):=by simp
   have d2:P ++ (B ++ [u] ++ y :: U) ++ S=(P ++ B ++ [u]) ++ y :: (U ++ S):=by simp
   have k1:aI .i64 ((P.length + (B ++ [u]).length:Nat):Int) 1=((P ++ B).length:Int):=by rw [aO (by simp only [List.length_append,List.length_cons,List.length_nil]; omega) (by simp only [List.length_append,List.length_cons,List.length_nil]; omega)];simp only [List.length_append,List.length_cons,List.length_nil]; omega
   have k2:((P.length + (B ++ [u]).length:Nat):Int)=((P ++ B ++ [u]).length:Int):=by simp only [List.length_append,List.length_cons,List.length_nil]; omega
   unfold nK;rw [k1,aF (by simp only [List.length_append,List.length_cons,List.length_nil]; omega),k2];dsimp only [cond_true];have i1:a7 ((P ++ B ++ [u]).length:Int) (P ++ (B ++ [u] ++ y :: U) ++ S)=true:=by rw [d2]; exact gW _ _ _ rfl
   have i2:a7 ((P ++ B).length:Int) (P ++ (B ++ [u] ++ y :: U) ++ S)=true:=by rw [d1]; exact gW _ _ _ rfl
   have a1:zD ((P ++ B ++ [u]).length:Int) (P ++ (B ++ [u] ++ y :: U) ++ S) ((P ++ B ++ [u]).length:Int)=true:=by rw [d2]; exact jM _ _ _ rfl
   have a2:zD ((P ++ B).length:Int) (P ++ (B ++ [u] ++ y :: U) ++ S) ((P ++ B).length:Int)=true:=by rw [d1]; exact jM _ _ _ rfl
   rw [i1,i2,a1,a2];dsimp only [cond_true];have sw:F6 d92 (P ++ (B ++ [u] ++ y :: U) ++ S) ((P ++ B ++ [u]).length:Int) ((P ++ B).length:Int)=P ++ (B ++ y :: u :: U) ++ S:=by
    unfold F6;have e1:(P ++ B ++ [u]).length=(P ++ B).length + 1:=by simp only [List.length_append,List.length_cons,List.length_nil]
    rw [Int.toNat_natCast,Int.toNat_natCast,e1,d1,xA];simp
   rw [sw];have k4:((P ++ B).length:Int)=((P.length + B.length:Nat):Int):=by simp
   rw [k4]
theorem Ry (P S:List aN) (x:aN) (R:List aN) (hR:kZ dn R) (hl:(P ++ x :: R ++ S).length<=bI):∃ n,n<=R.length/\(∀ y∈R.take n,dn y x=true)/\(∀ y∈R.drop n,dn y x=false) /\
 uL (P ++ x :: R ++ S) (P.length:Int) () ((P.length + 1:Nat):Int) ((P.length + 1 + R.length:Nat):Int)=some (.inl (P ++ x :: R ++ S,(P.length:Int),(),((P.length + 1 + n:Nat):Int),((P.length + 1 + n:Nat):Int),())):=by
 have hl':=hl;simp only [bI,List.length_append,List.length_cons] at hl';have e0:P ++ x :: R ++ S=(P ++ [x]) ++ R ++ S:=by simp
 have hpl:(P ++ [x]).length=P.length + 1:=by simp
 have hg:∀ q,q < R.length->(P ++ x :: R ++ S).getD (P.length + 1 + q) d92=R.getD q d92:=fun q hq=>by rw [e0,<- hpl]; exact pD _ _ _ _ hq
 have h:=bsearch (fun (z:(List aN)×Int×Unit×Int×Int×Unit)=>mc z.1 z.2.1 z.2.2.1 z.2.2.2.1 z.2.2.2.2.1) (fun lo hi=>(P ++ x :: R ++ S,(P.length:Int),(),(lo:Int),(hi:Int),())) (fun k=> .inl (P ++ x :: R ++ S,(P.length:Int),(),(k:Int),(k:Int),()))
  (fun h=>dn ((P ++ x :: R ++ S).getD h d92) x) (P.length + 1) (P.length + 1 + R.length) (fun h h' h1 h2 h3 hf=>by
    obtain ⟨q,rfl⟩:∃ q,h=P.length + 1 + q:=⟨h - (P.length + 1),by omega⟩;obtain ⟨q',rfl⟩:∃ q',h'=P.length + 1 + q':=⟨h' - (P.length + 1),by omega⟩;rw [hg q (by omega)] at hf;rw [hg q' (by omega)];rcases ff.neg _ (R.getD q' d92) _ hf with h4 | h4
    . rw [ie ff _ hR (by omega) (by omega)] at h4; simp at h4
    . exact h4) (fun lo hi h1 h2 h3=>by
    show mc (P ++ x :: R ++ S) (P.length:Int) () (lo:Int) (hi:Int)=_;unfold mc;obtain ⟨v,hv1,hv2⟩:=KQ ((P ++ x :: R ++ S).getD ((lo + hi) / 2) d92) x;have hx:gt d92 (P ++ x :: R ++ S) (P.length:Int)=x:=by
     have:P ++ x :: R ++ S=P ++ x :: (R ++ S):=by simp
     rw [this]; exact uR _ _ _ _ rfl
    rw [aF (by omega),sW (by omega)];dsimp only [cond_true];rw [mX (by simp only [List.length_append,List.length_cons]; omega),mX (by simp only [List.length_append,List.length_cons]; omega),yt,hx,hv1];dsimp only [cond_true,Option.bind_some];rw [hv2,aQ (by have:aW=140737488355328:=rfl; omega)];cases dn ((P ++ x :: R ++ S).getD ((lo + hi) / 2) d92) x <;> rfl) (fun k h1 h2=>by
    show mc (P ++ x :: R ++ S) (P.length:Int) () (k:Int) (k:Int)=_;unfold mc;rw [ax (by omega)]; rfl)
  _ (P.length + 1) (P.length + 1 + R.length) rfl (Nat.le_refl _) (by omega) (Nat.le_refl _) (fun h h1 h2=>by omega) (fun h h1 h2=>by omega)
 obtain ⟨k,k1,k2,k3,k4,k5⟩:=h;obtain ⟨n,rfl⟩:∃ n,k=P.length + 1 + n:=⟨k - (P.length + 1),by omega⟩;refine ⟨n,by omega,fun y hy => ?_,fun y hy => ?_,k5⟩
 . obtain ⟨q,q1,q2,rfl⟩:=mI d92 hy;rw [<- hg q q2]; exact k3 _ (by omega) (by omega)
 . obtain ⟨q,q1,q2,rfl⟩:=mY d92 hy;rw [<- hg q q2]; exact k4 _ (by omega) (by omega)
theorem Qu (P S:List aN) (y:aN) (L:List aN) (hL:kZ dn L) (hl:(P ++ L ++ y :: S).length<=bI):∃ n,n<=L.length/\(∀ x∈L.take n,dn y x=false)/\(∀ x∈L.drop n,dn y x=true) /\
 wi (P ++ L ++ y :: S) ((P.length + L.length:Nat):Int) () (P.length:Int) ((P.length + L.length:Nat):Int)=some (.inl (P ++ L ++ y :: S,((P.length + L.length:Nat):Int),(),((P.length + n:Nat):Int),((P.length + n:Nat):Int),())):=by
 have hl':=hl;simp only [bI,List.length_append,List.length_cons] at hl';have hg:∀ q,q < L.length->(P ++ L ++ y :: S).getD (P.length + q) d92=L.getD q d92:=fun q hq=>pD _ _ _ _ hq
 have h:=bsearch (fun (z:(List aN)×Int×Unit×Int×Int×Unit)=>l3 z.1 z.2.1 z.2.2.1 z.2.2.2.1 z.2.2.2.2.1) (fun lo hi=>(P ++ L ++ y :: S,((P.length + L.length:Nat):Int),(),(lo:Int),(hi:Int),())) (fun k=> .inl (P ++ L ++ y :: S,((P.length + L.length:Nat):Int),(),(k:Int),(k:Int),()))
  (fun h=> !dn y ((P ++ L ++ y :: S).getD h d92)) P.length (P.length + L.length) (fun h h' h1 h2 h3 hf=>by
    obtain ⟨q,rfl⟩:∃ q,h=P.length + q:=⟨h - P.length,by omega⟩;obtain ⟨q',rfl⟩:∃ q',h'=P.length + q':=⟨h' - P.length,by omega⟩;rw [hg q (by omega),Bool.not_eq_true'] at hf;rw [hg q' (by omega),Bool.not_eq_true'];exact ff.le_trans (ie ff _ hL (by omega) (by omega)) hf) (fun lo hi h1 h2 h3=>by
    show l3 (P ++ L ++ y :: S) ((P.length + L.length:Nat):Int) () (lo:Int) (hi:Int)=_;unfold l3;obtain ⟨v,hv1,hv2⟩:=KQ y ((P ++ L ++ y :: S).getD ((lo + hi) / 2) d92);have hy:gt d92 (P ++ L ++ y :: S) ((P.length + L.length:Nat):Int)=y:=uR _ (P ++ L) _ _ (by simp);rw [aF (by omega),sW (by omega)];dsimp only [cond_true];rw [mX (by simp only [List.length_append,List.length_cons]; omega),mX (by simp only [List.length_append,List.length_cons]; omega),yt d92 _ ((lo + hi) / 2),hy,hv1];dsimp only [cond_true,Option.bind_some];rw [hv2,aQ (by have:aW=140737488355328:=rfl; omega)];cases dn y ((P ++ L ++ y :: S).getD ((lo + hi) / 2) d92) <;> rfl) (fun k h1 h2=>by
    show l3 (P ++ L ++ y :: S) ((P.length + L.length:Nat):Int) () (k:Int) (k:Int)=_;unfold l3;rw [ax (by omega)]; rfl)
  _ P.length (P.length + L.length) rfl (Nat.le_refl _) (by omega) (Nat.le_refl _) (fun h h1 h2=>by omega) (fun h h1 h2=>by omega)
 obtain ⟨k,k1,k2,k3,k4,k5⟩:=h;obtain ⟨n,rfl⟩:∃ n,k=P.length + n:=⟨k - P.length,by omega⟩;refine ⟨n,by omega,fun x hx => ?_,fun x hx => ?_,k5⟩
 . obtain ⟨q,q1,q2,rfl⟩:=mI d92 hx;have:=k3 (P.length + q) (by omega) (by omega);rw [hg q q2,Bool.not_eq_true'] at this;exact this
 . obtain ⟨q,q1,q2,rfl⟩:=mY d92 hx;have:=k4 (P.length + q) (by omega) (by omega);rw [hg q q2,Bool.not_eq_false'] at this;exact this
theorem S3 (P L R S:List aN) (hL:kZ dn L) (hR:kZ dn R) (mid lo0 hi0:Nat) (c1:P.length<=lo0) (c2:lo0<=hi0) (c3:hi0<=P.length + L.length) (c4:hi0<=mid) (c5:mid<=lo0 + R.length) (hm:mid<=bI) (b:Int) (hl:(P ++ L ++ R ++ S).length<=bI) :
 ∃ k,lo0<=k/\k<=hi0/\(∀ c,lo0<=c->c < k->dn (R.getD (mid - 1 - c) d92) (L.getD (c - P.length) d92)=false)/\(∀ c,k<=c->c < hi0->dn (R.getD (mid - 1 - c) d92) (L.getD (c - P.length) d92)=true) /\
 lg (P ++ L ++ R ++ S) (P.length:Int) ((P.length + L.length:Nat):Int) b () (mid:Int) ((mid + (P.length + L.length):Nat):Int) (lo0:Int) (hi0:Int) ((mid + (P.length + L.length):Nat) - 1:Int) =
  some (.inl (P ++ L ++ R ++ S,(P.length:Int),((P.length + L.length:Nat):Int),b,(),(mid:Int),((mid + (P.length + L.length):Nat):Int),(k:Int),(k:Int),((mid + (P.length + L.length):Nat) - 1:Int),())):=by
 have hl':=hl;simp only [bI,List.length_append] at hl' hm;have hgL:∀ c,P.length<=c->c < P.length + L.length->(P ++ L ++ R ++ S).getD c d92=L.getD (c - P.length) d92:=fun c h1 h2=>by have:=pD d92 P L (R ++ S) (q:=c - P.length) (by omega);rw [show P.length + (c - P.length)=c by omega] at this;rw [List.append_assoc (P ++ L)];exact this
 have hgR:∀ q,q < R.length->(P ++ L ++ R ++ S).getD (P.length + L.length + q) d92=R.getD q d92:=fun q hq=>by have:=pD d92 (P ++ L) R S hq;rw [List.length_append] at this;exact this
 have h:=bsearch (fun (z:(List aN)×Int×Int×Int×Unit×Int×Int×Int×Int×Int×Unit)=>lS z.1 z.2.1 z.2.2.1 z.2.2.2.1 z.2.2.2.2.1 z.2.2.2.2.2.1 z.2.2.2.2.2.2.1 z.2.2.2.2.2.2.2.1 z.2.2.2.2.2.2.2.2.1 z.2.2.2.2.2.2.2.2.2.1)
  (fun lo hi=>(P ++ L ++ R ++ S,(P.length:Int),((P.length + L.length:Nat):Int),b,(),(mid:Int),((mid + (P.length + L.length):Nat):Int),(lo:Int),(hi:Int),((mid + (P.length + L.length):Nat) - 1:Int),())) (fun k=> .inl (P ++ L ++ R ++ S,(P.length:Int),((P.length + L.length:Nat):Int),b,(),(mid:Int),((mid + (P.length + L.length):Nat):Int),(k:Int),(k:Int),((mid + (P.length + L.length):Nat) - 1:Int),()))
  (fun c=> !dn (R.getD (mid - 1 - c) d92) (L.getD (c - P.length) d92)) lo0 hi0 (fun h h' h1 h2 h3 hf=>by
    rw [Bool.not_eq_true'] at hf ⊢;refine ff.le_trans (b:=R.getD (mid - 1 - h) d92) (ff.le_trans (ie ff _ hL (by omega) (by omega)) hf) (ie ff _ hR (by omega) (by omega))) (fun lo hi h1 h2 h3=>by
    show lS (P ++ L ++ R ++ S) (P.length:Int) ((P.length + L.length:Nat):Int) b () (mid:Int) ((mid + (P.length + L.length):Nat):Int) (lo:Int) (hi:Int) ((mid + (P.length + L.length):Nat) - 1:Int)=_;unfold lS;have hc1:lo<=(lo + hi) / 2:=by omega
    have hc2:(lo + hi) / 2 < hi:=by omega
    rw [sW (by omega)];generalize (lo + hi) / 2=c at hc1 hc2;obtain ⟨v,hv1,hv2⟩:=KQ (R.getD (mid - 1 - c) d92) (L.getD (c - P.length) d92);have k1:aI .i64 ((mid + (P.length + L.length):Nat) - 1:Int) (c:Int)=((P.length + L.length + (mid - 1 - c):Nat):Int):=by rw [aO (by omega) (by omega)]; omega
    rw [aF (by omega)];dsimp only [cond_true];rw [k1,mX (by simp only [List.length_append]; omega),mX (by simp only [List.length_append]; omega),yt,yt,hgR _ (by omega),hgL _ (by omega) (by omega),hv1];dsimp only [cond_true,Option.bind_some];rw [hv2,aQ (by have:aW=140737488355328:=rfl; omega)];cases dn (R.getD (mid - 1 - c) d92) (L.getD (c - P.length) d92) <;> rfl) (fun k h1 h2=>by
    show lS (P ++ L ++ R ++ S) (P.length:Int) ((P.length + L.length:Nat):Int) b () (mid:Int) ((mid + (P.length + L.length):Nat):Int) (k:Int) (k:Int) ((mid + (P.length + L.length):Nat) - 1:Int)=_;unfold lS;rw [ax (by omega)]; rfl)
  _ lo0 hi0 rfl (Nat.le_refl _) c2 (Nat.le_refl _) (fun h h1 h2=>by omega) (fun h h1 h2=>by omega)
 obtain ⟨k,k1,k2,k3,k4,k5⟩:=h;refine ⟨k,k1,k2,fun c h1 h2 => ?_,fun c h1 h2 => ?_,k5⟩
 . have:=k3 c h1 h2;rwa [Bool.not_eq_true'] at this
 . have:=k4 c h1 h2;rwa [Bool.not_eq_false'] at this
noncomputable def yI (n:Nat) (t:List aN) (a m b mid k e:Int):Option ((((List aN)×Unit)×Unit)×Unit) :=
 Option.bind (cond (cond (au k m) (au m e) false) (zm t k m e) (some (((t,()),()),()))) fun y2 =>
 Option.bind (cond (cond (au a k) (au k mid) false) (eP n y2.1.1.1 a k mid) (some (((y2.1.1.1,()),()),()))) fun y3 =>
 Option.bind (cond (cond (au mid e) (au e b) false) (eP n y3.1.1.1 mid e b) (some (((y3.1.1.1,()),()),()))) fun y4=>some ((y4.1.1,()),())
theorem EO (n:Nat) (t:List aN) (a m b:Int) (h1:ak (aI .i64 m a) 1=false) (h2:ak (aI .i64 b m) 1=false) (mid nn lo hi k:Int) (hmid:bN .i64 (il .u64 (bN .u64 (aq .i64 a b)) 1)=mid) (hnn:aq .i64 mid m=nn) (hlo:lo=cond (au mid m) (aI .i64 nn b) a) (hhi:hi=cond (au mid m) mid m)
 (hs:lg t a m b () mid nn lo hi (aI .i64 nn 1)=some (.inl (t,a,m,b,(),mid,nn,k,k,aI .i64 nn 1,()))) :
 eP (n + 1) t a m b=yI n t a m b mid k (aI .i64 nn k):=by
 rw [nQ,h1,h2,hmid];dsimp only [cond_false];rw [hnn];unfold yI;cases hm:au mid m with
 | true =>
   rw [hm] at hlo hhi;dsimp only [cond_true] at hlo hhi ⊢;rw [<- hlo,<- hhi]
   conv=>lhs; rw [show lg t a m b () hi nn lo hi (aI .i64 nn 1)=some (.inl (t,a,m,b,(),hi,nn,k,k,aI .i64 nn 1,())) by rw [hhi] at hs ⊢; exact hs]
   dsimp only [Option.bind_some,Sum.elim_inl];rw [hhi];cases (cond (au k m) (au m (aI .i64 nn k)) false) <;> cases (cond (au a k) (au k mid) false) <;> cases (cond (au mid (aI .i64 nn k)) (au (aI .i64 nn k) b) false) <;> rfl
 | false => rw [hm] at hlo hhi;dsimp only [cond_false] at hlo hhi ⊢;subst hlo; subst hhi;rw [hs];dsimp only [Option.bind_some,Sum.elim_inl];cases (cond (au k hi) (au hi (aI .i64 nn k)) false) <;> cases (cond (au lo k) (au k mid) false) <;> cases (cond (au mid (aI .i64 nn k)) (au (aI .i64 nn k) b) false) <;> rfl
theorem DL {a b:aN} (h:dn a b=true):dn b a=false:=by
 cases hb:dn b a with
 | false=>rfl
 | true => have:=ff.trans _ _ _ h hb;rw [ff.irr] at this;simp at this
theorem Nz:∀ (n:Nat) (P L R S:List aN),L.length + R.length<=n->0 < L.length->0 < R.length->kZ dn L->kZ dn R->(P ++ L ++ R ++ S).length<=bI ->
 ∃ M,kZ dn M/\eh dn (L ++ R) M/\eP n (P ++ L ++ R ++ S) (P.length:Int) ((P.length + L.length:Nat):Int) ((P.length + L.length + R.length:Nat):Int)=some (((P ++ M ++ S,()),()),()):=by
 intro n;induction n with
 | zero=>intro P L R S h1 h2 h3; omega
 | succ n ih =>
 intro P L R S hn hL0 hR0 hL hR hl;have hl':=hl;simp only [bI,List.length_append] at hl';have km:aI .i64 ((P.length + L.length:Nat):Int) (P.length:Int)=(L.length:Int):=by rw [aO (by omega) (by omega)]; omega
 have kb:aI .i64 ((P.length + L.length + R.length:Nat):Int) ((P.length + L.length:Nat):Int)=(R.length:Int):=by rw [aO (by omega) (by omega)]; omega
 by_cases hA:L.length=1
 . obtain ⟨x,rfl⟩:∃ x,L=[x]:=List.length_eq_one_iff.1 hA;have e0:P ++ [x] ++ R ++ S=P ++ x :: R ++ S:=by simp
   obtain ⟨k,k1,k2,k3,k4⟩:=Ry P S x R hR (by rw [<- e0]; exact hl);have hs:=hR;rw [<- List.take_append_drop k R] at hs;have hs:=cl.1 hs;obtain ⟨kk,hk⟩:=Gr P (R.drop k ++ S) x (P.length + 1 + k) (R.take k).length [] (R.take k) rfl (by rw [List.length_take]; simp only [List.length_nil]; omega) (by simp only [bI,List.length_append,List.length_cons,List.length_take,List.length_drop,List.length_nil] at hl' ⊢; omega);have e1:P ++ ([] ++ x :: R.take k) ++ (R.drop k ++ S)=P ++ x :: R ++ S:=by have:R.take k ++ R.drop k=R:=List.take_append_drop k R;simp only [List.nil_append,List.append_assoc,List.cons_append];rw [<- List.append_assoc (R.take k),this]
   rw [e1] at hk;refine ⟨R.take k ++ [x] ++ R.drop k,?_,?_,?_⟩
   . rw [List.append_assoc];refine cl.2 ⟨hs.1,List.pairwise_cons.2 ⟨fun y hy=>k3 y hy,hs.2.1⟩,fun y hy z hz => ?_⟩;rcases List.mem_cons.1 hz with rfl | hz
     . exact DL (k2 y hy)
     . exact hs.2.2 y hy z hz
   . have h1:eh dn ([x] ++ R.take k) (R.take k ++ [x]):=eh.swap ff fun z hz y hy=>by
      simp only [List.mem_singleton] at hz; subst hz; exact k2 y hy
     have h2:=h1.append (eh.refl (R.drop k));rw [List.append_assoc,List.take_append_drop] at h2;exact h2
   . rw [nQ,km,hA];have:ak ((1:Nat):Int) 1=true:=rfl;rw [this];dsimp only [cond_true];rw [e0,k4];dsimp only [Option.bind_some,Sum.elim_inl];simp only [List.length_nil,Nat.add_zero] at hk;rw [hk];dsimp only [Option.bind_some,Sum.elim_inl];simp
 by_cases hB:R.length=1
 . obtain ⟨y,rfl⟩:∃ y,R=[y]:=List.length_eq_one_iff.1 hB;have e0:P ++ L ++ [y] ++ S=P ++ L ++ y :: S:=by simp
   obtain ⟨k,k1,k2,k3,k4⟩:=Qu P S y L hL (by rw [<- e0]; exact hl);have hs:=hL;rw [<- List.take_append_drop k L] at hs;have hs:=cl.1 hs;obtain ⟨kk,hk⟩:=Jh (P ++ L.take k) S y (L.drop k).length (L.drop k) [] rfl (by simp only [bI,List.length_append,List.length_cons,List.length_take,List.length_drop,List.length_nil] at hl' ⊢; omega);have e1:P ++ L.take k ++ (L.drop k ++ [y]) ++ S=P ++ L ++ y :: S:=by have:L.take k ++ L.drop k=L:=List.take_append_drop k L;simp only [List.append_assoc,List.cons_append,List.nil_append];rw [<- List.append_assoc (L.take k),this]
   have e2:(((P ++ L.take k).length:Nat):Int)=((P.length + k:Nat):Int):=by simp only [List.length_append,List.length_take]; omega
   have e3:(((P ++ L.take k).length + (L.drop k).length:Nat):Int)=((P.length + L.length:Nat):Int):=by simp only [List.length_append,List.length_take,List.length_drop]; omega
   rw [e1,e2,e3] at hk;refine ⟨L.take k ++ (y :: L.drop k),?_,?_,?_⟩
   . refine cl.2 ⟨hs.1,List.pairwise_cons.2 ⟨fun x hx=>DL (k3 x hx),hs.2.1⟩,fun x hx z hz => ?_⟩;rcases List.mem_cons.1 hz with rfl | hz
     . exact k2 x hx
     . exact hs.2.2 x hx z hz
   . have h1:eh dn (L.drop k ++ [y]) ([y] ++ L.drop k):=eh.swap ff fun z hz x hx=>by
      simp only [List.mem_singleton] at hx; subst hx; exact k3 z hz
     have h2:=(eh.refl (L.take k)).append h1;rw [<- List.append_assoc,List.take_append_drop] at h2;exact h2
   . have hA':ak (L.length:Int) 1=false:=by
      rw [Bool.eq_false_iff]; intro hh; rw [fL] at hh; omega
     rw [nQ,km,kb,hA',hB];have:ak ((1:Nat):Int) 1=true:=rfl;rw [this];dsimp only [cond_true,cond_false];rw [e0,k4];dsimp only [Option.bind_some,Sum.elim_inl];rw [hk];dsimp only [Option.bind_some,Sum.elim_inl];simp
 -- the long case
 obtain ⟨mid,hmidN⟩:∃ mid,mid=(P.length + (P.length + L.length + R.length)) / 2:=⟨_,rfl⟩;obtain ⟨lo0,hlo0⟩:∃ lo0,lo0=if mid < P.length + L.length then mid - R.length else P.length:=⟨_,rfl⟩
 obtain ⟨hi0,hhi0⟩:∃ hi0,hi0=if mid < P.length + L.length then mid else P.length + L.length:=⟨_,rfl⟩
 have c1:P.length<=lo0:=by rw [hlo0]; split <;> omega
 have c2:lo0<=hi0:=by rw [hlo0,hhi0]; split <;> omega
 have c3:hi0<=P.length + L.length:=by rw [hhi0]; split <;> omega
 have c4:hi0<=mid:=by rw [hhi0]; split <;> omega
 have c5:mid<=lo0 + R.length:=by rw [hlo0]; split <;> omega
 obtain ⟨k,k1,k2,k3,k4,k5⟩:=S3 P L R S hL hR mid lo0 hi0 c1 c2 c3 c4 c5 (by show mid<=1099511627776; omega) ((P.length + L.length + R.length:Nat):Int) hl;have hmid:=sW (i:=P.length) (j:=P.length + L.length + R.length) (by omega);rw [<- hmidN] at hmid;have hnn:aq .i64 (mid:Int) ((P.length + L.length:Nat):Int)=((mid + (P.length + L.length):Nat):Int):=by rw [bf (by omega) (by omega)]; omega
 have hsub1:aI .i64 ((mid + (P.length + L.length):Nat):Int) 1=((mid + (P.length + L.length):Nat) - 1:Int):=by rw [aO (by omega) (by omega)]
 have hA':ak (aI .i64 ((P.length + L.length:Nat):Int) (P.length:Int)) 1=false:=by rw [km,Bool.eq_false_iff]; intro hh; rw [fL] at hh; omega
 have hB':ak (aI .i64 ((P.length + L.length + R.length:Nat):Int) ((P.length + L.length:Nat):Int)) 1=false:=by rw [kb,Bool.eq_false_iff]; intro hh; rw [fL] at hh; omega
 have hlo:(lo0:Int)=cond (au (mid:Int) ((P.length + L.length:Nat):Int)) (aI .i64 ((mid + (P.length + L.length):Nat):Int) ((P.length + L.length + R.length:Nat):Int)) (P.length:Int):=by
  rw [hlo0];by_cases hm:mid < P.length + L.length
  . rw [if_pos hm,aF (by omega),cond_true,aO (by omega) (by omega)]; omega
  . rw [if_neg hm,ax (by omega),cond_false]
 have hhi:(hi0:Int)=cond (au (mid:Int) ((P.length + L.length:Nat):Int)) (mid:Int) ((P.length + L.length:Nat):Int):=by
  rw [hhi0];by_cases hm:mid < P.length + L.length
  . rw [if_pos hm,aF (by omega),cond_true]
  . rw [if_neg hm,ax (by omega),cond_false]
 have hsp:=EO n (P ++ L ++ R ++ S) (P.length:Int) ((P.length + L.length:Nat):Int) ((P.length + L.length + R.length:Nat):Int) hA' hB' (mid:Int) ((mid + (P.length + L.length):Nat):Int) (lo0:Int) (hi0:Int) (k:Int) hmid hnn hlo hhi (by rw [hsub1]; exact k5);have he:aI .i64 ((mid + (P.length + L.length):Nat):Int) (k:Int)=((P.length + L.length + (mid - k):Nat):Int):=by rw [aO (by omega) (by omega)]; omega
 rw [he] at hsp
 -- the parts
 obtain ⟨L1,L2,hLe,hL1,hL2⟩:∃ L1 L2,L=L1 ++ L2/\L1=L.take (k - P.length)/\L2=L.drop (k - P.length):=⟨_,_,(List.take_append_drop _ _).symm,rfl,rfl⟩;obtain ⟨R1,R2,hRe,hR1,hR2⟩:∃ R1 R2,R=R1 ++ R2/\R1=R.take (mid - k)/\R2=R.drop (mid - k):=⟨_,_,(List.take_append_drop _ _).symm,rfl,rfl⟩;have n1:L1.length=k - P.length:=by rw [hL1,List.length_take]; omega
 have n2:L2.length=P.length + L.length - k:=by rw [hL2,List.length_drop]; omega
 have n3:R1.length=mid - k:=by rw [hR1,List.length_take]; omega
 have n4:R2.length=R.length - (mid - k):=by rw [hR2,List.length_drop]
 have sL:=hL;rw [hLe] at sL;have sL:=cl.1 sL;have sR:=hR;rw [hRe] at sR;have sR:=cl.1 sR;have xRL:∀ x∈R1,∀ y∈L2,dn x y=true:=fun x hx y hy=>by
  rw [hR1] at hx;rw [hL2] at hy;obtain ⟨q,q1,q2,rfl⟩:=mI d92 hx;obtain ⟨q',p1,p2,rfl⟩:=mY d92 hy;have hk:k < hi0:=by
   rcases Nat.lt_or_ge k hi0 with hh | hh
   . exact hh
   . exfalso;rw [hhi0] at hh;split at hh <;> omega
  have h0:=k4 k (Nat.le_refl _) hk;have h1:=ie ff d92 hR (q':=q) (q:=mid - 1 - k) (by omega) (by omega);have h2:=ie ff d92 hL (q':=k - P.length) (q:=q') (by omega) (by omega);rcases ff.neg _ (R.getD q d92) _ h0 with h3 | h3
  . rw [h1] at h3; simp at h3
  . rcases ff.neg _ (L.getD q' d92) _ h3 with h4 | h4
    . exact h4
    . rw [h2] at h4; simp at h4
 have xLR:∀ x∈L1,∀ y∈R2,dn y x=false:=fun x hx y hy=>by
  rw [hL1] at hx;rw [hR2] at hy;obtain ⟨q,q1,q2,rfl⟩:=mI d92 hx;obtain ⟨q',p1,p2,rfl⟩:=mY d92 hy;have hk:lo0 < k:=by
   rcases Nat.lt_or_ge lo0 k with hh | hh
   . exact hh
   . exfalso;rw [hlo0] at hh k1;split at hh <;> omega
  have h0:=k3 (k - 1) (by omega) (by omega);rw [show mid - 1 - (k - 1)=mid - k by omega,show k - 1 - P.length=k - P.length - 1 by omega] at h0;have h1:=ie ff d92 hL (q':=q) (q:=k - P.length - 1) (by omega) (by omega);have h2:=ie ff d92 hR (q':=mid - k) (q:=q') (by omega) (by omega);exact ff.le_trans (ff.le_trans h1 h0) h2
 -- the rotation
 have st1:cond (cond (au (k:Int) ((P.length + L.length:Nat):Int)) (au ((P.length + L.length:Nat):Int) ((P.length + L.length + (mid - k):Nat):Int)) false) (zm (P ++ L ++ R ++ S) (k:Int) ((P.length + L.length:Nat):Int) ((P.length + L.length + (mid - k):Nat):Int)) (some (((P ++ L ++ R ++ S,()),()),()))=some (((P ++ L1 ++ R1 ++ (L2 ++ R2 ++ S),()),()),()):=by
  by_cases z1:k < P.length + L.length
  . by_cases z2:0 < mid - k
    . rw [aF (by omega),aF (by omega)];dsimp only [cond_true];have h:=Rf (P ++ L1) L2 R1 (R2 ++ S) (by omega) (by omega) (by simp only [bI,List.length_append]; omega);have e1:P ++ L1 ++ L2 ++ R1 ++ (R2 ++ S)=P ++ L ++ R ++ S:=by rw [hLe,hRe]; simp
      have e2:(((P ++ L1).length:Nat):Int)=(k:Int):=by simp only [List.length_append]; omega
      have e3:(((P ++ L1).length + L2.length:Nat):Int)=((P.length + L.length:Nat):Int):=by simp only [List.length_append]; omega
      have e4:(((P ++ L1).length + L2.length + R1.length:Nat):Int)=((P.length + L.length + (mid - k):Nat):Int):=by simp only [List.length_append]; omega
      rw [e1,e2,e3,e4] at h;rw [h];simp
    . have hz:R1=[]:=List.length_eq_zero_iff.1 (by omega);rw [aF (by omega),ax (by omega)];dsimp only [cond_true,cond_false];rw [hLe,hRe,hz];simp
  . have hz:L2=[]:=List.length_eq_zero_iff.1 (by omega);rw [ax (by omega)];dsimp only [cond_false];rw [hLe,hRe,hz];simp
 -- the left half
 obtain ⟨M1,s1,t1,u1⟩:∃ M1,kZ dn M1/\eh dn (L1 ++ R1) M1/\cond (cond (au (P.length:Int) (k:Int)) (au (k:Int) (mid:Int)) false) (eP n (P ++ L1 ++ R1 ++ (L2 ++ R2 ++ S)) (P.length:Int) (k:Int) (mid:Int)) (some (((P ++ L1 ++ R1 ++ (L2 ++ R2 ++ S),()),()),()))=some (((P ++ M1 ++ (L2 ++ R2 ++ S),()),()),()):=by
  by_cases z1:P.length < k
  . by_cases z2:k < mid
    . obtain ⟨M,m1,m2,m3⟩:=ih P L1 R1 (L2 ++ R2 ++ S) (by omega) (by omega) (by omega) sL.1 sR.1 (by simp only [bI,List.length_append]; omega);refine ⟨M,m1,m2,?_⟩;rw [aF (by omega),aF (by omega)];dsimp only [cond_true];rw [show ((P.length + L1.length:Nat):Int)=(k:Int) by omega,show ((P.length + L1.length + R1.length:Nat):Int)=(mid:Int) by omega] at m3;exact m3
    . have hz:R1=[]:=List.length_eq_zero_iff.1 (by omega);refine ⟨L1,sL.1,by rw [hz,List.append_nil]; exact eh.refl _,?_⟩;rw [aF (by omega),ax (by omega),hz];simp
  . have hz:L1=[]:=List.length_eq_zero_iff.1 (by omega);refine ⟨R1,sR.1,by rw [hz]; exact eh.refl _,?_⟩;rw [ax (by omega),hz];simp
 have nM1:M1.length=L1.length + R1.length:=by have:=t1.1; rw [List.length_append] at this; omega
 -- the right half
 obtain ⟨M2,s2,t2,u2⟩:∃ M2,kZ dn M2/\eh dn (L2 ++ R2) M2/\cond (cond (au (mid:Int) ((P.length + L.length + (mid - k):Nat):Int)) (au ((P.length + L.length + (mid - k):Nat):Int) ((P.length + L.length + R.length:Nat):Int)) false) (eP n (P ++ M1 ++ (L2 ++ R2 ++ S)) (mid:Int) ((P.length + L.length + (mid - k):Nat):Int) ((P.length + L.length + R.length:Nat):Int)) (some (((P ++ M1 ++ (L2 ++ R2 ++ S),()),()),()))=some (((P ++ (M1 ++ M2) ++ S,()),()),()):=by
  by_cases z1:0 < L2.length
  . by_cases z2:0 < R2.length
    . obtain ⟨M,m1,m2,m3⟩:=ih (P ++ M1) L2 R2 S (by omega) z1 z2 sL.2.1 sR.2.1 (by simp only [bI,List.length_append]; omega);refine ⟨M,m1,m2,?_⟩;rw [aF (by omega),aF (by omega)];dsimp only [cond_true];rw [show (((P ++ M1).length:Nat):Int)=(mid:Int) by simp only [List.length_append]; omega,show (((P ++ M1).length + L2.length:Nat):Int)=((P.length + L.length + (mid - k):Nat):Int) by simp only [List.length_append]; omega,show (((P ++ M1).length + L2.length + R2.length:Nat):Int)=((P.length + L.length + R.length:Nat):Int) by simp only [List.length_append]; omega] at m3;have e1:P ++ M1 ++ L2 ++ R2 ++ S=P ++ M1 ++ (L2 ++ R2 ++ S):=by simp
      rw [e1] at m3;rw [m3];simp
    . have hz:R2=[]:=List.length_eq_zero_iff.1 (by omega);refine ⟨L2,sL.2.1,by rw [hz,List.append_nil]; exact eh.refl _,?_⟩;rw [ax (a:=((P.length + L.length + (mid - k):Nat):Int)) (by omega),hz];cases au (mid:Int) ((P.length + L.length + (mid - k):Nat):Int) <;> simp
  . have hz:L2=[]:=List.length_eq_zero_iff.1 (by omega);refine ⟨R2,sR.2.1,by rw [hz]; exact eh.refl _,?_⟩;rw [ax (a:=(mid:Int)) (by omega),hz];simp
 refine ⟨M1 ++ M2,cl.2 ⟨s1,s2,fun x hx y hy => ?_⟩,?_,?_⟩
 . rcases List.mem_append.1 ((t1.mem ff).2 hx) with hx | hx
   . rcases List.mem_append.1 ((t2.mem ff).2 hy) with hy | hy
     . exact sL.2.2 x hx y hy
     . exact xLR x hx y hy
   . rcases List.mem_append.1 ((t2.mem ff).2 hy) with hy | hy
     . exact DL (xRL x hx y hy)
     . exact sR.2.2 x hx y hy
 . have h1:eh dn (L2 ++ R1) (R1 ++ L2):=eh.swap ff fun y hy x hx=>xRL x hx y hy
   have h2:=((eh.refl L1).append h1).append (eh.refl R2);have h3:=t1.append t2;have e1:L ++ R=L1 ++ (L2 ++ R1) ++ R2:=by rw [hLe,hRe]; simp
   have e2:L1 ++ (R1 ++ L2) ++ R2=L1 ++ R1 ++ (L2 ++ R2):=by simp
   rw [e1];rw [e2] at h2;exact h2.trans h3
 . rw [hsp];unfold yI;rw [st1];dsimp only [Option.bind_some];rw [u1];dsimp only [Option.bind_some];rw [u2];rfl
theorem D4 (P L R S:List aN) (h2:0 < L.length) (h3:0 < R.length) (hL:kZ dn L) (hR:kZ dn R) (hl:(P ++ L ++ R ++ S).length<=bI) :
 ∃ M,kZ dn M/\eh dn (L ++ R) M/\l8 (P ++ L ++ R ++ S) (P.length:Int) ((P.length + L.length:Nat):Int) ((P.length + L.length + R.length:Nat):Int)=some (((P ++ M ++ S,()),()),()):=by
 obtain ⟨M,m1,m2,m3⟩:=Nz (L.length + R.length) P L R S (Nat.le_refl _) h2 h3 hL hR hl;refine ⟨M,m1,m2,J2 (n:=L.length + R.length) fun m hm => ?_⟩;obtain ⟨M',p1,p2,p3⟩:=Nz m P L R S hm h2 h3 hL hR hl;rw [p3,qo ff p1 m1 (p2.symm.trans m2)]
def KW (k:Nat) (cs:List (List aN)):Prop:=∀ c∈cs,c.length=k/\kZ dn c
theorem yo {k:Nat}:∀ {cs:List (List aN)},KW k cs->cs.flatten.length=cs.length * k
 | [],_=>by simp
 | c :: cs,h=>by
   have h1:=(h c (List.mem_cons_self ..)).1;have h2:=yo (cs:=cs) fun x hx=>h x (List.mem_cons_of_mem _ hx)
   rw [List.flatten_cons,List.length_append,h1,h2,List.length_cons,Nat.add_mul,Nat.one_mul,Nat.add_comm]
theorem Es (N:Nat):∀ (n:Nat) (P R:List aN),R.length=n->(P ++ R).length=N->N<=4194304 ->
 ∃ (cs:List (List aN)) (T:List aN),KW 20 cs/\T.length < 20/\eh dn R (cs.flatten ++ T) /\
  CA (P ++ R) (N:Int) () 20 (P.length:Int) ((P.length + 20:Nat):Int)=some (.inl (P ++ cs.flatten ++ T,(N:Int),(),20,((N - T.length:Nat):Int),((N - T.length + 20:Nat):Int),())):=by
 intro n;induction n using Nat.strongRecOn with
 | _ n ih =>
 intro P R hn hN hB;have hN':=hN;rw [List.length_append] at hN';by_cases h:R.length < 20
 . refine ⟨[],R,fun c hc=>by simp at hc,h,eh.refl _,aJ _ ?_⟩;show rh (P ++ R) (N:Int) () 20 (P.length:Int) ((P.length + 20:Nat):Int)=_;unfold rh;have:bC ((P.length + 20:Nat):Int) (N:Int)=false:=decide_eq_false (by omega);rw [this];have e:N - R.length=P.length:=by omega
   rw [e];simp
 . obtain ⟨L,S,rfl,hL⟩:∃ L S,R=L ++ S/\L.length=20:=⟨R.take 20,R.drop 20,(List.take_append_drop _ _).symm,by rw [List.length_take]; omega⟩;simp only [List.length_append] at hN' hn h;obtain ⟨M,m1,m2,m3⟩:=M7 P L S (by simp only [bI,List.length_append]; omega);have hM:M.length=20:=by rw [<- m2.1]; exact hL
   obtain ⟨cs,T,q1,q2,q3,q4⟩:=ih S.length (by omega) (P ++ M) S rfl (by simp only [List.length_append]; omega) hB;refine ⟨M :: cs,T,fun c hc => ?_,q2,?_,?_⟩
   . rcases List.mem_cons.1 hc with rfl | hc
     . exact ⟨hM,m1⟩
     . exact q1 c hc
   . have:=m2.append q3;rw [List.flatten_cons,List.append_assoc];exact this
   . have e1:P ++ M ++ cs.flatten ++ T=P ++ (M :: cs).flatten ++ T:=by simp
     rw [e1] at q4;refine aR _ ?_ q4;show rh (P ++ (L ++ S)) (N:Int) () 20 (P.length:Int) ((P.length + 20:Nat):Int)=_;unfold rh;have k1:bC ((P.length + 20:Nat):Int) (N:Int)=true:=decide_eq_true (by omega);have e2:P ++ (L ++ S)=P ++ L ++ S:=by simp
     rw [hL] at m3;rw [k1,e2,m3];dsimp only [cond_true,Option.bind_some];have k2:aq .i64 ((P.length + 20:Nat):Int) 20=(((P ++ M).length + 20:Nat):Int):=by rw [bf (by omega) (by omega)]; simp only [List.length_append]; omega
     have k3:((P.length + 20:Nat):Int)=((P ++ M).length:Int):=by simp only [List.length_append]; omega
     rw [k2,k3]
theorem Pv {k:Nat} (h:k<=1073741824):jH .i64 2 (k:Int)=((2 * k:Nat):Int)/\jH .i64 (k:Int) 2=((2 * k:Nat):Int):=by unfold jH;rw [IntWalk.i64_in _ (by omega),IntWalk.i64_in _ (by omega)];omega
theorem Ey (N k:Nat) (hk:0 < k) (hkB:k<=1073741824) (hB:N<=4194304) (T:List aN) (hT:T.length < k):∀ (n:Nat) (cs:List (List aN)) (P:List aN),cs.length=n->KW k cs->(P ++ cs.flatten ++ T).length=N ->
 ∃ (ds c2:List (List aN)) (b':Int),KW (2 * k) ds/\KW k c2/\c2.length<=1/\eh dn cs.flatten (ds.flatten ++ c2.flatten) /\
  yO (P ++ cs.flatten ++ T) (N:Int) () (k:Int) (P.length:Int) ((P.length + 2 * k:Nat):Int)=some (.inl (P ++ ds.flatten ++ c2.flatten ++ T,(N:Int),(),(k:Int),((P ++ ds.flatten).length:Int),b',())):=by
 intro n;induction n using Nat.strongRecOn with
 | _ n ih =>
 intro cs P hn hc hN;have hN':=hN;simp only [List.length_append] at hN'
 have stop:cs.length<=1->∃ (ds c2:List (List aN)) (b':Int),KW (2 * k) ds/\KW k c2/\c2.length<=1/\eh dn cs.flatten (ds.flatten ++ c2.flatten) /\
  yO (P ++ cs.flatten ++ T) (N:Int) () (k:Int) (P.length:Int) ((P.length + 2 * k:Nat):Int)=some (.inl (P ++ ds.flatten ++ c2.flatten ++ T,(N:Int),(),(k:Int),((P ++ ds.flatten).length:Int),b',())):=fun h1=>by
  refine ⟨[],cs,((P.length + 2 * k:Nat):Int),fun c hc=>by simp at hc,hc,h1,by simpa using eh.refl _,aJ _ ?_⟩;show qW (P ++ cs.flatten ++ T) (N:Int) () (k:Int) (P.length:Int) ((P.length + 2 * k:Nat):Int)=_;unfold qW;have hf:=yo hc;have:cs.length * k<=k:=by have:=Nat.mul_le_mul_right k h1;omega
  have:bC ((P.length + 2 * k:Nat):Int) (N:Int)=false:=decide_eq_false (by omega);rw [this];simp
 cases cs with
 | nil=>exact stop (by simp)
 | cons c1 cs =>
 cases cs with
 | nil=>exact stop (by simp)
 | cons c2 cs =>
   have h1:=hc c1 (by simp);have h2:=hc c2 (by simp);have h3:KW k cs:=fun c h=>hc c (by simp [h])
   simp only [List.flatten_cons,List.length_append] at hN';obtain ⟨M,m1,m2,m3⟩:=D4 P c1 c2 (cs.flatten ++ T) (by omega) (by omega) h1.2 h2.2 (by simp only [bI,List.length_append]; omega);have hM:M.length=2 * k:=by have:=m2.1; rw [List.length_append] at this; omega
   obtain ⟨ds,e2,b',q1,q2,q3,q4,q5⟩:=ih cs.length (by simp only [List.length_cons] at hn; omega) cs (P ++ M) rfl h3 (by simp only [List.length_append]; omega);refine ⟨M :: ds,e2,b',fun d hd => ?_,q2,q3,?_,?_⟩
   . rcases List.mem_cons.1 hd with rfl | hd
     . exact ⟨hM,m1⟩
     . exact q1 d hd
   . have:=m2.append q4;simpa using this
   . have e3:P ++ M ++ ds.flatten ++ e2.flatten ++ T=P ++ (M :: ds).flatten ++ e2.flatten ++ T:=by simp
     have e4:P ++ M ++ ds.flatten=P ++ (M :: ds).flatten:=by simp
     rw [e3,e4] at q5;refine aR _ ?_ q5;show qW (P ++ (c1 :: c2 :: cs).flatten ++ T) (N:Int) () (k:Int) (P.length:Int) ((P.length + 2 * k:Nat):Int)=_;unfold qW;have k1:bC ((P.length + 2 * k:Nat):Int) (N:Int)=true:=decide_eq_true (by omega);have e5:P ++ (c1 :: c2 :: cs).flatten ++ T=P ++ c1 ++ c2 ++ (cs.flatten ++ T):=by simp
     have k2:aq .i64 (P.length:Int) (k:Int)=((P.length + c1.length:Nat):Int):=by rw [bf (by omega) (by omega)]; omega
     have k3:((P.length + 2 * k:Nat):Int)=((P.length + c1.length + c2.length:Nat):Int):=by omega
     rw [k1,(Pv hkB).1,k2,k3,e5,m3];dsimp only [cond_true,Option.bind_some];have k4:aq .i64 ((P.length + c1.length + c2.length:Nat):Int) ((2 * k:Nat):Int)=(((P ++ M).length + 2 * k:Nat):Int):=by rw [bf (by omega) (by omega)]; simp only [List.length_append]; omega
     have k5:((P.length + c1.length + c2.length:Nat):Int)=((P ++ M).length:Int):=by simp only [List.length_append]; omega
     rw [k4,k5];simp
theorem Ez (N:Nat) (hB:N<=4194304):∀ (f k:Nat) (cs:List (List aN)) (T:List aN),N - k<=f->0 < k->k<=8388608->KW k cs->T.length < k->kZ dn T->(cs.flatten ++ T).length=N ->
 ∃ (M:List aN) (k':Int),kZ dn M/\eh dn (cs.flatten ++ T) M/\BW (cs.flatten ++ T) (N:Int) () (k:Int)=some (.inl (M,(N:Int),(),k',())):=by
 intro f;induction f using Nat.strongRecOn with
 | _ f ih =>
 intro k cs T hf hk hkB hc hT hTs hN;have hN':=hN;rw [List.length_append,yo hc] at hN';by_cases h:k < N
 . obtain ⟨ds,c2,b',q1,q2,q3,q4,q5⟩:=Ey N k hk (by omega) hB T hT cs.length cs [] rfl hc (by simpa using hN);simp only [List.nil_append,List.length_nil,Nat.zero_add] at q5;have q5':yO (cs.flatten ++ T) (N:Int) () (k:Int) 0 ((2 * k:Nat):Int)=_:=q5;have hlen:ds.flatten.length + c2.flatten.length + T.length=N:=by
    have:=q4.1;rw [List.length_append] at this;rw [List.length_append] at hN;omega
   -- the rest behind the pairs
   obtain ⟨T',t1,t2,t3,t4⟩:∃ T',T'.length < 2 * k/\kZ dn T'/\eh dn (c2.flatten ++ T) T' /\
    rf (cs.flatten ++ T) (N:Int) () (k:Int)=some (.inl (ds.flatten ++ T',(N:Int),(),((2 * k:Nat):Int),())):=by
    unfold rf;rw [aF (by omega),(Pv (by omega)).1,q5'];dsimp only [cond_true,Option.bind_some,Sum.elim_inl];rw [(Pv (k:=k) (by omega)).2];have k2:aq .i64 ((ds.flatten.length:Nat):Int) (k:Int)=((ds.flatten.length + k:Nat):Int):=by rw [bf (by omega) (by omega)]; omega
    rw [k2];cases c2 with
    | nil => simp only [List.flatten_nil,List.length_nil,Nat.add_zero] at hlen;refine ⟨T,by omega,hTs,by simpa using eh.refl _,?_⟩;rw [ax (by omega)];simp
    | cons c c2 =>
      have:c2=[]:=List.length_eq_zero_iff.1 (by simp only [List.length_cons] at q3; omega);subst this;have hcc:=q2 c (by simp);simp only [List.flatten_cons,List.flatten_nil,List.append_nil] at hlen ⊢;by_cases hz:0 < T.length
      . obtain ⟨M,m1,m2,m3⟩:=D4 ds.flatten c T [] (by omega) hz hcc.2 hTs (by simp only [bI,List.length_append,List.length_nil]; omega);refine ⟨M,by have:=m2.1; rw [List.length_append] at this; omega,m1,m2,?_⟩;rw [hcc.1] at m3;rw [show ((ds.flatten.length + k + T.length:Nat):Int)=(N:Int) by omega,List.append_nil,List.append_nil] at m3;rw [aF (by omega),m3];simp
      . have:T=[]:=List.length_eq_zero_iff.1 (by omega);subst this;refine ⟨c,by omega,hcc.2,by simpa using eh.refl _,?_⟩;rw [ax (by simp only [List.length_nil] at hlen; omega)];simp
   obtain ⟨M,k',m1,m2,m3⟩:=ih (N - 2 * k) (by omega) (2 * k) ds T' (Nat.le_refl _) (by omega) (by omega) q1 t1 t2 (by have:=t3.1; rw [List.length_append] at this ⊢; omega);refine ⟨M,k',m1,?_,aR _ t4 m3⟩;have h1:=q4.append (eh.refl T);have h2:=(eh.refl ds.flatten).append t3;rw [List.append_assoc] at h1;exact (h1.trans h2).trans m2
 . refine ⟨cs.flatten ++ T,(k:Int),?_,eh.refl _,aJ _ ?_⟩
   . cases cs with
     | nil=>simpa using hTs
     | cons c cs =>
       simp only [List.length_cons,Nat.add_mul,Nat.one_mul] at hN';have h0:T=[]:=List.length_eq_zero_iff.1 (by omega);have h1:cs=[]:=by
        cases cs with
        | nil=>rfl
        | cons d cs=>simp only [List.length_cons,Nat.add_mul,Nat.one_mul] at hN'; omega
       subst h0; subst h1;simpa using (hc c (by simp)).2
   . show rf (cs.flatten ++ T) (N:Int) () (k:Int)=_;unfold rf;rw [ax (by omega)];rfl
theorem N0 (xs:List aN) (hB:xs.length<=4194304):∃ M,kZ dn M/\eh dn xs M/\UK xs=some (((M,()),()),()):=by
 obtain ⟨cs,T,q1,q2,q3,q4⟩:=Es xs.length xs.length [] xs rfl rfl hB;simp only [List.nil_append,List.length_nil,Nat.zero_add] at q4;have hlen:cs.flatten.length + T.length=xs.length:=by have:=q3.1; rw [List.length_append] at this; omega
 obtain ⟨T',t1,t2,t3⟩:=M7 cs.flatten T [] (by simp only [bI,List.length_append,List.length_nil]; omega);rw [List.append_nil,List.append_nil] at t3;have hT':T'.length=T.length:=t2.1.symm;obtain ⟨M,k',m1,m2,m3⟩:=Ez xs.length hB (xs.length) 20 cs T' (by omega) (by decide) (by decide) q1 (by omega) t1 (by rw [List.length_append]; omega);refine ⟨M,m1,(q3.trans ((eh.refl _).append t2)).trans m2,?_⟩;have q4':CA xs (ae xs) () 20 0 20=_:=q4;have e1:((cs.flatten.length + T.length:Nat):Int)=(xs.length:Int):=by omega
 have e2:((xs.length - T.length:Nat):Int)=(cs.flatten.length:Int):=by omega
 rw [e1] at t3;unfold UK PJ;rw [q4'];dsimp only [Option.bind_some,Sum.elim_inl];rw [e2,t3];dsimp only [Option.bind_some];have m3':BW (cs.flatten ++ T') (xs.length:Int) () 20=_:=m3;rw [m3'];rfl
theorem H6 (out:List aN) (x:aN) (hS:kZ dn out) (hl:out.length<=4194304) (t11:List (gb)) (t12 t13:Int) (t18:List aN) (t19 t20:Int) (b2:List aN×Unit):∀ (n:Nat) (A B:List aN),out=A ++ B->A.length=n->(∀ y∈B,dn x y=true) ->
 ∃ A' B',out=A' ++ B'/\(∀ y∈B',dn x y=true)/\(∀ y∈A',dn x y=false)/\zZ out (A.length:Int) t11 t12 t13 t18 t19 t20 b2 x=some (.inl (out,(A'.length:Int),t11,t12,t13,t18,t19,t20,b2,x,())):=by
 have hbig:aW=140737488355328:=rfl;intro n;induction n with
 | zero => intro A B hAB hn hB;have:A=[]:=List.length_eq_zero_iff.1 hn;subst this;refine ⟨[],B,hAB,hB,fun y hy=>by simp at hy,aJ _ ?_⟩;show wb out 0 t11 t12 t13 t18 t19 t20 b2 x=_;unfold wb;rfl
 | succ n ih =>
   intro A B hAB hn hB;obtain ⟨C,y,rfl⟩:=s7 (a:=A) (fun h=>by subst h; simp at hn);have hC:C.length=n:=by simpa using hn
   have hlen:=congrArg List.length hAB;simp only [List.length_append,List.length_cons,List.length_nil] at hlen;have k1:aI .i64 ((C ++ [y]).length:Int) 1=(C.length:Int):=by rw [aO (by simp only [List.length_append,List.length_cons,List.length_nil]; omega) (by simp only [List.length_append,List.length_cons,List.length_nil]; omega)]; simp only [List.length_append,List.length_cons,List.length_nil]; omega
   have e0:out=C ++ y :: B:=by rw [hAB]; simp
   have i1:a7 (C.length:Int) out=true:=by rw [e0]; exact gW _ _ _ rfl
   have g1:gt d92 out (C.length:Int)=y:=by rw [e0]; exact uR _ _ _ _ rfl
   have hstep:wb out ((C ++ [y]).length:Int) t11 t12 t13 t18 t19 t20 b2 x=cond (dn x y) (some (.inl (out,(C.length:Int),t11,t12,t13,t18,t19,t20,b2,x,()))) (some (.inr (.inl (out,((C ++ [y]).length:Int),t11,t12,t13,t18,t19,t20,b2,x,())))):=by unfold wb;rw [aF (by simp only [List.length_append,List.length_cons,List.length_nil]; omega)];dsimp only [cond_true];rw [k1,i1,g1,sU];dsimp only [cond_true];rw [Bool.not_not]
   cases hc:dn x y with
   | true =>
     rw [hc] at hstep;obtain ⟨A',B',r1,r2,r3,r4⟩:=ih C (y :: B) e0 hC (fun z hz=>by
      rcases List.mem_cons.1 hz with rfl | hz
      . exact hc
      . exact hB z hz)
     exact ⟨A',B',r1,r2,r3,aR _ hstep r4⟩
   | false =>
     rw [hc] at hstep;refine ⟨C ++ [y],B,hAB,hB,fun z hz => ?_,aJ _ hstep⟩;rcases List.mem_append.1 hz with hz | hz
     . rw [hAB] at hS;have:=(cl.1 (cl.1 hS).1).2.2 z hz y (by simp);exact ff.le_trans this hc
     . simp only [List.mem_singleton] at hz; subst hz; exact hc
abbrev fX:=Int×List aN×Unit
def fj (l:List fX):List aN:=(l.map fun s=>s.2.1).flatten
def wU (l:List fX):Prop:=l.length<=1048576/\(fj l).length<=1048576/\∀ s∈l,∀ a∈s.2.1,ju a
theorem qS {l:List fX} {i:Nat} {s:fX} (h:l[i]? = some s):fj (l.take (i + 1))=fj (l.take i) ++ s.2.1:=by unfold fj;rw [List.take_add_one,h];simp
theorem yZ (l:List fX) (i:Nat):(fj (l.take i)).length<=(fj l).length:=by
 have:fj l=fj (l.take i) ++ fj (l.drop i):=by unfold fj;rw [<- List.flatten_append,<- List.map_append,List.take_append_drop]
 rw [this,List.length_append];omega
theorem PR (base acc:List aN) (hb:∀ a∈acc,ju a) (hl:(base ++ acc).length<=1048576) (t11:List fX) (t12 t13:Int) (b2:List aN×Unit) (out:List aN) (h1:kZ dn out) (h2:eh dn base out) :
 ∃ M,(kZ dn M/\eh dn (base ++ acc.take acc.length) M)/\C1 out t11 t12 t13 acc (ae acc) 0 b2=some (.inl (M,t11,t12,t13,acc,ae acc,(acc.length:Int),b2,())):=by
 have hbig:aW=140737488355328:=rfl;rw [List.length_append] at hl;refine mR (step:=xd sG) acc (fun i (o:List aN)=>(o,t11,t12,t13,acc,ae acc,((i:Nat):Int),b2,())) (fun o=> .inl (o,t11,t12,t13,acc,ae acc,(acc.length:Int),b2,())) (fun i o=>kZ dn o/\eh dn (base ++ acc.take i) o) (fun i x o hx ho => ?_) (fun o ho => ?_) acc.length 0 out (by omega) ⟨h1,by simpa using h2⟩
 . have hlt:=aj hx;have hxB:=hb x (List.mem_of_getElem? hx);have hol:o.length<=1048576:=by
    have:=ho.2.1;rw [List.length_append,List.length_take] at this;omega
   obtain ⟨A,B,r1,r2,r3,r4⟩:=H6 o x ho.1 (by omega) t11 t12 t13 acc (ae acc) (i:Int) b2 o.length o [] (by simp) rfl (fun y hy=>by simp at hy);have hAB:o.length=A.length + B.length:=by rw [r1,List.length_append]
   refine ⟨A ++ [x] ++ B,?_,?_,?_⟩
   . show sG o t11 t12 t13 acc (ae acc) (i:Int) b2=_;unfold sG;have r4':zZ o (ae o) t11 t12 t13 acc (ae acc) (i:Int) b2 x=_:=r4;have f1:dH 0 (A.length:Int) o=true:=by
      show (decide ((0:Int)<=0) && (decide ((0:Int)<=(A.length:Int)) && decide ((A.length:Int)<=(o.length:Int))))=true;rw [decide_eq_true (by omega),decide_eq_true (by omega),decide_eq_true (by omega)]; rfl
     have f2:Rg 160 [] o (A.length:Int)=true:=Nat.ble_eq_true_of_le (by simp only [List.length_nil,Int.toNat_natCast]; omega);have f3:NJ o (A.length:Int)=A:=by unfold NJ; rw [Int.toNat_natCast,r1]; simp
     have f4:Xg o (A.length:Int)=B:=by unfold Xg; rw [Int.toNat_natCast,r1]; simp
     have f5:OF (A.length:Int) (A.length:Int)=true:=by unfold OF preB bC;rw [decide_eq_true (by omega),Nat.beq_refl]; rfl
     have f6:cS 160 (lO [] A) [x]=true:=Nat.ble_eq_true_of_le (by show ((([]:List aN) ++ A).length + 1) * 160<=aW; simp only [List.nil_append]; omega);have f7:cS 160 (lO (lO [] A) [x]) B=true:=Nat.ble_eq_true_of_le (by show ((([]:List aN) ++ A ++ [x]).length + B.length) * 160<=aW; simp only [List.nil_append,List.length_append,List.length_cons,List.length_nil]; omega);rw [aG hx,aC hx,aX _ hx,r4'];dsimp only [cond_true,Option.bind_some,Sum.elim_inl];rw [f1,f2,f3,f4,f5,II x hxB,aQ (by omega)];dsimp only [cond_true,Option.bind_some];rw [f6,f7];rfl
   . have hs:=ho.1;rw [r1] at hs;have hs:=cl.1 hs;rw [List.append_assoc];refine cl.2 ⟨hs.1,List.pairwise_cons.2 ⟨fun y hy=>DL (r2 y hy),hs.2.1⟩,fun y hy z hz => ?_⟩;rcases List.mem_cons.1 hz with rfl | hz
     . exact r3 y hy
     . exact hs.2.2 y hy z hz
   . have e1:base ++ acc.take (i + 1)=base ++ acc.take i ++ [x]:=by rw [List.take_add_one,hx]; simp
     rw [e1];have q1:=ho.2.append (eh.refl [x]);have q2:eh dn (B ++ [x]) ([x] ++ B):=eh.swap ff fun y hy z hz=>by simp only [List.mem_singleton] at hz; subst hz; exact r2 y hy
     have q3:=(eh.refl A).append q2;rw [r1] at q1;rw [List.append_assoc A] at q1;rw [List.append_assoc A];exact q1.trans q3
 . show sG o t11 t12 t13 acc (ae acc) (acc.length:Int) b2=_;unfold sG;rw [aw rfl]; rfl
theorem Ao (l:List fX) (hB:wU l):∃ M,(kZ dn M/\eh dn (fj l) M)/\Nc l=some ((),((M,()),())):=by
 have hbig:aW=140737488355328:=rfl;have hl:=hB.1;obtain ⟨M,⟨m1,m2⟩,m3⟩:=mR (step:=gj rK) l (fun j (o:List aN)=>(o,l,ae l,((j:Nat):Int),(([]:List aN),()),())) (fun o=> .inl (o,l,ae l,(l.length:Int),([],()),())) (fun j o=>kZ dn o/\eh dn (fj (l.take j)) o) (fun j s o hx ho=>by
  have hlt:=aj hx;have hs:=hB.2.2 s (List.mem_of_getElem? hx);have e1:=qS hx;have e2:=yZ l (j + 1);have e3:=hB.2.1;obtain ⟨M,⟨m1,m2⟩,m3⟩:=PR (fj (l.take j)) s.2.1 hs (by rw [<- e1]; omega) l (ae l) (j:Int) ([],()) o ho.1 ho.2;rw [List.take_length,<- e1] at m2;refine ⟨M,?_,m1,m2⟩;show rK o l (ae l) (j:Int) ([],())=_;unfold rK;rw [aG hx,aC hx,aX _ hx];dsimp only [cond_true];rw [m3];dsimp only [Option.bind_some,Sum.elim_inl];rw [aQ (by omega)]) (fun o ho=>by
  show rK o l (ae l) (l.length:Int) ([],())=_;unfold rK;rw [aw rfl]; rfl) l.length 0 [] (by omega) ⟨Dk,eh.refl _⟩
 rw [List.take_length] at m2;refine ⟨M,⟨m1,m2⟩,?_⟩;unfold Nc;have m3':D6 [] l (ae l) 0 ([],())=_:=m3;rw [m3'];rfl
theorem Ju (acc:List aN) (hb:∀ a∈acc,ju a) (hl:acc.length<=1048576):Uy (acc,())=some ((),((acc,()),())):=by
 have hbig:aW=140737488355328:=rfl;unfold Uy Ox;have h:=a6 (step:=Dt nI) acc (fun i (a:List aN)=>((),acc,ae acc,((i:Nat):Int),(([]:List aN),()),(a,()),())) (fun _ x a=>Sum.inl (a ++ [x])) (fun a=> .inl ((),acc,ae acc,(acc.length:Int),([],()),(a,()),())) (fun i a=>a.length=i) (a0:=[]) rfl (fun i x a hx ha=>by
  have hlt:=aj hx;show nI () acc (ae acc) (i:Int) ([],()) (a,())=_;unfold nI;have e:∀ y:aN,cS 160 a [y]=true:=fun y=>Nat.ble_eq_true_of_le (by simp; omega)
  rw [aG hx,aC hx,aX _ hx,GG x (hb x (List.mem_of_getElem? hx)),aQ (by omega)];dsimp only [cond_true,Option.bind_some];rw [e];rfl) (fun i x a a' hx ha hf=>by
  simp only [Sum.inl.injEq] at hf;rw [<- hf,List.length_append,ha]; rfl) (fun a ha=>by
  show nI () acc (ae acc) (acc.length:Int) ([],()) (a,())=_;unfold nI;rw [aw rfl]; rfl)
 rw [jk] at h;have h':F8 () acc (ae acc) 0 ([],()) ([],())=_:=h;dsimp only;rw [h'];rfl
theorem IG (l:List fX) (hB:wU l):∃ M,(kZ dn M/\eh dn (fj l) M)/\OU l=some ((),((M,()),())):=by
 have hbig:aW=140737488355328:=rfl;have hl:=hB.1;have hl2:=hB.2.1;obtain ⟨o,ho,hm⟩:=mR (step:=gj wI) l (fun j (o:List aN)=>(l,ae l,((j:Nat):Int),(([]:List aN),()),(o,()),())) (fun o=> .inl (l,ae l,(l.length:Int),([],()),(o,()),())) (fun j o=>o=fj (l.take j)) (fun j s o hx ho=>by
  have hlt:=aj hx;have hs:=hB.2.2 s (List.mem_of_getElem? hx);have e1:=qS hx;have e2:=yZ l (j + 1);rw [e1,List.length_append] at e2;refine ⟨o ++ s.2.1,?_,by rw [ho,e1]⟩;show wI l (ae l) (j:Int) ([],()) (o,())=_;unfold wI;have e:cS 160 o s.2.1=true:=Nat.ble_eq_true_of_le (by rw [ho]; omega);rw [aG hx,aC hx,aX _ hx];dsimp only [cond_true];rw [Ju s.2.1 hs (by omega)];dsimp only [cond_true,Option.bind_some];rw [e,aQ (by omega)];rfl) (fun o ho=>by
  show wI l (ae l) (l.length:Int) ([],()) (o,())=_;unfold wI;rw [aw rfl]; rfl) l.length 0 [] (by omega) rfl
 rw [List.take_length] at ho;subst ho;obtain ⟨M,m1,m2,m3⟩:=N0 (fj l) (by omega);refine ⟨M,⟨m1,m2⟩,?_⟩;unfold OU;have hm':Nx l (ae l) 0 ([],()) ([],())=_:=hm;rw [hm'];dsimp only [Option.bind_some,Sum.elim_inl];rw [m3];rfl
theorem EN (l:List fX) (hB:wU l):∃ M,M.length=(fj l).length/\(∀ x∈M,x∈fj l)/\eh dn (fj l) M/\Nc l=some ((),((M,()),()))/\OU l=some ((),((M,()),())):=by obtain ⟨M,⟨m1,m2⟩,m3⟩:=Ao l hB;obtain ⟨M',⟨p1,p2⟩,p3⟩:=IG l hB;have e:=qo ff p1 m1 (p2.symm.trans m2);subst e;exact ⟨M',p2.1.symm,fun x hx=>(p2.mem ff).2 hx,p2,m3,p3⟩
abbrev aS:=List (Int×Unit)
def xX (b:aS):Prop:=b.length<=1048576/\∀ x∈b,0<=x.1/\x.1<=255
def et (b:aS) (a k:Nat):aS:=(b.drop a).take k
theorem Ge (b:aS) (a k:Nat):sub b (a:Int) ((a + k:Nat):Int)=et b a k:=by unfold sub et;rw [Int.toNat_natCast,Int.toNat_natCast,List.drop_take,Nat.add_sub_cancel_left]
theorem lv {b:aS} {a k:Nat} (h:a + k<=b.length):(et b a k).length=k:=by unfold et;rw [List.length_take,List.length_drop];omega
theorem HJ {b:aS} {a k i:Nat} {x:Int×Unit} (h:(et b a k)[i]? = some x):i < k/\b[a + i]? = some x:=by
 unfold et at h;rw [List.getElem?_take] at h;split at h
 . rw [List.getElem?_drop] at h;exact ⟨by assumption,h⟩
 . simp at h
theorem Qa {b:aS} {a k:Nat} {x:Int×Unit} (h:x∈et b a k):x∈b:=List.mem_of_mem_drop (List.mem_of_mem_take h)
theorem DF {b:aS} {a k:Nat} (h:a + k<=b.length):dH (a:Int) ((a + k:Nat):Int) b=true:=by show (decide ((0:Int)<=(a:Int)) && (decide ((a:Int)<=((a + k:Nat):Int)) && decide (((a + k:Nat):Int)<=(b.length:Int))))=true;rw [decide_eq_true (by omega),decide_eq_true (by omega),decide_eq_true (by omega)]; rfl
theorem zi (b:aS) (a k:Nat) (hb:b.length<=1048576) (ha:a<=b.length) (hk:k<=1048576):yD b a k=some ((),(if a + k<=b.length then ((et b a k,()),(true,()),()) else (([],()),(false,()),()))):=by
 unfold yD;have e:aI .i64 (ae b) (a:Int)=(b.length:Int) - a:=aO (by show -4611686018427387904<=(b.length:Int) - a; omega) (by show (b.length:Int) - a<=_; omega);have i1:dJ (a:Int) 0 (ae b)=true:=gF.2 ⟨by omega,by show (a:Int)<=(b.length:Int); omega⟩;have e2:aq .i64 (a:Int) (k:Int)=((a + k:Nat):Int):=by rw [bf (by omega) (by omega)]; omega
 dsimp only;rw [jd,e,e2];dsimp only [Option.bind_some];rw [i1,ax (a:=(k:Int)) (b:=0) (by omega)];by_cases h:a + k<=b.length
 . rw [ax (by omega),if_pos h,DF h,Ge];rfl
 . rw [aF (by omega),if_neg h]; rfl
def dO (s:List UInt8):Bool:=s.all fun x=>cond (au (x.toNat:Int) 32) false (!(au 126 (x.toNat:Int)))
theorem DJ (s:List UInt8) (hs:s.length<=aW):yM s=some ((),((dO s,()),())):=by
 unfold yM;have h:=aE (step:=wR pk) s (fun i (_:Unit)=>(s,((i:Nat):Int),())) (fun _ x _=>bif cond (au (x.toNat:Int) 32) false (!(au 126 (x.toNat:Int))) then Sum.inl () else .inr (.inr (false,()))) (fun _=> .inl (s,(s.length:Int),())) (a0:=()) (fun i x a hx=>by
  have hlt:=aj hx;show pk s (i:Int)=_;unfold pk;rw [aG hx,aC hx,ew hx,aQ (by omega)];dsimp only [cond_true];cases au (x.toNat:Int) 32 <;> cases au 126 (x.toNat:Int) <;> rfl) (fun a=>by
  show pk s (s.length:Int)=_;unfold pk;rw [aw rfl]; rfl)
 rw [fJ] at h;have h':H3 s 0=_:=h;rw [h'];unfold dO;cases s.all _ <;> rfl
theorem LI (s:List UInt8) (hs:s.length<=aW):FT s=some ((),((dO s,()),())):=by
 unfold FT;have h:=aE (step:=fb oZ) s (fun i (_:Unit)=>(s,ae s,((i:Nat):Int),())) (fun _ x _=>bif cond (au (x.toNat:Int) 32) false (!(au 126 (x.toNat:Int))) then Sum.inl () else .inr (.inr (false,()))) (fun _=> .inl (s,ae s,(s.length:Int),())) (a0:=()) (fun i x a hx=>by
  have hlt:=aj hx;show oZ s (ae s) (i:Int)=_;unfold oZ;rw [aG hx,aC hx,ew hx,aQ (by omega)];dsimp only [cond_true];cases au (x.toNat:Int) 32 <;> cases au 126 (x.toNat:Int) <;> rfl) (fun a=>by
  show oZ s (ae s) (s.length:Int)=_;unfold oZ;rw [aw rfl]; rfl)
 rw [fJ] at h;have h':Jp s (ae s) 0=_:=h;rw [h'];unfold dO;cases s.all _ <;> rfl
def kz (acc:Nat) (s:List UInt8):Nat:=s.foldl (fun n x=>n * 10 + (x.toNat - 48)) acc
theorem yk:∀ (s:List UInt8) (acc k:Nat),s.all fE=true->acc < 10 ^ k->kz acc s < 10 ^ (k + s.length)
 | [],acc,k,_,h=>h
 | x :: s,acc,k,hd,h=>by simp only [List.all_cons,Bool.and_eq_true] at hd;have:=fB.1 hd.1;have h2:=yk s (acc * 10 + (x.toNat - 48)) (k + 1) hd.2 (by rw [Nat.pow_succ]; omega);rw [List.length_cons,show k + (s.length + 1)=k + 1 + s.length by omega];exact h2
theorem AK:∀ (s:List UInt8) (acc:Nat),s.all fE=true->kz acc s < 1844674407370955162->Lib.parseUint10 acc s= .ok (kz acc s)
 | [],acc,_,_=>rfl
 | x :: s,acc,hd,h=>by
   simp only [List.all_cons,Bool.and_eq_true] at hd;have hx:=fB.1 hd.1;have hmono:∀ (s:List UInt8) (a:Nat),a<=kz a s:=fun s=>by
    induction s with
    | nil=>intro a; exact Nat.le_refl _
    | cons y s ih=>intro a; exact Nat.le_trans (by omega) (ih (a * 10 + (y.toNat - 48)))
   have h1:=hmono s (acc * 10 + (x.toNat - 48));have h:kz (acc * 10 + (x.toNat - 48)) s < 1844674407370955162:=h;have ih:=AK s (acc * 10 + (x.toNat - 48)) hd.2 h;unfold Lib.parseUint10;rw [if_pos hx,if_neg (by omega),if_neg (by omega),ih];rfl
theorem cZ {s:List UInt8}:aT s=true↔s.all fE=true/\s≠[]:=by
 unfold aT;cases s.all fE with
 | false=>simp
 | true=>cases s <;> simp [au,ae]
def wY (s:List UInt8):Option Nat:=if aT s=true/\s.length<=18 then some (kz 0 s) else none
def LV (o:Option Nat):Option (Unit×((Int×Unit)×(Bool×Unit)×Unit)):=some ((),match o with | some n=>(((n:Int),()),(true,()),()) | none=>((0,()),(false,()),()))
theorem MP (s:List UInt8) (hs:s.length<=aW):Ck s=LV (wY s):=by
 unfold Ck sN wY;rw [gv s hs];dsimp only [Option.bind_some];cases hd:aT s with
 | false=>rfl
 | true =>
   by_cases h18:s.length<=18
   . rw [if_pos ⟨rfl,h18⟩,Nat.ble_eq_true_of_le h18];obtain ⟨h1,h2⟩:=cZ.1 hd;have hb:=yk s 0 0 h1 (by decide);have hb2:kz 0 s < 1000000000000000000:=Nat.lt_of_lt_of_le hb (by rw [Nat.zero_add]; exact Nat.pow_le_pow_right (by decide) h18);have hu:=AK s 0 h1 (by omega);have hv:Lib.atoiAll s= .ok (kz 0 s:Int):=by
      cases s with
      | nil=>exact absurd rfl h2
      | cons c r => have hc:=List.all_eq_true.1 h1 c (by simp);have hc:=fB.1 hc;rw [Lib.atoiAll_plain c r (by omega) (by omega)];unfold Lib.parseMag;rw [if_neg (by simp),hu];show (if 9223372036854775808<=kz 0 (c :: r) then _ else _)=_;rw [if_neg (by omega)]
     rw [hv];rfl
   . rw [if_neg (fun h=>h18 h.2)];have:Nat.ble s.length 18=false:=by
      cases h:Nat.ble s.length 18 with
      | false=>rfl
      | true=>exact absurd (Nat.le_of_ble_eq_true h) h18
     rw [this];rfl
theorem Dw (s:List UInt8) (hs:s.length<=aW):sI s=LV (wY s):=by
 have hbig:aW=140737488355328:=rfl;unfold sI wY;rw [fz s hs];dsimp only [Option.bind_some];cases hd:aT s with
 | false=>rfl
 | true =>
   by_cases h18:s.length<=18
   . rw [if_pos ⟨rfl,h18⟩,ax (by show ¬ (18:Int) < (s.length:Int); omega)];obtain ⟨h1,h2⟩:=cZ.1 hd;have h:=a6 (step:=fb oH) s (fun i (a:Nat)=>(s,(a:Int),((i:Nat):Int),())) (fun _ x a=>Sum.inl (a * 10 + (x.toNat - 48))) (fun a=> .inl (s,(a:Int),(s.length:Int),())) (fun i a=>a < 10 ^ i) (a0:=0) (by decide) (fun i x a hx ha=>by
      have hlt:=aj hx;have hc:=fB.1 (List.all_eq_true.1 h1 x (List.mem_of_getElem? hx));have h17:a < 10 ^ 17:=Nat.lt_of_lt_of_le ha (Nat.pow_le_pow_right (by decide) (by omega));have h17':a < 100000000000000000:=h17;show oH s (a:Int) (i:Int)=_;unfold oH;have m:jH .i64 (a:Int) 10=((a * 10:Nat):Int):=by unfold jH; rw [IntKind.wrap_i64]; omega
      have c:bN .i64 (x.toNat:Int)=(x.toNat:Int):=by unfold bN; rw [IntKind.wrap_i64]; omega
      rw [aG hx,aC hx,ew hx,aQ (by omega),m,c,bf (by omega) (by omega),aO (by omega) (by omega)];dsimp only [cond_true];rw [show ((a * 10:Nat):Int) + (x.toNat:Int) - 48=((a * 10 + (x.toNat - 48):Nat):Int) by omega]) (fun i x a a' hx ha hf=>by
      have hc:=fB.1 (List.all_eq_true.1 h1 x (List.mem_of_getElem? hx));simp only [Sum.inl.injEq] at hf;rw [<- hf,Nat.pow_succ];omega) (fun a ha=>by
      show oH s (a:Int) (s.length:Int)=_;unfold oH;rw [aw rfl]; rfl)
     rw [bQ] at h;have h':H5 s 0 0=_:=h;rw [h'];rfl
   . rw [if_neg (fun h=>h18 h.2),aF (by show (18:Int) < (s.length:Int); omega)];rfl
theorem Ik {s t:List UInt8} (h:s.length + t.length<=aW):SR s t=true:=Nat.ble_eq_true_of_le h
def JK (x:Int×Unit):List UInt8:=[UInt8.ofNat (48 + x.1.toNat / 16),UInt8.ofNat (48 + x.1.toNat % 16)]
def ob (l:aS):List UInt8:=(l.map JK).flatten
theorem pQ:∀ l:aS,(ob l).length=2 * l.length
 | []=>rfl
 | x :: r=>by have:=pQ r;unfold ob at this ⊢;simp only [List.map_cons,List.flatten_cons,List.length_append,this,JK,List.length_cons,List.length_nil];omega
def zd:List UInt8->aS
 | []=>[]
 | x :: r=>((x.toNat:Int),()) :: zd r
theorem rz:∀ q:List UInt8,strOf (zd q)=q
 | []=>rfl
 | x :: r=>by show UInt8.ofNat (Int.toNat (x.toNat:Int)) :: strOf (zd r)=_;rw [rz r,Int.toNat_natCast];simp
theorem sP:∀ q:List UInt8,(zd q).length=q.length
 | []=>rfl
 | x :: r=>congrArg (· + 1) (sP r)
theorem D8:∀ q r:List UInt8,zd (q ++ r)=zd q ++ zd r
 | [],r=>rfl
 | x :: q,r=>congrArg (((x.toNat:Int),()) :: ·) (D8 q r)
theorem AA:∀ (n:Nat) (q:List UInt8),(zd q).drop n=zd (q.drop n)
 | 0,q=>by simp
 | n + 1,[]=>rfl
 | n + 1,x :: r=>AA n r
def iM (b:aS) (a n:Nat):Option (List UInt8) :=
 if 1<=n/\n<=38/\a + (n + 1) / 2<=b.length then
  (if (ob (et b a ((n + 1) / 2))).all fE=true/\(n % 2=1->(ob (et b a ((n + 1) / 2))).head? = some 48) then some ((ob (et b a ((n + 1) / 2))).drop (n % 2)) else none)
 else none
def wQ (o:Option (List UInt8)) (e:Int):Option (Unit×((List UInt8×Unit)×(Int×Unit)×(Bool×Unit)×Unit)):=some ((),match o with | some s=>((s,()),(e,()),(true,()),()) | none=>(([],()),(0,()),(false,()),()))
theorem zt {s:List UInt8}:s.head? = some 48↔∃ r,s=48 :: r:=by
 cases s with
 | nil=>simp
 | cons x r=>simp
theorem Jo (n:Nat) (h:n<=1048576):nE .i64 (aq .i64 (n:Int) 1) 2=(((n + 1) / 2:Nat):Int):=by rw [bf (by omega) (by omega)];unfold nE;rw [Int.tdiv_eq_ediv_of_nonneg (by omega),IntKind.wrap_i64];omega
theorem Mt (n:Nat):ak (gI (n:Int) 2) 1=decide (n % 2=1):=by
 unfold ak gI;rw [Int.tmod_eq_emod_of_nonneg (by omega)];by_cases h:n % 2=1
 . rw [decide_eq_true h]; exact beq_iff_eq.2 (by omega)
 . rw [decide_eq_false h]; exact beq_eq_false_iff_ne.2 (by omega)
theorem TY (x:Int×Unit) (h:0<=x.1/\x.1<=255):strOf [((bN .u8 (aq .i64 48 (nE .i64 (bN .i64 x.1) 16))),()),((bN .u8 (aq .i64 48 (gI (bN .i64 x.1) 16))),())]=JK x:=by
 obtain ⟨⟨n,hn⟩,hn2⟩:(∃ n:Nat,x.1=n)/\x.1<=255:=⟨⟨x.1.toNat,by omega⟩,h.2⟩;have c:bN .i64 x.1=(n:Int):=by unfold bN; rw [IntKind.wrap_i64]; omega
 have q:nE .i64 (n:Int) 16=((n / 16:Nat):Int):=by unfold nE; rw [Int.tdiv_eq_ediv_of_nonneg (by omega),IntKind.wrap_i64]; omega
 have r:gI (n:Int) 16=((n % 16:Nat):Int):=by unfold gI; rw [Int.tmod_eq_emod_of_nonneg (by omega)]; omega
 have u:∀ k:Nat,k<=16->bN .u8 (aq .i64 48 (k:Int))=((48 + k:Nat):Int):=fun k hk=>by rw [bf (by omega) (by omega)]; unfold bN; rw [IntKind.wrap_u8]; omega
 rw [c,q,r,u _ (by omega),u _ (by omega)];unfold strOf JK;rw [hn];rfl
theorem R8:∀ c:Fin 256,aq .u8 48 (il .u8 (c.val:Int) 4)=((48 + c.val / 16:Nat):Int)/\aq .u8 48 (yU .u8 (c.val:Int) 15)=((48 + c.val % 16:Nat):Int):=by decide +kernel
theorem Fq {s:List UInt8} (h:∃ r,s=48 :: r):(s.drop 1).all fE=s.all fE:=by obtain ⟨r,rfl⟩:=h;rfl
theorem Hh {s:List UInt8} (hs:s≠[]):ak (dm s 0) 48=true↔∃ r,s=48 :: r:=by
 cases s with
 | nil=>exact absurd rfl hs
 | cons x r =>
   show ((x.toNat:Int) == 48)=true↔_;rw [beq_iff_eq];refine ⟨fun h=>⟨r,?_⟩,fun ⟨r',h⟩ => ?_⟩
   . have:x=48:=UInt8.toNat_inj.1 (by show x.toNat=48; omega);rw [this]
   . rw [(List.cons.inj h).1]; rfl
theorem mo {s:List UInt8} (hs:s≠[]):aT s=s.all fE:=by
 cases h:s.all fE with
 | true=>exact cZ.2 ⟨h,hs⟩
 | false =>
   cases h2:aT s with
   | false=>rfl
   | true=>rw [(cZ.1 h2).1] at h; simp at h
theorem Kz {s:List UInt8} {n:Nat} (h:n < s.length):s.drop n≠[]:=fun e=>by have:=congrArg List.length e;rw [List.length_drop] at this;simp only [List.length_nil] at this;omega
theorem Ee (b:aS) (a n:Nat) (hb:xX b) (ha:a<=b.length) (hn:n<=1048576):tD b a n=wQ (iM b a n) ((a + (n + 1) / 2:Nat):Int):=by
 have hbig:aW=140737488355328:=rfl;have hl:=hb.1;unfold tD iM;have e:aI .i64 (ae b) (a:Int)=(b.length:Int) - a:=aO (by show -4611686018427387904<=(b.length:Int) - a; omega) (by show (b.length:Int) - a<=_; omega);have hq:=Jo n hn;dsimp only;rw [e,hq,ax (a:=(a:Int)) (b:=0) (by omega),ax (a:=ae b) (b:=(a:Int)) (by show ¬ (b.length:Int) < a; omega)];by_cases h1:1<=n/\n<=38;rotate_left
 . rw [if_neg (fun h=>h1 ⟨h.1,h.2.1⟩)];by_cases h0:(n:Int) < 1
   . rw [aF h0]; rfl
   . rw [ax h0,aF (by omega)]; rfl
 rw [ax (a:=(n:Int)) (b:=1) (by omega),ax (a:=38) (b:=(n:Int)) (by omega)];dsimp only [cond_false,cond_true];by_cases h2:a + (n + 1) / 2<=b.length;rotate_left
 . rw [if_neg (fun h=>h2 h.2.2),aF (by omega)]; rfl
 rw [if_pos ⟨h1.1,h1.2,h2⟩,ax (by omega)];dsimp only [cond_false];have hpl:=lv h2;have h:=a6 (step:=gj nG) (et b a ((n + 1) / 2)) (fun i (o:List UInt8)=>(b,(a:Int),(n:Int),o,((a + i:Nat):Int),())) (fun _ x o=>Sum.inl (o ++ JK x)) (fun o=> .inl (b,(a:Int),(n:Int),o,((a + (n + 1) / 2:Nat):Int),())) (fun i o=>o.length=2 * i) (a0:=[]) rfl (fun i x o hx ho=>by
  obtain ⟨hik,hg⟩:=HJ hx;have hlt:=aj hg;show nG b (a:Int) (n:Int) o ((a + i:Nat):Int)=_;unfold nG;rw [hq,bf (by omega) (by omega),aF (by omega),aC hg,aX _ hg];dsimp only [cond_true];rw [TY x (hb.2 x (List.mem_of_getElem? hg)),Ik (by show o.length + 2<=aW; omega),aQ (by omega)];rfl) (fun i x o o' hx ho hf=>by
  simp only [Sum.inl.injEq] at hf;rw [<- hf,List.length_append,ho];show 2 * i + 2=_;omega) (fun o ho=>by
  show nG b (a:Int) (n:Int) o ((a + (et b a ((n + 1) / 2)).length:Nat):Int)=_;unfold nG;rw [hq,bf (by omega) (by omega),hpl,ax (by omega)]; rfl)
 have hfold:∀ (l:aS) (o:List UInt8),l.foldl (fun o x=>o ++ JK x) o=o ++ ob l:=fun l=>by
  induction l with
  | nil=>intro o; simp [ob]
  | cons x r ih=>intro o; rw [List.foldl_cons,ih]; simp [ob]
 rw [bQ,hfold,List.nil_append] at h;have h':HD b (a:Int) (n:Int) [] (a:Int)=_:=h;rw [h'];generalize hs:ob (et b a ((n + 1) / 2))=s;have hsl:s.length=2 * ((n + 1) / 2):=by rw [<- hs,pQ,hpl]
 have hsne:s≠[]:=fun e=>by rw [e] at hsl; simp only [List.length_nil] at hsl; omega
 dsimp only [Option.bind_some,Sum.elim_inl];rw [Mt,hq,bf (by omega) (by omega),show (a:Int) + (((n + 1) / 2:Nat):Int)=((a + (n + 1) / 2:Nat):Int) by omega];by_cases hp:n % 2=1
 . rw [decide_eq_true hp,hp];have i0:a7 0 s=true:=kY (i:=0) (by omega);have c1:dH 1 (ae s) s=true:=by
    show (decide ((0:Int)<=1) && (decide ((1:Int)<=(s.length:Int)) && decide ((s.length:Int)<=(s.length:Int))))=true;rw [decide_eq_true (by omega),decide_eq_true (by omega),decide_eq_true (by omega)]; rfl
   have sb:sub s 1 (ae s)=s.drop 1:=by show (s.take (Int.toNat (s.length:Int))).drop 1=_;rw [Int.toNat_natCast,List.take_length]
   rw [i0];dsimp only [cond_true];by_cases h48:∃ r,s=48 :: r
   . rw [(Hh hsne).2 h48];rw [c1,sb,fz _ (by rw [List.length_drop]; omega),mo (Kz (by omega)),Fq h48];dsimp only [cond_true,Option.bind_some];cases hd:s.all fE with
     | false=>rw [if_neg (fun h=>by simp at h)]; rfl
     | true=>rw [if_pos ⟨rfl,fun _=>zt.2 h48⟩]; rfl
   . have:ak (dm s 0) 48=false:=by
      cases h:ak (dm s 0) 48 with
      | false=>rfl
      | true=>exact absurd ((Hh hsne).1 h) h48
     rw [this,if_neg (fun h=>h48 (zt.1 (h.2 rfl)))]; rfl
 . rw [decide_eq_false hp];have hp0:n % 2=0:=by omega
   rw [hp0];dsimp only [cond_false];rw [fz _ (by omega),mo hsne];dsimp only [Option.bind_some];cases hd:s.all fE with
   | false=>rw [if_neg (fun h=>by simp at h)]; rfl
   | true=>rw [if_pos ⟨rfl,fun h=>by simp at h⟩]; rfl
theorem I8 (b:aS) (a n:Nat) (hb:xX b) (ha:a<=b.length) (hn:n<=1048576):yr b a n=wQ (iM b a n) ((a + (n + 1) / 2:Nat):Int):=by
 have hbig:aW=140737488355328:=rfl;have hl:=hb.1;unfold yr iM;rw [jd,Jo n hn];dsimp only [Option.bind_some];by_cases h1:1<=n/\n<=38;rotate_left
 . rw [if_neg (fun h=>h1 ⟨h.1,h.2.1⟩)];have:dJ (n:Int) 1 38=false:=by
    cases h:dJ (n:Int) 1 38 with
    | false=>rfl
    | true=>have:=gF.1 h; omega
   rw [this]; rfl
 rw [gF.2 (by omega:(1:Int)<=n/\(n:Int)<=38),zi b a _ hl ha (by omega)];have hloop:∀ (t9:aS) (t10:Bool) (p:aS),(∀ x∈p,0<=x.1/\x.1<=255)->p.length<=20->Gx (a:Int) (n:Int) t9 t10 [] p (ae p) 0=some (.inl ((a:Int),(n:Int),t9,t10,zd (ob p),p,ae p,(p.length:Int),())):=fun t9 t10 p hp hpl=>by
  have h:=a6 (step:=xd om) p (fun i (o:aS)=>((a:Int),(n:Int),t9,t10,o,p,ae p,((i:Nat):Int),())) (fun _ x o=>Sum.inl (o ++ zd (JK x))) (fun o=> .inl ((a:Int),(n:Int),t9,t10,o,p,ae p,(p.length:Int),())) (fun i o=>o.length=2 * i) (a0:=[]) rfl (fun i x o hx ho=>by
   have hlt:=aj hx;have hx2:=hp x (List.mem_of_getElem? hx);show om (a:Int) (n:Int) t9 t10 o p (ae p) (i:Int)=_;unfold om;rw [aG hx,aC hx,aX _ hx,aQ (by omega)];obtain ⟨k,hk⟩:∃ k:Nat,x.1=k:=⟨x.1.toNat,by omega⟩;have hf:=R8 ⟨k,by omega⟩;dsimp only at hf;rw [hk,hf.1,hf.2];dsimp only [cond_true];have:∀ ys:aS,ys.length=2->cS 1 o ys=true:=fun ys hy=>Nat.ble_eq_true_of_le (by rw [hy]; omega)
   rw [this _ rfl];have e1:∀ m:Nat,m < 256->(UInt8.ofNat m).toNat=m:=fun m hm=>by simp [Nat.mod_eq_of_lt hm]
   show some (Sum.inl _)=some (Sum.inl _);unfold JK;rw [hk];simp only [Int.toNat_natCast,zd,lO,e1 (48 + k / 16) (by omega),e1 (48 + k % 16) (by omega)]) (fun i x o o' hx ho hf=>by
   simp only [Sum.inl.injEq] at hf;rw [<- hf,List.length_append,ho];show 2 * i + 2=_;omega) (fun o ho=>by
   show om (a:Int) (n:Int) t9 t10 o p (ae p) (p.length:Int)=_;unfold om;rw [aw rfl]; rfl)
  have hfold:∀ (l:aS) (o:aS),l.foldl (fun o x=>o ++ zd (JK x)) o=o ++ zd (ob l):=fun l=>by
   induction l with
   | nil=>intro o; show o=o ++ []; rw [List.append_nil]
   | cons x r ih=>intro o; rw [List.foldl_cons,ih,show ob (x :: r)=JK x ++ ob r from rfl,D8,List.append_assoc]
  rw [bQ,hfold,List.nil_append] at h;exact h
 by_cases h2:a + (n + 1) / 2<=b.length;rotate_left
 . rw [if_neg h2,if_neg (fun h=>h2 h.2.2)];exact (bn (hloop [] false [] (fun x hx=>by simp at hx) (by simp))).trans rfl
 rw [if_pos h2,if_pos ⟨h1.1,h1.2,h2⟩];have hpl:=lv h2;refine (bn (hloop _ true _ (fun x hx=>hb.2 x (Qa hx)) (by omega))).trans ?_;generalize hs:ob (et b a ((n + 1) / 2))=s;have hsl:s.length=2 * ((n + 1) / 2):=by rw [<- hs,pQ,hpl]
 have hsne:s≠[]:=fun e=>by rw [e] at hsl; simp only [List.length_nil] at hsl; omega
 show Option.bind (sH (strOf (zd s))) _=_;rw [rz,gv _ (by omega),mo hsne];generalize hm:zd s=m;have hlm:ae m=(s.length:Int):=by rw [<- hm]; show ((zd s).length:Int)=_; rw [sP]
 have hcut:aI .i64 (s.length:Int) (n:Int)=((n % 2:Nat):Int):=by rw [aO (by omega) (by omega)]; omega
 have hpc:ae (et b a ((n + 1) / 2))=(((n + 1) / 2:Nat):Int):=by show ((et b a _).length:Int)=_; rw [hpl]
 have c1:dH ((n % 2:Nat):Int) (s.length:Int) m=true:=by show (decide ((0:Int)<=((n % 2:Nat):Int)) && (decide (((n % 2:Nat):Int)<=(s.length:Int)) && decide ((s.length:Int)<=(m.length:Int))))=true;rw [show (m.length:Int)=(s.length:Int) from hlm,decide_eq_true (by omega),decide_eq_true (by omega),decide_eq_true (by omega)]; rfl
 have sb:strOf (sub m ((n % 2:Nat):Int) (s.length:Int))=s.drop (n % 2):=by rw [<- hm];show strOf (((zd s).take (Int.toNat (s.length:Int))).drop (Int.toNat ((n % 2:Nat):Int)))=_;rw [Int.toNat_natCast,Int.toNat_natCast,List.take_of_length_le (by rw [sP]; exact Nat.le_refl _)];exact (congrArg strOf (AA _ _)).trans (rz _)
 have hF:(cond (dH (aI .i64 (ae m) (n:Int)) (ae m) m) (some ((),((strOf (sub m (aI .i64 (ae m) (n:Int)) (ae m)),()),(aq .i64 (a:Int) (ae (et b a ((n + 1) / 2))),()),(true,()),()))) none:Option (Unit×((List UInt8×Unit)×(Int×Unit)×(Bool×Unit)×Unit)))=wQ (some (s.drop (n % 2))) ((a + (n + 1) / 2:Nat):Int):=by rw [hlm,hcut,hpc,bf (by omega) (by omega),c1,sb,show (a:Int) + (((n + 1) / 2:Nat):Int)=((a + (n + 1) / 2:Nat):Int) by omega];rfl
 show cond (!(s.all fE)) (some ((),(([],()),(0,()),(false,()),()))) (cond (ak (gI (n:Int) 2) 1) (cond (a7 0 m) (cond (!(ak (gt (0,()) m 0).1 48)) (some ((),(([],()),(0,()),(false,()),()))) (cond (dH (aI .i64 (ae m) (n:Int)) (ae m) m) (some ((),((strOf (sub m (aI .i64 (ae m) (n:Int)) (ae m)),()),(aq .i64 (a:Int) (ae (et b a ((n + 1) / 2))),()),(true,()),()))) none)) none)
  (cond (dH (aI .i64 (ae m) (n:Int)) (ae m) m) (some ((),((strOf (sub m (aI .i64 (ae m) (n:Int)) (ae m)),()),(aq .i64 (a:Int) (ae (et b a ((n + 1) / 2))),()),(true,()),()))) none))=_
 rw [hF,Mt];cases hd:s.all fE with
 | false=>rw [if_neg (fun h=>by simp at h)]; rfl
 | true =>
   by_cases hp:n % 2=1
   . rw [decide_eq_true hp];subst hm;have hm0:∃ x r,s=x :: r:=by
      cases s with
      | nil=>exact absurd rfl hsne
      | cons x r=>exact ⟨x,r,rfl⟩
     obtain ⟨x,r,rfl⟩:=hm0;have i0:a7 0 (zd (x :: r))=true:=kY (i:=0) (by rw [sP]; simp);rw [i0];show cond (!(ak (x.toNat:Int) 48)) _ _=_;by_cases h48:x.toNat=48
     . have hx:x=48:=UInt8.toNat_inj.1 h48;rw [show ak (x.toNat:Int) 48=true from beq_iff_eq.2 (by omega),if_pos ⟨rfl,fun _=>by rw [hx]; rfl⟩]; rfl
     . rw [show ak (x.toNat:Int) 48=false from beq_eq_false_iff_ne.2 (by omega),if_neg (fun h=>by obtain ⟨r',h⟩:=zt.1 (h.2 hp);rw [(List.cons.inj h).1] at h48;exact h48 rfl)]; rfl
   . rw [decide_eq_false hp,if_pos ⟨rfl,fun h=>absurd h hp⟩]; rfl
def py (p:aS) (i:Nat):Bool:=ak (gI (il .i64 (bN .i64 (p.getD (i / 8) (0,())).1) ((7 - i % 8:Nat):Int)) 2) 1
def dL (p:aS):aS:=((List.range 64).filter (py p)).map fun i=>(((i + 1:Nat):Int),())
theorem N2:∀ (c:Fin 256) (r:Fin 8),(!(ak (yU .u8 (c.val:Int) (il .u8 128 (r.val:Int))) 0))=ak (gI (il .i64 (bN .i64 (c.val:Int)) ((7 - r.val:Nat):Int)) 2) 1:=by decide +kernel
theorem qN (p:aS):∀ (l:List Nat) (o:aS),l.foldl (fun o i=>bif py p i then o ++ [(((i + 1:Nat):Int),())] else o) o=o ++ (l.filter (py p)).map fun i=>(((i + 1:Nat):Int),())
 | [],o=>by simp
 | i :: l,o=>by rw [List.foldl_cons,qN p l,List.filter_cons];cases py p i <;> simp
theorem Dy {i x:Nat} (h:(List.range 64)[i]? = some x):x=i/\i < 64:=by have:=(List.getElem?_eq_some_iff.1 h);obtain ⟨h1,h2⟩:=this;rw [List.getElem_range] at h2;exact ⟨h2.symm,by simpa using h1⟩
theorem Sb {i:Nat} (h:i < 64):aI .i64 ((i + 1:Nat):Int) 1=(i:Int)/\nE .i64 (i:Int) 8=((i / 8:Nat):Int)/\gI (i:Int) 8=((i % 8:Nat):Int)/\bC ((i + 1:Nat):Int) 64=true:=by
 refine ⟨by rw [aO (by omega) (by omega)]; omega,?_,?_,decide_eq_true (by omega)⟩
 . unfold nE;rw [Int.tdiv_eq_ediv_of_nonneg (by omega),IntKind.wrap_i64];omega
 . unfold gI;rw [Int.tmod_eq_emod_of_nonneg (by omega)];omega
def nq (b:aS) (a:Nat):Option (Unit×((aS×Unit)×(Int×Unit)×(Bool×Unit)×Unit)):=some ((),(if a + 8<=b.length then ((dL (et b a 8),()),(((a + 8:Nat):Int),()),(true,()),()) else (([],()),(0,()),(false,()),())))
theorem D2 (b:aS) (a k i:Nat) (hi:i < k) (h:a + k<=b.length):∃ x,b[a + i]? = some x/\(et b a k).getD i (0,())=x/\(et b a k)[i]? = some x:=by obtain ⟨x,hx⟩:∃ x,(et b a k)[i]? = some x:=⟨_,List.getElem?_eq_getElem (by rw [lv h]; exact hi)⟩;exact ⟨x,(HJ hx).2,by rw [List.getD_eq_getElem?_getD,hx]; rfl,hx⟩
theorem I9 (b:aS) (a:Nat) (hb:xX b) (ha:a<=b.length):CF b a=nq b a:=by
 have hbig:aW=140737488355328:=rfl;have hl:=hb.1;unfold CF nq;have e:aI .i64 (ae b) 8=(b.length:Int) - 8:=aO (by show -4611686018427387904<=(b.length:Int) - 8; omega) (by show (b.length:Int) - 8<=_; omega);rw [e,ax (a:=(a:Int)) (b:=0) (by omega)];by_cases h8:a + 8<=b.length;rotate_left
 . rw [if_neg h8,aF (by omega)]; rfl
 rw [if_pos h8,ax (by omega)];have h:=a6 (step:=cU qH) (List.range 64) (fun i (o:aS)=>(b,(a:Int),o,((i + 1:Nat):Int),())) (fun _ x o=>Sum.inl (bif py (et b a 8) x then o ++ [(((x + 1:Nat):Int),())] else o)) (fun o=> .inl (b,(a:Int),o,65,())) (fun i o=>o.length<=i) (a0:=[]) (Nat.le_refl _) (fun i x o hx ho=>by
  obtain ⟨rfl,hi⟩:=Dy hx;obtain ⟨e1,e2,e3,e4⟩:=Sb hi;obtain ⟨c,hc,hd,_⟩:=D2 b a 8 (x / 8) (by omega) h8;show qH b (a:Int) o ((x + 1:Nat):Int)=_;unfold qH;have e5:aI .i64 7 ((x % 8:Nat):Int)=((7 - x % 8:Nat):Int):=by rw [aO (by omega) (by omega)]; omega
  have e6:aq .i64 (a:Int) ((x / 8:Nat):Int)=((a + x / 8:Nat):Int):=by rw [bf (by omega) (by omega)]; omega
  have hbit:py (et b a 8) x=ak (gI (il .i64 (bN .i64 c.1) ((7 - x % 8:Nat):Int)) 2) 1:=by unfold py; rw [hd]
  dsimp only;rw [e4,e1,e2,e3,e5,e6,aC hc,aX _ hc,show bC 0 ((7 - x % 8:Nat):Int)=true from decide_eq_true (by omega),<- hbit,aQ (by omega)];have:cS 8 o [(((x + 1:Nat):Int),())]=true:=Nat.ble_eq_true_of_le (by show (o.length + 1) * 8<=aW; omega);rw [this];cases py (et b a 8) x <;> rfl) (fun i x o o' hx ho hf=>by
  simp only [Sum.inl.injEq] at hf;rw [<- hf];cases py (et b a 8) x with
  | false=>show o.length<=_; omega
  | true=>show (o ++ [_]).length<=_; rw [List.length_append]; show o.length + 1<=_; omega) (fun o ho=>by
  show qH b (a:Int) o (((List.range 64).length + 1:Nat):Int)=_;rfl)
 rw [bQ,qN,List.nil_append] at h;have h':Jv b (a:Int) [] 1=_:=h;refine (bn h').trans ?_;show some ((),((_,()),(aq .i64 (a:Int) 8,()),(true,()),()))=_;rw [bf (by omega) (by omega)];rfl
theorem IY (b:aS) (a:Nat) (hb:xX b) (ha:a<=b.length):As b a=nq b a:=by
 have hbig:aW=140737488355328:=rfl;have hl:=hb.1;unfold As nq;have hp:yD b (a:Int) 8=_:=zi b a 8 hl ha (by decide);rw [hp];by_cases h8:a + 8<=b.length;rotate_left
 . rw [if_neg h8,if_neg h8]; rfl
 rw [if_pos h8,if_pos h8];generalize hq:et b a 8=p;have h:=a6 (step:=cU qY) (List.range 64) (fun i (o:aS)=>((a:Int),p,o,((i + 1:Nat):Int),())) (fun _ x o=>Sum.inl (bif py p x then o ++ [(((x + 1:Nat):Int),())] else o)) (fun o=> .inl ((a:Int),p,o,65,())) (fun i o=>o.length<=i) (a0:=[]) (Nat.le_refl _) (fun i x o hx ho=>by
  obtain ⟨rfl,hi⟩:=Dy hx;obtain ⟨e1,e2,e3,e4⟩:=Sb hi;obtain ⟨c,hc,hd,hc2⟩:=D2 b a 8 (x / 8) (by omega) h8;rw [hq] at hd hc2;have hcb:=hb.2 c (List.mem_of_getElem? hc);show qY (a:Int) p o ((x + 1:Nat):Int)=_;unfold qY;obtain ⟨k,hk⟩:∃ k:Nat,c.1=k:=⟨c.1.toNat,by omega⟩;have hbe:=N2 ⟨k,by omega⟩ ⟨x % 8,by omega⟩;dsimp only at hbe;have hbit:py p x= !(ak (yU .u8 c.1 (il .u8 128 ((x % 8:Nat):Int))) 0):=by unfold py; rw [hd,hk,hbe]
  dsimp only;rw [e4,e1,e2,e3,aC hc2,aX _ hc2,show bC 0 ((x % 8:Nat):Int)=true from decide_eq_true (by omega),<- hbit,aQ (by omega)];have:cS 8 o [(((x + 1:Nat):Int),())]=true:=Nat.ble_eq_true_of_le (by show (o.length + 1) * 8<=aW; omega);rw [this];cases py p x <;> rfl) (fun i x o o' hx ho hf=>by
  simp only [Sum.inl.injEq] at hf;rw [<- hf];cases py p x with
  | false=>show o.length<=_; omega
  | true=>show (o ++ [_]).length<=_; rw [List.length_append]; show o.length + 1<=_; omega) (fun o ho=>by
  show qY (a:Int) p o (((List.range 64).length + 1:Nat):Int)=_;rfl)
 rw [bQ,qN,List.nil_append] at h;have h':GO (a:Int) p [] 1=_:=h;refine (bn h').trans ?_;show some ((),((_,()),(aq .i64 (a:Int) 8,()),(true,()),()))=_;rw [bf (by omega) (by omega)];rfl
theorem kg (p:aS):(dL p).length<=64:=by unfold dL;rw [List.length_map];exact Nat.le_trans (List.length_filter_le _ _) (by simp)
theorem F7 {p:aS} {x:Int×Unit} (h:x∈dL p):1<=x.1/\x.1<=64:=by obtain ⟨i,hi,rfl⟩:=List.mem_map.1 h;have:=List.mem_range.1 (List.mem_filter.1 hi).1;constructor <;> (show _<=_) <;> omega
abbrev NF:=Int×Int×Int×Unit
def iq:List NF:=[(2,3,19,()),(3,1,6,()),(4,1,12,()),(7,1,10,()),(11,1,6,()),(14,1,4,()),(37,2,12,()),(38,2,6,()),(39,2,2,()),(41,2,8,()),(48,5,60,()),(49,1,3,()),(54,5,60,()),(95,2,12,()),(102,4,20,()),(103,4,20,())]
def E6 (no:Int):NF:=(iq.find? fun r=>ak r.1 no).getD (0,0,0,())
def bm (no:Int):Int:=(E6 no).2.1
def gn (no:Int):Int:=(E6 no).2.2.1
theorem mQ {α Y:Type} (p:α->Bool) (y:α->Y) (z:Y):∀ (l:List α) (i:Nat),kB (fun _ x (_:Unit)=>bif p x then .inr (y x) else .inl ()) (fun _=>z) i l ()=match l.find? p with | some x=>y x | none=>z
 | [],_=>rfl
 | x :: l,i=>by
   have ih:=mQ p y z l (i + 1);rw [List.find?_cons,kB];cases p x with
   | true=>rfl
   | false=>exact ih
theorem HH (no:Int):EF no=some ((),(E6 no,())):=by
 unfold EF;have h:=aE (step:=gj rr) iq (fun i (_:Unit)=>(no,iq,ae iq,((i:Nat):Int),(0,0,0,()),())) (fun _ x _=>bif ak x.1 no then .inr (.inr (x,())) else .inl ()) (fun _=> .inl (no,iq,ae iq,(iq.length:Int),(0,0,0,()),())) (a0:=()) (fun i x a hx=>by
  have hlt:=aj hx;have h16:iq.length=16:=rfl;have hbig:aW=140737488355328:=rfl;show rr no iq (ae iq) (i:Int) (0,0,0,())=_;unfold rr;rw [aG hx,aC hx,aX _ hx,aQ (by omega)];dsimp only [cond_true];cases ak x.1 no <;> rfl) (fun a=>by
  show rr no iq (ae iq) (iq.length:Int) (0,0,0,())=_;rfl)
 rw [mQ] at h;have h':GZ no iq (ae iq) 0 (0,0,0,())=_:=h;refine (bn h').trans ?_;unfold E6;cases iq.find? _ <;> rfl
theorem qU (no:Int):no=2∨no=3∨no=4∨no=7∨no=11∨no=14∨no=37∨no=38∨no=39∨no=41∨no=48∨no=49∨no=54∨no=95∨no=102∨no=103∨∀ k∈[2,3,4,7,11,14,37,38,39,41,48,49,54,95,102,103],ak no k=false/\ak k no=false:=by
 by_cases h:∀ k∈[2,3,4,7,11,14,37,38,39,41,48,49,54,95,102,103],no≠k
 . have:∀ k∈[2,3,4,7,11,14,37,38,39,41,48,49,54,95,102,103],ak no k=false/\ak k no=false:=fun k hk=>⟨beq_eq_false_iff_ne.2 (h k hk),beq_eq_false_iff_ne.2 (Ne.symm (h k hk))⟩
   iterate 16 right
   exact this
 . simp only [Classical.not_forall,Classical.not_not] at h;obtain ⟨k,hk,rfl⟩:=h;simp only [List.mem_cons,List.not_mem_nil,or_false] at hk;rcases hk with h | h | h | h | h | h | h | h | h | h | h | h | h | h | h | h <;> simp [h]
theorem zo {no:Int} (h:∀ k∈[2,3,4,7,11,14,37,38,39,41,48,49,54,95,102,103],ak no k=false/\ak k no=false):E6 no=(0,0,0,()):=by unfold E6 iq;simp only [List.find?_cons,(h 2 (by simp)).2,(h 3 (by simp)).2,(h 4 (by simp)).2,(h 7 (by simp)).2,(h 11 (by simp)).2,(h 14 (by simp)).2,(h 37 (by simp)).2,(h 38 (by simp)).2,(h 39 (by simp)).2,(h 41 (by simp)).2,(h 48 (by simp)).2,(h 49 (by simp)).2,(h 54 (by simp)).2,(h 95 (by simp)).2,(h 102 (by simp)).2,(h 103 (by simp)).2,List.find?_nil,Option.getD_none]
theorem CZ (no:Int):Er no=some ((),((bm no,()),())):=by
 rcases qU no with rfl | rfl | rfl | rfl | rfl | rfl | rfl | rfl | rfl | rfl | rfl | rfl | rfl | rfl | rfl | rfl | h
 all_goals first | rfl | skip
 unfold Er bm;rw [zo h];simp only [(h 2 (by simp)).1,(h 3 (by simp)).1,(h 4 (by simp)).1,(h 7 (by simp)).1,(h 11 (by simp)).1,(h 14 (by simp)).1,(h 37 (by simp)).1,(h 38 (by simp)).1,(h 39 (by simp)).1,(h 41 (by simp)).1,(h 48 (by simp)).1,(h 49 (by simp)).1,(h 54 (by simp)).1,(h 95 (by simp)).1,(h 102 (by simp)).1,(h 103 (by simp)).1,cond_false]
theorem Hg (no:Int):GM no=some ((),((gn no,()),())):=by
 rcases qU no with rfl | rfl | rfl | rfl | rfl | rfl | rfl | rfl | rfl | rfl | rfl | rfl | rfl | rfl | rfl | rfl | h
 all_goals first | rfl | skip
 unfold GM gn;rw [zo h];simp only [(h 2 (by simp)).1,(h 3 (by simp)).1,(h 4 (by simp)).1,(h 7 (by simp)).1,(h 11 (by simp)).1,(h 14 (by simp)).1,(h 37 (by simp)).1,(h 38 (by simp)).1,(h 39 (by simp)).1,(h 41 (by simp)).1,(h 48 (by simp)).1,(h 49 (by simp)).1,(h 54 (by simp)).1,(h 95 (by simp)).1,(h 102 (by simp)).1,(h 103 (by simp)).1,cond_false]
theorem yb (no:Int):Cg no=some ((),((bm no,()),())):=by unfold Cg; rw [HH]; rfl
theorem Oz (no:Int):JO no=some ((),((gn no,()),())):=by unfold JO; rw [HH]; rfl
theorem kinds (no:Int):∃ n:Nat,gn no=n/\((bm no=0/\n=0)∨(bm no=1/\1<=n/\n<=12)∨(bm no=2/\1<=n/\n<=12)∨(bm no=3/\n=19)∨(bm no=4/\n=20)∨(bm no=5/\n=60)):=by
 rcases qU no with rfl | rfl | rfl | rfl | rfl | rfl | rfl | rfl | rfl | rfl | rfl | rfl | rfl | rfl | rfl | rfl | h
 . exact ⟨19,rfl,by decide⟩
 . exact ⟨6,rfl,by decide⟩
 . exact ⟨12,rfl,by decide⟩
 . exact ⟨10,rfl,by decide⟩
 . exact ⟨6,rfl,by decide⟩
 . exact ⟨4,rfl,by decide⟩
 . exact ⟨12,rfl,by decide⟩
 . exact ⟨6,rfl,by decide⟩
 . exact ⟨2,rfl,by decide⟩
 . exact ⟨8,rfl,by decide⟩
 . exact ⟨60,rfl,by decide⟩
 . exact ⟨3,rfl,by decide⟩
 . exact ⟨60,rfl,by decide⟩
 . exact ⟨12,rfl,by decide⟩
 . exact ⟨20,rfl,by decide⟩
 . exact ⟨20,rfl,by decide⟩
 . exact ⟨0,by unfold gn; rw [zo h]; rfl,.inl ⟨by unfold bm; rw [zo h],rfl⟩⟩
theorem dR {b:aS} {a n:Nat} {s:List UInt8} (h:iM b a n=some s):s.all fE=true/\s.length=n/\1<=n/\n<=38/\a + (n + 1) / 2<=b.length:=by
 unfold iM at h;split at h
 . rename_i h1;split at h
   . rename_i h2;cases h;have hl:(ob (et b a ((n + 1) / 2))).length=2 * ((n + 1) / 2):=by rw [pQ,lv h1.2.2]
     refine ⟨List.all_eq_true.2 fun x hx=>List.all_eq_true.1 h2.1 x (List.mem_of_mem_drop hx),?_,h1⟩;rw [List.length_drop,hl];omega
   . simp at h
 . simp at h
theorem kE {s:List UInt8} {n:Nat} (h:s.length=n) (hn:1<=n):s≠[]:=fun e=>by rw [e] at h; simp only [List.length_nil] at h; omega
theorem Ba {s:List UInt8} {n:Nat} (h:s.all fE=true) (hl:s.length=n) (h1:1<=n) (h2:n<=18):wY s=some (kz 0 s):=by unfold wY;rw [if_pos ⟨cZ.2 ⟨h,kE hl h1⟩,by omega⟩]
def FK (b:aS) (a d:Nat):Option (Unit×((Int×Unit)×(Int×Unit)×(Bool×Unit)×Unit)):=some ((),match iM b a d with | some t=>(((kz 0 t:Int),()),(((a + (d + 1) / 2:Nat):Int),()),(true,()),()) | none=>((0,()),(0,()),(false,()),()))
theorem Fs:sI []=some ((),((0,()),(false,()),())):=Dw [] (Nat.zero_le _)
theorem QQ (b:aS) (a d:Nat) (hb:xX b) (ha:a<=b.length) (hd:d=2∨d=3):Iv b a d=FK b a d:=by
 have hbig:aW=140737488355328:=rfl;unfold Iv FK;have hc:cond (!(ak (d:Int) 2)) (!(ak (d:Int) 3)) false=false:=by rcases hd with rfl | rfl <;> rfl
 rw [hc,Ee b a d hb ha (by omega)];unfold wQ;cases ho:iM b a d with
 | none => refine (bn Fs).trans ?_;rfl
 | some t => obtain ⟨h1,h2,h3,h4,h5⟩:=dR ho;have hn:sI t=_:=Dw t (by omega);rw [Ba h1 h2 h3 (by omega)] at hn;refine (bn hn).trans ?_;rfl
theorem T3 (b:aS) (a d:Nat) (hb:xX b) (ha:a<=b.length) (hd:d=2∨d=3):EC b a d=FK b a d:=by
 have hbig:aW=140737488355328:=rfl;unfold EC FK;rw [jd,gF.2 (by omega:(2:Int)<=d/\(d:Int)<=3),I8 b a d hb ha (by omega)];unfold wQ;cases ho:iM b a d with
 | none=>rfl
 | some t => obtain ⟨h1,h2,h3,h4,h5⟩:=dR ho;have hn:Ck t=_:=MP t (by omega);rw [Ba h1 h2 h3 (by omega)] at hn;refine (bn hn).trans ?_;rfl
def iN (no:Int) (s:List UInt8):Bool:=cond (ak (bm no) 1) (cond (aT s) (ak (ae s) (gn no)) false) (cond (ak (bm no) 2) (cond (dO s) (ak (ae s) (gn no)) false) (cond (ak (bm no) 3) (cond (aT s) (dJ (ae s) 1 (gn no)) false) (cond (ak (bm no) 4) (cond (dO s) (dJ (ae s) 1 (gn no)) false) (cond (ak (bm no) 5) (cond (dO s) (dJ (ae s) 1 (gn no)) false) false))))
theorem SH (no:Int) (s:List UInt8) (hs:s.length<=aW):LW no s=some ((),((iN no s,()),())):=by
 unfold LW iN;rw [CZ,Hg];dsimp only [Option.bind_some];rw [fz s hs,DJ s hs];dsimp only [Option.bind_some];rw [kQ];dsimp only [Option.bind_some];cases ak (bm no) 1 with
 | true=>rfl
 | false =>
 cases ak (bm no) 2 with
 | true=>rfl
 | false =>
 cases ak (bm no) 3 with
 | true =>
   show some ((),((cond (aT s) (bC (ae s) (gn no)) false,()),()))=some ((),((cond (aT s) (dJ (ae s) 1 (gn no)) false,()),()));cases hd:aT s with
   | false=>rfl
   | true =>
     have h1:bC 1 (ae s)=true:=by
      have:=(cZ.1 hd).2;cases s with
      | nil=>exact absurd rfl this
      | cons x r=>exact decide_eq_true (by show (1:Int)<=((r.length + 1:Nat):Int); omega)
     unfold dJ;rw [h1]; rfl
 | false =>
 cases ak (bm no) 4 with
 | true=>cases dO s <;> rfl
 | false =>
 cases ak (bm no) 5 with
 | true=>cases dO s <;> rfl
 | false=>rfl
theorem Hl (no:Int) (s:List UInt8) (hs:s.length<=aW):wP no s=some ((),((iN no s,()),())):=by
 unfold wP iN;rw [HH,gv s hs,LI s hs];dsimp only [Option.bind_some];rw [jd];dsimp only [Option.bind_some];show cond (ak (bm no) 1) _ (cond (ak (bm no) 2) _ (cond (ak (bm no) 3) _ (cond (ak (bm no) 4) _ (cond (ak (bm no) 5) _ _))))=_;cases ak (bm no) 1 with
 | true=>rfl
 | false =>
 cases ak (bm no) 2 with
 | true=>rfl
 | false =>
 cases ak (bm no) 3 with
 | true=>cases aT s <;> rfl
 | false =>
 cases ak (bm no) 4 with
 | true=>cases dO s <;> rfl
 | false =>
 cases ak (bm no) 5 with
 | true=>cases dO s <;> rfl
 | false=>rfl
def oa (b:aS) (a n:Nat):Option (List UInt8×Nat):=if a + n<=b.length then (bif dO (strOf (et b a n)) then some (strOf (et b a n),a + n) else none) else none
def pR (b:aS) (a n:Nat):Option (List UInt8×Nat):=(iM b a n).map fun s=>(s,a + (n + 1) / 2)
def yY (b:aS) (a d n:Nat) (f:Nat->Nat->Option (List UInt8×Nat)):Option (List UInt8×Nat):=match iM b a d with
 | some t=>if 1<=kz 0 t/\kz 0 t<=n then f (a + (d + 1) / 2) (kz 0 t) else none
 | none=>none
def nh (b:aS) (a:Nat) (no:Int):Option (List UInt8×Nat) :=
 if bm no=1 then pR b a (gn no).toNat else if bm no=2 then oa b a (gn no).toNat
 else if bm no=3 then yY b a 2 (gn no).toNat (pR b) else if bm no=4 then yY b a 2 (gn no).toNat (oa b)
 else if bm no=5 then yY b a 3 (gn no).toNat (oa b) else none
def ld (o:Option (List UInt8×Nat)):Option (Unit×((List UInt8×Unit)×(Int×Unit)×(Bool×Unit)×Unit)):=some ((),match o with | some s=>((s.1,()),((s.2:Int),()),(true,()),()) | none=>(([],()),(0,()),(false,()),()))
theorem kd (p:aS):(strOf p).length=p.length:=by unfold strOf; exact List.length_map _
theorem Dg (b:aS) (a n:Nat):(match wQ (iM b a n) ((a + (n + 1) / 2:Nat):Int) with | some y=>some ((),(y.2.1,y.2.2.1,y.2.2.2.1,())) | none=>none)=ld (pR b a n):=by unfold wQ pR ld;cases iM b a n <;> rfl
noncomputable def KV (b:aS) (a n:Int):Option (Unit×((List UInt8×Unit)×(Int×Unit)×(Bool×Unit)×Unit)) :=
 cond (cond (au (ae b) a) true (au (aI .i64 (ae b) a) n)) (some ((),(([],()),(0,()),(false,()),()))) (cond (dH a (aq .i64 a n) b) (Option.bind (yM (strOf (sub b a (aq .i64 a n)))) fun y=>cond (!y.2.1.1) (some ((),(([],()),(0,()),(false,()),()))) (cond (dH a (aq .i64 a n) b) (some ((),((strOf (sub b a (aq .i64 a n)),()),(aq .i64 a n,()),(true,()),()))) none)) none)
theorem Jg (b:aS) (a n:Nat) (hb:xX b) (ha:a<=b.length) (hn:n<=1048576) :
 KV b a n=ld (oa b a n):=by
 have hbig:aW=140737488355328:=rfl;have hl:=hb.1;have e:aI .i64 (ae b) (a:Int)=(b.length:Int) - a:=aO (by show -4611686018427387904<=(b.length:Int) - a; omega) (by show (b.length:Int) - a<=_; omega);have e2:aq .i64 (a:Int) (n:Int)=((a + n:Nat):Int):=by rw [bf (by omega) (by omega)]; omega
 unfold oa KV;rw [e,e2,ax (a:=ae b) (b:=(a:Int)) (by show ¬ (b.length:Int) < a; omega)];by_cases h:a + n<=b.length;rotate_left
 . rw [if_neg h,aF (by omega)]; rfl
 have hs:strOf (sub b (a:Int) ((a + n:Nat):Int))=strOf (et b a n):=congrArg strOf (Ge b a n);rw [if_pos h,ax (by omega),DF h,hs,DJ _ (by rw [kd,lv h]; omega)];dsimp only [Option.bind_some,cond_false,cond_true];cases dO (strOf (et b a n)) <;> rfl
theorem Rq (b:aS) (a:Nat) (no:Int) (hb:xX b) (ha:a<=b.length):JP b a no=ld (nh b a no):=by
 have hbig:aW=140737488355328:=rfl;have hl:=hb.1;obtain ⟨n,hn,hk⟩:=kinds no;have h0:au (a:Int) 0=false:=ax (by omega)
 have hvar:∀ (d:Nat) (w:Int) (f:Nat->Nat->Option (List UInt8×Nat)) (F:Int->Int->Option (Unit×((List UInt8×Unit)×(Int×Unit)×(Bool×Unit)×Unit))),(d=2∨d=3)->(∀ a' k:Nat,a'<=b.length->k<=1048576->F (a':Int) (k:Int)=ld (f a' k)) ->
  (Option.bind (Iv b a d) fun y5=>cond (!y5.2.2.2.1.1) (some ((),(([],()),(0,()),(false,()),()))) (Option.bind (qG y5.2.1.1 1 (n:Int)) fun y6=>cond (!y6.2.1.1) (some ((),(([],()),(0,()),(false,()),()))) (F y5.2.2.1.1 y5.2.1.1)))=ld (yY b a d n f):=by
  intro d w f F hd hF;rw [QQ b a d hb ha hd];unfold FK yY;cases ho:iM b a d with
  | none=>rfl
  | some t =>
    obtain ⟨h1,h2,h3,h4,h5⟩:=dR ho;have hv:=yk t 0 0 h1 (by decide);have hv2:kz 0 t < 1000:=Nat.lt_of_lt_of_le hv (by rw [Nat.zero_add,h2]; exact Nat.pow_le_pow_right (by decide) (by omega:d<=3));dsimp only [Option.bind_some];rw [kQ];dsimp only [Option.bind_some];by_cases hin:1<=kz 0 t/\kz 0 t<=n
    . rw [if_pos hin,gF.2 (by omega)];exact hF _ _ h5 (by omega)
    . rw [if_neg hin];have:dJ (kz 0 t:Int) 1 (n:Int)=false:=by
       cases h:dJ (kz 0 t:Int) 1 (n:Int) with
       | false=>rfl
       | true=>have:=gF.1 h; omega
      rw [this]; rfl
 unfold JP nh;rw [CZ,Hg,hn,h0];have hnn:Int.toNat (n:Int)=n:=Int.toNat_natCast n;rcases hk with ⟨hk,hz⟩ | ⟨hk,hz⟩ | ⟨hk,hz⟩ | ⟨hk,hz⟩ | ⟨hk,hz⟩ | ⟨hk,hz⟩
 . rw [hk]; rfl
 . rw [hk,hnn];show (Option.bind (tD b a n) fun y=>some ((),(y.2.1,y.2.2.1,y.2.2.2.1,())))=ld (pR b a n);rw [Ee b a n hb ha (by omega),<- Dg];rfl
 . rw [hk,hnn];exact Jg b a n hb ha (by omega)
 . rw [hk,hnn];exact hvar 2 0 (pR b) (fun a' k=>Option.bind (tD b a' k) fun y=>some ((),(y.2.1,y.2.2.1,y.2.2.2.1,()))) (.inl rfl) fun a' k ha' hk'=>by show (Option.bind (tD b (a':Int) (k:Int)) _)=_;rw [Ee b a' k hb ha' hk',<- Dg];rfl
 . rw [hk,hnn];exact hvar 2 0 (oa b) (KV b) (.inl rfl) fun a' k ha' hk'=>Jg b a' k hb ha' hk'
 . rw [hk,hnn];exact hvar 3 0 (oa b) (KV b) (.inr rfl) fun a' k ha' hk'=>Jg b a' k hb ha' hk'
noncomputable def Fb (b:aS) (no a n:Int):Option (Unit×((List UInt8×Unit)×(Int×Unit)×(Bool×Unit)×Unit)) :=
 Option.bind (yr b a n) fun y5=>cond (!y5.2.2.2.1.1) (some ((),(([],()),(0,()),(false,()),()))) (Option.bind (wP no y5.2.1.1) fun y6=>cond (!y6.2.1.1) (some ((),(([],()),(0,()),(false,()),()))) (some ((),(y5.2.1,y5.2.2.1,(true,()),()))))
noncomputable def Ar (b:aS) (no a n:Int):Option (Unit×((List UInt8×Unit)×(Int×Unit)×(Bool×Unit)×Unit)) :=
 Option.bind (yD b a n) fun y5=>cond (!y5.2.2.1.1) (some ((),(([],()),(0,()),(false,()),()))) (Option.bind (wP no (strOf y5.2.1.1)) fun y6=>cond (!y6.2.1.1) (some ((),(([],()),(0,()),(false,()),()))) (some ((),((strOf y5.2.1.1,()),(aq .i64 a n,()),(true,()),()))))
theorem DX (b:aS) (no:Int) (a n:Nat) (hb:xX b) (ha:a<=b.length) (hn:n<=1048576):Fb b no a n=ld ((pR b a n).filter fun s=>iN no s.1):=by
 have hbig:aW=140737488355328:=rfl;unfold Fb pR;rw [I8 b a n hb ha hn];unfold wQ;cases ho:iM b a n with
 | none=>rfl
 | some s => obtain ⟨h1,h2,h3,h4,h5⟩:=dR ho;dsimp only [Option.bind_some];rw [Hl no s (by omega)];dsimp only [Option.bind_some,Option.map_some];rw [Option.filter_some];dsimp only;cases iN no s <;> rfl
def FY (b:aS) (a n:Nat):Option (List UInt8×Nat):=if a + n<=b.length then some (strOf (et b a n),a + n) else none
theorem tg (b:aS) (no:Int) (a n:Nat) (hb:xX b) (ha:a<=b.length) (hn:n<=1048576):Ar b no a n=ld ((FY b a n).filter fun s=>iN no s.1):=by
 have hbig:aW=140737488355328:=rfl;have hl:=hb.1;unfold Ar FY;rw [zi b a n hb.1 ha hn];by_cases h:a + n<=b.length;rotate_left
 . rw [if_neg h,if_neg h]; rfl
 rw [if_pos h,if_pos h,Option.filter_some];have hf:=Hl no (strOf (et b a n)) (by rw [kd,lv h]; omega);refine (bn hf).trans ?_;have e2:aq .i64 (a:Int) (n:Int)=((a + n:Nat):Int):=by rw [bf (by omega) (by omega)]; omega
 show cond (!(iN no (strOf (et b a n)))) _ (some ((),((_,()),(aq .i64 (a:Int) (n:Int),()),(true,()),())))=_;rw [e2];dsimp only;cases iN no (strOf (et b a n)) <;> rfl
theorem Jk (b:aS) (a d:Nat) (hb:xX b) (ha:a<=b.length) (hd:d=2∨d=3) (F:Int->Int->Option (Unit×((List UInt8×Unit)×(Int×Unit)×(Bool×Unit)×Unit))) (f:Nat->Nat->Option (List UInt8×Nat)) (n:Nat)
 (hF:∀ a' k:Nat,a'<=b.length->k<=1048576->F (a':Int) (k:Int)=ld (if 1<=k/\k<=n then f a' k else none)) :
 (Option.bind (EC b a d) fun y4=>cond (!y4.2.2.2.1.1) (some ((),(([],()),(0,()),(false,()),()))) (F y4.2.2.1.1 y4.2.1.1))=ld (yY b a d n f):=by
 rw [T3 b a d hb ha hd];unfold FK yY;cases ho:iM b a d with
 | none=>rfl
 | some t => obtain ⟨h1,h2,h3,h4,h5⟩:=dR ho;have hv:=yk t 0 0 h1 (by decide);have hv2:kz 0 t < 1000:=Nat.lt_of_lt_of_le hv (by rw [Nat.zero_add,h2]; exact Nat.pow_le_pow_right (by decide) (by omega:d<=3));exact hF _ _ h5 (by omega)
theorem iJ {s:List UInt8} {n:Nat} (h:s.length=n):ae s=(n:Int):=by show (s.length:Int)=n; rw [h]
theorem pW {k n:Nat}:dJ (k:Int) 1 (n:Int)=decide (1<=k/\k<=n):=by
 by_cases h:1<=k/\k<=n
 . rw [decide_eq_true h]; exact gF.2 (by omega)
 . rw [decide_eq_false h];cases h2:dJ (k:Int) 1 (n:Int) with
   | false=>rfl
   | true=>have:=gF.1 h2; omega
theorem qA {no:Int} {n:Nat} (hn:gn no=n) (s:List UInt8):(bm no=1->iN no s=cond (aT s) (ak (ae s) (n:Int)) false)/\(bm no=2->iN no s=cond (dO s) (ak (ae s) (n:Int)) false)/\(bm no=3->iN no s=cond (aT s) (dJ (ae s) 1 (n:Int)) false) /\
 ((bm no=4∨bm no=5)->iN no s=cond (dO s) (dJ (ae s) 1 (n:Int)) false):=by
 unfold iN;rw [hn];refine ⟨fun h=>by rw [h]; rfl,fun h=>by rw [h]; rfl,fun h=>by rw [h]; rfl,fun h => ?_⟩;rcases h with h | h <;> (rw [h]; rfl)
theorem Df {b:aS} {no:Int} {n:Nat} (hn:gn no=n) (hk:bm no=4∨bm no=5) (a k:Nat):(FY b a k).filter (fun s=>iN no s.1)=if 1<=k/\k<=n then oa b a k else none:=by
 unfold FY oa;by_cases h:a + k<=b.length;rotate_left
 . rw [if_neg h,if_neg h]; simp
 rw [if_pos h,if_pos h,Option.filter_some];dsimp only;rw [(qA hn _).2.2.2 hk,iJ (by rw [kd,lv h]:(strOf (et b a k)).length=k),pW];by_cases hin:1<=k/\k<=n
 . rw [decide_eq_true hin,if_pos hin]; cases dO (strOf (et b a k)) <;> rfl
 . rw [decide_eq_false hin,if_neg hin]; cases dO (strOf (et b a k)) <;> rfl
theorem S9 (b:aS) (a:Nat) (no:Int) (hb:xX b) (ha:a<=b.length):H8 b a no=ld (nh b a no):=by
 have hbig:aW=140737488355328:=rfl;have hl:=hb.1;obtain ⟨n,hn,hk⟩:=kinds no;have hnn:Int.toNat (n:Int)=n:=Int.toNat_natCast n;have hlen:K6 no=some ((),((cond (ak (bm no) 5) 3 2,()),())):=by unfold K6;rw [yb];dsimp only [Option.bind_some];cases ak (bm no) 5 <;> rfl
 have base:H8 b a no=cond (cond (cond (ak (bm no) 3) true (ak (bm no) 4)) true (ak (bm no) 5)) (Option.bind (EC b a (cond (ak (bm no) 5) 3 2)) fun y4=>cond (!y4.2.2.2.1.1) (some ((),(([],()),(0,()),(false,()),()))) (cond (cond (ak (bm no) 1) true (ak (bm no) 3)) (Fb b no y4.2.2.1.1 y4.2.1.1) (Ar b no y4.2.2.1.1 y4.2.1.1)))
  (cond (cond (ak (bm no) 1) true (ak (bm no) 3)) (Fb b no a (n:Int)) (Ar b no a (n:Int))):=by
  unfold H8;rw [Oz,yb,hlen,hn];rfl
 rw [base];unfold nh;rw [hn,hnn];rcases hk with ⟨hk,hz⟩ | ⟨hk,hz⟩ | ⟨hk,hz⟩ | ⟨hk,hz⟩ | ⟨hk,hz⟩ | ⟨hk,hz⟩
 . rw [hk];show Ar b no a (n:Int)=ld none;rw [tg b no a n hb ha (by omega)];have:∀ s,iN no s=false:=fun s=>by unfold iN; rw [hk]; rfl
   unfold FY;by_cases h:a + n<=b.length
   . rw [if_pos h,Option.filter_some,this]; rfl
   . rw [if_neg h]; rfl
 . rw [hk];show Fb b no a (n:Int)=ld (pR b a n);rw [DX b no a n hb ha (by omega)];unfold pR;cases ho:iM b a n with
   | none=>rfl
   | some s => obtain ⟨h1,h2,h3,h4,h5⟩:=dR ho;rw [Option.map_some,Option.filter_some];dsimp only;rw [(qA hn s).1 hk,cZ.2 ⟨h1,kE h2 h3⟩,iJ h2,bp];rfl
 . rw [hk];show Ar b no a (n:Int)=ld (oa b a n);rw [tg b no a n hb ha (by omega)];unfold FY oa;by_cases h:a + n<=b.length;rotate_left
   . rw [if_neg h,if_neg h]; rfl
   rw [if_pos h,if_pos h,Option.filter_some];dsimp only;rw [(qA hn _).2.1 hk,iJ (by rw [kd,lv h]:(strOf (et b a n)).length=n),bp];cases dO (strOf (et b a n)) <;> rfl
 . rw [hk];exact Jk b a 2 hb ha (.inl rfl) (Fb b no) (pR b) n fun a' k ha' hk'=>by
    rw [DX b no a' k hb ha' hk'];unfold pR;cases ho:iM b a' k with
    | none => show ld none=ld (if _ then none else none);rw [ite_self]
    | some s =>
      obtain ⟨h1,h2,h3,h4,h5⟩:=dR ho;rw [Option.map_some,Option.filter_some];dsimp only;rw [(qA hn s).2.2.1 hk,cZ.2 ⟨h1,kE h2 h3⟩,iJ h2,pW];by_cases hin:1<=k/\k<=n
      . rw [decide_eq_true hin,if_pos hin]; rfl
      . rw [decide_eq_false hin,if_neg hin]; rfl
 . rw [hk];exact Jk b a 2 hb ha (.inl rfl) (Ar b no) (oa b) n fun a' k ha' hk'=>by rw [tg b no a' k hb ha' hk',Df hn (.inl hk)]
 . rw [hk];exact Jk b a 3 hb ha (.inr rfl) (Ar b no) (oa b) n fun a' k ha' hk'=>by rw [tg b no a' k hb ha' hk',Df hn (.inr hk)]
theorem rE {b:aS} {a:Nat} {no:Int} {s:List UInt8} {e:Nat} (ha:a<=b.length) (h:nh b a no=some (s,e)):iN no s=true/\s.length<=60/\e<=b.length:=by
 obtain ⟨n,hn,hk⟩:=kinds no;have hnn:Int.toNat (n:Int)=n:=Int.toNat_natCast n;have num:∀ a k,pR b a k=some (s,e)->s.all fE=true/\s.length=k/\1<=k/\e<=b.length:=fun a k h=>by unfold pR at h;obtain ⟨q,hq,h⟩:=Option.map_eq_some_iff.1 h;cases h;obtain ⟨h1,h2,h3,h4,h5⟩:=dR hq;exact ⟨h1,h2,h3,h5⟩
 have txt:∀ a k,oa b a k=some (s,e)->dO s=true/\s.length=k/\e<=b.length:=fun a k h=>by
  unfold oa at h;split at h
  . rename_i hl;cases hp:dO (strOf (et b a k)) with
    | false=>rw [hp] at h; simp at h
    | true => rw [hp] at h;cases h;exact ⟨hp,by rw [kd,lv hl],hl⟩
  . simp at h
 have var:∀ d f,yY b a d n f=some (s,e)->∃ a' k,1<=k/\k<=n/\f a' k=some (s,e):=fun d f h=>by
  unfold yY at h;split at h
  . split at h
    . rename_i hin;exact ⟨_,_,hin.1,hin.2,h⟩
    . simp at h
  . simp at h
 unfold nh at h;rw [hn,hnn] at h;rcases hk with ⟨hk,hz⟩ | ⟨hk,hz⟩ | ⟨hk,hz⟩ | ⟨hk,hz⟩ | ⟨hk,hz⟩ | ⟨hk,hz⟩ <;> rw [hk] at h
 . simp at h
 . obtain ⟨h1,h2,h3,h4⟩:=num _ _ h;exact ⟨by rw [(qA hn s).1 hk,cZ.2 ⟨h1,kE h2 h3⟩,iJ h2,bp]; rfl,by omega,h4⟩
 . obtain ⟨h1,h2,h4⟩:=txt _ _ h;exact ⟨by rw [(qA hn s).2.1 hk,h1,iJ h2,bp]; rfl,by omega,h4⟩
 . obtain ⟨a',k,k1,k2,h⟩:=var _ _ h;obtain ⟨h1,h2,h3,h4⟩:=num _ _ h;exact ⟨by rw [(qA hn s).2.2.1 hk,cZ.2 ⟨h1,kE h2 h3⟩,iJ h2,pW,decide_eq_true ⟨k1,k2⟩]; rfl,by omega,h4⟩
 . obtain ⟨a',k,k1,k2,h⟩:=var _ _ h;obtain ⟨h1,h2,h4⟩:=txt _ _ h;exact ⟨by rw [(qA hn s).2.2.2 (.inl hk),h1,iJ h2,pW,decide_eq_true ⟨k1,k2⟩]; rfl,by omega,h4⟩
 . obtain ⟨a',k,k1,k2,h⟩:=var _ _ h;obtain ⟨h1,h2,h4⟩:=txt _ _ h;exact ⟨by rw [(qA hn s).2.2.2 (.inr hk),h1,iJ h2,pW,decide_eq_true ⟨k1,k2⟩]; rfl,by omega,h4⟩
end Go.Av
