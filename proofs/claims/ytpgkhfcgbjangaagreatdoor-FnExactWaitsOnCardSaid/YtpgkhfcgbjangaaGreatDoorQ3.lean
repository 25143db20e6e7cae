/- Part of a proof that the law FnExactWaitsOn answers true for every input: the printed functions of this program and their plain laws. No conditions beyond the statement. -/
import Derived.Test.YtpgkhfcgbjangaaGreatDoorP1
import Derived.Test.YtpgkhfcgbjangaaGreatDoorFw4
set_option maxRecDepth 100000
set_option maxHeartbeats 4000000
namespace Go.Av
abbrev iY:=List UInt8×Int×Int×Unit
abbrev eC:=List UInt8×List UInt8×List (Int×Unit)×Unit
abbrev tz:=Int×Int×List (Int×Unit)×List (Int×Unit)×Unit
def dk (a lo hi:Int):Bool:=cond (bz lo a) (bz a hi) false
theorem fg {a lo hi:Int}:dk a lo hi=true↔lo<=a/\a<=hi:=by unfold dk bz;by_cases h:lo<=a <;> simp [h]
theorem j3 (a lo hi:Int):pq a lo hi=some ((),((dk a lo hi,()),())):=rfl
theorem iF (a lo hi:Int):lX a lo hi=some ((),((dk a lo hi,()),())):=rfl
def cG (a:Int):Bool:=dk a 0 4611686018427387904
theorem qk (a:Int):Oa a=some ((),((cG a,()),())):=rfl
theorem D8 (a:Int):LF a=some ((),((cG a,()),())):=rfl
def cJ (a:Int):Bool:=dk a 0 1000000000
theorem mc (a:Int):FX a=some ((),((cJ a,()),())):=rfl
theorem mC (a:Int):sK a=some ((),((cJ a,()),())):=rfl
def fA (x:UInt8):Bool:=cond (au (x.toNat:Int) 48) false (!(au 57 (x.toNat:Int)))
theorem fG {x:UInt8}:fA x=true↔48<=x.toNat/\x.toNat<=57:=by
 unfold fA au;by_cases h:(x.toNat:Int) < 48
 . simp [h]; omega
 . by_cases h2:(57:Int) < x.toNat
   . simp [h,h2]; omega
   . simp [h,h2]; omega
def aT (s:List UInt8):Bool:=cond (s.all fA) (au 0 (ae s)) false
theorem fI (s:List UInt8) (hs:s.length<=aX):pM s=some ((),((aT s,()),())):=by
 unfold pM;have h:=aE (step:=wP nZ) s (fun i (_:Unit)=>(s,((i:Nat):Int),())) (fun _ x _=>bif fA x then Sum.inl () else .inr (.inr (false,()))) (fun _=> .inl (s,(s.length:Int),())) (a0:=()) (fun i x a hx=>by
  have hlt:=aj hx;show nZ s (i:Int)=_;unfold nZ fA;rw [aH hx,aC hx,eD hx,aP (by omega)];dsimp only [cond_true];cases au (x.toNat:Int) 48 <;> cases au 57 (x.toNat:Int) <;> rfl) (fun a=>by
  show nZ s (s.length:Int)=_;unfold nZ;rw [ax rfl]; rfl)
 rw [fN] at h;have h':Hm s 0=_:=h;rw [h'];unfold aT;cases s.all fA <;> rfl
theorem gp (s:List UInt8) (hs:s.length<=aX):sI s=some ((),((aT s,()),())):=by
 unfold sI;have h:=aE (step:=fb oK) s (fun i (_:Unit)=>(s,ae s,((i:Nat):Int),())) (fun _ x _=>bif fA x then Sum.inl () else .inr (.inr (false,()))) (fun _=> .inl (s,ae s,(s.length:Int),())) (a0:=()) (fun i x a hx=>by
  have hlt:=aj hx;show oK s (ae s) (i:Int)=_;unfold oK fA;rw [aH hx,aC hx,eD hx,aP (by omega)];dsimp only [cond_true];cases au (x.toNat:Int) 48 <;> cases au 57 (x.toNat:Int) <;> rfl) (fun a=>by
  show oK s (ae s) (s.length:Int)=_;unfold oK;rw [ax rfl]; rfl)
 rw [fN] at h;have h':Ij s (ae s) 0=_:=h;rw [h'];unfold aT;cases s with
 | nil=>rfl
 | cons x r =>
   have e1:au 0 (ae (x :: r))=true:=aF (by unfold ae; simp only [List.length_cons]; omega);have e2:bY (x :: r) []=false:=rfl;cases (x :: r).all fA
   . rfl
   . dsimp only [cond_true,cond_false,Option.bind_some,Sum.elim_inl];rw [e1,e2]; rfl
def lE (x:UInt8):Bool:=cond (au (x.toNat:Int) 48) (cond (au (x.toNat:Int) 97) false (!(au 122 (x.toNat:Int)))) (cond (au 57 (x.toNat:Int)) (cond (au (x.toNat:Int) 97) false (!(au 122 (x.toNat:Int)))) true)
def gS (s:List UInt8):Bool:=cond (s.all lE) (dk (ae s) 1 6) false
theorem Bt (s:List UInt8) (hs:s.length<=aX):Je s=some ((),((gS s,()),())):=by
 unfold Je;have h:=aE (step:=wP pf) s (fun i (_:Unit)=>(s,((i:Nat):Int),())) (fun _ x _=>bif lE x then Sum.inl () else .inr (.inr (false,()))) (fun _=> .inl (s,(s.length:Int),())) (a0:=()) (fun i x a hx=>by
  have hlt:=aj hx;show pf s (i:Int)=_;unfold pf lE;rw [aH hx,aC hx,eD hx,aP (by omega)];dsimp only [cond_true];cases au (x.toNat:Int) 48 <;> cases au 57 (x.toNat:Int) <;> cases au (x.toNat:Int) 97 <;> cases au 122 (x.toNat:Int) <;> rfl) (fun a=>by
  show pf s (s.length:Int)=_;unfold pf;rw [ax rfl]; rfl)
 rw [fN] at h;have h':Ho s 0=_:=h;rw [h'];unfold gS;cases s.all lE <;> rfl
theorem Bx (s:List UInt8) (hs:s.length<=aX):HD s=some ((),((gS s,()),())):=by
 unfold HD;have h:=aE (step:=fb om) s (fun i (_:Unit)=>(s,ae s,((i:Nat):Int),())) (fun _ x _=>bif lE x then Sum.inl () else .inr (.inr (false,()))) (fun _=> .inl (s,ae s,(s.length:Int),())) (a0:=()) (fun i x a hx=>by
  have hlt:=aj hx;show om s (ae s) (i:Int)=_;unfold om lE;rw [aH hx,aC hx,eD hx,aP (by omega)];dsimp only [cond_true];cases au (x.toNat:Int) 48 <;> cases au 57 (x.toNat:Int) <;> cases au (x.toNat:Int) 97 <;> cases au 122 (x.toNat:Int) <;> rfl) (fun a=>by
  show om s (ae s) (s.length:Int)=_;unfold om;rw [ax rfl]; rfl)
 rw [fN] at h;have h':Ir s (ae s) 0=_:=h;rw [h'];unfold gS;cases s.all lE <;> rfl
def ua (h:iY):Bool:=cond (gS h.1) (cond (dk h.2.1 1 9007199254740992) (cJ h.2.2.1) false) false
theorem Pm (h:iY) (hs:h.1.length<=aX):LZ h=some ((),((ua h,()),())):=by unfold LZ ua;simp only [Bt _ hs,j3,mc,Option.bind_some];cases gS h.1 <;> cases dk h.2.1 1 9007199254740992 <;> rfl
theorem OZ (h:iY) (hs:h.1.length<=aX):KD h=some ((),((ua h,()),())):=by unfold KD ua;simp only [Bx _ hs,iF,mC,Option.bind_some];cases gS h.1 <;> cases dk h.2.1 1 9007199254740992 <;> rfl
def jv (xs:List iY) (i:Nat) (x:iY):Bool:=cond (ua x) (cond (au 0 (i:Int)) (jU (gt ([],0,0,()) xs ((i:Int) - 1)).1 x.1) true) false
def pn (xs:List iY):Bool:=cond (allI (jv xs) 0 xs) (bz (ae xs) 4) false
theorem nr:∀ (s t:List UInt8),(Op.bytesLess s t || bY s t)= !(Op.bytesLess t s)
 | [],[]=>rfl
 | [],_ :: _=>rfl
 | _ :: _,[]=>rfl
 | a :: s,b :: t=>by
   have ih:=nr s t;have e:bY (a :: s) (b :: t)=(a == b && bY s t):=rfl;show ((decide (a < b) || (a == b && Op.bytesLess s t)) || bY (a :: s) (b :: t))= !(decide (b < a) || (b == a && Op.bytesLess t s));rw [e];rcases Nat.lt_trichotomy a.toNat b.toNat with h | h | h
   . have h1:a < b:=UInt8.lt_iff_toNat_lt.2 h;have h2:¬ b < a:=fun hh=>by have:=UInt8.lt_iff_toNat_lt.1 hh; omega
     have h3:(b == a)=false:=by rw [beq_eq_false_iff_ne]; intro hh; subst hh; omega
     simp [h1,h2,h3]
   . have h1:a=b:=UInt8.toNat_inj.1 h;subst h1;have h2:¬ a < a:=fun hh=>by have:=UInt8.lt_iff_toNat_lt.1 hh; omega
     simpa [h2] using ih
   . have h1:¬ a < b:=fun hh=>by have:=UInt8.lt_iff_toNat_lt.1 hh; omega
     have h2:b < a:=UInt8.lt_iff_toNat_lt.2 h;have h3:(a == b)=false:=by rw [beq_eq_false_iff_ne]; intro hh; subst hh; omega
     simp [h1,h2,h3]
theorem sP (s t:List UInt8):O4 s t= !(jU t s):=nr s t
def B0 (xs:List iY):Prop:=xs.length<=aX/\∀ y∈xs,y.1.length<=aX
theorem il {α:Type} {xs:List α} {i:Nat} {x:α} (hx:xs[i]? = some x) (h:0 < i):a7 ((i:Int) - 1) xs=true:=by
 have:=aj hx;have e:(i:Int) - 1=((i - 1:Nat):Int):=by omega
 rw [e]; exact jW (by omega)
theorem JY (xs:List iY) (hb:B0 xs):Lg xs=some ((),((pn xs,()),())):=by
 have hbig:aX=140737488355328:=rfl;unfold Lg;have h:=aE (step:=cW nW) xs (fun i (_:Unit)=>(xs,xs,ae xs,((i:Nat):Int),())) (fun i x _=>bif jv xs i x then Sum.inl () else .inr (.inr (false,()))) (fun _=> .inl (xs,xs,ae xs,(xs.length:Int),())) (a0:=()) (fun i x a hx=>by
  have hlt:=aj hx;have hl:=hb.1;show nW xs xs (ae xs) (i:Int)=_;unfold nW jv;rw [aH hx,aC hx,aR _ hx];dsimp only [cond_true];rw [Pm x (hb.2 x (List.mem_of_getElem? hx)),aP (by omega)];dsimp only [Option.bind_some];cases ua x with
  | false=>rfl
  | true =>
    by_cases h0:0 < i
    . rw [aF (show (0:Int) < i by omega),aO (by omega) (by omega),il hx h0];dsimp only [cond_true,cond_false,Bool.not_true];have e:gt d157 xs ((i:Int) - 1)=gt ([],0,0,()) xs ((i:Int) - 1):=rfl;rw [e];cases jU (gt ([],0,0,()) xs ((i:Int) - 1)).1 x.1 <;> rfl
    . rw [ay (show ¬ (0:Int) < i by omega)]; rfl) (fun a=>by
  show nW xs xs (ae xs) (xs.length:Int)=_;unfold nW;rw [ax rfl]; rfl)
 rw [cD] at h;have h':G7 xs xs (ae xs) 0=_:=h;rw [h'];unfold pn;cases allI (jv xs) 0 xs <;> rfl
theorem K1 (xs:List iY) (hb:B0 xs):Kv xs=some ((),((pn xs,()),())):=by
 have hbig:aX=140737488355328:=rfl;unfold Kv;have h:=aE (step:=cW nF) xs (fun i (_:Unit)=>(xs,xs,ae xs,((i:Nat):Int),())) (fun i x _=>bif jv xs i x then Sum.inl () else .inr (.inr (false,()))) (fun _=> .inl (xs,xs,ae xs,(xs.length:Int),())) (a0:=()) (fun i x a hx=>by
  have hlt:=aj hx;have hl:=hb.1;show nF xs xs (ae xs) (i:Int)=_;unfold nF jv;rw [aH hx,aC hx,aR _ hx];dsimp only [cond_true];rw [OZ x (hb.2 x (List.mem_of_getElem? hx)),aP (by omega)];dsimp only [Option.bind_some];cases ua x with
  | false=>rfl
  | true =>
    by_cases h0:0 < i
    . rw [aF (show (0:Int) < i by omega),aO (by omega) (by omega),il hx h0];dsimp only [cond_true,cond_false,Bool.not_true];rw [sP];have e:gt d157 xs ((i:Int) - 1)=gt ([],0,0,()) xs ((i:Int) - 1):=rfl;rw [e];cases jU (gt ([],0,0,()) xs ((i:Int) - 1)).1 x.1 <;> rfl
    . rw [ay (show ¬ (0:Int) < i by omega)]; rfl) (fun a=>by
  show nF xs xs (ae xs) (xs.length:Int)=_;unfold nF;rw [ax rfl]; rfl)
 rw [cD] at h;have h':Gk xs xs (ae xs) 0=_:=h;rw [h'];unfold pn;cases allI (jv xs) 0 xs <;> rfl
def eG (dbl:Bool) (x:UInt8):Int:=cond dbl (cond (au 9 (2 * ((x.toNat:Int) - 48))) (2 * ((x.toNat:Int) - 48) - 9) (2 * ((x.toNat:Int) - 48))) ((x.toNat:Int) - 48)
theorem sV (b:Bool) {x:UInt8} (h:fA x=true):0<=eG b x/\eG b x<=9:=by
 obtain ⟨h1,h2⟩:=fG.1 h;unfold eG au;cases b
 . dsimp only [cond_false]; omega
 . dsimp only [cond_true];by_cases h9:9 < 2 * ((x.toNat:Int) - 48)
   . rw [decide_eq_true h9]; dsimp only [cond_true]; omega
   . rw [decide_eq_false h9]; dsimp only [cond_false]; omega
def yD (xs:List UInt8) (a:Int×Bool):Int×Bool:=xs.foldl (fun a x=>(a.1 + eG a.2 x,!a.2)) a
def HE (xs:List UInt8) (a:Int×Bool):Int×Bool:=xs.foldl (fun a x=>((a.1 + eG a.2 x) % 10,!a.2)) a
theorem D3:∀ (xs:List UInt8) (a:Int) (b:Bool),HE xs (a % 10,b)=((yD xs (a,b)).1 % 10,(yD xs (a,b)).2)
 | [],a,b=>rfl
 | x :: r,a,b=>by
   have e:(a % 10 + eG b x) % 10=(a + eG b x) % 10:=by omega
   show HE r ((a % 10 + eG b x) % 10,!b)=((yD r (a + eG b x,!b)).1 % 10,(yD r (a + eG b x,!b)).2);rw [e];exact D3 r _ _
def Ay (s:List UInt8):Int:=cond (aT s) ((10 - (yD s.reverse (0,true)).1 % 10) % 10) (-1)
theorem lZ {s:List UInt8} (h:aT s=true):∀ x∈s,fA x=true:=by
 unfold aT at h;cases hs:s.all fA with
 | true=>exact fun x hx=>List.all_eq_true.1 hs x hx
 | false=>rw [hs] at h; simp at h
theorem yC {s:List UInt8} {i:Nat} {x:UInt8} (h:s.reverse[i]? = some x):i < s.length/\s[s.length - 1 - i]? = some x:=by
 have hl:i < s.length:=by simpa using aj h
 refine ⟨hl,?_⟩;rwa [List.getElem?_reverse hl] at h
theorem Mr {x:UInt8} (h:fA x=true):aG .i64 (bN .i64 (x.toNat:Int)) 48=(x.toNat:Int) - 48:=by obtain ⟨h1,h2⟩:=fG.1 h;have e:bN .i64 (x.toNat:Int)=(x.toNat:Int):=IntWalk.i64_in _ (by omega);rw [e]; exact aO (by omega) (by omega)
theorem MR {x:UInt8} (h:fA x=true):bN .i64 (aG .u8 (x.toNat:Int) 48)=(x.toNat:Int) - 48:=by obtain ⟨h1,h2⟩:=fG.1 h;have e:aG .u8 (x.toNat:Int) 48=(x.toNat:Int) - 48:=IntWalk.u8_in _ (by omega);rw [e]; exact IntWalk.i64_in _ (by omega)
theorem Dk {a b:Int} (h1 : -4611686018427387904<=a * b) (h2:a * b<=4611686018427387904):jI .i64 a b=a * b:=by unfold jI; rw [IntWalk.i64_in _ (by omega)]
theorem nc {a:Int} (h:0<=a):gH a 10=a % 10:=by unfold gH; exact Int.tmod_eq_emod_of_nonneg h
theorem Og (s:List UInt8) (hs:s.length<=aX):Lq s=some ((),((Ay s,()),())):=by
 have hbig:aX=140737488355328:=rfl;unfold Lq Ay;rw [fI s hs];dsimp only [Option.bind_some];cases hd:aT s with
 | false=>rfl
 | true =>
 have hall:=lZ hd
 have h:=a6 (step:=cW rG) s.reverse (fun i (a:Int×Bool)=>(s,a.1,a.2,(s.length:Int) - 1 - ((i:Nat):Int),())) (fun _ x a=>Sum.inl ((a.1 + eG a.2 x) % 10,!a.2)) (fun a=> .inl (s,a.1,a.2,(-1:Int),()))
  (fun _ a=>0<=a.1/\a.1 < 10) (a0:=(0,true)) ⟨by decide,by decide⟩ (fun i x a hx ha=>by
    obtain ⟨hlt,hx'⟩:=yC hx;have hdx:=hall x (List.mem_of_getElem? hx');have hbd:=sV a.2 hdx;have hdd:=fG.1 hdx;have e:(s.length:Int) - 1 - (i:Int)=((s.length - 1 - i:Nat):Int):=by omega
    have e':(s.length:Int) - 1 - ((i + 1:Nat):Int)=((s.length - 1 - i:Nat):Int) - 1:=by omega
    obtain ⟨a1,a2⟩:=a;show rG s a1 a2 ((s.length:Int) - 1 - (i:Int))=some (.inl (s,(a1 + eG a2 x) % 10,!a2,(s.length:Int) - 1 - ((i + 1:Nat):Int),()));rw [e,e'];have hle:bz 0 ((s.length - 1 - i:Nat):Int)=true:=decide_eq_true (by omega);have ha:0<=a1/\a1 < 10:=ha;unfold rG;rw [hle,aC hx',eD hx',Mr hdx,aO (a:=((s.length - 1 - i:Nat):Int)) (b:=1) (by omega) (by omega)];have hb:(0<=eG a2 x/\eG a2 x<=9):=hbd;cases a2 with
    | false => have hv:eG false x=(x.toNat:Int) - 48:=rfl;dsimp only [cond_true,cond_false,Bool.not_false];rw [bd (by omega) (by omega),nc (by omega),hv]
    | true =>
      dsimp only [cond_true,cond_false,Bool.not_false,Bool.not_true];rw [Dk (by omega) (by omega)];by_cases h9:9 < 2 * ((x.toNat:Int) - 48)
      . have hv:eG true x=2 * ((x.toNat:Int) - 48) - 9:=by unfold eG; rw [aF h9]; rfl
        rw [aF h9]; dsimp only [cond_true,cond_false,Bool.not_false]; rw [aO (by omega) (by omega),bd (by omega) (by omega),nc (by omega),hv]
      . have hv:eG true x=2 * ((x.toNat:Int) - 48):=by unfold eG; rw [ay h9]; rfl
        rw [ay h9]; dsimp only [cond_true,cond_false,Bool.not_false]; rw [bd (by omega) (by omega),nc (by omega),hv]) (fun i x a a' hx ha hf=>by
    simp only [Sum.inl.injEq] at hf;subst hf;show 0<=(a.1 + eG a.2 x) % 10/\(a.1 + eG a.2 x) % 10 < 10;omega) (fun a ha=>by
    have e:(s.length:Int) - 1 - ((s.reverse.length:Nat):Int) = -1:=by simp; omega
    show rG s a.1 a.2 ((s.length:Int) - 1 - ((s.reverse.length:Nat):Int))=_;rw [e];rfl)
 rw [bP (fun x a=>((a.1 + eG a.2 x) % 10,!a.2))] at h;have h':Hh s 0 true ((s.length:Int) - 1 - ((0:Nat):Int))=some (.inl (s,(HE s.reverse (0,true)).1,(HE s.reverse (0,true)).2,(-1:Int),())):=h;have e0:(s.length:Int) - 1 - ((0:Nat):Int)=aG .i64 (ae s) 1:=by rw [aO (by unfold ae; omega) (by unfold ae; omega)]; unfold ae; omega
 have eT:(HE s.reverse (0,true)).1=(yD s.reverse (0,true)).1 % 10:=by have:=D3 s.reverse 0 true;rw [show (0:Int) % 10=0 from rfl] at this;rw [this]
 rw [e0] at h';rw [h',eT];dsimp only [Option.bind_some,Sum.elim_inl,cond_true,cond_false,Bool.not_true];rw [aO (by omega) (by omega),nc (by omega)]; rfl
theorem NN (s:List UInt8) (hs:s.length<=aX):JW s=some ((),((Ay s,()),())):=by
 have hbig:aX=140737488355328:=rfl;unfold JW Ay;rw [gp s hs];dsimp only [Option.bind_some];cases hd:aT s with
 | false=>rfl
 | true =>
 have hall:=lZ hd
 have h:=a6 (step:=cW q8) s.reverse (fun i (a:Int×Bool)=>(s,a.1,a.2,(s.length:Int) - 1 - ((i:Nat):Int),())) (fun _ x a=>Sum.inl (a.1 + eG a.2 x,!a.2)) (fun a=> .inl (s,a.1,a.2,(-1:Int),()))
  (fun i a=>0<=a.1/\a.1<=9 * i) (a0:=(0,true)) ⟨by decide,by decide⟩ (fun i x a hx ha=>by
    obtain ⟨hlt,hx'⟩:=yC hx;have hdx:=hall x (List.mem_of_getElem? hx');have hbd:=sV a.2 hdx;have hdd:=fG.1 hdx;have e:(s.length:Int) - 1 - (i:Int)=((s.length - 1 - i:Nat):Int):=by omega
    have e':(s.length:Int) - 1 - ((i + 1:Nat):Int)=((s.length - 1 - i:Nat):Int) - 1:=by omega
    obtain ⟨a1,a2⟩:=a;show q8 s a1 a2 ((s.length:Int) - 1 - (i:Int))=some (.inl (s,a1 + eG a2 x,!a2,(s.length:Int) - 1 - ((i + 1:Nat):Int),()));rw [e,e'];have hle:bz 0 ((s.length - 1 - i:Nat):Int)=true:=decide_eq_true (by omega);have ha:0<=a1/\a1<=9 * i:=ha;unfold q8;rw [hle,aC hx',eD hx',MR hdx,aO (a:=((s.length - 1 - i:Nat):Int)) (b:=1) (by omega) (by omega)];have hb:(0<=eG a2 x/\eG a2 x<=9):=hbd;cases a2 with
    | false => have hv:eG false x=(x.toNat:Int) - 48:=rfl;dsimp only [cond_true,cond_false,Bool.not_false];rw [bd (by omega) (by omega),hv]
    | true =>
      dsimp only [cond_true,cond_false,Bool.not_false,Bool.not_true];have em:jI .i64 ((x.toNat:Int) - 48) 2=2 * ((x.toNat:Int) - 48):=by rw [Dk (by omega) (by omega)]; omega
      rw [em];by_cases h9:9 < 2 * ((x.toNat:Int) - 48)
      . have hv:eG true x=2 * ((x.toNat:Int) - 48) - 9:=by unfold eG; rw [aF h9]; rfl
        rw [aF h9]; dsimp only [cond_true,cond_false,Bool.not_false]; rw [aO (by omega) (by omega),bd (by omega) (by omega),hv]
      . have hv:eG true x=2 * ((x.toNat:Int) - 48):=by unfold eG; rw [ay h9]; rfl
        rw [ay h9]; dsimp only [cond_true,cond_false,Bool.not_false]; rw [bd (by omega) (by omega),hv]) (fun i x a a' hx ha hf=>by
    have hbd:=sV a.2 (hall x (List.mem_of_getElem? (yC hx).2));simp only [Sum.inl.injEq] at hf;subst hf;show 0<=a.1 + eG a.2 x/\a.1 + eG a.2 x<=9 * ((i + 1:Nat):Int);omega) (fun a ha=>by
    have e:(s.length:Int) - 1 - ((s.reverse.length:Nat):Int) = -1:=by simp; omega
    show q8 s a.1 a.2 ((s.length:Int) - 1 - ((s.reverse.length:Nat):Int))=_;rw [e];rfl)
 rw [bP (fun x a=>(a.1 + eG a.2 x,!a.2))] at h;have h':Gg s 0 true ((s.length:Int) - 1 - ((0:Nat):Int))=some (.inl (s,(yD s.reverse (0,true)).1,(yD s.reverse (0,true)).2,(-1:Int),())):=h;have e0:(s.length:Int) - 1 - ((0:Nat):Int)=aG .i64 (ae s) 1:=by rw [aO (by unfold ae; omega) (by unfold ae; omega)]; unfold ae; omega
 have hS:∀ (xs:List UInt8) (a:Int×Bool),(∀ x∈xs,fA x=true)->0<=a.1->0<=(yD xs a).1:=by
  intro xs;induction xs with
  | nil=>intro a _ h; exact h
  | cons x r ih => intro a hx h;have:=sV a.2 (hx x (List.mem_cons_self ..));exact ih (a.1 + eG a.2 x,!a.2) (fun y hy=>hx y (List.mem_cons_of_mem _ hy)) (by show 0<=a.1 + eG a.2 x; omega)
 have h0:=hS s.reverse (0,true) (fun x hx=>hall x (List.mem_reverse.1 hx)) (by decide);rw [e0] at h';rw [h'];dsimp only [Option.bind_some,Sum.elim_inl,cond_true,cond_false,Bool.not_true];rw [nc h0,aO (by omega) (by omega),nc (by omega)]; rfl
def pF (s:List UInt8):Bool:=cond (aT s) (cond (bz 2 (ae s)) (ak (Ay (sub s 0 (ae s - 1))) (dq s (ae s - 1) - 48)) false) false
theorem MN {s:List UInt8} (hd:aT s=true) (h:2<=s.length):∃ x,fA x=true/\a7 (ae s - 1) s=true/\dq s (ae s - 1)=(x.toNat:Int)/\dI 0 (ae s - 1) s=true/\(sub s 0 (ae s - 1)).length<=s.length:=by
 have e:ae s - 1=((s.length - 1:Nat):Int):=by unfold ae; omega
 obtain ⟨x,hx⟩:∃ x,s[s.length - 1]? = some x:=⟨s[s.length - 1]'(by omega),by simp⟩;refine ⟨x,lZ hd x (List.mem_of_getElem? hx),?_,?_,?_,?_⟩
 . rw [e]; exact aC hx
 . rw [e]; exact eD hx
 . rw [e]; unfold dI fC bz;rw [decide_eq_true (by decide),decide_eq_true (by omega),decide_eq_true (by omega)]; rfl
 . rw [e]; unfold sub; simp
theorem I0 (s:List UInt8) (hs:s.length<=aX):JO s=some ((),((pF s,()),())):=by
 have hbig:aX=140737488355328:=rfl;unfold JO pF;rw [fI s hs];dsimp only [Option.bind_some];cases hd:aT s with
 | false=>rfl
 | true =>
   by_cases h2:2<=s.length
   . obtain ⟨x,h3,h4,h5,h6,h7⟩:=MN hd h2;have e1:bz 2 (ae s)=true:=decide_eq_true (by unfold ae; omega);have e2:aG .i64 (ae s) 1=ae s - 1:=aO (by unfold ae; omega) (by unfold ae; omega);rw [ay (show ¬ ae s < 2 by unfold ae; omega),e1,e2];dsimp only [cond_true,cond_false,Bool.not_true];rw [h6,h4,Og _ (Nat.le_trans h7 hs),h5,Mr h3]; rfl
   . have e1:bz 2 (ae s)=false:=decide_eq_false (by unfold ae; omega);rw [aF (show ae s < 2 by unfold ae; omega),e1]; rfl
theorem HM (s:List UInt8) (hs:s.length<=aX):Kw s=some ((),((pF s,()),())):=by
 have hbig:aX=140737488355328:=rfl;unfold Kw pF;have e2:aG .i64 (ae s) 1=ae s - 1:=aO (by unfold ae; omega) (by unfold ae; omega);dsimp only;rw [gp s hs,e2];dsimp only [Option.bind_some];by_cases h2:2<=s.length
 . have e1:bz 2 (ae s)=true:=decide_eq_true (by unfold ae; omega);have e3:bz 1 (ae s - 1)=true:=decide_eq_true (by unfold ae; omega);rw [e1,e3];cases hd:aT s with
   | false=>rfl
   | true => obtain ⟨x,h3,h4,h5,h6,h7⟩:=MN hd h2;dsimp only [cond_true,cond_false,Bool.not_true];rw [h6,h4,NN _ (Nat.le_trans h7 hs),h5,MR h3]; rfl
 . have e1:bz 2 (ae s)=false:=decide_eq_false (by unfold ae; omega);have e3:bz 1 (ae s - 1)=false:=decide_eq_false (by unfold ae; omega);rw [e1,e3];cases aT s <;> rfl
def fk (s:List UInt8):Bool:=cond (bz (ae s) 19) (pF s) false
theorem tE (s:List UInt8) (hs:s.length<=aX):FQ s=some ((),((fk s,()),())):=by unfold FQ fk;rw [I0 s hs];cases bz (ae s) 19 <;> rfl
theorem ve (s:List UInt8) (hs:s.length<=aX):qN s=some ((),((fk s,()),())):=by unfold qN fk;rw [HM s hs];cases bz (ae s) 19 <;> rfl
def fV (a:Int):Int:=if a < 0 then 0 else if 4611686018427387904 < a then 4611686018427387904 else a
theorem mP (a:Int):0<=fV a/\fV a<=4611686018427387904:=by
 unfold fV;split
 . omega
 . split <;> omega
def wV (a b:Int):Int:=if 4611686018427387904 - fV b < fV a then 4611686018427387904 else fV a + fV b
theorem Db (a:Int):GB a 0 4611686018427387904=some ((),((fV a,()),())):=by
 unfold GB fV;by_cases h:a < 0
 . rw [aF h,if_pos h]; rfl
 . by_cases h2:4611686018427387904 < a
   . rw [ay h,if_neg h,aF h2,if_pos h2]; rfl
   . rw [ay h,if_neg h,ay h2,if_neg h2]; rfl
theorem vg {a:Int} (h:0<=a/\a<=4611686018427387904):cG a=true:=fg.2 h
theorem Nc (a b:Int):Gc a b=some ((),((wV a b,()),())):=by
 unfold Gc O8 wV;have h1:=mP a;have h2:=mP b;rw [Db,Db];dsimp only [Option.bind_some];rw [qk,qk,vg h1,vg h2,aO (by omega) (by omega)];dsimp only [Option.bind_some,Bool.not_true,cond_false];by_cases h:4611686018427387904 - fV b < fV a
 . rw [aF h,if_pos h]; rfl
 . rw [ay h,if_neg h,bd (by omega) (by omega)]; rfl
theorem No (a b:Int):HU a b=some ((),((wV a b,()),())):=by
 have e:∀ x:Int,EO 0 (E6 x 4611686018427387904)=fV x:=fun x=>by unfold EO E6 fV;split <;> split <;> (try split) <;> omega
 have h1:=mP a;have h2:=mP b;unfold HU wV;dsimp only;rw [e,e,aO (by omega) (by omega)];by_cases h:4611686018427387904 - fV b < fV a
 . rw [aF h,if_pos h]; rfl
 . rw [ay h,if_neg h,bd (by omega) (by omega)]; rfl
def zC (xs:List iY):Int:=xs.foldl (fun a h=>wV a h.2.1) 0
theorem IP (xs:List iY) (hs:xs.length<=aX):KK xs=some ((),((zC xs,()),())):=by
 unfold KK;have h:=aE (step:=cW pk) xs (fun i (a:Int)=>(a,xs,ae xs,((i:Nat):Int),())) (fun _ x a=>Sum.inl (wV a x.2.1)) (fun a=> .inl (a,xs,ae xs,(xs.length:Int),())) (a0:=0) (fun i x a hx=>by
  have hlt:=aj hx;show pk a xs (ae xs) (i:Int)=_;unfold pk;rw [aH hx,aC hx,aR _ hx,aP (by omega),Nc]; rfl) (fun a=>by
  show pk a xs (ae xs) (xs.length:Int)=_;unfold pk;rw [ax rfl]; rfl)
 rw [bP (fun (x:iY) a=>wV a x.2.1)] at h;have h':GH 0 xs (ae xs) 0=_:=h;rw [h']; rfl
theorem Iv (xs:List iY) (hs:xs.length<=aX):JK xs=some ((),((zC xs,()),())):=by
 unfold JK;have h:=aE (step:=cW nE) xs (fun i (a:Int)=>(a,xs,ae xs,((i:Nat):Int),())) (fun _ x a=>Sum.inl (wV a x.2.1)) (fun a=> .inl (a,xs,ae xs,(xs.length:Int),())) (a0:=0) (fun i x a hx=>by
  have hlt:=aj hx;show nE a xs (ae xs) (i:Int)=_;unfold nE;rw [aH hx,aC hx,aR _ hx,aP (by omega),No]; rfl) (fun a=>by
  show nE a xs (ae xs) (xs.length:Int)=_;unfold nE;rw [ax rfl]; rfl)
 rw [bP (fun (x:iY) a=>wV a x.2.1)] at h;have h':Gx 0 xs (ae xs) 0=_:=h;rw [h']; rfl
def wC (r:tz):Bool:=cond (dk r.1 1 1000) (cond (dk (ae r.2.2.1) 1 8) (cond (ak (ae r.2.2.2.1) (ae r.2.2.1)) (cond (cJ r.2.1) (r.2.2.1.all (fun x=>cG x.1) && r.2.2.2.1.all (fun x=>cG x.1)) false) false) false) false
def AF (r:tz):Prop:=r.2.2.1.length<=1048576/\r.2.2.2.1.length<=1048576
theorem dW {a b:Int}:ak a b=true↔a=b:=by simp [ak]
theorem OI (r:tz) (hb:AF r):Jp r=some ((),((wC r,()),())):=by
 have hbig:aX=140737488355328:=rfl;obtain ⟨hb1,hb2⟩:=hb;unfold Jp wC;dsimp only;rw [j3,j3,mc];dsimp only [Option.bind_some];cases dk r.1 1 1000 with
 | false=>rfl
 | true =>
 cases dk (ae r.2.2.1) 1 8 with
 | false=>rfl
 | true =>
 cases he:ak (ae r.2.2.2.1) (ae r.2.2.1) with
 | false=>rfl
 | true =>
 cases cJ r.2.1 with
 | false=>rfl
 | true =>
 have hlen:r.2.2.2.1.length=r.2.2.1.length:=by have:=dW.1 he;unfold ae at this; omega
 dsimp only [cond_true,cond_false,Bool.not_true];have h:=aE (step:=fb oA) (r.2.2.1.zip r.2.2.2.1) (fun i (_:Unit)=>(ae r.2.2.1,((i:Nat):Int),r,())) (fun _ x _=>bif cG x.1.1 && cG x.2.1 then Sum.inl () else .inr (.inr (false,()))) (fun _=> .inl (ae r.2.2.1,(r.2.2.1.length:Int),r,())) (a0:=()) (fun i x a hx=>by
  have hx':=List.getElem?_zip_eq_some.1 hx;have hlt:=aj hx'.1;show oA (ae r.2.2.1) (i:Int) r=_;unfold oA;rw [aH hx'.1,aC hx'.1,aC hx'.2,aR _ hx'.1,aR _ hx'.2,qk,qk,aP (by omega)];dsimp only [cond_true,Option.bind_some];cases cG x.1.1 <;> cases cG x.2.1 <;> rfl) (fun a=>by
  have e:(r.2.2.1.zip r.2.2.2.1).length=r.2.2.1.length:=by rw [List.length_zip,hlen,Nat.min_self]
  rw [e];show oA (ae r.2.2.1) (r.2.2.1.length:Int) r=_;unfold oA;rw [ax rfl]; rfl)
 rw [fN (fun (x:(Int×Unit)×(Int×Unit))=>cG x.1.1 && cG x.2.1)] at h;have h':HS (ae r.2.2.1) 0 r=_:=h;rw [h'];have hz:∀ (a b:List (Int×Unit)),b.length=a.length->(a.zip b).all (fun x=>cG x.1.1 && cG x.2.1)=(a.all (fun x=>cG x.1) && b.all (fun x=>cG x.1)):=by
  intro a;induction a with
  | nil=>intro b hb; cases b with | nil=>rfl | cons _ _=>simp at hb
  | cons x a ih =>
    intro b hb;cases b with
    | nil=>simp at hb
    | cons y b => simp only [List.zip_cons_cons,List.all_cons];rw [ih b (by simpa using hb)];cases cG x.1 <;> cases cG y.1 <;> simp
 rw [hz _ _ hlen];cases r.2.2.1.all (fun x=>cG x.1) && r.2.2.2.1.all (fun x=>cG x.1) <;> rfl
theorem Jv (a b:List (Int×Unit)) (ha:a.length<=1048576) (hb:b.length<=1048576):LQ [(a,()),(b,())]=some ((),((a ++ b,()),())):=by
 have hbig:aX=140737488355328:=rfl;unfold LQ;have hlen:((a.length + b.length:Nat):Int)=(a.length:Int) + b.length:=by omega
 have h:CF [(a,()),(b,())] 0 [(a,()),(b,())] 2 0=some (.inl ([(a,()),(b,())],(a.length:Int) + b.length,[(a,()),(b,())],2,2,())):=by
  refine aQ _ (x':=([(a,()),(b,())],(a.length:Int),[(a,()),(b,())],2,1,())) ?_ (aQ _ (x':=([(a,()),(b,())],(a.length:Int) + b.length,[(a,()),(b,())],2,2,())) ?_ (aJ _ ?_))
  . show qX [(a,()),(b,())] 0 [(a,()),(b,())] 2 0=_;unfold qX;have e:aq .i64 0 (ae (gt d53 [(a,()),(b,())] 0).1)=(a.length:Int):=by
     show aq .i64 0 (ae a)=_;rw [bd (by unfold ae; omega) (by unfold ae; omega)]; unfold ae; omega
    dsimp only;rw [e,ay (a:=(a.length:Int)) (b:=0) (by omega)]; rfl
  . show qX [(a,()),(b,())] (a.length:Int) [(a,()),(b,())] 2 1=_;unfold qX;have e:aq .i64 (a.length:Int) (ae (gt d53 [(a,()),(b,())] 1).1)=(a.length:Int) + b.length:=by
     show aq .i64 (a.length:Int) (ae b)=_;rw [bd (by unfold ae; omega) (by unfold ae; omega)]; unfold ae; omega
    dsimp only;rw [e,ay (a:=(a.length:Int) + b.length) (b:=0) (by omega)]; rfl
  . rfl
 have h1:CF [(a,()),(b,())] 0 [(a,()),(b,())] (ae [(a,()),(b,())]) 0=_:=h;have hg:L5 ((a.length:Int) + b.length)=some ((),(([],()),())):=by
  unfold L5;dsimp only;rw [ay (by omega),aO (a:=0) (b:=0) (by decide) (by decide),aO (by omega) (by omega)];by_cases h0:(0:Int) < (a.length:Int) + b.length - (0 - 0)
  . have e2:Ws 8 ((a.length:Int) + b.length - (0 - 0))=true:=by
     unfold Ws bz;rw [decide_eq_true (by omega),decide_eq_true (by rw [hbig]; omega)]; rfl
    have e3:dI 0 0 (u0 d3 ((a.length:Int) + b.length - (0 - 0)))=true:=by unfold dI fC bz;rw [decide_eq_true (by decide),decide_eq_true (by omega)]; rfl
    rw [aF h0,e2,e3];rfl
  . rw [ay h0]; rfl
 have h2:CE [] [(a,()),(b,())] 2 0=some (.inl (a ++ b,[(a,()),(b,())],2,2,())):=by
  refine aQ _ (x':=(a,[(a,()),(b,())],2,1,())) ?_ (aQ _ (x':=(a ++ b,[(a,()),(b,())],2,2,())) ?_ (aJ _ ?_))
  . show rh [] [(a,()),(b,())] 2 0=_;unfold rh;have e:cR 8 ([]:List (Int×Unit)) (gt d53 [(a,()),(b,())] 0).1=true:=Nat.ble_eq_true_of_le (by show (0 + a.length) * 8<=aX; omega);rw [e]; rfl
  . show rh a [(a,()),(b,())] 2 1=_;unfold rh;have e:cR 8 a (gt d53 [(a,()),(b,())] 1).1=true:=Nat.ble_eq_true_of_le (by show (a.length + b.length) * 8<=aX; omega);rw [e]; rfl
  . rfl
 have h2':CE [] [(a,()),(b,())] (ae [(a,()),(b,())]) 0=_:=h2;rw [h1];dsimp only [Option.bind_some,Sum.elim_inl];rw [hg];dsimp only [Option.bind_some,Sum.elim_inl];rw [h2']; rfl
theorem O5 (r:tz) (hb:AF r):IB r=some ((),((wC r,()),())):=by
 have hbig:aX=140737488355328:=rfl;obtain ⟨hb1,hb2⟩:=hb;unfold IB;rw [Jv _ _ hb1 hb2];dsimp only [Option.bind_some];have h:=aE (step:=gi nP) (r.2.2.1 ++ r.2.2.2.1) (fun i (_:Unit)=>(ae r.2.2.1,r.2.2.1 ++ r.2.2.2.1,ae (r.2.2.1 ++ r.2.2.2.1),((i:Nat):Int),r,())) (fun _ x _=>bif cG x.1 then Sum.inl () else .inr (.inr (false,()))) (fun _=> .inl (ae r.2.2.1,r.2.2.1 ++ r.2.2.2.1,ae (r.2.2.1 ++ r.2.2.2.1),((r.2.2.1 ++ r.2.2.2.1).length:Int),r,())) (a0:=()) (fun i x a hx=>by
  have hlt:=aj hx;rw [List.length_append] at hlt;show nP (ae r.2.2.1) (r.2.2.1 ++ r.2.2.2.1) (ae (r.2.2.1 ++ r.2.2.2.1)) (i:Int) r=_;unfold nP;rw [aH hx,aC hx,aR _ hx,D8,aP (by omega)];dsimp only [cond_true,Option.bind_some];cases cG x.1 <;> rfl) (fun a=>by
  show nP (ae r.2.2.1) (r.2.2.1 ++ r.2.2.2.1) (ae (r.2.2.1 ++ r.2.2.2.1)) ((r.2.2.1 ++ r.2.2.2.1).length:Int) r=_;unfold nP;rw [ax rfl]; rfl)
 rw [fN (fun (x:Int×Unit)=>cG x.1)] at h;have h':IG (ae r.2.2.1) (r.2.2.1 ++ r.2.2.2.1) (ae (r.2.2.1 ++ r.2.2.2.1)) 0 r=_:=h;rw [h',List.all_append];unfold wC;cases r.2.2.1.all (fun x=>cG x.1) && r.2.2.2.1.all (fun x=>cG x.1) with
 | false => cases dk r.1 1 1000 <;> cases dk (ae r.2.2.1) 1 8 <;> cases ak (ae r.2.2.2.1) (ae r.2.2.1) <;> cases cJ r.2.1 <;> rfl
 | true => dsimp only [cond_true,Option.bind_some,Sum.elim_inl];rw [iF,iF,mC];dsimp only [Option.bind_some];cases dk r.1 1 1000 <;> cases dk (ae r.2.2.1) 1 8 <;> cases ak (ae r.2.2.2.1) (ae r.2.2.1) <;> cases cJ r.2.1 <;> rfl
def uA (s:eC):Bool:=cond (cond (aT s.1) (ak (ae s.1) 6) false) (cond (cond (aT s.2.1) (ak (ae s.2.1) 4) false) (dk (ae s.2.2.1) 1 200) false) false
def HC (s:eC):Prop:=s.1.length<=aX/\s.2.1.length<=aX
theorem Py (s:eC) (hb:HC s):KO s=some ((),((uA s,()),())):=by unfold KO uA;rw [fI _ hb.1,fI _ hb.2];dsimp only [Option.bind_some];rw [j3];cases cond (aT s.1) (ak (ae s.1) 6) false <;> cases cond (aT s.2.1) (ak (ae s.2.1) 4) false <;> rfl
theorem N7 (s:eC) (hb:HC s):J9 s=some ((),((uA s,()),())):=by unfold J9 wH uA;rw [gp _ hb.1,gp _ hb.2];dsimp only [Option.bind_some];rw [iF];cases cond (aT s.1) (ak (ae s.1) 6) false <;> cases cond (aT s.2.1) (ak (ae s.2.1) 4) false <;> rfl
def ib (a b:eC):Bool:=cond (bY a.1 b.1) (bY a.2.1 b.2.1) false
def iX (xs:List eC) (i:Nat) (x:eC):Bool:=cond (uA x) ((xs.take i).all (fun y=> !ib y x)) false
def oZ (xs:List eC):Bool:=cond (allI (iX xs) 0 xs) (bz (ae xs) 6) false
def Cf (xs:List eC):Prop:=xs.length<=1048576/\∀ y∈xs,HC y
theorem qC {α:Type} (xs:List α) (i:Nat):sub xs 0 (i:Int)=xs.take i:=by unfold sub; simp
theorem iU {α:Type} {xs:List α} {i:Nat} (h:i<=xs.length):dI 0 (i:Int) xs=true:=by unfold dI fC bz;rw [decide_eq_true (by decide),decide_eq_true (by omega),decide_eq_true (by omega)]; rfl
theorem Ky (xs:List eC) (hb:Cf xs):LC xs=some ((),((oZ xs,()),())):=by
 have hbig:aX=140737488355328:=rfl;have hb1:=hb.1;unfold LC;have inner:∀ (i:Nat) (x:eC),i<=xs.length->Hq xs xs (ae xs) (i:Int) (xs.take i) (ae (xs.take i)) 0 x=some (bif (xs.take i).all (fun y=> !ib y x) then .inl (xs,xs,ae xs,(i:Int),xs.take i,ae (xs.take i),((xs.take i).length:Int),x,()) else .inr (false,())):=fun i x hi=>by
  have hti:(xs.take i).length<=xs.length:=by rw [List.length_take]; exact Nat.min_le_right _ _
  have h:=aE (step:=xM nx) (xs.take i) (fun j (_:Unit)=>(xs,xs,ae xs,(i:Int),xs.take i,ae (xs.take i),((j:Nat):Int),x,())) (fun _ y _=>bif !ib y x then Sum.inl () else .inr (.inr (false,()))) (fun _=> .inl (xs,xs,ae xs,(i:Int),xs.take i,ae (xs.take i),((xs.take i).length:Int),x,())) (a0:=()) (fun j y a hy=>by
   have hlt:=aj hy;show nx xs xs (ae xs) (i:Int) (xs.take i) (ae (xs.take i)) (j:Int) x=_;unfold nx ib;rw [aH hy,aC hy,aR _ hy,aP (by omega)];dsimp only [cond_true];cases cond (bY y.1 x.1) (bY y.2.1 x.2.1) false <;> rfl) (fun a=>by
   show nx xs xs (ae xs) (i:Int) (xs.take i) (ae (xs.take i)) ((xs.take i).length:Int) x=_;unfold nx;rw [ax rfl]; rfl)
  rw [fN (fun y=> !ib y x)] at h;exact h
 have h:=aE (step:=cW oU) xs (fun i (_:Unit)=>(xs,xs,ae xs,((i:Nat):Int),())) (fun i x _=>bif iX xs i x then Sum.inl () else .inr (.inr (false,()))) (fun _=> .inl (xs,xs,ae xs,(xs.length:Int),())) (a0:=()) (fun i x a hx=>by
  have hlt:=aj hx;show oU xs xs (ae xs) (i:Int)=_;unfold oU iX;rw [aH hx,aC hx,aR _ hx];dsimp only [cond_true];rw [Py x (hb.2 x (List.mem_of_getElem? hx)),iU (Nat.le_of_lt hlt),qC];dsimp only [cond_true,Option.bind_some];rw [inner i x (Nat.le_of_lt hlt)];cases uA x with
  | false=>rfl
  | true =>
    cases (xs.take i).all (fun y=> !ib y x) with
    | false=>rfl
    | true =>
      dsimp only [cond_true,cond_false,Bool.not_true,Option.bind_some,Sum.elim_inl];rw [aP (by omega)]; rfl) (fun a=>by
  show oU xs xs (ae xs) (xs.length:Int)=_;unfold oU;rw [ax rfl]; rfl)
 rw [cD] at h;have h':Ip xs xs (ae xs) 0=_:=h;rw [h'];unfold oZ;cases allI (iX xs) 0 xs <;> rfl
def gh {α:Type} (p:α->Bool):Nat->List α->Int
 | _,[] => -1
 | i,x :: r=>bif p x then (i:Int) else gh p (i + 1) r
theorem mu {α Y:Type} (p:α->Bool) (y:Int->Y) (z:Y) (out:Y->Int) (hy:∀ n,out (y n)=n) (hz:out z = -1):∀ (xs:List α) (i:Nat),out (kl (fun i x _=>bif p x then Sum.inr (y (i:Int)) else .inl ()) (fun _=>z) i xs ())=gh p i xs
 | [],_=>hz
 | x :: r,i=>by
   rw [kl,gh];cases hp:p x with
   | true=>exact hy _
   | false=>exact mu p y z out hy hz r (i + 1)
theorem tT {α:Type} (p:α->Bool):∀ (xs:List α) (i:Nat),gh p i xs = -1∨((i:Int)<=gh p i xs/\gh p i xs < i + xs.length)
 | [],_=> .inl rfl
 | x :: r,i=>by
   rw [gh];cases p x with
   | true=>right; simp only [cond_true,List.length_cons]; omega
   | false =>
     rcases tT p r (i + 1) with h | h
     . exact .inl h
     . right; simp only [cond_false,List.length_cons]; omega
theorem Ax {α:Type} (p:α->Bool):∀ {xs:List α} {i:Nat} {x:α} (k:Nat),xs[i]? = some x->p x=true->(gh p k xs=((k + i:Nat):Int)↔(xs.take i).all (fun y=> !p y)=true)
 | [],i,x,k,h,_=>by simp at h
 | y :: r,0,x,k,h,hp=>by simp only [List.getElem?_cons_zero,Option.some.injEq] at h;subst h;rw [gh,hp]; simp
 | y :: r,i + 1,x,k,h,hp=>by
   have ih:=Ax p (xs:=r) (i:=i) (x:=x) (k + 1) (by simpa using h) hp;rw [gh,List.take_succ_cons,List.all_cons];cases hy:p y with
   | true => simp only [cond_true,Bool.not_true,Bool.false_and,Bool.false_eq_true,iff_false];omega
   | false => simp only [cond_false,Bool.not_false,Bool.true_and];rw [<- ih,show k + 1 + i=k + (i + 1) by omega]
theorem GX (xs:List eC) (a b:List UInt8) (hs:xs.length<=1048576):Lb xs a b=some ((),((gh (fun y=>cond (bY y.1 a) (bY y.2.1 b) false) 0 xs,()),())):=by
 have hbig:aX=140737488355328:=rfl;unfold Lb Pt;have h:=aE (step:=cW oR) xs (fun i (_:Unit)=>(xs,((a,()),(b,()),()),ae xs,((i:Nat):Int),())) (fun i y _=>bif cond (bY y.1 a) (bY y.2.1 b) false then Sum.inr (.inr ((i:Int),())) else Sum.inl ()) (fun _=> .inl (xs,((a,()),(b,()),()),ae xs,(xs.length:Int),())) (a0:=()) (fun i y u hy=>by
  have hlt:=aj hy;show oR xs ((a,()),(b,()),()) (ae xs) (i:Int)=_;unfold oR P2;rw [aH hy,aC hy,aR _ hy,aP (by omega)];dsimp only [cond_true,Option.bind_some];cases cond (bY y.1 a) (bY y.2.1 b) false <;> rfl) (fun u=>by
  show oR xs ((a,()),(b,()),()) (ae xs) (xs.length:Int)=_;unfold oR;rw [ax rfl]; rfl)
 have h':Gn xs ((a,()),(b,()),()) (ae xs) 0=_:=h;rw [h'];have hf:=mu (Y:=Sum ((List eC)×(((List UInt8)×Unit)×((List UInt8)×Unit)×Unit)×Int×Int×Unit) (Int×Unit)) (fun (y:eC)=>cond (bY y.1 a) (bY y.2.1 b) false) (fun n=> .inr (n,())) (.inl (xs,((a,()),(b,()),()),ae xs,(xs.length:Int),())) (fun y=>match y with | .inl _ => -1 | .inr z=>z.1) (fun _=>rfl) rfl xs 0;rw [<- hf];dsimp only [Option.bind_some];cases kl _ _ 0 xs () <;> rfl
theorem KC (xs:List eC) (hb:Cf xs):KQ xs=some ((),((oZ xs,()),())):=by
 have hbig:aX=140737488355328:=rfl;have hb1:=hb.1;unfold KQ;have h:=aE (step:=cW oW) xs (fun i (_:Unit)=>(xs,xs,ae xs,((i:Nat):Int),())) (fun i x _=>bif iX xs i x then Sum.inl () else .inr (.inr (false,()))) (fun _=> .inl (xs,xs,ae xs,(xs.length:Int),())) (a0:=()) (fun i x a hx=>by
  have hlt:=aj hx;show oW xs xs (ae xs) (i:Int)=_;unfold oW iX;rw [aH hx,aC hx,aR _ hx];dsimp only [cond_true];rw [N7 x (hb.2 x (List.mem_of_getElem? hx))];dsimp only [cond_true,Option.bind_some];rw [GX xs _ _ hb1,aP (by omega)];have hp:cond (bY x.1 x.1) (bY x.2.1 x.2.1) false=true:=by rw [eb,eb]; rfl
  have hk:=Ax (fun (y:eC)=>cond (bY y.1 x.1) (bY y.2.1 x.2.1) false) 0 hx hp;rw [Nat.zero_add,<- dW] at hk;have hk':ak (gh (fun (y:eC)=>cond (bY y.1 x.1) (bY y.2.1 x.2.1) false) 0 xs) (i:Int)=(xs.take i).all (fun y=> !ib y x):=by rw [Bool.eq_iff_iff]; exact hk
  cases uA x with
  | false=>rfl
  | true =>
    dsimp only [cond_true,cond_false,Bool.not_true,Option.bind_some];rw [hk'];cases (xs.take i).all (fun y=> !ib y x) <;> rfl) (fun a=>by
  show oW xs xs (ae xs) (xs.length:Int)=_;unfold oW;rw [ax rfl]; rfl)
 rw [cD] at h;have h':HI xs xs (ae xs) 0=_:=h;rw [h'];unfold oZ;cases allI (iX xs) 0 xs <;> rfl
abbrev aN:=List UInt8×Int×Int×Int×Int×List iY×Int×Int×List (Int×Unit)×List (Int×Unit)×List eC×Unit
def wZ (a:aN):tz:=(a.2.2.2.2.2.2.1,a.2.2.2.2.2.2.2.1,a.2.2.2.2.2.2.2.2.1,a.2.2.2.2.2.2.2.2.2.1,())
def jo (a:aN):Prop:=a.1.length<=1048576/\(a.2.2.2.2.2.1.length<=1048576/\∀ y∈a.2.2.2.2.2.1,y.1.length<=1048576)/\AF (wZ a)/\a.2.2.2.2.2.2.2.2.2.2.1.length<=1048576/\∀ y∈a.2.2.2.2.2.2.2.2.2.2.1,y.1.length<=1048576/\y.2.1.length<=1048576/\y.2.2.1.length<=1048576
theorem ct {n:Nat} (h:n<=1048576):n<=aX:=Nat.le_trans h (by decide)
theorem jo.hs {a:aN} (h:jo a):B0 a.2.2.2.2.2.1:=⟨ct h.2.1.1,fun y hy=>ct (h.2.1.2 y hy)⟩
theorem jo.ss {a:aN} (h:jo a):Cf a.2.2.2.2.2.2.2.2.2.2.1:=⟨h.2.2.2.1,fun y hy=>⟨ct (h.2.2.2.2 y hy).1,ct (h.2.2.2.2 y hy).2.1⟩⟩
def vF (a:aN):Bool:=cond (fk a.1) (cond (dk a.2.1 0 9007199254740992) (cond (dk a.2.2.2.1 0 1000) (cond (dk a.2.2.2.2.1 0 9007199254740992) (cond (cG a.2.2.1) (cond (pn a.2.2.2.2.2.1) (cond (wC (wZ a)) (cond (oZ a.2.2.2.2.2.2.2.2.2.2.1) (bz (wV a.2.2.1 (zC a.2.2.2.2.2.1)) a.2.1) false) false) false) false) false) false) false) false
theorem Ps (a:aN) (hb:jo a):Un a=some ((),((vF a,()),())):=by
 have h1:=tE a.1 (ct hb.1);have h2:=JY _ hb.hs;have h3:Jp (a.2.2.2.2.2.2.1,a.2.2.2.2.2.2.2.1,a.2.2.2.2.2.2.2.2.1,a.2.2.2.2.2.2.2.2.2.1,())=_:=OI (wZ a) hb.2.2.1;have h4:=Ky _ hb.ss;have h5:=IP _ hb.hs.1;unfold Un vF;rw [h1,h2,h3,h4,h5,j3,j3,j3,qk];dsimp only [Option.bind_some];rw [Nc];dsimp only [Option.bind_some];cases fk a.1 <;> first | rfl | skip
 cases dk a.2.1 0 9007199254740992 <;> first | rfl | skip
 cases dk a.2.2.2.1 0 1000 <;> first | rfl | skip
 cases dk a.2.2.2.2.1 0 9007199254740992 <;> first | rfl | skip
 cases cG a.2.2.1 <;> first | rfl | skip
 cases pn a.2.2.2.2.2.1 <;> first | rfl | skip
 cases wC (wZ a) <;> first | rfl | skip
 cases oZ a.2.2.2.2.2.2.2.2.2.2.1 <;> rfl
theorem OA (a:aN) (hb:jo a):UR a=some ((),((vF a,()),())):=by
 have h1:=ve a.1 (ct hb.1);have h2:=K1 _ hb.hs;have h3:IB (a.2.2.2.2.2.2.1,a.2.2.2.2.2.2.2.1,a.2.2.2.2.2.2.2.2.1,a.2.2.2.2.2.2.2.2.2.1,())=_:=O5 (wZ a) hb.2.2.1;have h4:=KC _ hb.ss;have h5:=Iv _ hb.hs.1;unfold UR vF;rw [h1,h2,h3,h4,h5,iF,iF,iF,D8];dsimp only [Option.bind_some];rw [No];dsimp only [Option.bind_some];cases fk a.1 <;> first | rfl | skip
 cases dk a.2.1 0 9007199254740992 <;> first | rfl | skip
 cases dk a.2.2.2.1 0 1000 <;> first | rfl | skip
 cases dk a.2.2.2.2.1 0 9007199254740992 <;> first | rfl | skip
 cases cG a.2.2.1 <;> first | rfl | skip
 cases pn a.2.2.2.2.2.1 <;> first | rfl | skip
 cases wC (wZ a) <;> first | rfl | skip
 cases oZ a.2.2.2.2.2.2.2.2.2.2.1 <;> rfl
theorem gZ {α:Type} {b:Nat} {xs:List α} (h:xs.length * b<=aX):cR b ([]:List α) xs=true:=Nat.ble_eq_true_of_le (by simpa using h)
theorem IW (r:tz) (hb:AF r):I2 r=some ((),(r,())):=by have hbig:aX=140737488355328:=rfl;obtain ⟨h1,h2⟩:=hb;unfold I2;rw [gZ (by omega),gZ (by omega)]; rfl
theorem H6 (r:tz) (hb:AF r):HL r=some ((),(r,())):=by have hbig:aX=140737488355328:=rfl;obtain ⟨h1,h2⟩:=hb;unfold HL Fs;rw [gZ (by omega),gZ (by omega)]; rfl
theorem FT (xs:List eC) (hs:xs.length<=1048576) (hb:∀ y∈xs,y.2.2.1.length<=1048576):Lh xs=some ((),((xs,()),())):=by
 have hbig:aX=140737488355328:=rfl;unfold Lh;have h:=a6 (step:=cW nI) xs (fun i (a:List eC)=>(a,xs,ae xs,((i:Nat):Int),())) (fun _ x a=>Sum.inl (a ++ [x])) (fun a=> .inl (a,xs,ae xs,(xs.length:Int),())) (fun i a=>a.length=i) (a0:=[]) rfl (fun i x a hx ha=>by
  have hlt:=aj hx;have hm:=hb x (List.mem_of_getElem? hx);show nI a xs (ae xs) (i:Int)=_;unfold nI;have e:∀ y:eC,cR 56 a [y]=true:=fun y=>Nat.ble_eq_true_of_le (by simp; omega)
  rw [aH hx,aC hx,aR _ hx];dsimp only [cond_true];rw [gZ (by omega),e,aP (by omega)];rfl) (fun i x a a' hx ha hf=>by
  simp only [Sum.inl.injEq] at hf;rw [<- hf,List.length_append,ha]; rfl) (fun a ha=>by
  show nI a xs (ae xs) (xs.length:Int)=_;unfold nI;rw [ax rfl]; rfl)
 rw [jx] at h;have h':Ht [] xs (ae xs) 0=_:=h;rw [h']; rfl
theorem EX (xs:List eC) (hs:xs.length<=1048576) (hb:∀ y∈xs,y.2.2.1.length<=1048576):Ka xs=some ((),((xs,()),())):=by
 have hbig:aX=140737488355328:=rfl;unfold Ka;have h:=a6 (step:=cW oX) xs (fun i (a:List eC)=>(a,xs,ae xs,((i:Nat):Int),())) (fun _ x a=>Sum.inl (a ++ [x])) (fun a=> .inl (a,xs,ae xs,(xs.length:Int),())) (fun i a=>a.length=i) (a0:=[]) rfl (fun i x a hx ha=>by
  have hlt:=aj hx;have hm:=hb x (List.mem_of_getElem? hx);show oX a xs (ae xs) (i:Int)=_;unfold oX I6;have e:∀ y:eC,cR 56 a [y]=true:=fun y=>Nat.ble_eq_true_of_le (by simp; omega)
  rw [aH hx,aC hx,aR _ hx];dsimp only [cond_true];rw [gZ (by omega),aP (by omega)];dsimp only [cond_true,Option.bind_some];rw [e];rfl) (fun i x a a' hx ha hf=>by
  simp only [Sum.inl.injEq] at hf;rw [<- hf,List.length_append,ha]; rfl) (fun a ha=>by
  show oX a xs (ae xs) (xs.length:Int)=_;unfold oX;rw [ax rfl]; rfl)
 rw [jx] at h;have h':Gz [] xs (ae xs) 0=_:=h;rw [h']; rfl
theorem Ib (a:aN) (hb:jo a):UJ a=some ((),(a,())):=by have hbig:aX=140737488355328:=rfl;have h1:=hb.2.1.1;have h2:I2 (a.2.2.2.2.2.2.1,a.2.2.2.2.2.2.2.1,a.2.2.2.2.2.2.2.2.1,a.2.2.2.2.2.2.2.2.2.1,())=_:=IW (wZ a) hb.2.2.1;have h3:=FT _ hb.2.2.2.1 (fun y hy=>(hb.2.2.2.2 y hy).2.2);unfold UJ;rw [gZ (by omega),h2,h3]; rfl
theorem Jr (a:aN) (hb:jo a):K3 a=some ((),(a,())):=by have hbig:aX=140737488355328:=rfl;have h1:=hb.2.1.1;have h2:HL (a.2.2.2.2.2.2.1,a.2.2.2.2.2.2.2.1,a.2.2.2.2.2.2.2.2.1,a.2.2.2.2.2.2.2.2.2.1,())=_:=H6 (wZ a) hb.2.2.1;have h3:=EX _ hb.2.2.2.1 (fun y hy=>(hb.2.2.2.2 y hy).2.2);unfold K3 Hr;rw [gZ (by omega),h2,h3]; rfl
def gr (h:Nat) (c:UInt8):Nat:=((h ^^^ c.toNat) * 16777619) % 4294967296
def yV (s:List UInt8):Nat:=s.foldl gr 2166136261
theorem CW (h:Nat) (c:UInt8):gr h c < 4294967296:=Nat.mod_lt _ (by decide)
theorem HA {a c:Nat} (ha:a < 4294967296) (hc:c < 256):a ^^^ c < 4294967296:=by have:=Nat.xor_lt_two_pow (x:=a) (y:=c) (n:=32) (by omega) (by omega);omega
theorem iR (n a:Nat):BitVec.ofInt n (a:Int)=BitVec.ofNat n a:=by simp
theorem CV {a:Nat} (c:UInt8) (ha:a < 4294967296):zw .i64 (jI .i64 (AQ .i64 (a:Int) (bN .i64 (c.toNat:Int))) 16777619) 4294967295=((gr a c:Nat):Int):=by
 have hc:c.toNat < 256:=c.toNat_lt;have hx:=HA ha hc;have e1:bN .i64 (c.toNat:Int)=(c.toNat:Int):=IntWalk.i64_in _ (by omega);have e2:AQ .i64 (a:Int) (c.toNat:Int)=((a ^^^ c.toNat:Nat):Int):=by
  unfold AQ;have:(BitVec.ofInt IntKind.i64.bits (a:Int) ^^^ BitVec.ofInt IntKind.i64.bits (c.toNat:Int)).toNat=a ^^^ c.toNat:=by
   rw [iR,iR,BitVec.toNat_xor,BitVec.toNat_ofNat,BitVec.toNat_ofNat];have h64:2 ^ IntKind.i64.bits=18446744073709551616:=by decide
   rw [h64,Nat.mod_eq_of_lt (by omega),Nat.mod_eq_of_lt (by omega)]
  rw [this];exact IntWalk.i64_in _ (by omega)
 have e3:jI .i64 ((a ^^^ c.toNat:Nat):Int) 16777619=(((a ^^^ c.toNat) * 16777619:Nat):Int):=by unfold jI;rw [IntWalk.i64_in _ (by omega)];omega
 rw [e1,e2,e3];unfold zw gr;have:(BitVec.ofInt IntKind.i64.bits (((a ^^^ c.toNat) * 16777619:Nat):Int) &&& BitVec.ofInt IntKind.i64.bits (4294967295:Int)).toNat=((a ^^^ c.toNat) * 16777619) % 4294967296:=by
  have h32:(4294967295:Int)=((4294967295:Nat):Int):=rfl;rw [h32,iR,iR,BitVec.toNat_and,BitVec.toNat_ofNat,BitVec.toNat_ofNat];have h64:2 ^ IntKind.i64.bits=18446744073709551616:=by decide
  rw [h64,Nat.mod_eq_of_lt (by omega:(a ^^^ c.toNat) * 16777619 < 18446744073709551616),Nat.mod_eq_of_lt (by omega:4294967295 < 18446744073709551616)];exact Nat.and_two_pow_sub_one_eq_mod _ 32
 rw [this];have:=Nat.mod_lt ((a ^^^ c.toNat) * 16777619) (show 0 < 4294967296 by decide);exact IntWalk.i64_in _ (by omega)
theorem B8 {a:Nat} (c:UInt8) (ha:a < 4294967296):jI .u32 (AQ .u32 (a:Int) (bN .u32 (c.toNat:Int))) 16777619=((gr a c:Nat):Int):=by
 have hc:c.toNat < 256:=c.toNat_lt;have hx:=HA ha hc;have e1:bN .u32 (c.toNat:Int)=(c.toNat:Int):=IntWalk.u32_in _ (by omega);have e2:AQ .u32 (a:Int) (c.toNat:Int)=((a ^^^ c.toNat:Nat):Int):=by
  unfold AQ;have:(BitVec.ofInt IntKind.u32.bits (a:Int) ^^^ BitVec.ofInt IntKind.u32.bits (c.toNat:Int)).toNat=a ^^^ c.toNat:=by
   rw [iR,iR,BitVec.toNat_xor,BitVec.toNat_ofNat,BitVec.toNat_ofNat];have h32:2 ^ IntKind.u32.bits=4294967296:=by decide
   rw [h32,Nat.mod_eq_of_lt ha,Nat.mod_eq_of_lt (by omega)]
  rw [this];exact IntWalk.u32_in _ (by omega)
 rw [e1,e2];unfold jI gr;rw [IntKind.wrap_u32];omega
theorem TS (s:List UInt8) (hb:s.length<=aX):UB s=some ((),((((yV s:Nat):Int),()),())):=by
 have hbig:aX=140737488355328:=rfl;unfold UB;have h:=a6 (step:=fb tF) s (fun i (a:Nat)=>(s,((a:Nat):Int),((i:Nat):Int),())) (fun _ x a=>Sum.inl (gr a x)) (fun a=> .inl (s,((a:Nat):Int),(s.length:Int),())) (fun _ a=>a < 4294967296) (a0:=2166136261) (by decide) (fun i x a hx ha=>by
  have hlt:=aj hx;show tF s (a:Int) (i:Int)=_;unfold tF;rw [aH hx,aC hx,eD hx,aP (by omega),CV x ha]; rfl) (fun i x a a' hx ha hf=>by
  simp only [Sum.inl.injEq] at hf;rw [<- hf]; exact CW a x) (fun a ha=>by
  show tF s (a:Int) (s.length:Int)=_;unfold tF;rw [ax rfl]; rfl)
 rw [bP (fun x a=>gr a x)] at h;have h':Me s 2166136261 0=_:=h;rw [h']; rfl
theorem KE (s:List UInt8):yV s < 4294967296:=by
 have:∀ (s:List UInt8) (a:Nat),a < 4294967296->s.foldl gr a < 4294967296:=fun s=>by
  induction s with
  | nil=>exact fun a h=>h
  | cons c r ih=>exact fun a _=>ih _ (CW a c)
 exact this s _ (by decide)
theorem To (s:List UInt8) (hb:s.length<=aX):UL s=some ((),((((yV s:Nat):Int),()),())):=by
 have hbig:aX=140737488355328:=rfl;unfold UL;have h:=a6 (step:=cW vJ) s (fun i (a:Nat)=>(s,((a:Nat):Int),ae s,((i:Nat):Int),())) (fun _ x a=>Sum.inl (gr a x)) (fun a=> .inl (s,((a:Nat):Int),ae s,(s.length:Int),())) (fun _ a=>a < 4294967296) (a0:=2166136261) (by decide) (fun i x a hx ha=>by
  have hlt:=aj hx;show vJ s (a:Int) (ae s) (i:Int)=_;unfold vJ;rw [aH hx,aC hx,eD hx,aP (by omega),B8 x ha]; rfl) (fun i x a a' hx ha hf=>by
  simp only [Sum.inl.injEq] at hf;rw [<- hf]; exact CW a x) (fun a ha=>by
  show vJ s (a:Int) (ae s) (s.length:Int)=_;unfold vJ;rw [ax rfl]; rfl)
 rw [bP (fun x a=>gr a x)] at h;have h':MJ s 2166136261 (ae s) 0=_:=h;rw [h'];have:=KE s;have e:bN .i64 ((yV s:Nat):Int)=((yV s:Nat):Int):=IntWalk.i64_in _ (by omega);show some ((),((bN .i64 ((yV s:Nat):Int),()),()))=_;rw [e]
def aw (s:List UInt8) (n:Int):Int:=cond (au n 1) 0 (gH ((yV s:Nat):Int) n)
theorem qa (s:List UInt8) (n:Int) (hb:s.length<=aX):Nw s n=some ((),((aw s n,()),())):=by
 unfold Nw aw;rw [TS s hb];by_cases h:n < 1
 . rw [aF h]; rfl
 . rw [ay h];have:ak n 0=false:=by
    rw [Bool.eq_false_iff]; intro hh; rw [dW] at hh; omega
   dsimp only [cond_false,Option.bind_some];rw [this]; rfl
theorem zQ (s:List UInt8) (n:Int) (hb:s.length<=aX):QE s n=some ((),((aw s n,()),())):=by
 unfold QE aw;rw [To s hb];by_cases h:n < 1
 . rw [aF h]; rfl
 . rw [ay h];have:ak n 0=false:=by
    rw [Bool.eq_false_iff]; intro hh; rw [dW] at hh; omega
   dsimp only [cond_false,Option.bind_some];rw [this]; rfl
theorem rr (s:List UInt8) {n:Int} (h:1<=n):0<=aw s n/\aw s n < n:=by unfold aw;rw [ay (by omega)];show 0<=((yV s:Nat):Int).tmod n/\((yV s:Nat):Int).tmod n < n;rw [Int.tmod_eq_emod_of_nonneg (by omega)];exact ⟨Int.emod_nonneg _ (by omega),Int.emod_lt_of_pos _ (by omega)⟩
def jC (xs:List aN) (i:Nat) (x:aN):Bool:=cond (vF x) (cond (decide (0 < i)) (jU (gt ([],0,0,0,0,[],0,0,[],[],[],()) xs ((i:Int) - 1)).1 x.1) true) false
def zM (b:List aN):Bool:=cond (allI (jC b) 0 b) (bz (ae b) 6) false
def I4 (b:List aN):Prop:=b.length<=1048576/\∀ a∈b,jo a
theorem Ov (b:List aN) (hb:I4 b):RX (b,())=some ((),((zM b,()),())):=by
 have hbig:aX=140737488355328:=rfl;have hl:=hb.1;unfold RX;have h:=aE (step:=cW uu) b (fun i (_:Unit)=>(b,ae b,((i:Nat):Int),(b,()),())) (fun i x _=>bif jC b i x then Sum.inl () else .inr (.inr (false,()))) (fun _=> .inl (b,ae b,(b.length:Int),(b,()),())) (a0:=()) (fun i x a hx=>by
  have hlt:=aj hx;show uu b (ae b) (i:Int) (b,())=_;unfold uu jC;rw [aH hx,aC hx,aR _ hx];dsimp only [cond_true];rw [Ps x (hb.2 x (List.mem_of_getElem? hx)),aP (by omega)];dsimp only [Option.bind_some];cases vF x with
  | false=>rfl
  | true =>
    by_cases h0:0 < i
    . rw [aF (show (0:Int) < i by omega),aO (by omega) (by omega),il hx h0];dsimp only [cond_true,cond_false,Bool.not_true];have e:gt d92 b ((i:Int) - 1)=gt ([],0,0,0,0,[],0,0,[],[],[],()) b ((i:Int) - 1):=rfl;rw [e,decide_eq_true h0];cases jU (gt ([],0,0,0,0,[],0,0,[],[],[],()) b ((i:Int) - 1)).1 x.1 <;> rfl
    . rw [ay (show ¬ (0:Int) < i by omega),decide_eq_false h0]; rfl) (fun a=>by
  show uu b (ae b) (b.length:Int) (b,())=_;unfold uu;rw [ax rfl]; rfl)
 rw [cD] at h;have h':MI b (ae b) 0 (b,())=_:=h;dsimp only;rw [h'];unfold zM;cases allI (jC b) 0 b <;> rfl
theorem Pj (b:List aN) (hb:I4 b):Sa (b,())=some ((),((zM b,()),())):=by
 have hbig:aX=140737488355328:=rfl;have hl:=hb.1;unfold Sa;have h:=aE (step:=cW wD) b (fun i (_:Unit)=>(b,ae b,((i:Nat):Int),(b,()),())) (fun i x _=>bif jC b i x then Sum.inl () else .inr (.inr (false,()))) (fun _=> .inl (b,ae b,(b.length:Int),(b,()),())) (a0:=()) (fun i x a hx=>by
  have hlt:=aj hx;show wD b (ae b) (i:Int) (b,())=_;unfold wD jC;rw [aH hx,aC hx,aR _ hx];dsimp only [cond_true];rw [OA x (hb.2 x (List.mem_of_getElem? hx)),aP (by omega)];dsimp only [Option.bind_some];cases vF x with
  | false=>rfl
  | true =>
    by_cases h0:0 < i
    . rw [aF (show (0:Int) < i by omega),aO (by omega) (by omega),il hx h0];dsimp only [cond_true,cond_false,Bool.not_true];rw [sP];have e:gt d92 b ((i:Int) - 1)=gt ([],0,0,0,0,[],0,0,[],[],[],()) b ((i:Int) - 1):=rfl;rw [e,decide_eq_true h0];cases jU (gt ([],0,0,0,0,[],0,0,[],[],[],()) b ((i:Int) - 1)).1 x.1 <;> rfl
    . rw [ay (show ¬ (0:Int) < i by omega),decide_eq_false h0]; rfl) (fun a=>by
  show wD b (ae b) (b.length:Int) (b,())=_;unfold wD;rw [ax rfl]; rfl)
 rw [cD] at h;have h':Nh b (ae b) 0 (b,())=_:=h;dsimp only;rw [h'];unfold zM;cases allI (jC b) 0 b <;> rfl
abbrev dt (a b:aN):Bool:=jU a.1 b.1
theorem fe:JH dt:=J7 (fun (a:aN)=>a.1)
abbrev bH:Nat:=1099511627776
theorem Kt (a b:aN):∃ v,O0 a b=some ((),((v,()),()))/\au v 0=dt a b:=by
 unfold O0;cases h:jU a.1 b.1 with
 | true=>exact ⟨_,rfl,by show _=jU a.1 b.1; rw [h]; rfl⟩
 | false =>
   cases !(O4 a.1 b.1) with
   | true=>exact ⟨_,rfl,by show _=jU a.1 b.1; rw [h]; rfl⟩
   | false=>exact ⟨_,rfl,by show _=jU a.1 b.1; rw [h]; rfl⟩
theorem PV (P S:List aN) (x:aN) (b i:Int):∀ (n:Nat) (A1 A2:List aN),A1.length=n->(P ++ (A1 ++ x :: A2) ++ S).length<=bH ->
 ∃ B1 B2 j',A1=B1 ++ B2/\(∀ y∈B2,dt x y=true)/\(∀ C y,B1=C ++ [y]->dt x y=false) /\
  yT (P ++ (A1 ++ x :: A2) ++ S) (P.length:Int) b () i ((P.length + A1.length:Nat):Int)=some (.inl (P ++ (B1 ++ x :: (B2 ++ A2)) ++ S,(P.length:Int),b,(),i,j',())):=by
 intro n;induction n with
 | zero => intro A1 A2 hn hl;have:A1=[]:=List.length_eq_zero_iff.1 hn;subst this;refine ⟨[],[],((P.length + 0:Nat):Int),rfl,fun y hy=>by simp at hy,fun C y h=>by simp at h,aJ _ ?_⟩;show nO (P ++ ([] ++ x :: A2) ++ S) (P.length:Int) b () i ((P.length + 0:Nat):Int)=_;unfold nO;rw [ay (by omega)];rfl
 | succ n ih =>
   intro A1 A2 hn hl;obtain ⟨B,y,rfl⟩:=th (a:=A1) (fun h=>by subst h; simp at hn);have hB:B.length=n:=by simpa using hn
   simp only [bH,List.length_append,List.length_cons,List.length_nil] at hl;have e0:P ++ (B ++ [y] ++ x :: A2) ++ S=(P ++ B) ++ y :: x :: (A2 ++ S):=by simp
   have e1:P ++ (B ++ [y] ++ x :: A2) ++ S=(P ++ B ++ [y]) ++ x :: (A2 ++ S):=by simp
   have hj:((P.length + (B ++ [y]).length:Nat):Int)=((P ++ B ++ [y]).length:Int):=by simp <;> omega
   have hj1:aG .i64 ((P.length + (B ++ [y]).length:Nat):Int) 1=((P ++ B).length:Int):=by rw [aO (by simp <;> omega) (by simp <;> omega)]; simp <;> omega
   obtain ⟨v,hv1,hv2⟩:=Kt x y
   have hstep:nO (P ++ (B ++ [y] ++ x :: A2) ++ S) (P.length:Int) b () i ((P.length + (B ++ [y]).length:Nat):Int) =
    cond (dt x y) (some (.inl (P ++ (B ++ x :: (y :: A2)) ++ S,(P.length:Int),b,(),i,((P.length + B.length:Nat):Int),()))) (some (.inr (.inl (P ++ (B ++ [y] ++ x :: A2) ++ S,(P.length:Int),b,(),i,((P.length + (B ++ [y]).length:Nat):Int),())))):=by
    unfold nO;have i1:a7 ((P.length + (B ++ [y]).length:Nat):Int) (P ++ (B ++ [y] ++ x :: A2) ++ S)=true:=by rw [e1]; exact gW _ _ _ hj
    have i2:a7 ((P ++ B).length:Int) (P ++ (B ++ [y] ++ x :: A2) ++ S)=true:=by rw [e0]; exact gW _ _ _ rfl
    have a1:zF ((P.length + (B ++ [y]).length:Nat):Int) (P ++ (B ++ [y] ++ x :: A2) ++ S) ((P.length + (B ++ [y]).length:Nat):Int)=true:=by rw [e1]; exact jM _ _ _ hj
    have a2:zF ((P ++ B).length:Int) (P ++ (B ++ [y] ++ x :: A2) ++ S) ((P ++ B).length:Int)=true:=by rw [e0]; exact jM _ _ _ rfl
    have t1:gt d92 (P ++ (B ++ [y] ++ x :: A2) ++ S) ((P.length + (B ++ [y]).length:Nat):Int)=x:=by rw [e1]; exact ux _ _ _ _ hj
    have t2:gt d92 (P ++ (B ++ [y] ++ x :: A2) ++ S) ((P ++ B).length:Int)=y:=by rw [e0]; exact ux _ _ _ _ rfl
    rw [aF (by simp <;> omega)];dsimp only [cond_true];rw [hj1,i1,i2,t1,t2,a1,a2,hv1];dsimp only [cond_true,Option.bind_some];rw [hv2];cases dt x y with
    | false=>rfl
    | true =>
      have sw:FZ d92 (P ++ (B ++ [y] ++ x :: A2) ++ S) ((P.length + (B ++ [y]).length:Nat):Int) ((P ++ B).length:Int)=P ++ (B ++ x :: (y :: A2)) ++ S:=by
       rw [e0];unfold FZ;have:=xr d92 (P ++ B) y x (A2 ++ S);have k1:((P.length + (B ++ [y]).length:Nat):Int).toNat=(P ++ B).length + 1:=by simp <;> omega
       rw [k1,Int.toNat_natCast,this];simp
      rw [sw];have k2:((P ++ B).length:Int)=((P.length + B.length:Nat):Int):=by simp
      rw [k2]
   cases hc:dt x y with
   | false => rw [hc] at hstep;refine ⟨B ++ [y],[],((P.length + (B ++ [y]).length:Nat):Int),by simp,fun y hy=>by simp at hy,fun C z h => ?_,aJ _ hstep⟩;have:=List.append_inj' h rfl;have h2:=this.2;simp only [List.cons.injEq,and_true] at h2;rw [<- h2]; exact hc
   | true =>
     rw [hc] at hstep;obtain ⟨B1,B2,j',q1,q2,q3,q4⟩:=ih B (y :: A2) hB (by simp [bH]; omega);refine ⟨B1,B2 ++ [y],j',by rw [q1]; simp,fun z hz => ?_,q3,aQ _ hstep ?_⟩
     . rcases List.mem_append.1 hz with hz | hz
       . exact q2 z hz
       . simp only [List.mem_singleton] at hz; subst hz; exact hc
     . have:B2 ++ [y] ++ A2=B2 ++ y :: A2:=by simp
       rw [this];exact q4
theorem LI (P S:List aN) (b:Int):∀ (n:Nat) (A R:List aN),R.length=n->lx dt A->b=((P.length + A.length + R.length:Nat):Int)->(P ++ (A ++ R) ++ S).length<=bH ->
 ∃ M,lx dt M/\eo dt (A ++ R) M/\ot (P ++ (A ++ R) ++ S) (P.length:Int) b () ((P.length + A.length:Nat):Int)=some (.inl (P ++ M ++ S,(P.length:Int),b,(),b,())):=by
 intro n;induction n with
 | zero =>
   intro A R hn hA hb hl;have:R=[]:=List.length_eq_zero_iff.1 hn;subst this;have hb':b=((P.length + A.length:Nat):Int):=by simpa using hb
   refine ⟨A,hA,by rw [List.append_nil]; exact eo.refl _,aJ _ ?_⟩;show lu (P ++ (A ++ []) ++ S) (P.length:Int) b () ((P.length + A.length:Nat):Int)=_;unfold lu;rw [ay (by omega),List.append_nil,<- hb'];rfl
 | succ n ih =>
   intro A R hn hA hb hl;cases R with
   | nil=>simp at hn
   | cons x R =>
     have hR:R.length=n:=by simpa using hn
     have hl':=hl;simp only [bH,List.length_append,List.length_cons] at hl';have e0:P ++ (A ++ x :: R) ++ S=P ++ (A ++ x :: []) ++ (R ++ S):=by simp
     obtain ⟨B1,B2,j',q1,q2,q3,q4⟩:=PV P (R ++ S) x b ((P.length + A.length:Nat):Int) A.length A [] rfl (by rw [<- e0]; exact hl);rw [List.append_nil,<- e0] at q4;subst q1;have hs:=cq.1 hA;have hlast:∀ y∈B1,dt x y=false:=fun y hy=>by
      obtain ⟨C,z,rfl⟩:=th (a:=B1) (fun h=>by subst h; simp at hy);have hz:=q3 C z rfl;rcases List.mem_append.1 hy with hy | hy
      . exact fe.le_trans ((cq.1 hs.1).2.2 y hy z (by simp)) hz
      . simp only [List.mem_singleton] at hy; subst hy; exact hz
     have hsrt:lx dt (B1 ++ x :: B2):=by
      refine cq.2 ⟨hs.1,List.pairwise_cons.2 ⟨fun y hy => ?_,hs.2.1⟩,fun y hy z hz => ?_⟩
      . cases h:dt y x with
        | false=>rfl
        | true => have:=fe.trans _ _ _ h (q2 y hy);rw [fe.irr] at this;simp at this
      . rcases List.mem_cons.1 hz with rfl | hz
        . exact hlast y hy
        . exact hs.2.2 y hy z hz
     have hstb:eo dt (B1 ++ B2 ++ x :: R) (B1 ++ x :: B2 ++ R):=by
      have h1:eo dt (B2 ++ [x]) ([x] ++ B2):=eo.swap fe fun y hy z hz=>by simp only [List.mem_singleton] at hz; subst hz; exact q2 y hy
      have h2:=((eo.refl B1).append h1).append (eo.refl R);simpa using h2
     obtain ⟨M,m1,m2,m3⟩:=ih (B1 ++ x :: B2) R hR hsrt (by rw [hb]; simp only [List.length_append,List.length_cons]; omega) (by simp only [bH,List.length_append,List.length_cons] at hl' ⊢; omega);refine ⟨M,m1,hstb.trans m2,aQ _ (x':=(P ++ (B1 ++ x :: B2 ++ R) ++ S,(P.length:Int),b,(),((P.length + (B1 ++ x :: B2).length:Nat):Int),())) ?_ m3⟩;show lu (P ++ (B1 ++ B2 ++ x :: R) ++ S) (P.length:Int) b () ((P.length + (B1 ++ B2).length:Nat):Int)=_;unfold lu;rw [aF (by rw [hb]; simp only [List.length_append,List.length_cons]; omega),q4];dsimp only [cond_true,Option.bind_some,Sum.elim_inl];have k1:aq .i64 ((P.length + (B1 ++ B2).length:Nat):Int) 1=((P.length + (B1 ++ x :: B2).length:Nat):Int):=by rw [bd (by omega) (by simp only [List.length_append] at *; omega)];simp only [List.length_append,List.length_cons]; omega
     rw [k1];simp
theorem NK (P L S:List aN) (hl:(P ++ L ++ S).length<=bH):∃ M,lx dt M/\eo dt L M/\EB (P ++ L ++ S) (P.length:Int) ((P.length + L.length:Nat):Int)=some (((P ++ M ++ S,()),()),()):=by
 have hl':=hl;simp only [bH,List.length_append] at hl';unfold EB;have k0:aq .i64 (P.length:Int) 1=((P.length + 1:Nat):Int):=by rw [bd (by omega) (by omega)]; omega
 rw [k0];cases L with
 | nil => refine ⟨[],Dq,eo.refl _,?_⟩;have:ot (P ++ [] ++ S) (P.length:Int) ((P.length + 0:Nat):Int) () ((P.length + 1:Nat):Int)=some (.inl (P ++ [] ++ S,(P.length:Int),((P.length + 0:Nat):Int),(),((P.length + 1:Nat):Int),())):=aJ _ (by show lu (P ++ [] ++ S) (P.length:Int) ((P.length + 0:Nat):Int) () ((P.length + 1:Nat):Int)=_;unfold lu;rw [ay (by omega)]; rfl);show Option.bind (ot (P ++ [] ++ S) (P.length:Int) ((P.length + 0:Nat):Int) () ((P.length + 1:Nat):Int)) _=_;rw [this];rfl
 | cons x L => obtain ⟨M,m1,m2,m3⟩:=LI P S ((P.length + (x :: L).length:Nat):Int) L.length [x] L rfl (JN x) (by simp only [List.length_cons,List.length_nil]; omega) (by simpa using hl);refine ⟨M,m1,m2,?_⟩;have m3':ot (P ++ x :: L ++ S) (P.length:Int) ((P.length + (x :: L).length:Nat):Int) () ((P.length + 1:Nat):Int)=_:=m3;rw [m3'];rfl
theorem Iw {α:Type} (d:α) (u:List α) (p:α) (v:List α) (q:α) (w:List α):j8 d (u ++ p :: (v ++ q :: w)) u.length (u.length + (1 + v.length))=u ++ q :: (v ++ p :: w):=by
 unfold j8;have h1:(u ++ p :: (v ++ q :: w)).getD u.length d=p:=by simp [List.getD]
 have h2:(u ++ p :: (v ++ q :: w)).getD (u.length + (1 + v.length)) d=q:=by rw [List.getD,List.getElem?_append_right (by omega),show u.length + (1 + v.length) - u.length=v.length + 1 by omega,List.getElem?_cons_succ,List.getElem?_append_right (by omega),Nat.sub_self];rfl
 rw [h1,h2,List.set_append,if_neg (by omega),Nat.sub_self,List.set_append,if_neg (by omega),show u.length + (1 + v.length) - u.length=v.length + 1 by omega];show u ++ (q :: (v ++ q :: w)).set (v.length + 1) p=_;rw [List.set_cons_succ,List.set_append,if_neg (by omega),Nat.sub_self];rfl
theorem F4 (P Y S:List aN):∀ (n:Nat) (Z1 X2 X1 Z2:List aN),X2.length=n->Z2.length=n->X1.length=Z1.length->(P ++ (Z1 ++ X2) ++ Y ++ (X1 ++ Z2) ++ S).length<=bH ->
 vM (P ++ (Z1 ++ X2) ++ Y ++ (X1 ++ Z2) ++ S) (P.length:Int) ((P.length + (Z1.length + n) + Y.length:Nat):Int) ((Z1.length + n:Nat):Int) (Z1.length:Int) =
  some (.inl (P ++ (Z1 ++ Z2) ++ Y ++ (X1 ++ X2) ++ S,(P.length:Int),((P.length + (Z1.length + n) + Y.length:Nat):Int),((Z1.length + n:Nat):Int),((Z1.length + n:Nat):Int),())):=by
 intro n;induction n with
 | zero => intro Z1 X2 X1 Z2 h1 h2 h3 hl;have e1:X2=[]:=List.length_eq_zero_iff.1 h1;have e2:Z2=[]:=List.length_eq_zero_iff.1 h2;subst e1; subst e2;refine aJ _ ?_;show oq (P ++ (Z1 ++ []) ++ Y ++ (X1 ++ []) ++ S) (P.length:Int) ((P.length + (Z1.length + 0) + Y.length:Nat):Int) ((Z1.length + 0:Nat):Int) (Z1.length:Int)=_;unfold oq;rw [ay (by omega)];rfl
 | succ n ih =>
   intro Z1 X2 X1 Z2 h1 h2 h3 hl;cases X2 with
   | nil=>simp at h1
   | cons x X2 =>
   cases Z2 with
   | nil=>simp at h2
   | cons z Z2 =>
   have hx:X2.length=n:=by simpa using h1
   have hz:Z2.length=n:=by simpa using h2
   have hl':=hl;simp only [bH,List.length_append,List.length_cons] at hl';have ih':=ih (Z1 ++ [z]) X2 (X1 ++ [x]) Z2 hx hz (by simp [h3]) (by simp only [bH,List.length_append,List.length_cons,List.length_nil]; omega);have e1:((P.length + ((Z1 ++ [z]).length + n) + Y.length:Nat):Int)=((P.length + (Z1.length + (n + 1)) + Y.length:Nat):Int):=by simp only [List.length_append,List.length_cons,List.length_nil]; omega
   have e2:(((Z1 ++ [z]).length + n:Nat):Int)=((Z1.length + (n + 1):Nat):Int):=by simp only [List.length_append,List.length_cons,List.length_nil]; omega
   have e3:(((Z1 ++ [z]).length:Nat):Int)=aq .i64 (Z1.length:Int) 1:=by rw [bd (by omega) (by omega)]; simp
   rw [e1,e2,e3] at ih';have ef:P ++ (Z1 ++ [z] ++ Z2) ++ Y ++ (X1 ++ [x] ++ X2) ++ S=P ++ (Z1 ++ z :: Z2) ++ Y ++ (X1 ++ x :: X2) ++ S:=by simp
   rw [ef] at ih';refine aQ _ ?_ ih';show oq (P ++ (Z1 ++ x :: X2) ++ Y ++ (X1 ++ z :: Z2) ++ S) (P.length:Int) ((P.length + (Z1.length + (n + 1)) + Y.length:Nat):Int) ((Z1.length + (n + 1):Nat):Int) (Z1.length:Int)=_;have d1:P ++ (Z1 ++ x :: X2) ++ Y ++ (X1 ++ z :: Z2) ++ S=(P ++ Z1) ++ x :: ((X2 ++ Y ++ X1) ++ z :: (Z2 ++ S)):=by simp
   have d2:P ++ (Z1 ++ x :: X2) ++ Y ++ (X1 ++ z :: Z2) ++ S=(P ++ Z1 ++ x :: (X2 ++ Y ++ X1)) ++ z :: (Z2 ++ S):=by simp
   have k1:aq .i64 ((P.length + (Z1.length + (n + 1)) + Y.length:Nat):Int) (Z1.length:Int)=((P ++ Z1 ++ x :: (X2 ++ Y ++ X1)).length:Int):=by rw [bd (by omega) (by omega)];simp only [List.length_append,List.length_cons]; omega
   have k2:aq .i64 (P.length:Int) (Z1.length:Int)=((P ++ Z1).length:Int):=by rw [bd (by omega) (by omega)];simp only [List.length_append]; omega
   unfold oq;rw [aF (by omega),k1,k2];dsimp only [cond_true];have i1:a7 ((P ++ Z1 ++ x :: (X2 ++ Y ++ X1)).length:Int) (P ++ (Z1 ++ x :: X2) ++ Y ++ (X1 ++ z :: Z2) ++ S)=true:=by rw [d2]; exact gW _ _ _ rfl
   have i2:a7 ((P ++ Z1).length:Int) (P ++ (Z1 ++ x :: X2) ++ Y ++ (X1 ++ z :: Z2) ++ S)=true:=by rw [d1]; exact gW _ _ _ rfl
   have a1:zF ((P ++ Z1 ++ x :: (X2 ++ Y ++ X1)).length:Int) (P ++ (Z1 ++ x :: X2) ++ Y ++ (X1 ++ z :: Z2) ++ S) ((P ++ Z1 ++ x :: (X2 ++ Y ++ X1)).length:Int)=true:=by rw [d2]; exact jM _ _ _ rfl
   have a2:zF ((P ++ Z1).length:Int) (P ++ (Z1 ++ x :: X2) ++ Y ++ (X1 ++ z :: Z2) ++ S) ((P ++ Z1).length:Int)=true:=by rw [d1]; exact jM _ _ _ rfl
   rw [i1,i2,a1,a2];dsimp only [cond_true];have sw:FZ d92 (P ++ (Z1 ++ x :: X2) ++ Y ++ (X1 ++ z :: Z2) ++ S) ((P ++ Z1).length:Int) ((P ++ Z1 ++ x :: (X2 ++ Y ++ X1)).length:Int)=P ++ (Z1 ++ [z] ++ X2) ++ Y ++ (X1 ++ [x] ++ Z2) ++ S:=by
    unfold FZ;rw [Int.toNat_natCast,Int.toNat_natCast,d1];have k3:(P ++ Z1 ++ x :: (X2 ++ Y ++ X1)).length=(P ++ Z1).length + (1 + (X2 ++ Y ++ X1).length):=by simp only [List.length_append,List.length_cons]; omega
    rw [k3,Iw];simp
   rw [sw]
theorem Hk (P X Y Z S:List aN) (hx:X.length=Z.length) (hl:(P ++ X ++ Y ++ Z ++ S).length<=bH):zc (P ++ X ++ Y ++ Z ++ S) (P.length:Int) ((P.length + X.length + Y.length:Nat):Int) (X.length:Int)=some (((P ++ Z ++ Y ++ X ++ S,()),()),()):=by unfold zc;have h:=F4 P Y S X.length [] X [] Z rfl hx.symm rfl hl;simp only [List.nil_append,List.length_nil,Nat.zero_add] at h;have h':vM (P ++ X ++ Y ++ Z ++ S) (P.length:Int) ((P.length + X.length + Y.length:Nat):Int) (X.length:Int) 0=_:=h;rw [h'];rfl
theorem F3:∀ (n:Nat) (P X Y S:List aN) (m:Nat),X.length + Y.length=n->0 < X.length->0 < Y.length->m=P.length + X.length->(P ++ X ++ Y ++ S).length<=bH ->
 ∃ (t:List aN) (i:Nat),i<=m/\i<=n/\Ih (P ++ X ++ Y ++ S) (m:Int) () (X.length:Int) (Y.length:Int)=some (.inl (t,(m:Int),(),(i:Int),(i:Int),())) /\
  zc t ((m - i:Nat):Int) (m:Int) (i:Int)=some (((P ++ Y ++ X ++ S,()),()),()):=by
 intro n;induction n using Nat.strongRecOn with
 | _ n ih =>
 intro P X Y S m hn hX hY hm hl;subst hm;have hl':=hl;simp only [bH,List.length_append] at hl';rcases Nat.lt_trichotomy X.length Y.length with h | h | h
 . -- the second is longer: its end comes ahead
   obtain ⟨Y1,Y2,rfl,hY2⟩:∃ Y1 Y2,Y=Y1 ++ Y2/\Y2.length=X.length:=⟨Y.take (Y.length - X.length),Y.drop (Y.length - X.length),(List.take_append_drop _ _).symm,by rw [List.length_drop]; omega⟩;simp only [List.length_append] at h hn hl' hY;obtain ⟨t,i,i1,i2,q1,q2⟩:=ih (Y2.length + Y1.length) (by omega) P Y2 Y1 (X ++ S) (P.length + X.length) rfl (by omega) (by omega) (by omega) (by simp only [bH,List.length_append]; omega);refine ⟨t,i,i1,by omega,aQ _ ?_ q1,by rw [q2]; simp⟩;show l5 (P ++ X ++ (Y1 ++ Y2) ++ S) ((P.length + X.length:Nat):Int) () (X.length:Int) ((Y1 ++ Y2).length:Int)=_;have hs:=Hk P X Y1 Y2 S (by omega) (by simp only [bH,List.length_append]; omega);have e0:P ++ X ++ (Y1 ++ Y2) ++ S=P ++ X ++ Y1 ++ Y2 ++ S:=by simp
   have k0:ak (X.length:Int) ((Y1 ++ Y2).length:Int)=false:=by rw [Bool.eq_false_iff]; intro hh; rw [dW] at hh; simp only [List.length_append] at hh; omega
   have k1:aG .i64 ((P.length + X.length:Nat):Int) (X.length:Int)=(P.length:Int):=by rw [aO (by omega) (by omega)]; omega
   have k2:aq .i64 ((P.length + X.length:Nat):Int) ((Y1 ++ Y2).length:Int)=((P.length + X.length + (Y1 ++ Y2).length:Nat):Int):=by rw [bd (by omega) (by simp only [List.length_append]; omega)]; omega
   have k3:aG .i64 ((P.length + X.length + (Y1 ++ Y2).length:Nat):Int) (X.length:Int)=((P.length + X.length + Y1.length:Nat):Int):=by rw [aO (by omega) (by simp only [List.length_append]; omega)]; simp only [List.length_append]; omega
   have k4:aG .i64 ((Y1 ++ Y2).length:Int) (X.length:Int)=(Y1.length:Int):=by rw [aO (by omega) (by simp only [List.length_append]; omega)]; simp only [List.length_append]; omega
   unfold l5;rw [k0,ay (by simp only [List.length_append]; omega)];dsimp only [cond_true,cond_false,Bool.not_false];rw [k1,k2,k3,k4,e0,hs];dsimp only [Option.bind_some];rw [hY2];simp
 . -- alike
   refine ⟨P ++ X ++ Y ++ S,X.length,by omega,by omega,aJ _ ?_,?_⟩
   . show l5 (P ++ X ++ Y ++ S) ((P.length + X.length:Nat):Int) () (X.length:Int) (Y.length:Int)=_;unfold l5;rw [<- h,bq];rfl
   . have hs:=Hk P X [] Y S h (by simp only [bH,List.length_append,List.length_nil]; omega);rw [List.append_nil,List.append_nil,List.length_nil,Nat.add_zero] at hs;rw [show P.length + X.length - X.length=P.length by omega];exact hs
 . -- the first is longer: its begin goes behind
   obtain ⟨X1,X2,rfl,hX1⟩:∃ X1 X2,X=X1 ++ X2/\X1.length=Y.length:=⟨X.take Y.length,X.drop Y.length,(List.take_append_drop _ _).symm,by rw [List.length_take]; omega⟩;simp only [List.length_append] at h hn hl' hX;obtain ⟨t,i,i1,i2,q1,q2⟩:=ih (X2.length + X1.length) (by omega) (P ++ Y) X2 X1 S (P.length + (X1 ++ X2).length) rfl (by omega) (by omega) (by simp only [List.length_append]; omega) (by simp only [bH,List.length_append]; omega);refine ⟨t,i,i1,by omega,aQ _ ?_ q1,by rw [q2]; simp⟩;show l5 (P ++ (X1 ++ X2) ++ Y ++ S) ((P.length + (X1 ++ X2).length:Nat):Int) () ((X1 ++ X2).length:Int) (Y.length:Int)=_;have hs:=Hk P X1 X2 Y S hX1 (by simp only [bH,List.length_append]; omega);have e0:P ++ (X1 ++ X2) ++ Y ++ S=P ++ X1 ++ X2 ++ Y ++ S:=by simp
   have k0:ak ((X1 ++ X2).length:Int) (Y.length:Int)=false:=by rw [Bool.eq_false_iff]; intro hh; rw [dW] at hh; simp only [List.length_append] at hh; omega
   have k1:aG .i64 ((P.length + (X1 ++ X2).length:Nat):Int) ((X1 ++ X2).length:Int)=(P.length:Int):=by rw [aO (by omega) (by simp only [List.length_append]; omega)]; omega
   have k3:((P.length + (X1 ++ X2).length:Nat):Int)=((P.length + X1.length + X2.length:Nat):Int):=by simp only [List.length_append]; omega
   have k4:aG .i64 ((X1 ++ X2).length:Int) (Y.length:Int)=(X2.length:Int):=by rw [aO (by omega) (by simp only [List.length_append]; omega)]; simp only [List.length_append]; omega
   unfold l5;rw [k0,aF (by simp only [List.length_append]; omega)];dsimp only [cond_true,cond_false,Bool.not_false];rw [k1,k4,e0,<- hX1];have hs':zc (P ++ X1 ++ X2 ++ Y ++ S) (P.length:Int) ((P.length + (X1 ++ X2).length:Nat):Int) (X1.length:Int)=some (((P ++ Y ++ X2 ++ X1 ++ S,()),()),()):=by rw [k3]; exact hs
   rw [hs'];dsimp only [Option.bind_some];simp
theorem Tv (P X Y S:List aN) (hX:0 < X.length) (hY:0 < Y.length) (hl:(P ++ X ++ Y ++ S).length<=bH) :
 zm (P ++ X ++ Y ++ S) (P.length:Int) ((P.length + X.length:Nat):Int) ((P.length + X.length + Y.length:Nat):Int)=some (((P ++ Y ++ X ++ S,()),()),()):=by
 have hl':=hl;simp only [bH,List.length_append] at hl';obtain ⟨t,i,i1,i2,q1,q2⟩:=F3 (X.length + Y.length) P X Y S (P.length + X.length) rfl hX hY rfl hl;unfold zm;have k1:aG .i64 ((P.length + X.length:Nat):Int) (P.length:Int)=(X.length:Int):=by rw [aO (by omega) (by omega)]; omega
 have k2:aG .i64 ((P.length + X.length + Y.length:Nat):Int) ((P.length + X.length:Nat):Int)=(Y.length:Int):=by rw [aO (by omega) (by omega)]; omega
 rw [k1,k2,q1];dsimp only [Option.bind_some,Sum.elim_inl];have k3:aG .i64 ((P.length + X.length:Nat):Int) (i:Int)=((P.length + X.length - i:Nat):Int):=by rw [aO (by omega) (by omega)]; omega
 rw [k3,q2];rfl
theorem JB (P S:List aN) (x:aN) (i:Nat):∀ (n:Nat) (D U:List aN),U.length=n->i=P.length + D.length + U.length + 1->(P ++ (D ++ x :: U) ++ S).length<=bH ->
 ∃ k',uQ (P ++ (D ++ x :: U) ++ S) (i:Int) ((P.length + D.length:Nat):Int)=some (.inl (P ++ (D ++ U ++ [x]) ++ S,(i:Int),k',())):=by
 intro n;induction n with
 | zero =>
   intro D U hn hi hl;have:U=[]:=List.length_eq_zero_iff.1 hn;subst this;simp only [List.length_nil] at hi;simp only [bH,List.length_append,List.length_cons] at hl;refine ⟨((P.length + D.length:Nat):Int),aJ _ ?_⟩;show n9 (P ++ (D ++ [x]) ++ S) (i:Int) ((P.length + D.length:Nat):Int)=_;unfold n9;have k1:aG .i64 (i:Int) 1=((P.length + D.length:Nat):Int):=by rw [aO (by omega) (by omega)]; omega
   rw [k1,ay (by omega),List.append_nil];rfl
 | succ n ih =>
   intro D U hn hi hl;cases U with
   | nil=>simp at hn
   | cons u U =>
     have hU:U.length=n:=by simpa using hn
     simp only [List.length_cons] at hi;have hl':=hl;simp only [bH,List.length_append,List.length_cons] at hl';obtain ⟨k',hk⟩:=ih (D ++ [u]) U hU (by simp only [List.length_append,List.length_cons,List.length_nil]; omega) (by simp only [bH,List.length_append,List.length_cons,List.length_nil]; omega);refine ⟨k',?_⟩;have ef:P ++ (D ++ [u] ++ U ++ [x]) ++ S=P ++ (D ++ u :: U ++ [x]) ++ S:=by simp
     rw [ef] at hk;refine aQ _ ?_ hk;show n9 (P ++ (D ++ x :: u :: U) ++ S) (i:Int) ((P.length + D.length:Nat):Int)=_;have d1:P ++ (D ++ x :: u :: U) ++ S=(P ++ D) ++ x :: u :: (U ++ S):=by simp
     have d2:P ++ (D ++ x :: u :: U) ++ S=(P ++ D ++ [x]) ++ u :: (U ++ S):=by simp
     have k1:aG .i64 (i:Int) 1=((P.length + D.length + U.length + 1:Nat):Int):=by rw [aO (by omega) (by omega)]; omega
     have k2:((P.length + D.length:Nat):Int)=((P ++ D).length:Int):=by simp
     have k3:aq .i64 ((P ++ D).length:Int) 1=((P ++ D ++ [x]).length:Int):=by rw [bd (by omega) (by simp only [List.length_append]; omega)]; simp only [List.length_append,List.length_cons,List.length_nil]; omega
     unfold n9;rw [k1,aF (by omega),k2,k3];dsimp only [cond_true];have i1:a7 ((P ++ D ++ [x]).length:Int) (P ++ (D ++ x :: u :: U) ++ S)=true:=by rw [d2]; exact gW _ _ _ rfl
     have i2:a7 ((P ++ D).length:Int) (P ++ (D ++ x :: u :: U) ++ S)=true:=by rw [d1]; exact gW _ _ _ rfl
     have a1:zF ((P ++ D ++ [x]).length:Int) (P ++ (D ++ x :: u :: U) ++ S) ((P ++ D ++ [x]).length:Int)=true:=by rw [d2]; exact jM _ _ _ rfl
     have a2:zF ((P ++ D).length:Int) (P ++ (D ++ x :: u :: U) ++ S) ((P ++ D).length:Int)=true:=by rw [d1]; exact jM _ _ _ rfl
     rw [i1,i2,a1,a2];dsimp only [cond_true];have sw:FZ d92 (P ++ (D ++ x :: u :: U) ++ S) ((P ++ D).length:Int) ((P ++ D ++ [x]).length:Int)=P ++ (D ++ [u] ++ x :: U) ++ S:=by
      unfold FZ;have e1:(P ++ D ++ [x]).length=(P ++ D).length + 1:=by simp only [List.length_append,List.length_cons,List.length_nil]
      rw [Int.toNat_natCast,Int.toNat_natCast,e1,d1,CS];simp
     rw [sw];have k4:((P ++ D ++ [x]).length:Int)=((P.length + (D ++ [u]).length:Nat):Int):=by simp only [List.length_append,List.length_cons,List.length_nil]; omega
     rw [k4]
theorem GU (P S:List aN) (y:aN):∀ (n:Nat) (D U:List aN),D.length=n->(P ++ (D ++ y :: U) ++ S).length<=bH ->
 ∃ k',tQ (P ++ (D ++ y :: U) ++ S) (P.length:Int) ((P.length + D.length:Nat):Int)=some (.inl (P ++ (y :: (D ++ U)) ++ S,(P.length:Int),k',())):=by
 intro n;induction n with
 | zero => intro D U hn hl;have:D=[]:=List.length_eq_zero_iff.1 hn;subst this;refine ⟨((P.length + 0:Nat):Int),aJ _ ?_⟩;show oE (P ++ ([] ++ y :: U) ++ S) (P.length:Int) ((P.length + 0:Nat):Int)=_;unfold oE;rw [ay (by omega)];rfl
 | succ n ih =>
   intro D U hn hl;obtain ⟨B,u,rfl⟩:=th (a:=D) (fun h=>by subst h; simp at hn);have hB:B.length=n:=by simpa using hn
   have hl':=hl;simp only [bH,List.length_append,List.length_cons,List.length_nil] at hl';obtain ⟨k',hk⟩:=ih B (u :: U) hB (by simp only [bH,List.length_append,List.length_cons]; omega);refine ⟨k',?_⟩;have ef:P ++ (y :: (B ++ u :: U)) ++ S=P ++ (y :: (B ++ [u] ++ U)) ++ S:=by simp
   rw [ef] at hk;refine aQ _ ?_ hk;show oE (P ++ (B ++ [u] ++ y :: U) ++ S) (P.length:Int) ((P.length + (B ++ [u]).length:Nat):Int)=_;have d1:P ++ (B ++ [u] ++ y :: U) ++ S=(P ++ B) ++ u :: y :: (U ++ S):=by simp
   have d2:P ++ (B ++ [u] ++ y :: U) ++ S=(P ++ B ++ [u]) ++ y :: (U ++ S):=by simp
   have k1:aG .i64 ((P.length + (B ++ [u]).length:Nat):Int) 1=((P ++ B).length:Int):=by rw [aO (by simp only [List.length_append,List.length_cons,List.length_nil]; omega) (by simp only [List.length_append,List.length_cons,List.length_nil]; omega)];simp only [List.length_append,List.length_cons,List.length_nil]; omega
   have k2:((P.length + (B ++ [u]).length:Nat):Int)=((P ++ B ++ [u]).length:Int):=by simp only [List.length_append,List.length_cons,List.length_nil]; omega
   unfold oE;rw [k1,aF (by simp only [List.length_append,List.length_cons,List.length_nil]; omega),k2];dsimp only [cond_true];have i1:a7 ((P ++ B ++ [u]).length:Int) (P ++ (B ++ [u] ++ y :: U) ++ S)=true:=by rw [d2]; exact gW _ _ _ rfl
   have i2:a7 ((P ++ B).length:Int) (P ++ (B ++ [u] ++ y :: U) ++ S)=true:=by rw [d1]; exact gW _ _ _ rfl
   have a1:zF ((P ++ B ++ [u]).length:Int) (P ++ (B ++ [u] ++ y :: U) ++ S) ((P ++ B ++ [u]).length:Int)=true:=by rw [d2]; exact jM _ _ _ rfl
   have a2:zF ((P ++ B).length:Int) (P ++ (B ++ [u] ++ y :: U) ++ S) ((P ++ B).length:Int)=true:=by rw [d1]; exact jM _ _ _ rfl
   rw [i1,i2,a1,a2];dsimp only [cond_true];have sw:FZ d92 (P ++ (B ++ [u] ++ y :: U) ++ S) ((P ++ B ++ [u]).length:Int) ((P ++ B).length:Int)=P ++ (B ++ y :: u :: U) ++ S:=by
    unfold FZ;have e1:(P ++ B ++ [u]).length=(P ++ B).length + 1:=by simp only [List.length_append,List.length_cons,List.length_nil]
    rw [Int.toNat_natCast,Int.toNat_natCast,e1,d1,xr];simp
   rw [sw];have k4:((P ++ B).length:Int)=((P.length + B.length:Nat):Int):=by simp
   rw [k4]
theorem SZ (P S:List aN) (x:aN) (R:List aN) (hR:lx dt R) (hl:(P ++ x :: R ++ S).length<=bH):∃ n,n<=R.length/\(∀ y∈R.take n,dt y x=true)/\(∀ y∈R.drop n,dt y x=false) /\
 tC (P ++ x :: R ++ S) (P.length:Int) () ((P.length + 1:Nat):Int) ((P.length + 1 + R.length:Nat):Int)=some (.inl (P ++ x :: R ++ S,(P.length:Int),(),((P.length + 1 + n:Nat):Int),((P.length + 1 + n:Nat):Int),())):=by
 have hl':=hl;simp only [bH,List.length_append,List.length_cons] at hl';have e0:P ++ x :: R ++ S=(P ++ [x]) ++ R ++ S:=by simp
 have hpl:(P ++ [x]).length=P.length + 1:=by simp
 have hg:∀ q,q < R.length->(P ++ x :: R ++ S).getD (P.length + 1 + q) d92=R.getD q d92:=fun q hq=>by rw [e0,<- hpl]; exact qF _ _ _ _ hq
 have h:=bsearch (fun (z:(List aN)×Int×Unit×Int×Int×Unit)=>mz z.1 z.2.1 z.2.2.1 z.2.2.2.1 z.2.2.2.2.1) (fun lo hi=>(P ++ x :: R ++ S,(P.length:Int),(),(lo:Int),(hi:Int),())) (fun k=> .inl (P ++ x :: R ++ S,(P.length:Int),(),(k:Int),(k:Int),()))
  (fun h=>dt ((P ++ x :: R ++ S).getD h d92) x) (P.length + 1) (P.length + 1 + R.length) (fun h h' h1 h2 h3 hf=>by
    obtain ⟨q,rfl⟩:∃ q,h=P.length + 1 + q:=⟨h - (P.length + 1),by omega⟩;obtain ⟨q',rfl⟩:∃ q',h'=P.length + 1 + q':=⟨h' - (P.length + 1),by omega⟩;rw [hg q (by omega)] at hf;rw [hg q' (by omega)];rcases fe.neg _ (R.getD q' d92) _ hf with h4 | h4
    . rw [ig fe _ hR (by omega) (by omega)] at h4; simp at h4
    . exact h4) (fun lo hi h1 h2 h3=>by
    show mz (P ++ x :: R ++ S) (P.length:Int) () (lo:Int) (hi:Int)=_;unfold mz;obtain ⟨v,hv1,hv2⟩:=Kt ((P ++ x :: R ++ S).getD ((lo + hi) / 2) d92) x;have hx:gt d92 (P ++ x :: R ++ S) (P.length:Int)=x:=by
     have:P ++ x :: R ++ S=P ++ x :: (R ++ S):=by simp
     rw [this]; exact ux _ _ _ _ rfl
    rw [aF (by omega),tg (by omega)];dsimp only [cond_true];rw [mO (by simp only [List.length_append,List.length_cons]; omega),mO (by simp only [List.length_append,List.length_cons]; omega),zg,hx,hv1];dsimp only [cond_true,Option.bind_some];rw [hv2,aP (by have:aX=140737488355328:=rfl; omega)];cases dt ((P ++ x :: R ++ S).getD ((lo + hi) / 2) d92) x <;> rfl) (fun k h1 h2=>by
    show mz (P ++ x :: R ++ S) (P.length:Int) () (k:Int) (k:Int)=_;unfold mz;rw [ay (by omega)]; rfl)
  _ (P.length + 1) (P.length + 1 + R.length) rfl (Nat.le_refl _) (by omega) (Nat.le_refl _) (fun h h1 h2=>by omega) (fun h h1 h2=>by omega)
 obtain ⟨k,k1,k2,k3,k4,k5⟩:=h;obtain ⟨n,rfl⟩:∃ n,k=P.length + 1 + n:=⟨k - (P.length + 1),by omega⟩;refine ⟨n,by omega,fun y hy => ?_,fun y hy => ?_,k5⟩
 . obtain ⟨q,q1,q2,rfl⟩:=mL d92 hy;rw [<- hg q q2]; exact k3 _ (by omega) (by omega)
 . obtain ⟨q,q1,q2,rfl⟩:=mR d92 hy;rw [<- hg q q2]; exact k4 _ (by omega) (by omega)
theorem Tw (P S:List aN) (y:aN) (L:List aN) (hL:lx dt L) (hl:(P ++ L ++ y :: S).length<=bH):∃ n,n<=L.length/\(∀ x∈L.take n,dt y x=false)/\(∀ x∈L.drop n,dt y x=true) /\
 uF (P ++ L ++ y :: S) ((P.length + L.length:Nat):Int) () (P.length:Int) ((P.length + L.length:Nat):Int)=some (.inl (P ++ L ++ y :: S,((P.length + L.length:Nat):Int),(),((P.length + n:Nat):Int),((P.length + n:Nat):Int),())):=by
 have hl':=hl;simp only [bH,List.length_append,List.length_cons] at hl';have hg:∀ q,q < L.length->(P ++ L ++ y :: S).getD (P.length + q) d92=L.getD q d92:=fun q hq=>qF _ _ _ _ hq
 have h:=bsearch (fun (z:(List aN)×Int×Unit×Int×Int×Unit)=>lS z.1 z.2.1 z.2.2.1 z.2.2.2.1 z.2.2.2.2.1) (fun lo hi=>(P ++ L ++ y :: S,((P.length + L.length:Nat):Int),(),(lo:Int),(hi:Int),())) (fun k=> .inl (P ++ L ++ y :: S,((P.length + L.length:Nat):Int),(),(k:Int),(k:Int),()))
  (fun h=> !dt y ((P ++ L ++ y :: S).getD h d92)) P.length (P.length + L.length) (fun h h' h1 h2 h3 hf=>by
    obtain ⟨q,rfl⟩:∃ q,h=P.length + q:=⟨h - P.length,by omega⟩;obtain ⟨q',rfl⟩:∃ q',h'=P.length + q':=⟨h' - P.length,by omega⟩;rw [hg q (by omega),Bool.not_eq_true'] at hf;rw [hg q' (by omega),Bool.not_eq_true'];exact fe.le_trans (ig fe _ hL (by omega) (by omega)) hf) (fun lo hi h1 h2 h3=>by
    show lS (P ++ L ++ y :: S) ((P.length + L.length:Nat):Int) () (lo:Int) (hi:Int)=_;unfold lS;obtain ⟨v,hv1,hv2⟩:=Kt y ((P ++ L ++ y :: S).getD ((lo + hi) / 2) d92);have hy:gt d92 (P ++ L ++ y :: S) ((P.length + L.length:Nat):Int)=y:=ux _ (P ++ L) _ _ (by simp);rw [aF (by omega),tg (by omega)];dsimp only [cond_true];rw [mO (by simp only [List.length_append,List.length_cons]; omega),mO (by simp only [List.length_append,List.length_cons]; omega),zg d92 _ ((lo + hi) / 2),hy,hv1];dsimp only [cond_true,Option.bind_some];rw [hv2,aP (by have:aX=140737488355328:=rfl; omega)];cases dt y ((P ++ L ++ y :: S).getD ((lo + hi) / 2) d92) <;> rfl) (fun k h1 h2=>by
    show lS (P ++ L ++ y :: S) ((P.length + L.length:Nat):Int) () (k:Int) (k:Int)=_;unfold lS;rw [ay (by omega)]; rfl)
  _ P.length (P.length + L.length) rfl (Nat.le_refl _) (by omega) (Nat.le_refl _) (fun h h1 h2=>by omega) (fun h h1 h2=>by omega)
 obtain ⟨k,k1,k2,k3,k4,k5⟩:=h;obtain ⟨n,rfl⟩:∃ n,k=P.length + n:=⟨k - P.length,by omega⟩;refine ⟨n,by omega,fun x hx => ?_,fun x hx => ?_,k5⟩
 . obtain ⟨q,q1,q2,rfl⟩:=mL d92 hx;have:=k3 (P.length + q) (by omega) (by omega);rw [hg q q2,Bool.not_eq_true'] at this;exact this
 . obtain ⟨q,q1,q2,rfl⟩:=mR d92 hx;have:=k4 (P.length + q) (by omega) (by omega);rw [hg q q2,Bool.not_eq_false'] at this;exact this
theorem Sw (P L R S:List aN) (hL:lx dt L) (hR:lx dt R) (mid lo0 hi0:Nat) (c1:P.length<=lo0) (c2:lo0<=hi0) (c3:hi0<=P.length + L.length) (c4:hi0<=mid) (c5:mid<=lo0 + R.length) (hm:mid<=bH) (b:Int) (hl:(P ++ L ++ R ++ S).length<=bH) :
 ∃ k,lo0<=k/\k<=hi0/\(∀ c,lo0<=c->c < k->dt (R.getD (mid - 1 - c) d92) (L.getD (c - P.length) d92)=false)/\(∀ c,k<=c->c < hi0->dt (R.getD (mid - 1 - c) d92) (L.getD (c - P.length) d92)=true) /\
 kT (P ++ L ++ R ++ S) (P.length:Int) ((P.length + L.length:Nat):Int) b () (mid:Int) ((mid + (P.length + L.length):Nat):Int) (lo0:Int) (hi0:Int) ((mid + (P.length + L.length):Nat) - 1:Int) =
  some (.inl (P ++ L ++ R ++ S,(P.length:Int),((P.length + L.length:Nat):Int),b,(),(mid:Int),((mid + (P.length + L.length):Nat):Int),(k:Int),(k:Int),((mid + (P.length + L.length):Nat) - 1:Int),())):=by
 have hl':=hl;simp only [bH,List.length_append] at hl' hm;have hgL:∀ c,P.length<=c->c < P.length + L.length->(P ++ L ++ R ++ S).getD c d92=L.getD (c - P.length) d92:=fun c h1 h2=>by have:=qF d92 P L (R ++ S) (q:=c - P.length) (by omega);rw [show P.length + (c - P.length)=c by omega] at this;rw [List.append_assoc (P ++ L)];exact this
 have hgR:∀ q,q < R.length->(P ++ L ++ R ++ S).getD (P.length + L.length + q) d92=R.getD q d92:=fun q hq=>by have:=qF d92 (P ++ L) R S hq;rw [List.length_append] at this;exact this
 have h:=bsearch (fun (z:(List aN)×Int×Int×Int×Unit×Int×Int×Int×Int×Int×Unit)=>l0 z.1 z.2.1 z.2.2.1 z.2.2.2.1 z.2.2.2.2.1 z.2.2.2.2.2.1 z.2.2.2.2.2.2.1 z.2.2.2.2.2.2.2.1 z.2.2.2.2.2.2.2.2.1 z.2.2.2.2.2.2.2.2.2.1)
  (fun lo hi=>(P ++ L ++ R ++ S,(P.length:Int),((P.length + L.length:Nat):Int),b,(),(mid:Int),((mid + (P.length + L.length):Nat):Int),(lo:Int),(hi:Int),((mid + (P.length + L.length):Nat) - 1:Int),())) (fun k=> .inl (P ++ L ++ R ++ S,(P.length:Int),((P.length + L.length:Nat):Int),b,(),(mid:Int),((mid + (P.length + L.length):Nat):Int),(k:Int),(k:Int),((mid + (P.length + L.length):Nat) - 1:Int),()))
  (fun c=> !dt (R.getD (mid - 1 - c) d92) (L.getD (c - P.length) d92)) lo0 hi0 (fun h h' h1 h2 h3 hf=>by
    rw [Bool.not_eq_true'] at hf ⊢;refine fe.le_trans (b:=R.getD (mid - 1 - h) d92) (fe.le_trans (ig fe _ hL (by omega) (by omega)) hf) (ig fe _ hR (by omega) (by omega))) (fun lo hi h1 h2 h3=>by
    show l0 (P ++ L ++ R ++ S) (P.length:Int) ((P.length + L.length:Nat):Int) b () (mid:Int) ((mid + (P.length + L.length):Nat):Int) (lo:Int) (hi:Int) ((mid + (P.length + L.length):Nat) - 1:Int)=_;unfold l0;have hc1:lo<=(lo + hi) / 2:=by omega
    have hc2:(lo + hi) / 2 < hi:=by omega
    rw [tg (by omega)];generalize (lo + hi) / 2=c at hc1 hc2;obtain ⟨v,hv1,hv2⟩:=Kt (R.getD (mid - 1 - c) d92) (L.getD (c - P.length) d92);have k1:aG .i64 ((mid + (P.length + L.length):Nat) - 1:Int) (c:Int)=((P.length + L.length + (mid - 1 - c):Nat):Int):=by rw [aO (by omega) (by omega)]; omega
    rw [aF (by omega)];dsimp only [cond_true];rw [k1,mO (by simp only [List.length_append]; omega),mO (by simp only [List.length_append]; omega),zg,zg,hgR _ (by omega),hgL _ (by omega) (by omega),hv1];dsimp only [cond_true,Option.bind_some];rw [hv2,aP (by have:aX=140737488355328:=rfl; omega)];cases dt (R.getD (mid - 1 - c) d92) (L.getD (c - P.length) d92) <;> rfl) (fun k h1 h2=>by
    show l0 (P ++ L ++ R ++ S) (P.length:Int) ((P.length + L.length:Nat):Int) b () (mid:Int) ((mid + (P.length + L.length):Nat):Int) (k:Int) (k:Int) ((mid + (P.length + L.length):Nat) - 1:Int)=_;unfold l0;rw [ay (by omega)]; rfl)
  _ lo0 hi0 rfl (Nat.le_refl _) c2 (Nat.le_refl _) (fun h h1 h2=>by omega) (fun h h1 h2=>by omega)
 obtain ⟨k,k1,k2,k3,k4,k5⟩:=h;refine ⟨k,k1,k2,fun c h1 h2 => ?_,fun c h1 h2 => ?_,k5⟩
 . have:=k3 c h1 h2;rwa [Bool.not_eq_true'] at this
 . have:=k4 c h1 h2;rwa [Bool.not_eq_false'] at this
noncomputable def yb (n:Nat) (t:List aN) (a m b mid k e:Int):Option ((((List aN)×Unit)×Unit)×Unit) :=
 Option.bind (cond (cond (au k m) (au m e) false) (zm t k m e) (some (((t,()),()),()))) fun y2 =>
 Option.bind (cond (cond (au a k) (au k mid) false) (eP n y2.1.1.1 a k mid) (some (((y2.1.1.1,()),()),()))) fun y3 =>
 Option.bind (cond (cond (au mid e) (au e b) false) (eP n y3.1.1.1 mid e b) (some (((y3.1.1.1,()),()),()))) fun y4=>some ((y4.1.1,()),())
theorem E5 (n:Nat) (t:List aN) (a m b:Int) (h1:ak (aG .i64 m a) 1=false) (h2:ak (aG .i64 b m) 1=false) (mid nn lo hi k:Int) (hmid:bN .i64 (ic .u64 (bN .u64 (aq .i64 a b)) 1)=mid) (hnn:aq .i64 mid m=nn) (hlo:lo=cond (au mid m) (aG .i64 nn b) a) (hhi:hi=cond (au mid m) mid m)
 (hs:kT t a m b () mid nn lo hi (aG .i64 nn 1)=some (.inl (t,a,m,b,(),mid,nn,k,k,aG .i64 nn 1,()))) :
 eP (n + 1) t a m b=yb n t a m b mid k (aG .i64 nn k):=by
 rw [nG,h1,h2,hmid];dsimp only [cond_false];rw [hnn];unfold yb;cases hm:au mid m with
 | true =>
   rw [hm] at hlo hhi;dsimp only [cond_true] at hlo hhi ⊢;rw [<- hlo,<- hhi]
   conv=>lhs; rw [show kT t a m b () hi nn lo hi (aG .i64 nn 1)=some (.inl (t,a,m,b,(),hi,nn,k,k,aG .i64 nn 1,())) by rw [hhi] at hs ⊢; exact hs]
   dsimp only [Option.bind_some,Sum.elim_inl];rw [hhi];cases (cond (au k m) (au m (aG .i64 nn k)) false) <;> cases (cond (au a k) (au k mid) false) <;> cases (cond (au mid (aG .i64 nn k)) (au (aG .i64 nn k) b) false) <;> rfl
 | false => rw [hm] at hlo hhi;dsimp only [cond_false] at hlo hhi ⊢;subst hlo; subst hhi;rw [hs];dsimp only [Option.bind_some,Sum.elim_inl];cases (cond (au k hi) (au hi (aG .i64 nn k)) false) <;> cases (cond (au lo k) (au k mid) false) <;> cases (cond (au mid (aG .i64 nn k)) (au (aG .i64 nn k) b) false) <;> rfl
theorem DG {a b:aN} (h:dt a b=true):dt b a=false:=by
 cases hb:dt b a with
 | false=>rfl
 | true => have:=fe.trans _ _ _ h hb;rw [fe.irr] at this;simp at this
theorem M0:∀ (n:Nat) (P L R S:List aN),L.length + R.length<=n->0 < L.length->0 < R.length->lx dt L->lx dt R->(P ++ L ++ R ++ S).length<=bH ->
 ∃ M,lx dt M/\eo dt (L ++ R) M/\eP n (P ++ L ++ R ++ S) (P.length:Int) ((P.length + L.length:Nat):Int) ((P.length + L.length + R.length:Nat):Int)=some (((P ++ M ++ S,()),()),()):=by
 intro n;induction n with
 | zero=>intro P L R S h1 h2 h3; omega
 | succ n ih =>
 intro P L R S hn hL0 hR0 hL hR hl;have hl':=hl;simp only [bH,List.length_append] at hl';have km:aG .i64 ((P.length + L.length:Nat):Int) (P.length:Int)=(L.length:Int):=by rw [aO (by omega) (by omega)]; omega
 have kb:aG .i64 ((P.length + L.length + R.length:Nat):Int) ((P.length + L.length:Nat):Int)=(R.length:Int):=by rw [aO (by omega) (by omega)]; omega
 by_cases hA:L.length=1
 . obtain ⟨x,rfl⟩:∃ x,L=[x]:=List.length_eq_one_iff.1 hA;have e0:P ++ [x] ++ R ++ S=P ++ x :: R ++ S:=by simp
   obtain ⟨k,k1,k2,k3,k4⟩:=SZ P S x R hR (by rw [<- e0]; exact hl);have hs:=hR;rw [<- List.take_append_drop k R] at hs;have hs:=cq.1 hs;obtain ⟨kk,hk⟩:=JB P (R.drop k ++ S) x (P.length + 1 + k) (R.take k).length [] (R.take k) rfl (by rw [List.length_take]; simp only [List.length_nil]; omega) (by simp only [bH,List.length_append,List.length_cons,List.length_take,List.length_drop,List.length_nil] at hl' ⊢; omega);have e1:P ++ ([] ++ x :: R.take k) ++ (R.drop k ++ S)=P ++ x :: R ++ S:=by have:R.take k ++ R.drop k=R:=List.take_append_drop k R;simp only [List.nil_append,List.append_assoc,List.cons_append];rw [<- List.append_assoc (R.take k),this]
   rw [e1] at hk;refine ⟨R.take k ++ [x] ++ R.drop k,?_,?_,?_⟩
   . rw [List.append_assoc];refine cq.2 ⟨hs.1,List.pairwise_cons.2 ⟨fun y hy=>k3 y hy,hs.2.1⟩,fun y hy z hz => ?_⟩;rcases List.mem_cons.1 hz with rfl | hz
     . exact DG (k2 y hy)
     . exact hs.2.2 y hy z hz
   . have h1:eo dt ([x] ++ R.take k) (R.take k ++ [x]):=eo.swap fe fun z hz y hy=>by
      simp only [List.mem_singleton] at hz; subst hz; exact k2 y hy
     have h2:=h1.append (eo.refl (R.drop k));rw [List.append_assoc,List.take_append_drop] at h2;exact h2
   . rw [nG,km,hA];have:ak ((1:Nat):Int) 1=true:=rfl;rw [this];dsimp only [cond_true];rw [e0,k4];dsimp only [Option.bind_some,Sum.elim_inl];simp only [List.length_nil,Nat.add_zero] at hk;rw [hk];dsimp only [Option.bind_some,Sum.elim_inl];simp
 by_cases hB:R.length=1
 . obtain ⟨y,rfl⟩:∃ y,R=[y]:=List.length_eq_one_iff.1 hB;have e0:P ++ L ++ [y] ++ S=P ++ L ++ y :: S:=by simp
   obtain ⟨k,k1,k2,k3,k4⟩:=Tw P S y L hL (by rw [<- e0]; exact hl);have hs:=hL;rw [<- List.take_append_drop k L] at hs;have hs:=cq.1 hs;obtain ⟨kk,hk⟩:=GU (P ++ L.take k) S y (L.drop k).length (L.drop k) [] rfl (by simp only [bH,List.length_append,List.length_cons,List.length_take,List.length_drop,List.length_nil] at hl' ⊢; omega);have e1:P ++ L.take k ++ (L.drop k ++ [y]) ++ S=P ++ L ++ y :: S:=by have:L.take k ++ L.drop k=L:=List.take_append_drop k L;simp only [List.append_assoc,List.cons_append,List.nil_append];rw [<- List.append_assoc (L.take k),this]
   have e2:(((P ++ L.take k).length:Nat):Int)=((P.length + k:Nat):Int):=by simp only [List.length_append,List.length_take]; omega
   have e3:(((P ++ L.take k).length + (L.drop k).length:Nat):Int)=((P.length + L.length:Nat):Int):=by simp only [List.length_append,List.length_take,List.length_drop]; omega
   rw [e1,e2,e3] at hk;refine ⟨L.take k ++ (y :: L.drop k),?_,?_,?_⟩
   . refine cq.2 ⟨hs.1,List.pairwise_cons.2 ⟨fun x hx=>DG (k3 x hx),hs.2.1⟩,fun x hx z hz => ?_⟩;rcases List.mem_cons.1 hz with rfl | hz
     . exact k2 x hx
     . exact hs.2.2 x hx z hz
   . have h1:eo dt (L.drop k ++ [y]) ([y] ++ L.drop k):=eo.swap fe fun z hz x hx=>by
      simp only [List.mem_singleton] at hx; subst hx; exact k3 z hz
     have h2:=(eo.refl (L.take k)).append h1;rw [<- List.append_assoc,List.take_append_drop] at h2;exact h2
   . have hA':ak (L.length:Int) 1=false:=by
      rw [Bool.eq_false_iff]; intro hh; rw [dW] at hh; omega
     rw [nG,km,kb,hA',hB];have:ak ((1:Nat):Int) 1=true:=rfl;rw [this];dsimp only [cond_true,cond_false];rw [e0,k4];dsimp only [Option.bind_some,Sum.elim_inl];rw [hk];dsimp only [Option.bind_some,Sum.elim_inl];simp
 -- the long case
 obtain ⟨mid,hmidN⟩:∃ mid,mid=(P.length + (P.length + L.length + R.length)) / 2:=⟨_,rfl⟩;obtain ⟨lo0,hlo0⟩:∃ lo0,lo0=if mid < P.length + L.length then mid - R.length else P.length:=⟨_,rfl⟩
 obtain ⟨hi0,hhi0⟩:∃ hi0,hi0=if mid < P.length + L.length then mid else P.length + L.length:=⟨_,rfl⟩
 have c1:P.length<=lo0:=by rw [hlo0]; split <;> omega
 have c2:lo0<=hi0:=by rw [hlo0,hhi0]; split <;> omega
 have c3:hi0<=P.length + L.length:=by rw [hhi0]; split <;> omega
 have c4:hi0<=mid:=by rw [hhi0]; split <;> omega
 have c5:mid<=lo0 + R.length:=by rw [hlo0]; split <;> omega
 obtain ⟨k,k1,k2,k3,k4,k5⟩:=Sw P L R S hL hR mid lo0 hi0 c1 c2 c3 c4 c5 (by show mid<=1099511627776; omega) ((P.length + L.length + R.length:Nat):Int) hl;have hmid:=tg (i:=P.length) (j:=P.length + L.length + R.length) (by omega);rw [<- hmidN] at hmid;have hnn:aq .i64 (mid:Int) ((P.length + L.length:Nat):Int)=((mid + (P.length + L.length):Nat):Int):=by rw [bd (by omega) (by omega)]; omega
 have hsub1:aG .i64 ((mid + (P.length + L.length):Nat):Int) 1=((mid + (P.length + L.length):Nat) - 1:Int):=by rw [aO (by omega) (by omega)]
 have hA':ak (aG .i64 ((P.length + L.length:Nat):Int) (P.length:Int)) 1=false:=by rw [km,Bool.eq_false_iff]; intro hh; rw [dW] at hh; omega
 have hB':ak (aG .i64 ((P.length + L.length + R.length:Nat):Int) ((P.length + L.length:Nat):Int)) 1=false:=by rw [kb,Bool.eq_false_iff]; intro hh; rw [dW] at hh; omega
 have hlo:(lo0:Int)=cond (au (mid:Int) ((P.length + L.length:Nat):Int)) (aG .i64 ((mid + (P.length + L.length):Nat):Int) ((P.length + L.length + R.length:Nat):Int)) (P.length:Int):=by
  rw [hlo0];by_cases hm:mid < P.length + L.length
  . rw [if_pos hm,aF (by omega),cond_true,aO (by omega) (by omega)]; omega
  . rw [if_neg hm,ay (by omega),cond_false]
 have hhi:(hi0:Int)=cond (au (mid:Int) ((P.length + L.length:Nat):Int)) (mid:Int) ((P.length + L.length:Nat):Int):=by
  rw [hhi0];by_cases hm:mid < P.length + L.length
  . rw [if_pos hm,aF (by omega),cond_true]
  . rw [if_neg hm,ay (by omega),cond_false]
 have hsp:=E5 n (P ++ L ++ R ++ S) (P.length:Int) ((P.length + L.length:Nat):Int) ((P.length + L.length + R.length:Nat):Int) hA' hB' (mid:Int) ((mid + (P.length + L.length):Nat):Int) (lo0:Int) (hi0:Int) (k:Int) hmid hnn hlo hhi (by rw [hsub1]; exact k5);have he:aG .i64 ((mid + (P.length + L.length):Nat):Int) (k:Int)=((P.length + L.length + (mid - k):Nat):Int):=by rw [aO (by omega) (by omega)]; omega
 rw [he] at hsp
 -- the parts
 obtain ⟨L1,L2,hLe,hL1,hL2⟩:∃ L1 L2,L=L1 ++ L2/\L1=L.take (k - P.length)/\L2=L.drop (k - P.length):=⟨_,_,(List.take_append_drop _ _).symm,rfl,rfl⟩;obtain ⟨R1,R2,hRe,hR1,hR2⟩:∃ R1 R2,R=R1 ++ R2/\R1=R.take (mid - k)/\R2=R.drop (mid - k):=⟨_,_,(List.take_append_drop _ _).symm,rfl,rfl⟩;have n1:L1.length=k - P.length:=by rw [hL1,List.length_take]; omega
 have n2:L2.length=P.length + L.length - k:=by rw [hL2,List.length_drop]; omega
 have n3:R1.length=mid - k:=by rw [hR1,List.length_take]; omega
 have n4:R2.length=R.length - (mid - k):=by rw [hR2,List.length_drop]
 have sL:=hL;rw [hLe] at sL;have sL:=cq.1 sL;have sR:=hR;rw [hRe] at sR;have sR:=cq.1 sR;have xRL:∀ x∈R1,∀ y∈L2,dt x y=true:=fun x hx y hy=>by
  rw [hR1] at hx;rw [hL2] at hy;obtain ⟨q,q1,q2,rfl⟩:=mL d92 hx;obtain ⟨q',p1,p2,rfl⟩:=mR d92 hy;have hk:k < hi0:=by
   rcases Nat.lt_or_ge k hi0 with hh | hh
   . exact hh
   . exfalso;rw [hhi0] at hh;split at hh <;> omega
  have h0:=k4 k (Nat.le_refl _) hk;have h1:=ig fe d92 hR (q':=q) (q:=mid - 1 - k) (by omega) (by omega);have h2:=ig fe d92 hL (q':=k - P.length) (q:=q') (by omega) (by omega);rcases fe.neg _ (R.getD q d92) _ h0 with h3 | h3
  . rw [h1] at h3; simp at h3
  . rcases fe.neg _ (L.getD q' d92) _ h3 with h4 | h4
    . exact h4
    . rw [h2] at h4; simp at h4
 have xLR:∀ x∈L1,∀ y∈R2,dt y x=false:=fun x hx y hy=>by
  rw [hL1] at hx;rw [hR2] at hy;obtain ⟨q,q1,q2,rfl⟩:=mL d92 hx;obtain ⟨q',p1,p2,rfl⟩:=mR d92 hy;have hk:lo0 < k:=by
   rcases Nat.lt_or_ge lo0 k with hh | hh
   . exact hh
   . exfalso;rw [hlo0] at hh k1;split at hh <;> omega
  have h0:=k3 (k - 1) (by omega) (by omega);rw [show mid - 1 - (k - 1)=mid - k by omega,show k - 1 - P.length=k - P.length - 1 by omega] at h0;have h1:=ig fe d92 hL (q':=q) (q:=k - P.length - 1) (by omega) (by omega);have h2:=ig fe d92 hR (q':=mid - k) (q:=q') (by omega) (by omega);exact fe.le_trans (fe.le_trans h1 h0) h2
 -- the rotation
 have st1:cond (cond (au (k:Int) ((P.length + L.length:Nat):Int)) (au ((P.length + L.length:Nat):Int) ((P.length + L.length + (mid - k):Nat):Int)) false) (zm (P ++ L ++ R ++ S) (k:Int) ((P.length + L.length:Nat):Int) ((P.length + L.length + (mid - k):Nat):Int)) (some (((P ++ L ++ R ++ S,()),()),()))=some (((P ++ L1 ++ R1 ++ (L2 ++ R2 ++ S),()),()),()):=by
  by_cases z1:k < P.length + L.length
  . by_cases z2:0 < mid - k
    . rw [aF (by omega),aF (by omega)];dsimp only [cond_true];have h:=Tv (P ++ L1) L2 R1 (R2 ++ S) (by omega) (by omega) (by simp only [bH,List.length_append]; omega);have e1:P ++ L1 ++ L2 ++ R1 ++ (R2 ++ S)=P ++ L ++ R ++ S:=by rw [hLe,hRe]; simp
      have e2:(((P ++ L1).length:Nat):Int)=(k:Int):=by simp only [List.length_append]; omega
      have e3:(((P ++ L1).length + L2.length:Nat):Int)=((P.length + L.length:Nat):Int):=by simp only [List.length_append]; omega
      have e4:(((P ++ L1).length + L2.length + R1.length:Nat):Int)=((P.length + L.length + (mid - k):Nat):Int):=by simp only [List.length_append]; omega
      rw [e1,e2,e3,e4] at h;rw [h];simp
    . have hz:R1=[]:=List.length_eq_zero_iff.1 (by omega);rw [aF (by omega),ay (by omega)];dsimp only [cond_true,cond_false];rw [hLe,hRe,hz];simp
  . have hz:L2=[]:=List.length_eq_zero_iff.1 (by omega);rw [ay (by omega)];dsimp only [cond_false];rw [hLe,hRe,hz];simp
 -- the left half
 obtain ⟨M1,s1,t1,u1⟩:∃ M1,lx dt M1/\eo dt (L1 ++ R1) M1/\cond (cond (au (P.length:Int) (k:Int)) (au (k:Int) (mid:Int)) false) (eP n (P ++ L1 ++ R1 ++ (L2 ++ R2 ++ S)) (P.length:Int) (k:Int) (mid:Int)) (some (((P ++ L1 ++ R1 ++ (L2 ++ R2 ++ S),()),()),()))=some (((P ++ M1 ++ (L2 ++ R2 ++ S),()),()),()):=by
  by_cases z1:P.length < k
  . by_cases z2:k < mid
    . obtain ⟨M,m1,m2,m3⟩:=ih P L1 R1 (L2 ++ R2 ++ S) (by omega) (by omega) (by omega) sL.1 sR.1 (by simp only [bH,List.length_append]; omega);refine ⟨M,m1,m2,?_⟩;rw [aF (by omega),aF (by omega)];dsimp only [cond_true];rw [show ((P.length + L1.length:Nat):Int)=(k:Int) by omega,show ((P.length + L1.length + R1.length:Nat):Int)=(mid:Int) by omega] at m3;exact m3
    . have hz:R1=[]:=List.length_eq_zero_iff.1 (by omega);refine ⟨L1,sL.1,by rw [hz,List.append_nil]; exact eo.refl _,?_⟩;rw [aF (by omega),ay (by omega),hz];simp
  . have hz:L1=[]:=List.length_eq_zero_iff.1 (by omega);refine ⟨R1,sR.1,by rw [hz]; exact eo.refl _,?_⟩;rw [ay (by omega),hz];simp
 have nM1:M1.length=L1.length + R1.length:=by have:=t1.1; rw [List.length_append] at this; omega
 -- the right half
 obtain ⟨M2,s2,t2,u2⟩:∃ M2,lx dt M2/\eo dt (L2 ++ R2) M2/\cond (cond (au (mid:Int) ((P.length + L.length + (mid - k):Nat):Int)) (au ((P.length + L.length + (mid - k):Nat):Int) ((P.length + L.length + R.length:Nat):Int)) false) (eP n (P ++ M1 ++ (L2 ++ R2 ++ S)) (mid:Int) ((P.length + L.length + (mid - k):Nat):Int) ((P.length + L.length + R.length:Nat):Int)) (some (((P ++ M1 ++ (L2 ++ R2 ++ S),()),()),()))=some (((P ++ (M1 ++ M2) ++ S,()),()),()):=by
  by_cases z1:0 < L2.length
  . by_cases z2:0 < R2.length
    . obtain ⟨M,m1,m2,m3⟩:=ih (P ++ M1) L2 R2 S (by omega) z1 z2 sL.2.1 sR.2.1 (by simp only [bH,List.length_append]; omega);refine ⟨M,m1,m2,?_⟩;rw [aF (by omega),aF (by omega)];dsimp only [cond_true];rw [show (((P ++ M1).length:Nat):Int)=(mid:Int) by simp only [List.length_append]; omega,show (((P ++ M1).length + L2.length:Nat):Int)=((P.length + L.length + (mid - k):Nat):Int) by simp only [List.length_append]; omega,show (((P ++ M1).length + L2.length + R2.length:Nat):Int)=((P.length + L.length + R.length:Nat):Int) by simp only [List.length_append]; omega] at m3;have e1:P ++ M1 ++ L2 ++ R2 ++ S=P ++ M1 ++ (L2 ++ R2 ++ S):=by simp
      rw [e1] at m3;rw [m3];simp
    . have hz:R2=[]:=List.length_eq_zero_iff.1 (by omega);refine ⟨L2,sL.2.1,by rw [hz,List.append_nil]; exact eo.refl _,?_⟩;rw [ay (a:=((P.length + L.length + (mid - k):Nat):Int)) (by omega),hz];cases au (mid:Int) ((P.length + L.length + (mid - k):Nat):Int) <;> simp
  . have hz:L2=[]:=List.length_eq_zero_iff.1 (by omega);refine ⟨R2,sR.2.1,by rw [hz]; exact eo.refl _,?_⟩;rw [ay (a:=(mid:Int)) (by omega),hz];simp
 refine ⟨M1 ++ M2,cq.2 ⟨s1,s2,fun x hx y hy => ?_⟩,?_,?_⟩
 . rcases List.mem_append.1 ((t1.mem fe).2 hx) with hx | hx
   . rcases List.mem_append.1 ((t2.mem fe).2 hy) with hy | hy
     . exact sL.2.2 x hx y hy
     . exact xLR x hx y hy
   . rcases List.mem_append.1 ((t2.mem fe).2 hy) with hy | hy
     . exact DG (xRL x hx y hy)
     . exact sR.2.2 x hx y hy
 . have h1:eo dt (L2 ++ R1) (R1 ++ L2):=eo.swap fe fun y hy x hx=>xRL x hx y hy
   have h2:=((eo.refl L1).append h1).append (eo.refl R2);have h3:=t1.append t2;have e1:L ++ R=L1 ++ (L2 ++ R1) ++ R2:=by rw [hLe,hRe]; simp
   have e2:L1 ++ (R1 ++ L2) ++ R2=L1 ++ R1 ++ (L2 ++ R2):=by simp
   rw [e1];rw [e2] at h2;exact h2.trans h3
 . rw [hsp];unfold yb;rw [st1];dsimp only [Option.bind_some];rw [u1];dsimp only [Option.bind_some];rw [u2];rfl
theorem C1 (P L R S:List aN) (h2:0 < L.length) (h3:0 < R.length) (hL:lx dt L) (hR:lx dt R) (hl:(P ++ L ++ R ++ S).length<=bH) :
 ∃ M,lx dt M/\eo dt (L ++ R) M/\mj (P ++ L ++ R ++ S) (P.length:Int) ((P.length + L.length:Nat):Int) ((P.length + L.length + R.length:Nat):Int)=some (((P ++ M ++ S,()),()),()):=by
 obtain ⟨M,m1,m2,m3⟩:=M0 (L.length + R.length) P L R S (Nat.le_refl _) h2 h3 hL hR hl;refine ⟨M,m1,m2,Kd (n:=L.length + R.length) fun m hm => ?_⟩;obtain ⟨M',p1,p2,p3⟩:=M0 m P L R S hm h2 h3 hL hR hl;rw [p3,pC fe p1 m1 (p2.symm.trans m2)]
def KZ (k:Nat) (cs:List (List aN)):Prop:=∀ c∈cs,c.length=k/\lx dt c
theorem yM {k:Nat}:∀ {cs:List (List aN)},KZ k cs->cs.flatten.length=cs.length * k
 | [],_=>by simp
 | c :: cs,h=>by
   have h1:=(h c (List.mem_cons_self ..)).1;have h2:=yM (cs:=cs) fun x hx=>h x (List.mem_cons_of_mem _ hx)
   rw [List.flatten_cons,List.length_append,h1,h2,List.length_cons,Nat.add_mul,Nat.one_mul,Nat.add_comm]
theorem ET (N:Nat):∀ (n:Nat) (P R:List aN),R.length=n->(P ++ R).length=N->N<=4194304 ->
 ∃ (cs:List (List aN)) (T:List aN),KZ 20 cs/\T.length < 20/\eo dt R (cs.flatten ++ T) /\
  BU (P ++ R) (N:Int) () 20 (P.length:Int) ((P.length + 20:Nat):Int)=some (.inl (P ++ cs.flatten ++ T,(N:Int),(),20,((N - T.length:Nat):Int),((N - T.length + 20:Nat):Int),())):=by
 intro n;induction n using Nat.strongRecOn with
 | _ n ih =>
 intro P R hn hN hB;have hN':=hN;rw [List.length_append] at hN';by_cases h:R.length < 20
 . refine ⟨[],R,fun c hc=>by simp at hc,h,eo.refl _,aJ _ ?_⟩;show rq (P ++ R) (N:Int) () 20 (P.length:Int) ((P.length + 20:Nat):Int)=_;unfold rq;have:bz ((P.length + 20:Nat):Int) (N:Int)=false:=decide_eq_false (by omega);rw [this];have e:N - R.length=P.length:=by omega
   rw [e];simp
 . obtain ⟨L,S,rfl,hL⟩:∃ L S,R=L ++ S/\L.length=20:=⟨R.take 20,R.drop 20,(List.take_append_drop _ _).symm,by rw [List.length_take]; omega⟩;simp only [List.length_append] at hN' hn h;obtain ⟨M,m1,m2,m3⟩:=NK P L S (by simp only [bH,List.length_append]; omega);have hM:M.length=20:=by rw [<- m2.1]; exact hL
   obtain ⟨cs,T,q1,q2,q3,q4⟩:=ih S.length (by omega) (P ++ M) S rfl (by simp only [List.length_append]; omega) hB;refine ⟨M :: cs,T,fun c hc => ?_,q2,?_,?_⟩
   . rcases List.mem_cons.1 hc with rfl | hc
     . exact ⟨hM,m1⟩
     . exact q1 c hc
   . have:=m2.append q3;rw [List.flatten_cons,List.append_assoc];exact this
   . have e1:P ++ M ++ cs.flatten ++ T=P ++ (M :: cs).flatten ++ T:=by simp
     rw [e1] at q4;refine aQ _ ?_ q4;show rq (P ++ (L ++ S)) (N:Int) () 20 (P.length:Int) ((P.length + 20:Nat):Int)=_;unfold rq;have k1:bz ((P.length + 20:Nat):Int) (N:Int)=true:=decide_eq_true (by omega);have e2:P ++ (L ++ S)=P ++ L ++ S:=by simp
     rw [hL] at m3;rw [k1,e2,m3];dsimp only [cond_true,Option.bind_some];have k2:aq .i64 ((P.length + 20:Nat):Int) 20=(((P ++ M).length + 20:Nat):Int):=by rw [bd (by omega) (by omega)]; simp only [List.length_append]; omega
     have k3:((P.length + 20:Nat):Int)=((P ++ M).length:Int):=by simp only [List.length_append]; omega
     rw [k2,k3]
theorem PY {k:Nat} (h:k<=1073741824):jI .i64 2 (k:Int)=((2 * k:Nat):Int)/\jI .i64 (k:Int) 2=((2 * k:Nat):Int):=by unfold jI;rw [IntWalk.i64_in _ (by omega),IntWalk.i64_in _ (by omega)];omega
theorem Fe (N k:Nat) (hk:0 < k) (hkB:k<=1073741824) (hB:N<=4194304) (T:List aN) (hT:T.length < k):∀ (n:Nat) (cs:List (List aN)) (P:List aN),cs.length=n->KZ k cs->(P ++ cs.flatten ++ T).length=N ->
 ∃ (ds c2:List (List aN)) (b':Int),KZ (2 * k) ds/\KZ k c2/\c2.length<=1/\eo dt cs.flatten (ds.flatten ++ c2.flatten) /\
  ya (P ++ cs.flatten ++ T) (N:Int) () (k:Int) (P.length:Int) ((P.length + 2 * k:Nat):Int)=some (.inl (P ++ ds.flatten ++ c2.flatten ++ T,(N:Int),(),(k:Int),((P ++ ds.flatten).length:Int),b',())):=by
 intro n;induction n using Nat.strongRecOn with
 | _ n ih =>
 intro cs P hn hc hN;have hN':=hN;simp only [List.length_append] at hN'
 have stop:cs.length<=1->∃ (ds c2:List (List aN)) (b':Int),KZ (2 * k) ds/\KZ k c2/\c2.length<=1/\eo dt cs.flatten (ds.flatten ++ c2.flatten) /\
  ya (P ++ cs.flatten ++ T) (N:Int) () (k:Int) (P.length:Int) ((P.length + 2 * k:Nat):Int)=some (.inl (P ++ ds.flatten ++ c2.flatten ++ T,(N:Int),(),(k:Int),((P ++ ds.flatten).length:Int),b',())):=fun h1=>by
  refine ⟨[],cs,((P.length + 2 * k:Nat):Int),fun c hc=>by simp at hc,hc,h1,by simpa using eo.refl _,aJ _ ?_⟩;show qT (P ++ cs.flatten ++ T) (N:Int) () (k:Int) (P.length:Int) ((P.length + 2 * k:Nat):Int)=_;unfold qT;have hf:=yM hc;have:cs.length * k<=k:=by have:=Nat.mul_le_mul_right k h1;omega
  have:bz ((P.length + 2 * k:Nat):Int) (N:Int)=false:=decide_eq_false (by omega);rw [this];simp
 cases cs with
 | nil=>exact stop (by simp)
 | cons c1 cs =>
 cases cs with
 | nil=>exact stop (by simp)
 | cons c2 cs =>
   have h1:=hc c1 (by simp);have h2:=hc c2 (by simp);have h3:KZ k cs:=fun c h=>hc c (by simp [h])
   simp only [List.flatten_cons,List.length_append] at hN';obtain ⟨M,m1,m2,m3⟩:=C1 P c1 c2 (cs.flatten ++ T) (by omega) (by omega) h1.2 h2.2 (by simp only [bH,List.length_append]; omega);have hM:M.length=2 * k:=by have:=m2.1; rw [List.length_append] at this; omega
   obtain ⟨ds,e2,b',q1,q2,q3,q4,q5⟩:=ih cs.length (by simp only [List.length_cons] at hn; omega) cs (P ++ M) rfl h3 (by simp only [List.length_append]; omega);refine ⟨M :: ds,e2,b',fun d hd => ?_,q2,q3,?_,?_⟩
   . rcases List.mem_cons.1 hd with rfl | hd
     . exact ⟨hM,m1⟩
     . exact q1 d hd
   . have:=m2.append q4;simpa using this
   . have e3:P ++ M ++ ds.flatten ++ e2.flatten ++ T=P ++ (M :: ds).flatten ++ e2.flatten ++ T:=by simp
     have e4:P ++ M ++ ds.flatten=P ++ (M :: ds).flatten:=by simp
     rw [e3,e4] at q5;refine aQ _ ?_ q5;show qT (P ++ (c1 :: c2 :: cs).flatten ++ T) (N:Int) () (k:Int) (P.length:Int) ((P.length + 2 * k:Nat):Int)=_;unfold qT;have k1:bz ((P.length + 2 * k:Nat):Int) (N:Int)=true:=decide_eq_true (by omega);have e5:P ++ (c1 :: c2 :: cs).flatten ++ T=P ++ c1 ++ c2 ++ (cs.flatten ++ T):=by simp
     have k2:aq .i64 (P.length:Int) (k:Int)=((P.length + c1.length:Nat):Int):=by rw [bd (by omega) (by omega)]; omega
     have k3:((P.length + 2 * k:Nat):Int)=((P.length + c1.length + c2.length:Nat):Int):=by omega
     rw [k1,(PY hkB).1,k2,k3,e5,m3];dsimp only [cond_true,Option.bind_some];have k4:aq .i64 ((P.length + c1.length + c2.length:Nat):Int) ((2 * k:Nat):Int)=(((P ++ M).length + 2 * k:Nat):Int):=by rw [bd (by omega) (by omega)]; simp only [List.length_append]; omega
     have k5:((P.length + c1.length + c2.length:Nat):Int)=((P ++ M).length:Int):=by simp only [List.length_append]; omega
     rw [k4,k5];simp
theorem Ei (N:Nat) (hB:N<=4194304):∀ (f k:Nat) (cs:List (List aN)) (T:List aN),N - k<=f->0 < k->k<=8388608->KZ k cs->T.length < k->lx dt T->(cs.flatten ++ T).length=N ->
 ∃ (M:List aN) (k':Int),lx dt M/\eo dt (cs.flatten ++ T) M/\BP (cs.flatten ++ T) (N:Int) () (k:Int)=some (.inl (M,(N:Int),(),k',())):=by
 intro f;induction f using Nat.strongRecOn with
 | _ f ih =>
 intro k cs T hf hk hkB hc hT hTs hN;have hN':=hN;rw [List.length_append,yM hc] at hN';by_cases h:k < N
 . obtain ⟨ds,c2,b',q1,q2,q3,q4,q5⟩:=Fe N k hk (by omega) hB T hT cs.length cs [] rfl hc (by simpa using hN);simp only [List.nil_append,List.length_nil,Nat.zero_add] at q5;have q5':ya (cs.flatten ++ T) (N:Int) () (k:Int) 0 ((2 * k:Nat):Int)=_:=q5;have hlen:ds.flatten.length + c2.flatten.length + T.length=N:=by
    have:=q4.1;rw [List.length_append] at this;rw [List.length_append] at hN;omega
   -- the rest behind the pairs
   obtain ⟨T',t1,t2,t3,t4⟩:∃ T',T'.length < 2 * k/\lx dt T'/\eo dt (c2.flatten ++ T) T' /\
    qW (cs.flatten ++ T) (N:Int) () (k:Int)=some (.inl (ds.flatten ++ T',(N:Int),(),((2 * k:Nat):Int),())):=by
    unfold qW;rw [aF (by omega),(PY (by omega)).1,q5'];dsimp only [cond_true,Option.bind_some,Sum.elim_inl];rw [(PY (k:=k) (by omega)).2];have k2:aq .i64 ((ds.flatten.length:Nat):Int) (k:Int)=((ds.flatten.length + k:Nat):Int):=by rw [bd (by omega) (by omega)]; omega
    rw [k2];cases c2 with
    | nil => simp only [List.flatten_nil,List.length_nil,Nat.add_zero] at hlen;refine ⟨T,by omega,hTs,by simpa using eo.refl _,?_⟩;rw [ay (by omega)];simp
    | cons c c2 =>
      have:c2=[]:=List.length_eq_zero_iff.1 (by simp only [List.length_cons] at q3; omega);subst this;have hcc:=q2 c (by simp);simp only [List.flatten_cons,List.flatten_nil,List.append_nil] at hlen ⊢;by_cases hz:0 < T.length
      . obtain ⟨M,m1,m2,m3⟩:=C1 ds.flatten c T [] (by omega) hz hcc.2 hTs (by simp only [bH,List.length_append,List.length_nil]; omega);refine ⟨M,by have:=m2.1; rw [List.length_append] at this; omega,m1,m2,?_⟩;rw [hcc.1] at m3;rw [show ((ds.flatten.length + k + T.length:Nat):Int)=(N:Int) by omega,List.append_nil,List.append_nil] at m3;rw [aF (by omega),m3];simp
      . have:T=[]:=List.length_eq_zero_iff.1 (by omega);subst this;refine ⟨c,by omega,hcc.2,by simpa using eo.refl _,?_⟩;rw [ay (by simp only [List.length_nil] at hlen; omega)];simp
   obtain ⟨M,k',m1,m2,m3⟩:=ih (N - 2 * k) (by omega) (2 * k) ds T' (Nat.le_refl _) (by omega) (by omega) q1 t1 t2 (by have:=t3.1; rw [List.length_append] at this ⊢; omega);refine ⟨M,k',m1,?_,aQ _ t4 m3⟩;have h1:=q4.append (eo.refl T);have h2:=(eo.refl ds.flatten).append t3;rw [List.append_assoc] at h1;exact (h1.trans h2).trans m2
 . refine ⟨cs.flatten ++ T,(k:Int),?_,eo.refl _,aJ _ ?_⟩
   . cases cs with
     | nil=>simpa using hTs
     | cons c cs =>
       simp only [List.length_cons,Nat.add_mul,Nat.one_mul] at hN';have h0:T=[]:=List.length_eq_zero_iff.1 (by omega);have h1:cs=[]:=by
        cases cs with
        | nil=>rfl
        | cons d cs=>simp only [List.length_cons,Nat.add_mul,Nat.one_mul] at hN'; omega
       subst h0; subst h1;simpa using (hc c (by simp)).2
   . show qW (cs.flatten ++ T) (N:Int) () (k:Int)=_;unfold qW;rw [ay (by omega)];rfl
theorem P1 (xs:List aN) (hB:xs.length<=4194304):∃ M,lx dt M/\eo dt xs M/\UE xs=some (((M,()),()),()):=by
 obtain ⟨cs,T,q1,q2,q3,q4⟩:=ET xs.length xs.length [] xs rfl rfl hB;simp only [List.nil_append,List.length_nil,Nat.zero_add] at q4;have hlen:cs.flatten.length + T.length=xs.length:=by have:=q3.1; rw [List.length_append] at this; omega
 obtain ⟨T',t1,t2,t3⟩:=NK cs.flatten T [] (by simp only [bH,List.length_append,List.length_nil]; omega);rw [List.append_nil,List.append_nil] at t3;have hT':T'.length=T.length:=t2.1.symm;obtain ⟨M,k',m1,m2,m3⟩:=Ei xs.length hB (xs.length) 20 cs T' (by omega) (by decide) (by decide) q1 (by omega) t1 (by rw [List.length_append]; omega);refine ⟨M,m1,(q3.trans ((eo.refl _).append t2)).trans m2,?_⟩;have q4':BU xs (ae xs) () 20 0 20=_:=q4;have e1:((cs.flatten.length + T.length:Nat):Int)=(xs.length:Int):=by omega
 have e2:((xs.length - T.length:Nat):Int)=(cs.flatten.length:Int):=by omega
 rw [e1] at t3;unfold UE OM;rw [q4'];dsimp only [Option.bind_some,Sum.elim_inl];rw [e2,t3];dsimp only [Option.bind_some];have m3':BP (cs.flatten ++ T') (xs.length:Int) () 20=_:=m3;rw [m3'];rfl
theorem GL (out:List aN) (x:aN) (hS:lx dt out) (hl:out.length<=4194304) (t11:List (gk)) (t12 t13:Int) (t18:List aN) (t19 t20:Int) (b2:List aN×Unit):∀ (n:Nat) (A B:List aN),out=A ++ B->A.length=n->(∀ y∈B,dt x y=true) ->
 ∃ A' B',out=A' ++ B'/\(∀ y∈B',dt x y=true)/\(∀ y∈A',dt x y=false)/\AM out (A.length:Int) t11 t12 t13 t18 t19 t20 b2 x=some (.inl (out,(A'.length:Int),t11,t12,t13,t18,t19,t20,b2,x,())):=by
 have hbig:aX=140737488355328:=rfl;intro n;induction n with
 | zero => intro A B hAB hn hB;have:A=[]:=List.length_eq_zero_iff.1 hn;subst this;refine ⟨[],B,hAB,hB,fun y hy=>by simp at hy,aJ _ ?_⟩;show vV out 0 t11 t12 t13 t18 t19 t20 b2 x=_;unfold vV;rfl
 | succ n ih =>
   intro A B hAB hn hB;obtain ⟨C,y,rfl⟩:=th (a:=A) (fun h=>by subst h; simp at hn);have hC:C.length=n:=by simpa using hn
   have hlen:=congrArg List.length hAB;simp only [List.length_append,List.length_cons,List.length_nil] at hlen;have k1:aG .i64 ((C ++ [y]).length:Int) 1=(C.length:Int):=by rw [aO (by simp only [List.length_append,List.length_cons,List.length_nil]; omega) (by simp only [List.length_append,List.length_cons,List.length_nil]; omega)]; simp only [List.length_append,List.length_cons,List.length_nil]; omega
   have e0:out=C ++ y :: B:=by rw [hAB]; simp
   have i1:a7 (C.length:Int) out=true:=by rw [e0]; exact gW _ _ _ rfl
   have g1:gt d92 out (C.length:Int)=y:=by rw [e0]; exact ux _ _ _ _ rfl
   have hstep:vV out ((C ++ [y]).length:Int) t11 t12 t13 t18 t19 t20 b2 x=cond (dt x y) (some (.inl (out,(C.length:Int),t11,t12,t13,t18,t19,t20,b2,x,()))) (some (.inr (.inl (out,((C ++ [y]).length:Int),t11,t12,t13,t18,t19,t20,b2,x,())))):=by unfold vV;rw [aF (by simp only [List.length_append,List.length_cons,List.length_nil]; omega)];dsimp only [cond_true];rw [k1,i1,g1,sP];dsimp only [cond_true];rw [Bool.not_not]
   cases hc:dt x y with
   | true =>
     rw [hc] at hstep;obtain ⟨A',B',r1,r2,r3,r4⟩:=ih C (y :: B) e0 hC (fun z hz=>by
      rcases List.mem_cons.1 hz with rfl | hz
      . exact hc
      . exact hB z hz)
     exact ⟨A',B',r1,r2,r3,aQ _ hstep r4⟩
   | false =>
     rw [hc] at hstep;refine ⟨C ++ [y],B,hAB,hB,fun z hz => ?_,aJ _ hstep⟩;rcases List.mem_append.1 hz with hz | hz
     . rw [hAB] at hS;have:=(cq.1 (cq.1 hS).1).2.2 z hz y (by simp);exact fe.le_trans this hc
     . simp only [List.mem_singleton] at hz; subst hz; exact hc
abbrev fO:=Int×List aN×Unit
def fj (l:List fO):List aN:=(l.map fun s=>s.2.1).flatten
def wU (l:List fO):Prop:=l.length<=1048576/\(fj l).length<=1048576/\∀ s∈l,∀ a∈s.2.1,jo a
theorem qS {l:List fO} {i:Nat} {s:fO} (h:l[i]? = some s):fj (l.take (i + 1))=fj (l.take i) ++ s.2.1:=by unfold fj;rw [List.take_add_one,h];simp
theorem xZ (l:List fO) (i:Nat):(fj (l.take i)).length<=(fj l).length:=by
 have:fj l=fj (l.take i) ++ fj (l.drop i):=by unfold fj;rw [<- List.flatten_append,<- List.map_append,List.take_append_drop]
 rw [this,List.length_append];omega
theorem PN (base acc:List aN) (hb:∀ a∈acc,jo a) (hl:(base ++ acc).length<=1048576) (t11:List fO) (t12 t13:Int) (b2:List aN×Unit) (out:List aN) (h1:lx dt out) (h2:eo dt base out) :
 ∃ M,(lx dt M/\eo dt (base ++ acc.take acc.length) M)/\C5 out t11 t12 t13 acc (ae acc) 0 b2=some (.inl (M,t11,t12,t13,acc,ae acc,(acc.length:Int),b2,())):=by
 have hbig:aX=140737488355328:=rfl;rw [List.length_append] at hl;refine na (step:=xM sk) acc (fun i (o:List aN)=>(o,t11,t12,t13,acc,ae acc,((i:Nat):Int),b2,())) (fun o=> .inl (o,t11,t12,t13,acc,ae acc,(acc.length:Int),b2,())) (fun i o=>lx dt o/\eo dt (base ++ acc.take i) o) (fun i x o hx ho => ?_) (fun o ho => ?_) acc.length 0 out (by omega) ⟨h1,by simpa using h2⟩
 . have hlt:=aj hx;have hxB:=hb x (List.mem_of_getElem? hx);have hol:o.length<=1048576:=by
    have:=ho.2.1;rw [List.length_append,List.length_take] at this;omega
   obtain ⟨A,B,r1,r2,r3,r4⟩:=GL o x ho.1 (by omega) t11 t12 t13 acc (ae acc) (i:Int) b2 o.length o [] (by simp) rfl (fun y hy=>by simp at hy);have hAB:o.length=A.length + B.length:=by rw [r1,List.length_append]
   refine ⟨A ++ [x] ++ B,?_,?_,?_⟩
   . show sk o t11 t12 t13 acc (ae acc) (i:Int) b2=_;unfold sk;have r4':AM o (ae o) t11 t12 t13 acc (ae acc) (i:Int) b2 x=_:=r4;have f1:dI 0 (A.length:Int) o=true:=by
      show (decide ((0:Int)<=0) && (decide ((0:Int)<=(A.length:Int)) && decide ((A.length:Int)<=(o.length:Int))))=true;rw [decide_eq_true (by omega),decide_eq_true (by omega),decide_eq_true (by omega)]; rfl
     have f2:S3 160 [] o (A.length:Int)=true:=Nat.ble_eq_true_of_le (by simp only [List.length_nil,Int.toNat_natCast]; omega);have f3:NA o (A.length:Int)=A:=by unfold NA; rw [Int.toNat_natCast,r1]; simp
     have f4:W7 o (A.length:Int)=B:=by unfold W7; rw [Int.toNat_natCast,r1]; simp
     have f5:PA (A.length:Int) (A.length:Int)=true:=by unfold PA preB bz;rw [decide_eq_true (by omega),Nat.beq_refl]; rfl
     have f6:cR 160 (lP [] A) [x]=true:=Nat.ble_eq_true_of_le (by show ((([]:List aN) ++ A).length + 1) * 160<=aX; simp only [List.nil_append]; omega);have f7:cR 160 (lP (lP [] A) [x]) B=true:=Nat.ble_eq_true_of_le (by show ((([]:List aN) ++ A ++ [x]).length + B.length) * 160<=aX; simp only [List.nil_append,List.length_append,List.length_cons,List.length_nil]; omega);rw [aH hx,aC hx,aR _ hx,r4'];dsimp only [cond_true,Option.bind_some,Sum.elim_inl];rw [f1,f2,f3,f4,f5,Ib x hxB,aP (by omega)];dsimp only [cond_true,Option.bind_some];rw [f6,f7];rfl
   . have hs:=ho.1;rw [r1] at hs;have hs:=cq.1 hs;rw [List.append_assoc];refine cq.2 ⟨hs.1,List.pairwise_cons.2 ⟨fun y hy=>DG (r2 y hy),hs.2.1⟩,fun y hy z hz => ?_⟩;rcases List.mem_cons.1 hz with rfl | hz
     . exact r3 y hy
     . exact hs.2.2 y hy z hz
   . have e1:base ++ acc.take (i + 1)=base ++ acc.take i ++ [x]:=by rw [List.take_add_one,hx]; simp
     rw [e1];have q1:=ho.2.append (eo.refl [x]);have q2:eo dt (B ++ [x]) ([x] ++ B):=eo.swap fe fun y hy z hz=>by simp only [List.mem_singleton] at hz; subst hz; exact r2 y hy
     have q3:=(eo.refl A).append q2;rw [r1] at q1;rw [List.append_assoc A] at q1;rw [List.append_assoc A];exact q1.trans q3
 . show sk o t11 t12 t13 acc (ae acc) (acc.length:Int) b2=_;unfold sk;rw [ax rfl]; rfl
theorem AX (l:List fO) (hB:wU l):∃ M,(lx dt M/\eo dt (fj l) M)/\MP l=some ((),((M,()),())):=by
 have hbig:aX=140737488355328:=rfl;have hl:=hB.1;obtain ⟨M,⟨m1,m2⟩,m3⟩:=na (step:=gi su) l (fun j (o:List aN)=>(o,l,ae l,((j:Nat):Int),(([]:List aN),()),())) (fun o=> .inl (o,l,ae l,(l.length:Int),([],()),())) (fun j o=>lx dt o/\eo dt (fj (l.take j)) o) (fun j s o hx ho=>by
  have hlt:=aj hx;have hs:=hB.2.2 s (List.mem_of_getElem? hx);have e1:=qS hx;have e2:=xZ l (j + 1);have e3:=hB.2.1;obtain ⟨M,⟨m1,m2⟩,m3⟩:=PN (fj (l.take j)) s.2.1 hs (by rw [<- e1]; omega) l (ae l) (j:Int) ([],()) o ho.1 ho.2;rw [List.take_length,<- e1] at m2;refine ⟨M,?_,m1,m2⟩;show su o l (ae l) (j:Int) ([],())=_;unfold su;rw [aH hx,aC hx,aR _ hx];dsimp only [cond_true];rw [m3];dsimp only [Option.bind_some,Sum.elim_inl];rw [aP (by omega)]) (fun o ho=>by
  show su o l (ae l) (l.length:Int) ([],())=_;unfold su;rw [ax rfl]; rfl) l.length 0 [] (by omega) ⟨Dq,eo.refl _⟩
 rw [List.take_length] at m2;refine ⟨M,⟨m1,m2⟩,?_⟩;unfold MP;have m3':C9 [] l (ae l) 0 ([],())=_:=m3;rw [m3'];rfl
theorem He (acc:List aN) (hb:∀ a∈acc,jo a) (hl:acc.length<=1048576):Ur (acc,())=some ((),((acc,()),())):=by
 have hbig:aX=140737488355328:=rfl;unfold Ur OB;have h:=a6 (step:=D1 ob) acc (fun i (a:List aN)=>((),acc,ae acc,((i:Nat):Int),(([]:List aN),()),(a,()),())) (fun _ x a=>Sum.inl (a ++ [x])) (fun a=> .inl ((),acc,ae acc,(acc.length:Int),([],()),(a,()),())) (fun i a=>a.length=i) (a0:=[]) rfl (fun i x a hx ha=>by
  have hlt:=aj hx;show ob () acc (ae acc) (i:Int) ([],()) (a,())=_;unfold ob;have e:∀ y:aN,cR 160 a [y]=true:=fun y=>Nat.ble_eq_true_of_le (by simp; omega)
  rw [aH hx,aC hx,aR _ hx,Jr x (hb x (List.mem_of_getElem? hx)),aP (by omega)];dsimp only [cond_true,Option.bind_some];rw [e];rfl) (fun i x a a' hx ha hf=>by
  simp only [Sum.inl.injEq] at hf;rw [<- hf,List.length_append,ha]; rfl) (fun a ha=>by
  show ob () acc (ae acc) (acc.length:Int) ([],()) (a,())=_;unfold ob;rw [ax rfl]; rfl)
 rw [jx] at h;have h':Jf () acc (ae acc) 0 ([],()) ([],())=_:=h;dsimp only;rw [h'];rfl
theorem G5 (l:List fO) (hB:wU l):∃ M,(lx dt M/\eo dt (fj l) M)/\Oc l=some ((),((M,()),())):=by
 have hbig:aX=140737488355328:=rfl;have hl:=hB.1;have hl2:=hB.2.1;obtain ⟨o,ho,hm⟩:=na (step:=gi vo) l (fun j (o:List aN)=>(l,ae l,((j:Nat):Int),(([]:List aN),()),(o,()),())) (fun o=> .inl (l,ae l,(l.length:Int),([],()),(o,()),())) (fun j o=>o=fj (l.take j)) (fun j s o hx ho=>by
  have hlt:=aj hx;have hs:=hB.2.2 s (List.mem_of_getElem? hx);have e1:=qS hx;have e2:=xZ l (j + 1);rw [e1,List.length_append] at e2;refine ⟨o ++ s.2.1,?_,by rw [ho,e1]⟩;show vo l (ae l) (j:Int) ([],()) (o,())=_;unfold vo;have e:cR 160 o s.2.1=true:=Nat.ble_eq_true_of_le (by rw [ho]; omega);rw [aH hx,aC hx,aR _ hx];dsimp only [cond_true];rw [He s.2.1 hs (by omega)];dsimp only [cond_true,Option.bind_some];rw [e,aP (by omega)];rfl) (fun o ho=>by
  show vo l (ae l) (l.length:Int) ([],()) (o,())=_;unfold vo;rw [ax rfl]; rfl) l.length 0 [] (by omega) rfl
 rw [List.take_length] at ho;subst ho;obtain ⟨M,m1,m2,m3⟩:=P1 (fj l) (by omega);refine ⟨M,⟨m1,m2⟩,?_⟩;unfold Oc;have hm':L8 l (ae l) 0 ([],()) ([],())=_:=hm;rw [hm'];dsimp only [Option.bind_some,Sum.elim_inl];rw [m3];rfl
theorem FD (l:List fO) (hB:wU l):∃ M,M.length=(fj l).length/\(∀ x∈M,x∈fj l)/\eo dt (fj l) M/\MP l=some ((),((M,()),()))/\Oc l=some ((),((M,()),())):=by obtain ⟨M,⟨m1,m2⟩,m3⟩:=AX l hB;obtain ⟨M',⟨p1,p2⟩,p3⟩:=G5 l hB;have e:=pC fe p1 m1 (p2.symm.trans m2);subst e;exact ⟨M',p2.1.symm,fun x hx=>(p2.mem fe).2 hx,p2,m3,p3⟩
abbrev aS:=List (Int×Unit)
def xH (b:aS):Prop:=b.length<=1048576/\∀ x∈b,0<=x.1/\x.1<=255
def ep (b:aS) (a k:Nat):aS:=(b.drop a).take k
theorem H8 (b:aS) (a k:Nat):sub b (a:Int) ((a + k:Nat):Int)=ep b a k:=by unfold sub ep;rw [Int.toNat_natCast,Int.toNat_natCast,List.drop_take,Nat.add_sub_cancel_left]
theorem lk {b:aS} {a k:Nat} (h:a + k<=b.length):(ep b a k).length=k:=by unfold ep;rw [List.length_take,List.length_drop];omega
theorem IY {b:aS} {a k i:Nat} {x:Int×Unit} (h:(ep b a k)[i]? = some x):i < k/\b[a + i]? = some x:=by
 unfold ep at h;rw [List.getElem?_take] at h;split at h
 . rw [List.getElem?_drop] at h;exact ⟨by assumption,h⟩
 . simp at h
theorem Qa {b:aS} {a k:Nat} {x:Int×Unit} (h:x∈ep b a k):x∈b:=List.mem_of_mem_drop (List.mem_of_mem_take h)
theorem D4 {b:aS} {a k:Nat} (h:a + k<=b.length):dI (a:Int) ((a + k:Nat):Int) b=true:=by show (decide ((0:Int)<=(a:Int)) && (decide ((a:Int)<=((a + k:Nat):Int)) && decide (((a + k:Nat):Int)<=(b.length:Int))))=true;rw [decide_eq_true (by omega),decide_eq_true (by omega),decide_eq_true (by omega)]; rfl
theorem yO (b:aS) (a k:Nat) (hb:b.length<=1048576) (ha:a<=b.length) (hk:k<=1048576):yJ b a k=some ((),(if a + k<=b.length then ((ep b a k,()),(true,()),()) else (([],()),(false,()),()))):=by
 unfold yJ;have e:aG .i64 (ae b) (a:Int)=(b.length:Int) - a:=aO (by show -4611686018427387904<=(b.length:Int) - a; omega) (by show (b.length:Int) - a<=_; omega);have i1:dk (a:Int) 0 (ae b)=true:=fg.2 ⟨by omega,by show (a:Int)<=(b.length:Int); omega⟩;have e2:aq .i64 (a:Int) (k:Int)=((a + k:Nat):Int):=by rw [bd (by omega) (by omega)]; omega
 dsimp only;rw [iF,e,e2];dsimp only [Option.bind_some];rw [i1,ay (a:=(k:Int)) (b:=0) (by omega)];by_cases h:a + k<=b.length
 . rw [ay (by omega),if_pos h,D4 h,H8];rfl
 . rw [aF (by omega),if_neg h]; rfl
def dP (s:List UInt8):Bool:=s.all fun x=>cond (au (x.toNat:Int) 32) false (!(au 126 (x.toNat:Int)))
theorem D7 (s:List UInt8) (hs:s.length<=aX):yF s=some ((),((dP s,()),())):=by
 unfold yF;have h:=aE (step:=wP nR) s (fun i (_:Unit)=>(s,((i:Nat):Int),())) (fun _ x _=>bif cond (au (x.toNat:Int) 32) false (!(au 126 (x.toNat:Int))) then Sum.inl () else .inr (.inr (false,()))) (fun _=> .inl (s,(s.length:Int),())) (a0:=()) (fun i x a hx=>by
  have hlt:=aj hx;show nR s (i:Int)=_;unfold nR;rw [aH hx,aC hx,eD hx,aP (by omega)];dsimp only [cond_true];cases au (x.toNat:Int) 32 <;> cases au 126 (x.toNat:Int) <;> rfl) (fun a=>by
  show nR s (s.length:Int)=_;unfold nR;rw [ax rfl]; rfl)
 rw [fN] at h;have h':Iz s 0=_:=h;rw [h'];unfold dP;cases s.all _ <;> rfl
theorem LP (s:List UInt8) (hs:s.length<=aX):EL s=some ((),((dP s,()),())):=by
 unfold EL;have h:=aE (step:=fb oD) s (fun i (_:Unit)=>(s,ae s,((i:Nat):Int),())) (fun _ x _=>bif cond (au (x.toNat:Int) 32) false (!(au 126 (x.toNat:Int))) then Sum.inl () else .inr (.inr (false,()))) (fun _=> .inl (s,ae s,(s.length:Int),())) (a0:=()) (fun i x a hx=>by
  have hlt:=aj hx;show oD s (ae s) (i:Int)=_;unfold oD;rw [aH hx,aC hx,eD hx,aP (by omega)];dsimp only [cond_true];cases au (x.toNat:Int) 32 <;> cases au 126 (x.toNat:Int) <;> rfl) (fun a=>by
  show oD s (ae s) (s.length:Int)=_;unfold oD;rw [ax rfl]; rfl)
 rw [fN] at h;have h':Hu s (ae s) 0=_:=h;rw [h'];unfold dP;cases s.all _ <;> rfl
def kL (acc:Nat) (s:List UInt8):Nat:=s.foldl (fun n x=>n * 10 + (x.toNat - 48)) acc
theorem yI:∀ (s:List UInt8) (acc k:Nat),s.all fA=true->acc < 10 ^ k->kL acc s < 10 ^ (k + s.length)
 | [],acc,k,_,h=>h
 | x :: s,acc,k,hd,h=>by simp only [List.all_cons,Bool.and_eq_true] at hd;have:=fG.1 hd.1;have h2:=yI s (acc * 10 + (x.toNat - 48)) (k + 1) hd.2 (by rw [Nat.pow_succ]; omega);rw [List.length_cons,show k + (s.length + 1)=k + 1 + s.length by omega];exact h2
theorem Ac:∀ (s:List UInt8) (acc:Nat),s.all fA=true->kL acc s < 1844674407370955162->Lib.parseUint10 acc s= .ok (kL acc s)
 | [],acc,_,_=>rfl
 | x :: s,acc,hd,h=>by
   simp only [List.all_cons,Bool.and_eq_true] at hd;have hx:=fG.1 hd.1;have hmono:∀ (s:List UInt8) (a:Nat),a<=kL a s:=fun s=>by
    induction s with
    | nil=>intro a; exact Nat.le_refl _
    | cons y s ih=>intro a; exact Nat.le_trans (by omega) (ih (a * 10 + (y.toNat - 48)))
   have h1:=hmono s (acc * 10 + (x.toNat - 48));have h:kL (acc * 10 + (x.toNat - 48)) s < 1844674407370955162:=h;have ih:=Ac s (acc * 10 + (x.toNat - 48)) hd.2 h;unfold Lib.parseUint10;rw [if_pos hx,if_neg (by omega),if_neg (by omega),ih];rfl
theorem da {s:List UInt8}:aT s=true↔s.all fA=true/\s≠[]:=by
 unfold aT;cases s.all fA with
 | false=>simp
 | true=>cases s <;> simp [au,ae]
def w9 (s:List UInt8):Option Nat:=if aT s=true/\s.length<=18 then some (kL 0 s) else none
def Ku (o:Option Nat):Option (Unit×((Int×Unit)×(Bool×Unit)×Unit)):=some ((),match o with | some n=>(((n:Int),()),(true,()),()) | none=>((0,()),(false,()),()))
theorem MV (s:List UInt8) (hs:s.length<=aX):Cv s=Ku (w9 s):=by
 unfold Cv sZ w9;rw [gp s hs];dsimp only [Option.bind_some];cases hd:aT s with
 | false=>rfl
 | true =>
   by_cases h18:s.length<=18
   . rw [if_pos ⟨rfl,h18⟩,Nat.ble_eq_true_of_le h18];obtain ⟨h1,h2⟩:=da.1 hd;have hb:=yI s 0 0 h1 (by decide);have hb2:kL 0 s < 1000000000000000000:=Nat.lt_of_lt_of_le hb (by rw [Nat.zero_add]; exact Nat.pow_le_pow_right (by decide) h18);have hu:=Ac s 0 h1 (by omega);have hv:Lib.atoiAll s= .ok (kL 0 s:Int):=by
      cases s with
      | nil=>exact absurd rfl h2
      | cons c r => have hc:=List.all_eq_true.1 h1 c (by simp);have hc:=fG.1 hc;rw [Lib.atoiAll_plain c r (by omega) (by omega)];unfold Lib.parseMag;rw [if_neg (by simp),hu];show (if 9223372036854775808<=kL 0 (c :: r) then _ else _)=_;rw [if_neg (by omega)]
     rw [hv];rfl
   . rw [if_neg (fun h=>h18 h.2)];have:Nat.ble s.length 18=false:=by
      cases h:Nat.ble s.length 18 with
      | false=>rfl
      | true=>exact absurd (Nat.le_of_ble_eq_true h) h18
     rw [this];rfl
theorem C6 (s:List UInt8) (hs:s.length<=aX):sF s=Ku (w9 s):=by
 have hbig:aX=140737488355328:=rfl;unfold sF w9;rw [fI s hs];dsimp only [Option.bind_some];cases hd:aT s with
 | false=>rfl
 | true =>
   by_cases h18:s.length<=18
   . rw [if_pos ⟨rfl,h18⟩,ay (by show ¬ (18:Int) < (s.length:Int); omega)];obtain ⟨h1,h2⟩:=da.1 hd;have h:=a6 (step:=fb nC) s (fun i (a:Nat)=>(s,(a:Int),((i:Nat):Int),())) (fun _ x a=>Sum.inl (a * 10 + (x.toNat - 48))) (fun a=> .inl (s,(a:Int),(s.length:Int),())) (fun i a=>a < 10 ^ i) (a0:=0) (by decide) (fun i x a hx ha=>by
      have hlt:=aj hx;have hc:=fG.1 (List.all_eq_true.1 h1 x (List.mem_of_getElem? hx));have h17:a < 10 ^ 17:=Nat.lt_of_lt_of_le ha (Nat.pow_le_pow_right (by decide) (by omega));have h17':a < 100000000000000000:=h17;show nC s (a:Int) (i:Int)=_;unfold nC;have m:jI .i64 (a:Int) 10=((a * 10:Nat):Int):=by unfold jI; rw [IntKind.wrap_i64]; omega
      have c:bN .i64 (x.toNat:Int)=(x.toNat:Int):=by unfold bN; rw [IntKind.wrap_i64]; omega
      rw [aH hx,aC hx,eD hx,aP (by omega),m,c,bd (by omega) (by omega),aO (by omega) (by omega)];dsimp only [cond_true];rw [show ((a * 10:Nat):Int) + (x.toNat:Int) - 48=((a * 10 + (x.toNat - 48):Nat):Int) by omega]) (fun i x a a' hx ha hf=>by
      have hc:=fG.1 (List.all_eq_true.1 h1 x (List.mem_of_getElem? hx));simp only [Sum.inl.injEq] at hf;rw [<- hf,Nat.pow_succ];omega) (fun a ha=>by
      show nC s (a:Int) (s.length:Int)=_;unfold nC;rw [ax rfl]; rfl)
     rw [bP] at h;have h':Jj s 0 0=_:=h;rw [h'];rfl
   . rw [if_neg (fun h=>h18 h.2),aF (by show (18:Int) < (s.length:Int); omega)];rfl
theorem IA {s t:List UInt8} (h:s.length + t.length<=aX):QA s t=true:=Nat.ble_eq_true_of_le h
def JD (x:Int×Unit):List UInt8:=[UInt8.ofNat (48 + x.1.toNat / 16),UInt8.ofNat (48 + x.1.toNat % 16)]
def ph (l:aS):List UInt8:=(l.map JD).flatten
theorem qm:∀ l:aS,(ph l).length=2 * l.length
 | []=>rfl
 | x :: r=>by have:=qm r;unfold ph at this ⊢;simp only [List.map_cons,List.flatten_cons,List.length_append,this,JD,List.length_cons,List.length_nil];omega
def yv:List UInt8->aS
 | []=>[]
 | x :: r=>((x.toNat:Int),()) :: yv r
theorem rH:∀ q:List UInt8,strOf (yv q)=q
 | []=>rfl
 | x :: r=>by show UInt8.ofNat (Int.toNat (x.toNat:Int)) :: strOf (yv r)=_;rw [rH r,Int.toNat_natCast];simp
theorem sM:∀ q:List UInt8,(yv q).length=q.length
 | []=>rfl
 | x :: r=>congrArg (· + 1) (sM r)
theorem Eb:∀ q r:List UInt8,yv (q ++ r)=yv q ++ yv r
 | [],r=>rfl
 | x :: q,r=>congrArg (((x.toNat:Int),()) :: ·) (Eb q r)
theorem Bc:∀ (n:Nat) (q:List UInt8),(yv q).drop n=yv (q.drop n)
 | 0,q=>by simp
 | n + 1,[]=>rfl
 | n + 1,x :: r=>Bc n r
def iO (b:aS) (a n:Nat):Option (List UInt8) :=
 if 1<=n/\n<=38/\a + (n + 1) / 2<=b.length then
  (if (ph (ep b a ((n + 1) / 2))).all fA=true/\(n % 2=1->(ph (ep b a ((n + 1) / 2))).head? = some 48) then some ((ph (ep b a ((n + 1) / 2))).drop (n % 2)) else none)
 else none
def wT (o:Option (List UInt8)) (e:Int):Option (Unit×((List UInt8×Unit)×(Int×Unit)×(Bool×Unit)×Unit)):=some ((),match o with | some s=>((s,()),(e,()),(true,()),()) | none=>(([],()),(0,()),(false,()),()))
theorem yX {s:List UInt8}:s.head? = some 48↔∃ r,s=48 :: r:=by
 cases s with
 | nil=>simp
 | cons x r=>simp
theorem HJ (n:Nat) (h:n<=1048576):oM .i64 (aq .i64 (n:Int) 1) 2=(((n + 1) / 2:Nat):Int):=by rw [bd (by omega) (by omega)];unfold oM;rw [Int.tdiv_eq_ediv_of_nonneg (by omega),IntKind.wrap_i64];omega
theorem MQ (n:Nat):ak (gH (n:Int) 2) 1=decide (n % 2=1):=by
 unfold ak gH;rw [Int.tmod_eq_emod_of_nonneg (by omega)];by_cases h:n % 2=1
 . rw [decide_eq_true h]; exact beq_iff_eq.2 (by omega)
 . rw [decide_eq_false h]; exact beq_eq_false_iff_ne.2 (by omega)
theorem Qw (x:Int×Unit) (h:0<=x.1/\x.1<=255):strOf [((bN .u8 (aq .i64 48 (oM .i64 (bN .i64 x.1) 16))),()),((bN .u8 (aq .i64 48 (gH (bN .i64 x.1) 16))),())]=JD x:=by
 obtain ⟨⟨n,hn⟩,hn2⟩:(∃ n:Nat,x.1=n)/\x.1<=255:=⟨⟨x.1.toNat,by omega⟩,h.2⟩;have c:bN .i64 x.1=(n:Int):=by unfold bN; rw [IntKind.wrap_i64]; omega
 have q:oM .i64 (n:Int) 16=((n / 16:Nat):Int):=by unfold oM; rw [Int.tdiv_eq_ediv_of_nonneg (by omega),IntKind.wrap_i64]; omega
 have r:gH (n:Int) 16=((n % 16:Nat):Int):=by unfold gH; rw [Int.tmod_eq_emod_of_nonneg (by omega)]; omega
 have u:∀ k:Nat,k<=16->bN .u8 (aq .i64 48 (k:Int))=((48 + k:Nat):Int):=fun k hk=>by rw [bd (by omega) (by omega)]; unfold bN; rw [IntKind.wrap_u8]; omega
 rw [c,q,r,u _ (by omega),u _ (by omega)];unfold strOf JD;rw [hn];rfl
theorem T3:∀ c:Fin 256,aq .u8 48 (ic .u8 (c.val:Int) 4)=((48 + c.val / 16:Nat):Int)/\aq .u8 48 (zw .u8 (c.val:Int) 15)=((48 + c.val % 16:Nat):Int):=by decide +kernel
theorem E3 {s:List UInt8} (h:∃ r,s=48 :: r):(s.drop 1).all fA=s.all fA:=by obtain ⟨r,rfl⟩:=h;rfl
theorem GI {s:List UInt8} (hs:s≠[]):ak (dq s 0) 48=true↔∃ r,s=48 :: r:=by
 cases s with
 | nil=>exact absurd rfl hs
 | cons x r =>
   show ((x.toNat:Int) == 48)=true↔_;rw [beq_iff_eq];refine ⟨fun h=>⟨r,?_⟩,fun ⟨r',h⟩ => ?_⟩
   . have:x=48:=UInt8.toNat_inj.1 (by show x.toNat=48; omega);rw [this]
   . rw [(List.cons.inj h).1]; rfl
theorem lT {s:List UInt8} (hs:s≠[]):aT s=s.all fA:=by
 cases h:s.all fA with
 | true=>exact da.2 ⟨h,hs⟩
 | false =>
   cases h2:aT s with
   | false=>rfl
   | true=>rw [(da.1 h2).1] at h; simp at h
theorem KU {s:List UInt8} {n:Nat} (h:n < s.length):s.drop n≠[]:=fun e=>by have:=congrArg List.length e;rw [List.length_drop] at this;simp only [List.length_nil] at this;omega
theorem Dc (b:aS) (a n:Nat) (hb:xH b) (ha:a<=b.length) (hn:n<=1048576):ud b a n=wT (iO b a n) ((a + (n + 1) / 2:Nat):Int):=by
 have hbig:aX=140737488355328:=rfl;have hl:=hb.1;unfold ud iO;have e:aG .i64 (ae b) (a:Int)=(b.length:Int) - a:=aO (by show -4611686018427387904<=(b.length:Int) - a; omega) (by show (b.length:Int) - a<=_; omega);have hq:=HJ n hn;dsimp only;rw [e,hq,ay (a:=(a:Int)) (b:=0) (by omega),ay (a:=ae b) (b:=(a:Int)) (by show ¬ (b.length:Int) < a; omega)];by_cases h1:1<=n/\n<=38;rotate_left
 . rw [if_neg (fun h=>h1 ⟨h.1,h.2.1⟩)];by_cases h0:(n:Int) < 1
   . rw [aF h0]; rfl
   . rw [ay h0,aF (by omega)]; rfl
 rw [ay (a:=(n:Int)) (b:=1) (by omega),ay (a:=38) (b:=(n:Int)) (by omega)];dsimp only [cond_false,cond_true];by_cases h2:a + (n + 1) / 2<=b.length;rotate_left
 . rw [if_neg (fun h=>h2 h.2.2),aF (by omega)]; rfl
 rw [if_pos ⟨h1.1,h1.2,h2⟩,ay (by omega)];dsimp only [cond_false];have hpl:=lk h2;have h:=a6 (step:=gi oI) (ep b a ((n + 1) / 2)) (fun i (o:List UInt8)=>(b,(a:Int),(n:Int),o,((a + i:Nat):Int),())) (fun _ x o=>Sum.inl (o ++ JD x)) (fun o=> .inl (b,(a:Int),(n:Int),o,((a + (n + 1) / 2:Nat):Int),())) (fun i o=>o.length=2 * i) (a0:=[]) rfl (fun i x o hx ho=>by
  obtain ⟨hik,hg⟩:=IY hx;have hlt:=aj hg;show oI b (a:Int) (n:Int) o ((a + i:Nat):Int)=_;unfold oI;rw [hq,bd (by omega) (by omega),aF (by omega),aC hg,aR _ hg];dsimp only [cond_true];rw [Qw x (hb.2 x (List.mem_of_getElem? hg)),IA (by show o.length + 2<=aX; omega),aP (by omega)];rfl) (fun i x o o' hx ho hf=>by
  simp only [Sum.inl.injEq] at hf;rw [<- hf,List.length_append,ho];show 2 * i + 2=_;omega) (fun o ho=>by
  show oI b (a:Int) (n:Int) o ((a + (ep b a ((n + 1) / 2)).length:Nat):Int)=_;unfold oI;rw [hq,bd (by omega) (by omega),hpl,ay (by omega)]; rfl)
 have hfold:∀ (l:aS) (o:List UInt8),l.foldl (fun o x=>o ++ JD x) o=o ++ ph l:=fun l=>by
  induction l with
  | nil=>intro o; simp [ph]
  | cons x r ih=>intro o; rw [List.foldl_cons,ih]; simp [ph]
 rw [bP,hfold,List.nil_append] at h;have h':F7 b (a:Int) (n:Int) [] (a:Int)=_:=h;rw [h'];generalize hs:ph (ep b a ((n + 1) / 2))=s;have hsl:s.length=2 * ((n + 1) / 2):=by rw [<- hs,qm,hpl]
 have hsne:s≠[]:=fun e=>by rw [e] at hsl; simp only [List.length_nil] at hsl; omega
 dsimp only [Option.bind_some,Sum.elim_inl];rw [MQ,hq,bd (by omega) (by omega),show (a:Int) + (((n + 1) / 2:Nat):Int)=((a + (n + 1) / 2:Nat):Int) by omega];by_cases hp:n % 2=1
 . rw [decide_eq_true hp,hp];have i0:a7 0 s=true:=jW (i:=0) (by omega);have c1:dI 1 (ae s) s=true:=by
    show (decide ((0:Int)<=1) && (decide ((1:Int)<=(s.length:Int)) && decide ((s.length:Int)<=(s.length:Int))))=true;rw [decide_eq_true (by omega),decide_eq_true (by omega),decide_eq_true (by omega)]; rfl
   have sb:sub s 1 (ae s)=s.drop 1:=by show (s.take (Int.toNat (s.length:Int))).drop 1=_;rw [Int.toNat_natCast,List.take_length]
   rw [i0];dsimp only [cond_true];by_cases h48:∃ r,s=48 :: r
   . rw [(GI hsne).2 h48];rw [c1,sb,fI _ (by rw [List.length_drop]; omega),lT (KU (by omega)),E3 h48];dsimp only [cond_true,Option.bind_some];cases hd:s.all fA with
     | false=>rw [if_neg (fun h=>by simp at h)]; rfl
     | true=>rw [if_pos ⟨rfl,fun _=>yX.2 h48⟩]; rfl
   . have:ak (dq s 0) 48=false:=by
      cases h:ak (dq s 0) 48 with
      | false=>rfl
      | true=>exact absurd ((GI hsne).1 h) h48
     rw [this,if_neg (fun h=>h48 (yX.1 (h.2 rfl)))]; rfl
 . rw [decide_eq_false hp];have hp0:n % 2=0:=by omega
   rw [hp0];dsimp only [cond_false];rw [fI _ (by omega),lT hsne];dsimp only [Option.bind_some];cases hd:s.all fA with
   | false=>rw [if_neg (fun h=>by simp at h)]; rfl
   | true=>rw [if_pos ⟨rfl,fun h=>by simp at h⟩]; rfl
theorem Ja (b:aS) (a n:Nat) (hb:xH b) (ha:a<=b.length) (hn:n<=1048576):zu b a n=wT (iO b a n) ((a + (n + 1) / 2:Nat):Int):=by
 have hbig:aX=140737488355328:=rfl;have hl:=hb.1;unfold zu iO;rw [iF,HJ n hn];dsimp only [Option.bind_some];by_cases h1:1<=n/\n<=38;rotate_left
 . rw [if_neg (fun h=>h1 ⟨h.1,h.2.1⟩)];have:dk (n:Int) 1 38=false:=by
    cases h:dk (n:Int) 1 38 with
    | false=>rfl
    | true=>have:=fg.1 h; omega
   rw [this]; rfl
 rw [fg.2 (by omega:(1:Int)<=n/\(n:Int)<=38),yO b a _ hl ha (by omega)];have hloop:∀ (t9:aS) (t10:Bool) (p:aS),(∀ x∈p,0<=x.1/\x.1<=255)->p.length<=20->I5 (a:Int) (n:Int) t9 t10 [] p (ae p) 0=some (.inl ((a:Int),(n:Int),t9,t10,yv (ph p),p,ae p,(p.length:Int),())):=fun t9 t10 p hp hpl=>by
  have h:=a6 (step:=xM nY) p (fun i (o:aS)=>((a:Int),(n:Int),t9,t10,o,p,ae p,((i:Nat):Int),())) (fun _ x o=>Sum.inl (o ++ yv (JD x))) (fun o=> .inl ((a:Int),(n:Int),t9,t10,o,p,ae p,(p.length:Int),())) (fun i o=>o.length=2 * i) (a0:=[]) rfl (fun i x o hx ho=>by
   have hlt:=aj hx;have hx2:=hp x (List.mem_of_getElem? hx);show nY (a:Int) (n:Int) t9 t10 o p (ae p) (i:Int)=_;unfold nY;rw [aH hx,aC hx,aR _ hx,aP (by omega)];obtain ⟨k,hk⟩:∃ k:Nat,x.1=k:=⟨x.1.toNat,by omega⟩;have hf:=T3 ⟨k,by omega⟩;dsimp only at hf;rw [hk,hf.1,hf.2];dsimp only [cond_true];have:∀ ys:aS,ys.length=2->cR 1 o ys=true:=fun ys hy=>Nat.ble_eq_true_of_le (by rw [hy]; omega)
   rw [this _ rfl];have e1:∀ m:Nat,m < 256->(UInt8.ofNat m).toNat=m:=fun m hm=>by simp [Nat.mod_eq_of_lt hm]
   show some (Sum.inl _)=some (Sum.inl _);unfold JD;rw [hk];simp only [Int.toNat_natCast,yv,lP,e1 (48 + k / 16) (by omega),e1 (48 + k % 16) (by omega)]) (fun i x o o' hx ho hf=>by
   simp only [Sum.inl.injEq] at hf;rw [<- hf,List.length_append,ho];show 2 * i + 2=_;omega) (fun o ho=>by
   show nY (a:Int) (n:Int) t9 t10 o p (ae p) (p.length:Int)=_;unfold nY;rw [ax rfl]; rfl)
  have hfold:∀ (l:aS) (o:aS),l.foldl (fun o x=>o ++ yv (JD x)) o=o ++ yv (ph l):=fun l=>by
   induction l with
   | nil=>intro o; show o=o ++ []; rw [List.append_nil]
   | cons x r ih=>intro o; rw [List.foldl_cons,ih,show ph (x :: r)=JD x ++ ph r from rfl,Eb,List.append_assoc]
  rw [bP,hfold,List.nil_append] at h;exact h
 by_cases h2:a + (n + 1) / 2<=b.length;rotate_left
 . rw [if_neg h2,if_neg (fun h=>h2 h.2.2)];exact (bn (hloop [] false [] (fun x hx=>by simp at hx) (by simp))).trans rfl
 rw [if_pos h2,if_pos ⟨h1.1,h1.2,h2⟩];have hpl:=lk h2;refine (bn (hloop _ true _ (fun x hx=>hb.2 x (Qa hx)) (by omega))).trans ?_;generalize hs:ph (ep b a ((n + 1) / 2))=s;have hsl:s.length=2 * ((n + 1) / 2):=by rw [<- hs,qm,hpl]
 have hsne:s≠[]:=fun e=>by rw [e] at hsl; simp only [List.length_nil] at hsl; omega
 show Option.bind (sI (strOf (yv s))) _=_;rw [rH,gp _ (by omega),lT hsne];generalize hm:yv s=m;have hlm:ae m=(s.length:Int):=by rw [<- hm]; show ((yv s).length:Int)=_; rw [sM]
 have hcut:aG .i64 (s.length:Int) (n:Int)=((n % 2:Nat):Int):=by rw [aO (by omega) (by omega)]; omega
 have hpc:ae (ep b a ((n + 1) / 2))=(((n + 1) / 2:Nat):Int):=by show ((ep b a _).length:Int)=_; rw [hpl]
 have c1:dI ((n % 2:Nat):Int) (s.length:Int) m=true:=by show (decide ((0:Int)<=((n % 2:Nat):Int)) && (decide (((n % 2:Nat):Int)<=(s.length:Int)) && decide ((s.length:Int)<=(m.length:Int))))=true;rw [show (m.length:Int)=(s.length:Int) from hlm,decide_eq_true (by omega),decide_eq_true (by omega),decide_eq_true (by omega)]; rfl
 have sb:strOf (sub m ((n % 2:Nat):Int) (s.length:Int))=s.drop (n % 2):=by rw [<- hm];show strOf (((yv s).take (Int.toNat (s.length:Int))).drop (Int.toNat ((n % 2:Nat):Int)))=_;rw [Int.toNat_natCast,Int.toNat_natCast,List.take_of_length_le (by rw [sM]; exact Nat.le_refl _)];exact (congrArg strOf (Bc _ _)).trans (rH _)
 have hF:(cond (dI (aG .i64 (ae m) (n:Int)) (ae m) m) (some ((),((strOf (sub m (aG .i64 (ae m) (n:Int)) (ae m)),()),(aq .i64 (a:Int) (ae (ep b a ((n + 1) / 2))),()),(true,()),()))) none:Option (Unit×((List UInt8×Unit)×(Int×Unit)×(Bool×Unit)×Unit)))=wT (some (s.drop (n % 2))) ((a + (n + 1) / 2:Nat):Int):=by rw [hlm,hcut,hpc,bd (by omega) (by omega),c1,sb,show (a:Int) + (((n + 1) / 2:Nat):Int)=((a + (n + 1) / 2:Nat):Int) by omega];rfl
 show cond (!(s.all fA)) (some ((),(([],()),(0,()),(false,()),()))) (cond (ak (gH (n:Int) 2) 1) (cond (a7 0 m) (cond (!(ak (gt (0,()) m 0).1 48)) (some ((),(([],()),(0,()),(false,()),()))) (cond (dI (aG .i64 (ae m) (n:Int)) (ae m) m) (some ((),((strOf (sub m (aG .i64 (ae m) (n:Int)) (ae m)),()),(aq .i64 (a:Int) (ae (ep b a ((n + 1) / 2))),()),(true,()),()))) none)) none)
  (cond (dI (aG .i64 (ae m) (n:Int)) (ae m) m) (some ((),((strOf (sub m (aG .i64 (ae m) (n:Int)) (ae m)),()),(aq .i64 (a:Int) (ae (ep b a ((n + 1) / 2))),()),(true,()),()))) none))=_
 rw [hF,MQ];cases hd:s.all fA with
 | false=>rw [if_neg (fun h=>by simp at h)]; rfl
 | true =>
   by_cases hp:n % 2=1
   . rw [decide_eq_true hp];subst hm;have hm0:∃ x r,s=x :: r:=by
      cases s with
      | nil=>exact absurd rfl hsne
      | cons x r=>exact ⟨x,r,rfl⟩
     obtain ⟨x,r,rfl⟩:=hm0;have i0:a7 0 (yv (x :: r))=true:=jW (i:=0) (by rw [sM]; simp);rw [i0];show cond (!(ak (x.toNat:Int) 48)) _ _=_;by_cases h48:x.toNat=48
     . have hx:x=48:=UInt8.toNat_inj.1 h48;rw [show ak (x.toNat:Int) 48=true from beq_iff_eq.2 (by omega),if_pos ⟨rfl,fun _=>by rw [hx]; rfl⟩]; rfl
     . rw [show ak (x.toNat:Int) 48=false from beq_eq_false_iff_ne.2 (by omega),if_neg (fun h=>by obtain ⟨r',h⟩:=yX.1 (h.2 hp);rw [(List.cons.inj h).1] at h48;exact h48 rfl)]; rfl
   . rw [decide_eq_false hp,if_pos ⟨rfl,fun h=>absurd h hp⟩]; rfl
def qu (p:aS) (i:Nat):Bool:=ak (gH (ic .i64 (bN .i64 (p.getD (i / 8) (0,())).1) ((7 - i % 8:Nat):Int)) 2) 1
def dO (p:aS):aS:=((List.range 64).filter (qu p)).map fun i=>(((i + 1:Nat):Int),())
theorem O2:∀ (c:Fin 256) (r:Fin 8),(!(ak (zw .u8 (c.val:Int) (ic .u8 128 (r.val:Int))) 0))=ak (gH (ic .i64 (bN .i64 (c.val:Int)) ((7 - r.val:Nat):Int)) 2) 1:=by decide +kernel
theorem rm (p:aS):∀ (l:List Nat) (o:aS),l.foldl (fun o i=>bif qu p i then o ++ [(((i + 1:Nat):Int),())] else o) o=o ++ (l.filter (qu p)).map fun i=>(((i + 1:Nat):Int),())
 | [],o=>by simp
 | i :: l,o=>by rw [List.foldl_cons,rm p l,List.filter_cons];cases qu p i <;> simp
theorem Dj {i x:Nat} (h:(List.range 64)[i]? = some x):x=i/\i < 64:=by have:=(List.getElem?_eq_some_iff.1 h);obtain ⟨h1,h2⟩:=this;rw [List.getElem_range] at h2;exact ⟨h2.symm,by simpa using h1⟩
theorem S9 {i:Nat} (h:i < 64):aG .i64 ((i + 1:Nat):Int) 1=(i:Int)/\oM .i64 (i:Int) 8=((i / 8:Nat):Int)/\gH (i:Int) 8=((i % 8:Nat):Int)/\bz ((i + 1:Nat):Int) 64=true:=by
 refine ⟨by rw [aO (by omega) (by omega)]; omega,?_,?_,decide_eq_true (by omega)⟩
 . unfold oM;rw [Int.tdiv_eq_ediv_of_nonneg (by omega),IntKind.wrap_i64];omega
 . unfold gH;rw [Int.tmod_eq_emod_of_nonneg (by omega)];omega
def nw (b:aS) (a:Nat):Option (Unit×((aS×Unit)×(Int×Unit)×(Bool×Unit)×Unit)):=some ((),(if a + 8<=b.length then ((dO (ep b a 8),()),(((a + 8:Nat):Int),()),(true,()),()) else (([],()),(0,()),(false,()),())))
theorem Dm (b:aS) (a k i:Nat) (hi:i < k) (h:a + k<=b.length):∃ x,b[a + i]? = some x/\(ep b a k).getD i (0,())=x/\(ep b a k)[i]? = some x:=by obtain ⟨x,hx⟩:∃ x,(ep b a k)[i]? = some x:=⟨_,List.getElem?_eq_getElem (by rw [lk h]; exact hi)⟩;exact ⟨x,(IY hx).2,by rw [List.getD_eq_getElem?_getD,hx]; rfl,hx⟩
theorem ID (b:aS) (a:Nat) (hb:xH b) (ha:a<=b.length):B9 b a=nw b a:=by
 have hbig:aX=140737488355328:=rfl;have hl:=hb.1;unfold B9 nw;have e:aG .i64 (ae b) 8=(b.length:Int) - 8:=aO (by show -4611686018427387904<=(b.length:Int) - 8; omega) (by show (b.length:Int) - 8<=_; omega);rw [e,ay (a:=(a:Int)) (b:=0) (by omega)];by_cases h8:a + 8<=b.length;rotate_left
 . rw [if_neg h8,aF (by omega)]; rfl
 rw [if_pos h8,ay (by omega)];have h:=a6 (step:=cW ru) (List.range 64) (fun i (o:aS)=>(b,(a:Int),o,((i + 1:Nat):Int),())) (fun _ x o=>Sum.inl (bif qu (ep b a 8) x then o ++ [(((x + 1:Nat):Int),())] else o)) (fun o=> .inl (b,(a:Int),o,65,())) (fun i o=>o.length<=i) (a0:=[]) (Nat.le_refl _) (fun i x o hx ho=>by
  obtain ⟨rfl,hi⟩:=Dj hx;obtain ⟨e1,e2,e3,e4⟩:=S9 hi;obtain ⟨c,hc,hd,_⟩:=Dm b a 8 (x / 8) (by omega) h8;show ru b (a:Int) o ((x + 1:Nat):Int)=_;unfold ru;have e5:aG .i64 7 ((x % 8:Nat):Int)=((7 - x % 8:Nat):Int):=by rw [aO (by omega) (by omega)]; omega
  have e6:aq .i64 (a:Int) ((x / 8:Nat):Int)=((a + x / 8:Nat):Int):=by rw [bd (by omega) (by omega)]; omega
  have hbit:qu (ep b a 8) x=ak (gH (ic .i64 (bN .i64 c.1) ((7 - x % 8:Nat):Int)) 2) 1:=by unfold qu; rw [hd]
  dsimp only;rw [e4,e1,e2,e3,e5,e6,aC hc,aR _ hc,show bz 0 ((7 - x % 8:Nat):Int)=true from decide_eq_true (by omega),<- hbit,aP (by omega)];have:cR 8 o [(((x + 1:Nat):Int),())]=true:=Nat.ble_eq_true_of_le (by show (o.length + 1) * 8<=aX; omega);rw [this];cases qu (ep b a 8) x <;> rfl) (fun i x o o' hx ho hf=>by
  simp only [Sum.inl.injEq] at hf;rw [<- hf];cases qu (ep b a 8) x with
  | false=>show o.length<=_; omega
  | true=>show (o ++ [_]).length<=_; rw [List.length_append]; show o.length + 1<=_; omega) (fun o ho=>by
  show ru b (a:Int) o (((List.range 64).length + 1:Nat):Int)=_;rfl)
 rw [bP,rm,List.nil_append] at h;have h':Hf b (a:Int) [] 1=_:=h;refine (bn h').trans ?_;show some ((),((_,()),(aq .i64 (a:Int) 8,()),(true,()),()))=_;rw [bd (by omega) (by omega)];rfl
theorem Gw (b:aS) (a:Nat) (hb:xH b) (ha:a<=b.length):Ak b a=nw b a:=by
 have hbig:aX=140737488355328:=rfl;have hl:=hb.1;unfold Ak nw;have hp:yJ b (a:Int) 8=_:=yO b a 8 hl ha (by decide);rw [hp];by_cases h8:a + 8<=b.length;rotate_left
 . rw [if_neg h8,if_neg h8]; rfl
 rw [if_pos h8,if_pos h8];generalize hq:ep b a 8=p;have h:=a6 (step:=cW re) (List.range 64) (fun i (o:aS)=>((a:Int),p,o,((i + 1:Nat):Int),())) (fun _ x o=>Sum.inl (bif qu p x then o ++ [(((x + 1:Nat):Int),())] else o)) (fun o=> .inl ((a:Int),p,o,65,())) (fun i o=>o.length<=i) (a0:=[]) (Nat.le_refl _) (fun i x o hx ho=>by
  obtain ⟨rfl,hi⟩:=Dj hx;obtain ⟨e1,e2,e3,e4⟩:=S9 hi;obtain ⟨c,hc,hd,hc2⟩:=Dm b a 8 (x / 8) (by omega) h8;rw [hq] at hd hc2;have hcb:=hb.2 c (List.mem_of_getElem? hc);show re (a:Int) p o ((x + 1:Nat):Int)=_;unfold re;obtain ⟨k,hk⟩:∃ k:Nat,c.1=k:=⟨c.1.toNat,by omega⟩;have hbe:=O2 ⟨k,by omega⟩ ⟨x % 8,by omega⟩;dsimp only at hbe;have hbit:qu p x= !(ak (zw .u8 c.1 (ic .u8 128 ((x % 8:Nat):Int))) 0):=by unfold qu; rw [hd,hk,hbe]
  dsimp only;rw [e4,e1,e2,e3,aC hc2,aR _ hc2,show bz 0 ((x % 8:Nat):Int)=true from decide_eq_true (by omega),<- hbit,aP (by omega)];have:cR 8 o [(((x + 1:Nat):Int),())]=true:=Nat.ble_eq_true_of_le (by show (o.length + 1) * 8<=aX; omega);rw [this];cases qu p x <;> rfl) (fun i x o o' hx ho hf=>by
  simp only [Sum.inl.injEq] at hf;rw [<- hf];cases qu p x with
  | false=>show o.length<=_; omega
  | true=>show (o ++ [_]).length<=_; rw [List.length_append]; show o.length + 1<=_; omega) (fun o ho=>by
  show re (a:Int) p o (((List.range 64).length + 1:Nat):Int)=_;rfl)
 rw [bP,rm,List.nil_append] at h;have h':Gs (a:Int) p [] 1=_:=h;refine (bn h').trans ?_;show some ((),((_,()),(aq .i64 (a:Int) 8,()),(true,()),()))=_;rw [bd (by omega) (by omega)];rfl
theorem kx (p:aS):(dO p).length<=64:=by unfold dO;rw [List.length_map];exact Nat.le_trans (List.length_filter_le _ _) (by simp)
theorem Jd {p:aS} {x:Int×Unit} (h:x∈dO p):1<=x.1/\x.1<=64:=by obtain ⟨i,hi,rfl⟩:=List.mem_map.1 h;have:=List.mem_range.1 (List.mem_filter.1 hi).1;constructor <;> (show _<=_) <;> omega
abbrev Np:=Int×Int×Int×Unit
def hE:List Np:=[(2,3,19,()),(3,1,6,()),(4,1,12,()),(7,1,10,()),(11,1,6,()),(14,1,4,()),(37,2,12,()),(38,2,6,()),(39,2,2,()),(41,2,8,()),(48,5,60,()),(49,1,3,()),(54,5,60,()),(95,2,12,()),(102,4,20,()),(103,4,20,())]
def Fw (no:Int):Np:=(hE.find? fun r=>ak r.1 no).getD (0,0,0,())
def bk (no:Int):Int:=(Fw no).2.1
def gC (no:Int):Int:=(Fw no).2.2.1
theorem nd {α Y:Type} (p:α->Bool) (y:α->Y) (z:Y):∀ (l:List α) (i:Nat),kl (fun _ x (_:Unit)=>bif p x then .inr (y x) else .inl ()) (fun _=>z) i l ()=match l.find? p with | some x=>y x | none=>z
 | [],_=>rfl
 | x :: l,i=>by
   have ih:=nd p y z l (i + 1);rw [List.find?_cons,kl];cases p x with
   | true=>rfl
   | false=>exact ih
theorem Im (no:Int):Ew no=some ((),(Fw no,())):=by
 unfold Ew;have h:=aE (step:=gi qH) hE (fun i (_:Unit)=>(no,hE,ae hE,((i:Nat):Int),(0,0,0,()),())) (fun _ x _=>bif ak x.1 no then .inr (.inr (x,())) else .inl ()) (fun _=> .inl (no,hE,ae hE,(hE.length:Int),(0,0,0,()),())) (a0:=()) (fun i x a hx=>by
  have hlt:=aj hx;have h16:hE.length=16:=rfl;have hbig:aX=140737488355328:=rfl;show qH no hE (ae hE) (i:Int) (0,0,0,())=_;unfold qH;rw [aH hx,aC hx,aR _ hx,aP (by omega)];dsimp only [cond_true];cases ak x.1 no <;> rfl) (fun a=>by
  show qH no hE (ae hE) (hE.length:Int) (0,0,0,())=_;rfl)
 rw [nd] at h;have h':F9 no hE (ae hE) 0 (0,0,0,())=_:=h;refine (bn h').trans ?_;unfold Fw;cases hE.find? _ <;> rfl
theorem qJ (no:Int):no=2∨no=3∨no=4∨no=7∨no=11∨no=14∨no=37∨no=38∨no=39∨no=41∨no=48∨no=49∨no=54∨no=95∨no=102∨no=103∨∀ k∈[2,3,4,7,11,14,37,38,39,41,48,49,54,95,102,103],ak no k=false/\ak k no=false:=by
 by_cases h:∀ k∈[2,3,4,7,11,14,37,38,39,41,48,49,54,95,102,103],no≠k
 . have:∀ k∈[2,3,4,7,11,14,37,38,39,41,48,49,54,95,102,103],ak no k=false/\ak k no=false:=fun k hk=>⟨beq_eq_false_iff_ne.2 (h k hk),beq_eq_false_iff_ne.2 (Ne.symm (h k hk))⟩
   iterate 16 right
   exact this
 . simp only [Classical.not_forall,Classical.not_not] at h;obtain ⟨k,hk,rfl⟩:=h;simp only [List.mem_cons,List.not_mem_nil,or_false] at hk;rcases hk with h | h | h | h | h | h | h | h | h | h | h | h | h | h | h | h <;> simp [h]
theorem yy {no:Int} (h:∀ k∈[2,3,4,7,11,14,37,38,39,41,48,49,54,95,102,103],ak no k=false/\ak k no=false):Fw no=(0,0,0,()):=by unfold Fw hE;simp only [List.find?_cons,(h 2 (by simp)).2,(h 3 (by simp)).2,(h 4 (by simp)).2,(h 7 (by simp)).2,(h 11 (by simp)).2,(h 14 (by simp)).2,(h 37 (by simp)).2,(h 38 (by simp)).2,(h 39 (by simp)).2,(h 41 (by simp)).2,(h 48 (by simp)).2,(h 49 (by simp)).2,(h 54 (by simp)).2,(h 95 (by simp)).2,(h 102 (by simp)).2,(h 103 (by simp)).2,List.find?_nil,Option.getD_none]
theorem CX (no:Int):Ft no=some ((),((bk no,()),())):=by
 rcases qJ no with rfl | rfl | rfl | rfl | rfl | rfl | rfl | rfl | rfl | rfl | rfl | rfl | rfl | rfl | rfl | rfl | h
 all_goals first | rfl | skip
 unfold Ft bk;rw [yy h];simp only [(h 2 (by simp)).1,(h 3 (by simp)).1,(h 4 (by simp)).1,(h 7 (by simp)).1,(h 11 (by simp)).1,(h 14 (by simp)).1,(h 37 (by simp)).1,(h 38 (by simp)).1,(h 39 (by simp)).1,(h 41 (by simp)).1,(h 48 (by simp)).1,(h 49 (by simp)).1,(h 54 (by simp)).1,(h 95 (by simp)).1,(h 102 (by simp)).1,(h 103 (by simp)).1,cond_false]
theorem Gm (no:Int):F2 no=some ((),((gC no,()),())):=by
 rcases qJ no with rfl | rfl | rfl | rfl | rfl | rfl | rfl | rfl | rfl | rfl | rfl | rfl | rfl | rfl | rfl | rfl | h
 all_goals first | rfl | skip
 unfold F2 gC;rw [yy h];simp only [(h 2 (by simp)).1,(h 3 (by simp)).1,(h 4 (by simp)).1,(h 7 (by simp)).1,(h 11 (by simp)).1,(h 14 (by simp)).1,(h 37 (by simp)).1,(h 38 (by simp)).1,(h 39 (by simp)).1,(h 41 (by simp)).1,(h 48 (by simp)).1,(h 49 (by simp)).1,(h 54 (by simp)).1,(h 95 (by simp)).1,(h 102 (by simp)).1,(h 103 (by simp)).1,cond_false]
theorem yH (no:Int):CD no=some ((),((bk no,()),())):=by unfold CD; rw [Im]; rfl
theorem PH (no:Int):LW no=some ((),((gC no,()),())):=by unfold LW; rw [Im]; rfl
theorem kinds (no:Int):∃ n:Nat,gC no=n/\((bk no=0/\n=0)∨(bk no=1/\1<=n/\n<=12)∨(bk no=2/\1<=n/\n<=12)∨(bk no=3/\n=19)∨(bk no=4/\n=20)∨(bk no=5/\n=60)):=by
 rcases qJ no with rfl | rfl | rfl | rfl | rfl | rfl | rfl | rfl | rfl | rfl | rfl | rfl | rfl | rfl | rfl | rfl | h
 . exact ⟨19,rfl,by decide⟩
 . exact ⟨6,rfl,by decide⟩
 . exact ⟨12,rfl,by decide⟩
 . exact ⟨10,rfl,by decide⟩
 . exact ⟨6,rfl,by decide⟩
 . exact ⟨4,rfl,by decide⟩
 . exact ⟨12,rfl,by decide⟩
 . exact ⟨6,rfl,by decide⟩
 . exact ⟨2,rfl,by decide⟩
 . exact ⟨8,rfl,by decide⟩
 . exact ⟨60,rfl,by decide⟩
 . exact ⟨3,rfl,by decide⟩
 . exact ⟨60,rfl,by decide⟩
 . exact ⟨12,rfl,by decide⟩
 . exact ⟨20,rfl,by decide⟩
 . exact ⟨20,rfl,by decide⟩
 . exact ⟨0,by unfold gC; rw [yy h]; rfl,.inl ⟨by unfold bk; rw [yy h],rfl⟩⟩
theorem dQ {b:aS} {a n:Nat} {s:List UInt8} (h:iO b a n=some s):s.all fA=true/\s.length=n/\1<=n/\n<=38/\a + (n + 1) / 2<=b.length:=by
 unfold iO at h;split at h
 . rename_i h1;split at h
   . rename_i h2;cases h;have hl:(ph (ep b a ((n + 1) / 2))).length=2 * ((n + 1) / 2):=by rw [qm,lk h1.2.2]
     refine ⟨List.all_eq_true.2 fun x hx=>List.all_eq_true.1 h2.1 x (List.mem_of_mem_drop hx),?_,h1⟩;rw [List.length_drop,hl];omega
   . simp at h
 . simp at h
theorem kj {s:List UInt8} {n:Nat} (h:s.length=n) (hn:1<=n):s≠[]:=fun e=>by rw [e] at h; simp only [List.length_nil] at h; omega
theorem Bm {s:List UInt8} {n:Nat} (h:s.all fA=true) (hl:s.length=n) (h1:1<=n) (h2:n<=18):w9 s=some (kL 0 s):=by unfold w9;rw [if_pos ⟨da.2 ⟨h,kj hl h1⟩,by omega⟩]
def Fx (b:aS) (a d:Nat):Option (Unit×((Int×Unit)×(Int×Unit)×(Bool×Unit)×Unit)):=some ((),match iO b a d with | some t=>(((kL 0 t:Int),()),(((a + (d + 1) / 2:Nat):Int),()),(true,()),()) | none=>((0,()),(0,()),(false,()),()))
theorem EY:sF []=some ((),((0,()),(false,()),())):=C6 [] (Nat.zero_le _)
theorem Qy (b:aS) (a d:Nat) (hb:xH b) (ha:a<=b.length) (hd:d=2∨d=3):Ig b a d=Fx b a d:=by
 have hbig:aX=140737488355328:=rfl;unfold Ig Fx;have hc:cond (!(ak (d:Int) 2)) (!(ak (d:Int) 3)) false=false:=by rcases hd with rfl | rfl <;> rfl
 rw [hc,Dc b a d hb ha (by omega)];unfold wT;cases ho:iO b a d with
 | none => refine (bn EY).trans ?_;rfl
 | some t => obtain ⟨h1,h2,h3,h4,h5⟩:=dQ ho;have hn:sF t=_:=C6 t (by omega);rw [Bm h1 h2 h3 (by omega)] at hn;refine (bn hn).trans ?_;rfl
theorem RS (b:aS) (a d:Nat) (hb:xH b) (ha:a<=b.length) (hd:d=2∨d=3):Ev b a d=Fx b a d:=by
 have hbig:aX=140737488355328:=rfl;unfold Ev Fx;rw [iF,fg.2 (by omega:(2:Int)<=d/\(d:Int)<=3),Ja b a d hb ha (by omega)];unfold wT;cases ho:iO b a d with
 | none=>rfl
 | some t => obtain ⟨h1,h2,h3,h4,h5⟩:=dQ ho;have hn:Cv t=_:=MV t (by omega);rw [Bm h1 h2 h3 (by omega)] at hn;refine (bn hn).trans ?_;rfl
def iH (no:Int) (s:List UInt8):Bool:=cond (ak (bk no) 1) (cond (aT s) (ak (ae s) (gC no)) false) (cond (ak (bk no) 2) (cond (dP s) (ak (ae s) (gC no)) false) (cond (ak (bk no) 3) (cond (aT s) (dk (ae s) 1 (gC no)) false) (cond (ak (bk no) 4) (cond (dP s) (dk (ae s) 1 (gC no)) false) (cond (ak (bk no) 5) (cond (dP s) (dk (ae s) 1 (gC no)) false) false))))
theorem Tm (no:Int) (s:List UInt8) (hs:s.length<=aX):J8 no s=some ((),((iH no s,()),())):=by
 unfold J8 iH;rw [CX,Gm];dsimp only [Option.bind_some];rw [fI s hs,D7 s hs];dsimp only [Option.bind_some];rw [j3];dsimp only [Option.bind_some];cases ak (bk no) 1 with
 | true=>rfl
 | false =>
 cases ak (bk no) 2 with
 | true=>rfl
 | false =>
 cases ak (bk no) 3 with
 | true =>
   show some ((),((cond (aT s) (bz (ae s) (gC no)) false,()),()))=some ((),((cond (aT s) (dk (ae s) 1 (gC no)) false,()),()));cases hd:aT s with
   | false=>rfl
   | true =>
     have h1:bz 1 (ae s)=true:=by
      have:=(da.1 hd).2;cases s with
      | nil=>exact absurd rfl this
      | cons x r=>exact decide_eq_true (by show (1:Int)<=((r.length + 1:Nat):Int); omega)
     unfold dk;rw [h1]; rfl
 | false =>
 cases ak (bk no) 4 with
 | true=>cases dP s <;> rfl
 | false =>
 cases ak (bk no) 5 with
 | true=>cases dP s <;> rfl
 | false=>rfl
theorem GC (no:Int) (s:List UInt8) (hs:s.length<=aX):wR no s=some ((),((iH no s,()),())):=by
 unfold wR iH;rw [Im,gp s hs,LP s hs];dsimp only [Option.bind_some];rw [iF];dsimp only [Option.bind_some];show cond (ak (bk no) 1) _ (cond (ak (bk no) 2) _ (cond (ak (bk no) 3) _ (cond (ak (bk no) 4) _ (cond (ak (bk no) 5) _ _))))=_;cases ak (bk no) 1 with
 | true=>rfl
 | false =>
 cases ak (bk no) 2 with
 | true=>rfl
 | false =>
 cases ak (bk no) 3 with
 | true=>cases aT s <;> rfl
 | false =>
 cases ak (bk no) 4 with
 | true=>cases dP s <;> rfl
 | false =>
 cases ak (bk no) 5 with
 | true=>cases dP s <;> rfl
 | false=>rfl
def nQ (b:aS) (a n:Nat):Option (List UInt8×Nat):=if a + n<=b.length then (bif dP (strOf (ep b a n)) then some (strOf (ep b a n),a + n) else none) else none
def qv (b:aS) (a n:Nat):Option (List UInt8×Nat):=(iO b a n).map fun s=>(s,a + (n + 1) / 2)
def zn (b:aS) (a d n:Nat) (f:Nat->Nat->Option (List UInt8×Nat)):Option (List UInt8×Nat):=match iO b a d with
 | some t=>if 1<=kL 0 t/\kL 0 t<=n then f (a + (d + 1) / 2) (kL 0 t) else none
 | none=>none
def nf (b:aS) (a:Nat) (no:Int):Option (List UInt8×Nat) :=
 if bk no=1 then qv b a (gC no).toNat else if bk no=2 then nQ b a (gC no).toNat
 else if bk no=3 then zn b a 2 (gC no).toNat (qv b) else if bk no=4 then zn b a 2 (gC no).toNat (nQ b)
 else if bk no=5 then zn b a 3 (gC no).toNat (nQ b) else none
def lf (o:Option (List UInt8×Nat)):Option (Unit×((List UInt8×Unit)×(Int×Unit)×(Bool×Unit)×Unit)):=some ((),match o with | some s=>((s.1,()),((s.2:Int),()),(true,()),()) | none=>(([],()),(0,()),(false,()),()))
theorem kq (p:aS):(strOf p).length=p.length:=by unfold strOf; exact List.length_map _
theorem DJ (b:aS) (a n:Nat):(match wT (iO b a n) ((a + (n + 1) / 2:Nat):Int) with | some y=>some ((),(y.2.1,y.2.2.1,y.2.2.2.1,())) | none=>none)=lf (qv b a n):=by unfold wT qv lf;cases iO b a n <;> rfl
noncomputable def KA (b:aS) (a n:Int):Option (Unit×((List UInt8×Unit)×(Int×Unit)×(Bool×Unit)×Unit)) :=
 cond (cond (au (ae b) a) true (au (aG .i64 (ae b) a) n)) (some ((),(([],()),(0,()),(false,()),()))) (cond (dI a (aq .i64 a n) b) (Option.bind (yF (strOf (sub b a (aq .i64 a n)))) fun y=>cond (!y.2.1.1) (some ((),(([],()),(0,()),(false,()),()))) (cond (dI a (aq .i64 a n) b) (some ((),((strOf (sub b a (aq .i64 a n)),()),(aq .i64 a n,()),(true,()),()))) none)) none)
theorem IH (b:aS) (a n:Nat) (hb:xH b) (ha:a<=b.length) (hn:n<=1048576) :
 KA b a n=lf (nQ b a n):=by
 have hbig:aX=140737488355328:=rfl;have hl:=hb.1;have e:aG .i64 (ae b) (a:Int)=(b.length:Int) - a:=aO (by show -4611686018427387904<=(b.length:Int) - a; omega) (by show (b.length:Int) - a<=_; omega);have e2:aq .i64 (a:Int) (n:Int)=((a + n:Nat):Int):=by rw [bd (by omega) (by omega)]; omega
 unfold nQ KA;rw [e,e2,ay (a:=ae b) (b:=(a:Int)) (by show ¬ (b.length:Int) < a; omega)];by_cases h:a + n<=b.length;rotate_left
 . rw [if_neg h,aF (by omega)]; rfl
 have hs:strOf (sub b (a:Int) ((a + n:Nat):Int))=strOf (ep b a n):=congrArg strOf (H8 b a n);rw [if_pos h,ay (by omega),D4 h,hs,D7 _ (by rw [kq,lk h]; omega)];dsimp only [Option.bind_some,cond_false,cond_true];cases dP (strOf (ep b a n)) <;> rfl
theorem TN (b:aS) (a:Nat) (no:Int) (hb:xH b) (ha:a<=b.length):K4 b a no=lf (nf b a no):=by
 have hbig:aX=140737488355328:=rfl;have hl:=hb.1;obtain ⟨n,hn,hk⟩:=kinds no;have h0:au (a:Int) 0=false:=ay (by omega)
 have hvar:∀ (d:Nat) (w:Int) (f:Nat->Nat->Option (List UInt8×Nat)) (F:Int->Int->Option (Unit×((List UInt8×Unit)×(Int×Unit)×(Bool×Unit)×Unit))),(d=2∨d=3)->(∀ a' k:Nat,a'<=b.length->k<=1048576->F (a':Int) (k:Int)=lf (f a' k)) ->
  (Option.bind (Ig b a d) fun y5=>cond (!y5.2.2.2.1.1) (some ((),(([],()),(0,()),(false,()),()))) (Option.bind (pq y5.2.1.1 1 (n:Int)) fun y6=>cond (!y6.2.1.1) (some ((),(([],()),(0,()),(false,()),()))) (F y5.2.2.1.1 y5.2.1.1)))=lf (zn b a d n f):=by
  intro d w f F hd hF;rw [Qy b a d hb ha hd];unfold Fx zn;cases ho:iO b a d with
  | none=>rfl
  | some t =>
    obtain ⟨h1,h2,h3,h4,h5⟩:=dQ ho;have hv:=yI t 0 0 h1 (by decide);have hv2:kL 0 t < 1000:=Nat.lt_of_lt_of_le hv (by rw [Nat.zero_add,h2]; exact Nat.pow_le_pow_right (by decide) (by omega:d<=3));dsimp only [Option.bind_some];rw [j3];dsimp only [Option.bind_some];by_cases hin:1<=kL 0 t/\kL 0 t<=n
    . rw [if_pos hin,fg.2 (by omega)];exact hF _ _ h5 (by omega)
    . rw [if_neg hin];have:dk (kL 0 t:Int) 1 (n:Int)=false:=by
       cases h:dk (kL 0 t:Int) 1 (n:Int) with
       | false=>rfl
       | true=>have:=fg.1 h; omega
      rw [this]; rfl
 unfold K4 nf;rw [CX,Gm,hn,h0];have hnn:Int.toNat (n:Int)=n:=Int.toNat_natCast n;rcases hk with ⟨hk,hz⟩ | ⟨hk,hz⟩ | ⟨hk,hz⟩ | ⟨hk,hz⟩ | ⟨hk,hz⟩ | ⟨hk,hz⟩
 . rw [hk]; rfl
 . rw [hk,hnn];show (Option.bind (ud b a n) fun y=>some ((),(y.2.1,y.2.2.1,y.2.2.2.1,())))=lf (qv b a n);rw [Dc b a n hb ha (by omega),<- DJ];rfl
 . rw [hk,hnn];exact IH b a n hb ha (by omega)
 . rw [hk,hnn];exact hvar 2 0 (qv b) (fun a' k=>Option.bind (ud b a' k) fun y=>some ((),(y.2.1,y.2.2.1,y.2.2.2.1,()))) (.inl rfl) fun a' k ha' hk'=>by show (Option.bind (ud b (a':Int) (k:Int)) _)=_;rw [Dc b a' k hb ha' hk',<- DJ];rfl
 . rw [hk,hnn];exact hvar 2 0 (nQ b) (KA b) (.inl rfl) fun a' k ha' hk'=>IH b a' k hb ha' hk'
 . rw [hk,hnn];exact hvar 3 0 (nQ b) (KA b) (.inr rfl) fun a' k ha' hk'=>IH b a' k hb ha' hk'
noncomputable def Em (b:aS) (no a n:Int):Option (Unit×((List UInt8×Unit)×(Int×Unit)×(Bool×Unit)×Unit)) :=
 Option.bind (zu b a n) fun y5=>cond (!y5.2.2.2.1.1) (some ((),(([],()),(0,()),(false,()),()))) (Option.bind (wR no y5.2.1.1) fun y6=>cond (!y6.2.1.1) (some ((),(([],()),(0,()),(false,()),()))) (some ((),(y5.2.1,y5.2.2.1,(true,()),()))))
noncomputable def zL (b:aS) (no a n:Int):Option (Unit×((List UInt8×Unit)×(Int×Unit)×(Bool×Unit)×Unit)) :=
 Option.bind (yJ b a n) fun y5=>cond (!y5.2.2.1.1) (some ((),(([],()),(0,()),(false,()),()))) (Option.bind (wR no (strOf y5.2.1.1)) fun y6=>cond (!y6.2.1.1) (some ((),(([],()),(0,()),(false,()),()))) (some ((),((strOf y5.2.1.1,()),(aq .i64 a n,()),(true,()),()))))
theorem D5 (b:aS) (no:Int) (a n:Nat) (hb:xH b) (ha:a<=b.length) (hn:n<=1048576):Em b no a n=lf ((qv b a n).filter fun s=>iH no s.1):=by
 have hbig:aX=140737488355328:=rfl;unfold Em qv;rw [Ja b a n hb ha hn];unfold wT;cases ho:iO b a n with
 | none=>rfl
 | some s => obtain ⟨h1,h2,h3,h4,h5⟩:=dQ ho;dsimp only [Option.bind_some];rw [GC no s (by omega)];dsimp only [Option.bind_some,Option.map_some];rw [Option.filter_some];dsimp only;cases iH no s <;> rfl
def Eh (b:aS) (a n:Nat):Option (List UInt8×Nat):=if a + n<=b.length then some (strOf (ep b a n),a + n) else none
theorem sW (b:aS) (no:Int) (a n:Nat) (hb:xH b) (ha:a<=b.length) (hn:n<=1048576):zL b no a n=lf ((Eh b a n).filter fun s=>iH no s.1):=by
 have hbig:aX=140737488355328:=rfl;have hl:=hb.1;unfold zL Eh;rw [yO b a n hb.1 ha hn];by_cases h:a + n<=b.length;rotate_left
 . rw [if_neg h,if_neg h]; rfl
 rw [if_pos h,if_pos h,Option.filter_some];have hf:=GC no (strOf (ep b a n)) (by rw [kq,lk h]; omega);refine (bn hf).trans ?_;have e2:aq .i64 (a:Int) (n:Int)=((a + n:Nat):Int):=by rw [bd (by omega) (by omega)]; omega
 show cond (!(iH no (strOf (ep b a n)))) _ (some ((),((_,()),(aq .i64 (a:Int) (n:Int),()),(true,()),())))=_;rw [e2];dsimp only;cases iH no (strOf (ep b a n)) <;> rfl
theorem HZ (b:aS) (a d:Nat) (hb:xH b) (ha:a<=b.length) (hd:d=2∨d=3) (F:Int->Int->Option (Unit×((List UInt8×Unit)×(Int×Unit)×(Bool×Unit)×Unit))) (f:Nat->Nat->Option (List UInt8×Nat)) (n:Nat)
 (hF:∀ a' k:Nat,a'<=b.length->k<=1048576->F (a':Int) (k:Int)=lf (if 1<=k/\k<=n then f a' k else none)) :
 (Option.bind (Ev b a d) fun y4=>cond (!y4.2.2.2.1.1) (some ((),(([],()),(0,()),(false,()),()))) (F y4.2.2.1.1 y4.2.1.1))=lf (zn b a d n f):=by
 rw [RS b a d hb ha hd];unfold Fx zn;cases ho:iO b a d with
 | none=>rfl
 | some t => obtain ⟨h1,h2,h3,h4,h5⟩:=dQ ho;have hv:=yI t 0 0 h1 (by decide);have hv2:kL 0 t < 1000:=Nat.lt_of_lt_of_le hv (by rw [Nat.zero_add,h2]; exact Nat.pow_le_pow_right (by decide) (by omega:d<=3));exact hF _ _ h5 (by omega)
theorem iK {s:List UInt8} {n:Nat} (h:s.length=n):ae s=(n:Int):=by show (s.length:Int)=n; rw [h]
theorem qc {k n:Nat}:dk (k:Int) 1 (n:Int)=decide (1<=k/\k<=n):=by
 by_cases h:1<=k/\k<=n
 . rw [decide_eq_true h]; exact fg.2 (by omega)
 . rw [decide_eq_false h];cases h2:dk (k:Int) 1 (n:Int) with
   | false=>rfl
   | true=>have:=fg.1 h2; omega
theorem pI {no:Int} {n:Nat} (hn:gC no=n) (s:List UInt8):(bk no=1->iH no s=cond (aT s) (ak (ae s) (n:Int)) false)/\(bk no=2->iH no s=cond (dP s) (ak (ae s) (n:Int)) false)/\(bk no=3->iH no s=cond (aT s) (dk (ae s) 1 (n:Int)) false) /\
 ((bk no=4∨bk no=5)->iH no s=cond (dP s) (dk (ae s) 1 (n:Int)) false):=by
 unfold iH;rw [hn];refine ⟨fun h=>by rw [h]; rfl,fun h=>by rw [h]; rfl,fun h=>by rw [h]; rfl,fun h => ?_⟩;rcases h with h | h <;> (rw [h]; rfl)
theorem DD {b:aS} {no:Int} {n:Nat} (hn:gC no=n) (hk:bk no=4∨bk no=5) (a k:Nat):(Eh b a k).filter (fun s=>iH no s.1)=if 1<=k/\k<=n then nQ b a k else none:=by
 unfold Eh nQ;by_cases h:a + k<=b.length;rotate_left
 . rw [if_neg h,if_neg h]; simp
 rw [if_pos h,if_pos h,Option.filter_some];dsimp only;rw [(pI hn _).2.2.2 hk,iK (by rw [kq,lk h]:(strOf (ep b a k)).length=k),qc];by_cases hin:1<=k/\k<=n
 . rw [decide_eq_true hin,if_pos hin]; cases dP (strOf (ep b a k)) <;> rfl
 . rw [decide_eq_false hin,if_neg hin]; cases dP (strOf (ep b a k)) <;> rfl
theorem TH (b:aS) (a:Nat) (no:Int) (hb:xH b) (ha:a<=b.length):Gv b a no=lf (nf b a no):=by
 have hbig:aX=140737488355328:=rfl;have hl:=hb.1;obtain ⟨n,hn,hk⟩:=kinds no;have hnn:Int.toNat (n:Int)=n:=Int.toNat_natCast n;have hlen:Ki no=some ((),((cond (ak (bk no) 5) 3 2,()),())):=by unfold Ki;rw [yH];dsimp only [Option.bind_some];cases ak (bk no) 5 <;> rfl
 have base:Gv b a no=cond (cond (cond (ak (bk no) 3) true (ak (bk no) 4)) true (ak (bk no) 5)) (Option.bind (Ev b a (cond (ak (bk no) 5) 3 2)) fun y4=>cond (!y4.2.2.2.1.1) (some ((),(([],()),(0,()),(false,()),()))) (cond (cond (ak (bk no) 1) true (ak (bk no) 3)) (Em b no y4.2.2.1.1 y4.2.1.1) (zL b no y4.2.2.1.1 y4.2.1.1)))
  (cond (cond (ak (bk no) 1) true (ak (bk no) 3)) (Em b no a (n:Int)) (zL b no a (n:Int))):=by
  unfold Gv;rw [PH,yH,hlen,hn];rfl
 rw [base];unfold nf;rw [hn,hnn];rcases hk with ⟨hk,hz⟩ | ⟨hk,hz⟩ | ⟨hk,hz⟩ | ⟨hk,hz⟩ | ⟨hk,hz⟩ | ⟨hk,hz⟩
 . rw [hk];show zL b no a (n:Int)=lf none;rw [sW b no a n hb ha (by omega)];have:∀ s,iH no s=false:=fun s=>by unfold iH; rw [hk]; rfl
   unfold Eh;by_cases h:a + n<=b.length
   . rw [if_pos h,Option.filter_some,this]; rfl
   . rw [if_neg h]; rfl
 . rw [hk];show Em b no a (n:Int)=lf (qv b a n);rw [D5 b no a n hb ha (by omega)];unfold qv;cases ho:iO b a n with
   | none=>rfl
   | some s => obtain ⟨h1,h2,h3,h4,h5⟩:=dQ ho;rw [Option.map_some,Option.filter_some];dsimp only;rw [(pI hn s).1 hk,da.2 ⟨h1,kj h2 h3⟩,iK h2,bq];rfl
 . rw [hk];show zL b no a (n:Int)=lf (nQ b a n);rw [sW b no a n hb ha (by omega)];unfold Eh nQ;by_cases h:a + n<=b.length;rotate_left
   . rw [if_neg h,if_neg h]; rfl
   rw [if_pos h,if_pos h,Option.filter_some];dsimp only;rw [(pI hn _).2.1 hk,iK (by rw [kq,lk h]:(strOf (ep b a n)).length=n),bq];cases dP (strOf (ep b a n)) <;> rfl
 . rw [hk];exact HZ b a 2 hb ha (.inl rfl) (Em b no) (qv b) n fun a' k ha' hk'=>by
    rw [D5 b no a' k hb ha' hk'];unfold qv;cases ho:iO b a' k with
    | none => show lf none=lf (if _ then none else none);rw [ite_self]
    | some s =>
      obtain ⟨h1,h2,h3,h4,h5⟩:=dQ ho;rw [Option.map_some,Option.filter_some];dsimp only;rw [(pI hn s).2.2.1 hk,da.2 ⟨h1,kj h2 h3⟩,iK h2,qc];by_cases hin:1<=k/\k<=n
      . rw [decide_eq_true hin,if_pos hin]; rfl
      . rw [decide_eq_false hin,if_neg hin]; rfl
 . rw [hk];exact HZ b a 2 hb ha (.inl rfl) (zL b no) (nQ b) n fun a' k ha' hk'=>by rw [sW b no a' k hb ha' hk',DD hn (.inl hk)]
 . rw [hk];exact HZ b a 3 hb ha (.inr rfl) (zL b no) (nQ b) n fun a' k ha' hk'=>by rw [sW b no a' k hb ha' hk',DD hn (.inr hk)]
theorem rk {b:aS} {a:Nat} {no:Int} {s:List UInt8} {e:Nat} (ha:a<=b.length) (h:nf b a no=some (s,e)):iH no s=true/\s.length<=60/\e<=b.length:=by
 obtain ⟨n,hn,hk⟩:=kinds no;have hnn:Int.toNat (n:Int)=n:=Int.toNat_natCast n;have num:∀ a k,qv b a k=some (s,e)->s.all fA=true/\s.length=k/\1<=k/\e<=b.length:=fun a k h=>by unfold qv at h;obtain ⟨q,hq,h⟩:=Option.map_eq_some_iff.1 h;cases h;obtain ⟨h1,h2,h3,h4,h5⟩:=dQ hq;exact ⟨h1,h2,h3,h5⟩
 have txt:∀ a k,nQ b a k=some (s,e)->dP s=true/\s.length=k/\e<=b.length:=fun a k h=>by
  unfold nQ at h;split at h
  . rename_i hl;cases hp:dP (strOf (ep b a k)) with
    | false=>rw [hp] at h; simp at h
    | true => rw [hp] at h;cases h;exact ⟨hp,by rw [kq,lk hl],hl⟩
  . simp at h
 have var:∀ d f,zn b a d n f=some (s,e)->∃ a' k,1<=k/\k<=n/\f a' k=some (s,e):=fun d f h=>by
  unfold zn at h;split at h
  . split at h
    . rename_i hin;exact ⟨_,_,hin.1,hin.2,h⟩
    . simp at h
  . simp at h
 unfold nf at h;rw [hn,hnn] at h;rcases hk with ⟨hk,hz⟩ | ⟨hk,hz⟩ | ⟨hk,hz⟩ | ⟨hk,hz⟩ | ⟨hk,hz⟩ | ⟨hk,hz⟩ <;> rw [hk] at h
 . simp at h
 . obtain ⟨h1,h2,h3,h4⟩:=num _ _ h;exact ⟨by rw [(pI hn s).1 hk,da.2 ⟨h1,kj h2 h3⟩,iK h2,bq]; rfl,by omega,h4⟩
 . obtain ⟨h1,h2,h4⟩:=txt _ _ h;exact ⟨by rw [(pI hn s).2.1 hk,h1,iK h2,bq]; rfl,by omega,h4⟩
 . obtain ⟨a',k,k1,k2,h⟩:=var _ _ h;obtain ⟨h1,h2,h3,h4⟩:=num _ _ h;exact ⟨by rw [(pI hn s).2.2.1 hk,da.2 ⟨h1,kj h2 h3⟩,iK h2,qc,decide_eq_true ⟨k1,k2⟩]; rfl,by omega,h4⟩
 . obtain ⟨a',k,k1,k2,h⟩:=var _ _ h;obtain ⟨h1,h2,h4⟩:=txt _ _ h;exact ⟨by rw [(pI hn s).2.2.2 (.inl hk),h1,iK h2,qc,decide_eq_true ⟨k1,k2⟩]; rfl,by omega,h4⟩
 . obtain ⟨a',k,k1,k2,h⟩:=var _ _ h;obtain ⟨h1,h2,h4⟩:=txt _ _ h;exact ⟨by rw [(pI hn s).2.2.2 (.inr hk),h1,iK h2,qc,decide_eq_true ⟨k1,k2⟩]; rfl,by omega,h4⟩
end Go.Av
