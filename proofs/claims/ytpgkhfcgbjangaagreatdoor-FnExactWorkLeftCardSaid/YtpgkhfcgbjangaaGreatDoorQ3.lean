/- Part of a proof that the law FnExactWorkLeft answers true for every input: the printed functions of this program and their plain laws. No conditions beyond the statement. -/
import Derived.Test.YtpgkhfcgbjangaaGreatDoorP1
import Derived.Test.YtpgkhfcgbjangaaGreatDoorFw4
set_option maxRecDepth 100000
set_option maxHeartbeats 4000000
namespace Go.Av
abbrev jx:=List UInt8×Int×Int×Unit
abbrev eC:=List UInt8×List UInt8×List (Int×Unit)×Unit
abbrev wJ:=Int×Int×List (Int×Unit)×List (Int×Unit)×Unit
def dF (a lo hi:Int):Bool:=cond (bz lo a) (bz a hi) false
theorem fe {a lo hi:Int}:dF a lo hi=true↔lo<=a/\a<=hi:=by unfold dF bz;by_cases h:lo<=a <;> simp [h]
theorem lx (a lo hi:Int):qG a lo hi=some ((),((dF a lo hi,()),())):=rfl
theorem jD (a lo hi:Int):na a lo hi=some ((),((dF a lo hi,()),())):=rfl
def cF (a:Int):Bool:=dF a 0 4611686018427387904
theorem qx (a:Int):NK a=some ((),((cF a,()),())):=rfl
theorem D5 (a:Int):Lk a=some ((),((cF a,()),())):=rfl
def df (a:Int):Bool:=dF a 0 1000000000
theorem mx (a:Int):FX a=some ((),((df a,()),())):=rfl
theorem mz (a:Int):tj a=some ((),((df a,()),())):=rfl
def fJ (x:UInt8):Bool:=cond (au (x.toNat:Int) 48) false (!(au 57 (x.toNat:Int)))
theorem fF {x:UInt8}:fJ x=true↔48<=x.toNat/\x.toNat<=57:=by
 unfold fJ au;by_cases h:(x.toNat:Int) < 48
 . simp [h]; omega
 . by_cases h2:(57:Int) < x.toNat
   . simp [h,h2]; omega
   . simp [h,h2]; omega
def aS (s:List UInt8):Bool:=cond (s.all fJ) (au 0 (ae s)) false
theorem fG (s:List UInt8) (hs:s.length<=aX):pY s=some ((),((aS s,()),())):=by
 unfold pY;have h:=aD (step:=wP o9) s (fun i (_:Unit)=>(s,((i:Nat):Int),())) (fun _ x _=>bif fJ x then Sum.inl () else .inr (.inr (false,()))) (fun _=> .inl (s,(s.length:Int),())) (a0:=()) (fun i x a hx=>by
  have hlt:=ak hx;show o9 s (i:Int)=_;unfold o9 fJ;rw [aG hx,aC hx,eE hx,aP (by omega)];dsimp only [cond_true];cases au (x.toNat:Int) 48 <;> cases au 57 (x.toNat:Int) <;> rfl) (fun a=>by
  show o9 s (s.length:Int)=_;unfold o9;rw [ax rfl]; rfl)
 rw [fM] at h;have h':HW s 0=_:=h;rw [h'];unfold aS;cases s.all fJ <;> rfl
theorem gF (s:List UInt8) (hs:s.length<=aX):sI s=some ((),((aS s,()),())):=by
 unfold sI;have h:=aD (step:=fc pj) s (fun i (_:Unit)=>(s,ae s,((i:Nat):Int),())) (fun _ x _=>bif fJ x then Sum.inl () else .inr (.inr (false,()))) (fun _=> .inl (s,ae s,(s.length:Int),())) (a0:=()) (fun i x a hx=>by
  have hlt:=ak hx;show pj s (ae s) (i:Int)=_;unfold pj fJ;rw [aG hx,aC hx,eE hx,aP (by omega)];dsimp only [cond_true];cases au (x.toNat:Int) 48 <;> cases au 57 (x.toNat:Int) <;> rfl) (fun a=>by
  show pj s (ae s) (s.length:Int)=_;unfold pj;rw [ax rfl]; rfl)
 rw [fM] at h;have h':HD s (ae s) 0=_:=h;rw [h'];unfold aS;cases s with
 | nil=>rfl
 | cons x r =>
   have e1:au 0 (ae (x :: r))=true:=aF (by unfold ae; simp only [List.length_cons]; omega);have e2:bY (x :: r) []=false:=rfl;cases (x :: r).all fJ
   . rfl
   . dsimp only [cond_true,cond_false,Option.bind_some,Sum.elim_inl];rw [e1,e2]; rfl
def lz (x:UInt8):Bool:=cond (au (x.toNat:Int) 48) (cond (au (x.toNat:Int) 97) false (!(au 122 (x.toNat:Int)))) (cond (au 57 (x.toNat:Int)) (cond (au (x.toNat:Int) 97) false (!(au 122 (x.toNat:Int)))) true)
def gS (s:List UInt8):Bool:=cond (s.all lz) (dF (ae s) 1 6) false
theorem AE (s:List UInt8) (hs:s.length<=aX):Gi s=some ((),((gS s,()),())):=by
 unfold Gi;have h:=aD (step:=wP nN) s (fun i (_:Unit)=>(s,((i:Nat):Int),())) (fun _ x _=>bif lz x then Sum.inl () else .inr (.inr (false,()))) (fun _=> .inl (s,(s.length:Int),())) (a0:=()) (fun i x a hx=>by
  have hlt:=ak hx;show nN s (i:Int)=_;unfold nN lz;rw [aG hx,aC hx,eE hx,aP (by omega)];dsimp only [cond_true];cases au (x.toNat:Int) 48 <;> cases au 57 (x.toNat:Int) <;> cases au (x.toNat:Int) 97 <;> cases au 122 (x.toNat:Int) <;> rfl) (fun a=>by
  show nN s (s.length:Int)=_;unfold nN;rw [ax rfl]; rfl)
 rw [fM] at h;have h':HO s 0=_:=h;rw [h'];unfold gS;cases s.all lz <;> rfl
theorem zM (s:List UInt8) (hs:s.length<=aX):Jo s=some ((),((gS s,()),())):=by
 unfold Jo;have h:=aD (step:=fc pg) s (fun i (_:Unit)=>(s,ae s,((i:Nat):Int),())) (fun _ x _=>bif lz x then Sum.inl () else .inr (.inr (false,()))) (fun _=> .inl (s,ae s,(s.length:Int),())) (a0:=()) (fun i x a hx=>by
  have hlt:=ak hx;show pg s (ae s) (i:Int)=_;unfold pg lz;rw [aG hx,aC hx,eE hx,aP (by omega)];dsimp only [cond_true];cases au (x.toNat:Int) 48 <;> cases au 57 (x.toNat:Int) <;> cases au (x.toNat:Int) 97 <;> cases au 122 (x.toNat:Int) <;> rfl) (fun a=>by
  show pg s (ae s) (s.length:Int)=_;unfold pg;rw [ax rfl]; rfl)
 rw [fM] at h;have h':He s (ae s) 0=_:=h;rw [h'];unfold gS;cases s.all lz <;> rfl
def tZ (h:jx):Bool:=cond (gS h.1) (cond (dF h.2.1 1 9007199254740992) (df h.2.2.1) false) false
theorem OS (h:jx) (hs:h.1.length<=aX):Ki h=some ((),((tZ h,()),())):=by unfold Ki tZ;simp only [AE _ hs,lx,mx,Option.bind_some];cases gS h.1 <;> cases dF h.2.1 1 9007199254740992 <;> rfl
theorem OB (h:jx) (hs:h.1.length<=aX):Lj h=some ((),((tZ h,()),())):=by unfold Lj tZ;simp only [zM _ hs,jD,mz,Option.bind_some];cases gS h.1 <;> cases dF h.2.1 1 9007199254740992 <;> rfl
def js (xs:List jx) (i:Nat) (x:jx):Bool:=cond (tZ x) (cond (au 0 (i:Int)) (jO (gt ([],0,0,()) xs ((i:Int) - 1)).1 x.1) true) false
def nK (xs:List jx):Bool:=cond (allI (js xs) 0 xs) (bz (ae xs) 4) false
theorem nq:∀ (s t:List UInt8),(Op.bytesLess s t || bY s t)= !(Op.bytesLess t s)
 | [],[]=>rfl
 | [],_ :: _=>rfl
 | _ :: _,[]=>rfl
 | a :: s,b :: t=>by
   have ih:=nq s t;have e:bY (a :: s) (b :: t)=(a == b && bY s t):=rfl;show ((decide (a < b) || (a == b && Op.bytesLess s t)) || bY (a :: s) (b :: t))= !(decide (b < a) || (b == a && Op.bytesLess t s));rw [e];rcases Nat.lt_trichotomy a.toNat b.toNat with h | h | h
   . have h1:a < b:=UInt8.lt_iff_toNat_lt.2 h;have h2:¬ b < a:=fun hh=>by have:=UInt8.lt_iff_toNat_lt.1 hh; omega
     have h3:(b == a)=false:=by rw [beq_eq_false_iff_ne]; intro hh; subst hh; omega
     simp [h1,h2,h3]
   . have h1:a=b:=UInt8.toNat_inj.1 h;subst h1;have h2:¬ a < a:=fun hh=>by have:=UInt8.lt_iff_toNat_lt.1 hh; omega
     simpa [h2] using ih
   . have h1:¬ a < b:=fun hh=>by have:=UInt8.lt_iff_toNat_lt.1 hh; omega
     have h2:b < a:=UInt8.lt_iff_toNat_lt.2 h;have h3:(a == b)=false:=by rw [beq_eq_false_iff_ne]; intro hh; subst hh; omega
     simp [h1,h2,h3]
theorem tk (s t:List UInt8):PX s t= !(jO t s):=nq s t
def CX (xs:List jx):Prop:=xs.length<=aX/\∀ y∈xs,y.1.length<=aX
theorem ie {α:Type} {xs:List α} {i:Nat} {x:α} (hx:xs[i]? = some x) (h:0 < i):a7 ((i:Int) - 1) xs=true:=by
 have:=ak hx;have e:(i:Int) - 1=((i - 1:Nat):Int):=by omega
 rw [e]; exact ld (by omega)
theorem K9 (xs:List jx) (hb:CX xs):JQ xs=some ((),((nK xs,()),())):=by
 have hbig:aX=140737488355328:=rfl;unfold JQ;have h:=aD (step:=cW nQ) xs (fun i (_:Unit)=>(xs,xs,ae xs,((i:Nat):Int),())) (fun i x _=>bif js xs i x then Sum.inl () else .inr (.inr (false,()))) (fun _=> .inl (xs,xs,ae xs,(xs.length:Int),())) (a0:=()) (fun i x a hx=>by
  have hlt:=ak hx;have hl:=hb.1;show nQ xs xs (ae xs) (i:Int)=_;unfold nQ js;rw [aG hx,aC hx,aV _ hx];dsimp only [cond_true];rw [OS x (hb.2 x (List.mem_of_getElem? hx)),aP (by omega)];dsimp only [Option.bind_some];cases tZ x with
  | false=>rfl
  | true =>
    by_cases h0:0 < i
    . rw [aF (show (0:Int) < i by omega),aN (by omega) (by omega),ie hx h0];dsimp only [cond_true,cond_false,Bool.not_true];have e:gt d157 xs ((i:Int) - 1)=gt ([],0,0,()) xs ((i:Int) - 1):=rfl;rw [e];cases jO (gt ([],0,0,()) xs ((i:Int) - 1)).1 x.1 <;> rfl
    . rw [az (show ¬ (0:Int) < i by omega)]; rfl) (fun a=>by
  show nQ xs xs (ae xs) (xs.length:Int)=_;unfold nQ;rw [ax rfl]; rfl)
 rw [cC] at h;have h':Hm xs xs (ae xs) 0=_:=h;rw [h'];unfold nK;cases allI (js xs) 0 xs <;> rfl
theorem LP (xs:List jx) (hb:CX xs):Kf xs=some ((),((nK xs,()),())):=by
 have hbig:aX=140737488355328:=rfl;unfold Kf;have h:=aD (step:=cW oP) xs (fun i (_:Unit)=>(xs,xs,ae xs,((i:Nat):Int),())) (fun i x _=>bif js xs i x then Sum.inl () else .inr (.inr (false,()))) (fun _=> .inl (xs,xs,ae xs,(xs.length:Int),())) (a0:=()) (fun i x a hx=>by
  have hlt:=ak hx;have hl:=hb.1;show oP xs xs (ae xs) (i:Int)=_;unfold oP js;rw [aG hx,aC hx,aV _ hx];dsimp only [cond_true];rw [OB x (hb.2 x (List.mem_of_getElem? hx)),aP (by omega)];dsimp only [Option.bind_some];cases tZ x with
  | false=>rfl
  | true =>
    by_cases h0:0 < i
    . rw [aF (show (0:Int) < i by omega),aN (by omega) (by omega),ie hx h0];dsimp only [cond_true,cond_false,Bool.not_true];rw [tk];have e:gt d157 xs ((i:Int) - 1)=gt ([],0,0,()) xs ((i:Int) - 1):=rfl;rw [e];cases jO (gt ([],0,0,()) xs ((i:Int) - 1)).1 x.1 <;> rfl
    . rw [az (show ¬ (0:Int) < i by omega)]; rfl) (fun a=>by
  show oP xs xs (ae xs) (xs.length:Int)=_;unfold oP;rw [ax rfl]; rfl)
 rw [cC] at h;have h':F7 xs xs (ae xs) 0=_:=h;rw [h'];unfold nK;cases allI (js xs) 0 xs <;> rfl
def eF (dbl:Bool) (x:UInt8):Int:=cond dbl (cond (au 9 (2 * ((x.toNat:Int) - 48))) (2 * ((x.toNat:Int) - 48) - 9) (2 * ((x.toNat:Int) - 48))) ((x.toNat:Int) - 48)
theorem sU (b:Bool) {x:UInt8} (h:fJ x=true):0<=eF b x/\eF b x<=9:=by
 obtain ⟨h1,h2⟩:=fF.1 h;unfold eF au;cases b
 . dsimp only [cond_false]; omega
 . dsimp only [cond_true];by_cases h9:9 < 2 * ((x.toNat:Int) - 48)
   . rw [decide_eq_true h9]; dsimp only [cond_true]; omega
   . rw [decide_eq_false h9]; dsimp only [cond_false]; omega
def zd (xs:List UInt8) (a:Int×Bool):Int×Bool:=xs.foldl (fun a x=>(a.1 + eF a.2 x,!a.2)) a
def GP (xs:List UInt8) (a:Int×Bool):Int×Bool:=xs.foldl (fun a x=>((a.1 + eF a.2 x) % 10,!a.2)) a
theorem Ea:∀ (xs:List UInt8) (a:Int) (b:Bool),GP xs (a % 10,b)=((zd xs (a,b)).1 % 10,(zd xs (a,b)).2)
 | [],a,b=>rfl
 | x :: r,a,b=>by
   have e:(a % 10 + eF b x) % 10=(a + eF b x) % 10:=by omega
   show GP r ((a % 10 + eF b x) % 10,!b)=((zd r (a + eF b x,!b)).1 % 10,(zd r (a + eF b x,!b)).2);rw [e];exact Ea r _ _
def Ag (s:List UInt8):Int:=cond (aS s) ((10 - (zd s.reverse (0,true)).1 % 10) % 10) (-1)
theorem ml {s:List UInt8} (h:aS s=true):∀ x∈s,fJ x=true:=by
 unfold aS at h;cases hs:s.all fJ with
 | true=>exact fun x hx=>List.all_eq_true.1 hs x hx
 | false=>rw [hs] at h; simp at h
theorem zm {s:List UInt8} {i:Nat} {x:UInt8} (h:s.reverse[i]? = some x):i < s.length/\s[s.length - 1 - i]? = some x:=by
 have hl:i < s.length:=by simpa using ak h
 refine ⟨hl,?_⟩;rwa [List.getElem?_reverse hl] at h
theorem Nk {x:UInt8} (h:fJ x=true):aH .i64 (bP .i64 (x.toNat:Int)) 48=(x.toNat:Int) - 48:=by obtain ⟨h1,h2⟩:=fF.1 h;have e:bP .i64 (x.toNat:Int)=(x.toNat:Int):=IntWalk.i64_in _ (by omega);rw [e]; exact aN (by omega) (by omega)
theorem My {x:UInt8} (h:fJ x=true):bP .i64 (aH .u8 (x.toNat:Int) 48)=(x.toNat:Int) - 48:=by obtain ⟨h1,h2⟩:=fF.1 h;have e:aH .u8 (x.toNat:Int) 48=(x.toNat:Int) - 48:=IntWalk.u8_in _ (by omega);rw [e]; exact IntWalk.i64_in _ (by omega)
theorem D3 {a b:Int} (h1 : -4611686018427387904<=a * b) (h2:a * b<=4611686018427387904):iq .i64 a b=a * b:=by unfold iq; rw [IntWalk.i64_in _ (by omega)]
theorem mH {a:Int} (h:0<=a):gH a 10=a % 10:=by unfold gH; exact Int.tmod_eq_emod_of_nonneg h
theorem PD (s:List UInt8) (hs:s.length<=aX):Km s=some ((),((Ag s,()),())):=by
 have hbig:aX=140737488355328:=rfl;unfold Km Ag;rw [fG s hs];dsimp only [Option.bind_some];cases hd:aS s with
 | false=>rfl
 | true =>
 have hall:=ml hd
 have h:=a6 (step:=cW qZ) s.reverse (fun i (a:Int×Bool)=>(s,a.1,a.2,(s.length:Int) - 1 - ((i:Nat):Int),())) (fun _ x a=>Sum.inl ((a.1 + eF a.2 x) % 10,!a.2)) (fun a=> .inl (s,a.1,a.2,(-1:Int),()))
  (fun _ a=>0<=a.1/\a.1 < 10) (a0:=(0,true)) ⟨by decide,by decide⟩ (fun i x a hx ha=>by
    obtain ⟨hlt,hx'⟩:=zm hx;have hdx:=hall x (List.mem_of_getElem? hx');have hbd:=sU a.2 hdx;have hdd:=fF.1 hdx;have e:(s.length:Int) - 1 - (i:Int)=((s.length - 1 - i:Nat):Int):=by omega
    have e':(s.length:Int) - 1 - ((i + 1:Nat):Int)=((s.length - 1 - i:Nat):Int) - 1:=by omega
    obtain ⟨a1,a2⟩:=a;show qZ s a1 a2 ((s.length:Int) - 1 - (i:Int))=some (.inl (s,(a1 + eF a2 x) % 10,!a2,(s.length:Int) - 1 - ((i + 1:Nat):Int),()));rw [e,e'];have hle:bz 0 ((s.length - 1 - i:Nat):Int)=true:=decide_eq_true (by omega);have ha:0<=a1/\a1 < 10:=ha;unfold qZ;rw [hle,aC hx',eE hx',Nk hdx,aN (a:=((s.length - 1 - i:Nat):Int)) (b:=1) (by omega) (by omega)];have hb:(0<=eF a2 x/\eF a2 x<=9):=hbd;cases a2 with
    | false => have hv:eF false x=(x.toNat:Int) - 48:=rfl;dsimp only [cond_true,cond_false,Bool.not_false];rw [bb (by omega) (by omega),mH (by omega),hv]
    | true =>
      dsimp only [cond_true,cond_false,Bool.not_false,Bool.not_true];rw [D3 (by omega) (by omega)];by_cases h9:9 < 2 * ((x.toNat:Int) - 48)
      . have hv:eF true x=2 * ((x.toNat:Int) - 48) - 9:=by unfold eF; rw [aF h9]; rfl
        rw [aF h9]; dsimp only [cond_true,cond_false,Bool.not_false]; rw [aN (by omega) (by omega),bb (by omega) (by omega),mH (by omega),hv]
      . have hv:eF true x=2 * ((x.toNat:Int) - 48):=by unfold eF; rw [az h9]; rfl
        rw [az h9]; dsimp only [cond_true,cond_false,Bool.not_false]; rw [bb (by omega) (by omega),mH (by omega),hv]) (fun i x a a' hx ha hf=>by
    simp only [Sum.inl.injEq] at hf;subst hf;show 0<=(a.1 + eF a.2 x) % 10/\(a.1 + eF a.2 x) % 10 < 10;omega) (fun a ha=>by
    have e:(s.length:Int) - 1 - ((s.reverse.length:Nat):Int) = -1:=by simp; omega
    show qZ s a.1 a.2 ((s.length:Int) - 1 - ((s.reverse.length:Nat):Int))=_;rw [e];rfl)
 rw [bC (fun x a=>((a.1 + eF a.2 x) % 10,!a.2))] at h;have h':Jb s 0 true ((s.length:Int) - 1 - ((0:Nat):Int))=some (.inl (s,(GP s.reverse (0,true)).1,(GP s.reverse (0,true)).2,(-1:Int),())):=h;have e0:(s.length:Int) - 1 - ((0:Nat):Int)=aH .i64 (ae s) 1:=by rw [aN (by unfold ae; omega) (by unfold ae; omega)]; unfold ae; omega
 have eT:(GP s.reverse (0,true)).1=(zd s.reverse (0,true)).1 % 10:=by have:=Ea s.reverse 0 true;rw [show (0:Int) % 10=0 from rfl] at this;rw [this]
 rw [e0] at h';rw [h',eT];dsimp only [Option.bind_some,Sum.elim_inl,cond_true,cond_false,Bool.not_true];rw [aN (by omega) (by omega),mH (by omega)]; rfl
theorem OM (s:List UInt8) (hs:s.length<=aX):LX s=some ((),((Ag s,()),())):=by
 have hbig:aX=140737488355328:=rfl;unfold LX Ag;rw [gF s hs];dsimp only [Option.bind_some];cases hd:aS s with
 | false=>rfl
 | true =>
 have hall:=ml hd
 have h:=a6 (step:=cW rk) s.reverse (fun i (a:Int×Bool)=>(s,a.1,a.2,(s.length:Int) - 1 - ((i:Nat):Int),())) (fun _ x a=>Sum.inl (a.1 + eF a.2 x,!a.2)) (fun a=> .inl (s,a.1,a.2,(-1:Int),()))
  (fun i a=>0<=a.1/\a.1<=9 * i) (a0:=(0,true)) ⟨by decide,by decide⟩ (fun i x a hx ha=>by
    obtain ⟨hlt,hx'⟩:=zm hx;have hdx:=hall x (List.mem_of_getElem? hx');have hbd:=sU a.2 hdx;have hdd:=fF.1 hdx;have e:(s.length:Int) - 1 - (i:Int)=((s.length - 1 - i:Nat):Int):=by omega
    have e':(s.length:Int) - 1 - ((i + 1:Nat):Int)=((s.length - 1 - i:Nat):Int) - 1:=by omega
    obtain ⟨a1,a2⟩:=a;show rk s a1 a2 ((s.length:Int) - 1 - (i:Int))=some (.inl (s,a1 + eF a2 x,!a2,(s.length:Int) - 1 - ((i + 1:Nat):Int),()));rw [e,e'];have hle:bz 0 ((s.length - 1 - i:Nat):Int)=true:=decide_eq_true (by omega);have ha:0<=a1/\a1<=9 * i:=ha;unfold rk;rw [hle,aC hx',eE hx',My hdx,aN (a:=((s.length - 1 - i:Nat):Int)) (b:=1) (by omega) (by omega)];have hb:(0<=eF a2 x/\eF a2 x<=9):=hbd;cases a2 with
    | false => have hv:eF false x=(x.toNat:Int) - 48:=rfl;dsimp only [cond_true,cond_false,Bool.not_false];rw [bb (by omega) (by omega),hv]
    | true =>
      dsimp only [cond_true,cond_false,Bool.not_false,Bool.not_true];have em:iq .i64 ((x.toNat:Int) - 48) 2=2 * ((x.toNat:Int) - 48):=by rw [D3 (by omega) (by omega)]; omega
      rw [em];by_cases h9:9 < 2 * ((x.toNat:Int) - 48)
      . have hv:eF true x=2 * ((x.toNat:Int) - 48) - 9:=by unfold eF; rw [aF h9]; rfl
        rw [aF h9]; dsimp only [cond_true,cond_false,Bool.not_false]; rw [aN (by omega) (by omega),bb (by omega) (by omega),hv]
      . have hv:eF true x=2 * ((x.toNat:Int) - 48):=by unfold eF; rw [az h9]; rfl
        rw [az h9]; dsimp only [cond_true,cond_false,Bool.not_false]; rw [bb (by omega) (by omega),hv]) (fun i x a a' hx ha hf=>by
    have hbd:=sU a.2 (hall x (List.mem_of_getElem? (zm hx).2));simp only [Sum.inl.injEq] at hf;subst hf;show 0<=a.1 + eF a.2 x/\a.1 + eF a.2 x<=9 * ((i + 1:Nat):Int);omega) (fun a ha=>by
    have e:(s.length:Int) - 1 - ((s.reverse.length:Nat):Int) = -1:=by simp; omega
    show rk s a.1 a.2 ((s.length:Int) - 1 - ((s.reverse.length:Nat):Int))=_;rw [e];rfl)
 rw [bC (fun x a=>(a.1 + eF a.2 x,!a.2))] at h;have h':Gn s 0 true ((s.length:Int) - 1 - ((0:Nat):Int))=some (.inl (s,(zd s.reverse (0,true)).1,(zd s.reverse (0,true)).2,(-1:Int),())):=h;have e0:(s.length:Int) - 1 - ((0:Nat):Int)=aH .i64 (ae s) 1:=by rw [aN (by unfold ae; omega) (by unfold ae; omega)]; unfold ae; omega
 have hS:∀ (xs:List UInt8) (a:Int×Bool),(∀ x∈xs,fJ x=true)->0<=a.1->0<=(zd xs a).1:=by
  intro xs;induction xs with
  | nil=>intro a _ h; exact h
  | cons x r ih => intro a hx h;have:=sU a.2 (hx x (List.mem_cons_self ..));exact ih (a.1 + eF a.2 x,!a.2) (fun y hy=>hx y (List.mem_cons_of_mem _ hy)) (by show 0<=a.1 + eF a.2 x; omega)
 have h0:=hS s.reverse (0,true) (fun x hx=>hall x (List.mem_reverse.1 hx)) (by decide);rw [e0] at h';rw [h'];dsimp only [Option.bind_some,Sum.elim_inl,cond_true,cond_false,Bool.not_true];rw [mH h0,aN (by omega) (by omega),mH (by omega)]; rfl
def pI (s:List UInt8):Bool:=cond (aS s) (cond (bz 2 (ae s)) (aj (Ag (sub s 0 (ae s - 1))) (dm s (ae s - 1) - 48)) false) false
theorem MM {s:List UInt8} (hd:aS s=true) (h:2<=s.length):∃ x,fJ x=true/\a7 (ae s - 1) s=true/\dm s (ae s - 1)=(x.toNat:Int)/\dJ 0 (ae s - 1) s=true/\(sub s 0 (ae s - 1)).length<=s.length:=by
 have e:ae s - 1=((s.length - 1:Nat):Int):=by unfold ae; omega
 obtain ⟨x,hx⟩:∃ x,s[s.length - 1]? = some x:=⟨s[s.length - 1]'(by omega),by simp⟩;refine ⟨x,ml hd x (List.mem_of_getElem? hx),?_,?_,?_,?_⟩
 . rw [e]; exact aC hx
 . rw [e]; exact eE hx
 . rw [e]; unfold dJ fH bz;rw [decide_eq_true (by decide),decide_eq_true (by omega),decide_eq_true (by omega)]; rfl
 . rw [e]; unfold sub; simp
theorem Ho (s:List UInt8) (hs:s.length<=aX):Ku s=some ((),((pI s,()),())):=by
 have hbig:aX=140737488355328:=rfl;unfold Ku pI;rw [fG s hs];dsimp only [Option.bind_some];cases hd:aS s with
 | false=>rfl
 | true =>
   by_cases h2:2<=s.length
   . obtain ⟨x,h3,h4,h5,h6,h7⟩:=MM hd h2;have e1:bz 2 (ae s)=true:=decide_eq_true (by unfold ae; omega);have e2:aH .i64 (ae s) 1=ae s - 1:=aN (by unfold ae; omega) (by unfold ae; omega);rw [az (show ¬ ae s < 2 by unfold ae; omega),e1,e2];dsimp only [cond_true,cond_false,Bool.not_true];rw [h6,h4,PD _ (Nat.le_trans h7 hs),h5,Nk h3]; rfl
   . have e1:bz 2 (ae s)=false:=decide_eq_false (by unfold ae; omega);rw [aF (show ae s < 2 by unfold ae; omega),e1]; rfl
theorem Hs (s:List UInt8) (hs:s.length<=aX):JW s=some ((),((pI s,()),())):=by
 have hbig:aX=140737488355328:=rfl;unfold JW pI;have e2:aH .i64 (ae s) 1=ae s - 1:=aN (by unfold ae; omega) (by unfold ae; omega);dsimp only;rw [gF s hs,e2];dsimp only [Option.bind_some];by_cases h2:2<=s.length
 . have e1:bz 2 (ae s)=true:=decide_eq_true (by unfold ae; omega);have e3:bz 1 (ae s - 1)=true:=decide_eq_true (by unfold ae; omega);rw [e1,e3];cases hd:aS s with
   | false=>rfl
   | true => obtain ⟨x,h3,h4,h5,h6,h7⟩:=MM hd h2;dsimp only [cond_true,cond_false,Bool.not_true];rw [h6,h4,OM _ (Nat.le_trans h7 hs),h5,My h3]; rfl
 . have e1:bz 2 (ae s)=false:=decide_eq_false (by unfold ae; omega);have e3:bz 1 (ae s - 1)=false:=decide_eq_false (by unfold ae; omega);rw [e1,e3];cases aS s <;> rfl
def fo (s:List UInt8):Bool:=cond (bz (ae s) 19) (pI s) false
theorem vi (s:List UInt8) (hs:s.length<=aX):Fb s=some ((),((fo s,()),())):=by unfold Fb fo;rw [Ho s hs];cases bz (ae s) 19 <;> rfl
theorem tJ (s:List UInt8) (hs:s.length<=aX):qX s=some ((),((fo s,()),())):=by unfold qX fo;rw [Hs s hs];cases bz (ae s) 19 <;> rfl
def fS (a:Int):Int:=if a < 0 then 0 else if 4611686018427387904 < a then 4611686018427387904 else a
theorem mG (a:Int):0<=fS a/\fS a<=4611686018427387904:=by
 unfold fS;split
 . omega
 . split <;> omega
def wW (a b:Int):Int:=if 4611686018427387904 - fS b < fS a then 4611686018427387904 else fS a + fS b
theorem DU (a:Int):F8 a 0 4611686018427387904=some ((),((fS a,()),())):=by
 unfold F8 fS;by_cases h:a < 0
 . rw [aF h,if_pos h]; rfl
 . by_cases h2:4611686018427387904 < a
   . rw [az h,if_neg h,aF h2,if_pos h2]; rfl
   . rw [az h,if_neg h,az h2,if_neg h2]; rfl
theorem wk {a:Int} (h:0<=a/\a<=4611686018427387904):cF a=true:=fe.2 h
theorem MS (a b:Int):Ie a b=some ((),((wW a b,()),())):=by
 unfold Ie NO wW;have h1:=mG a;have h2:=mG b;rw [DU,DU];dsimp only [Option.bind_some];rw [qx,qx,wk h1,wk h2,aN (by omega) (by omega)];dsimp only [Option.bind_some,Bool.not_true,cond_false];by_cases h:4611686018427387904 - fS b < fS a
 . rw [aF h,if_pos h]; rfl
 . rw [az h,if_neg h,bb (by omega) (by omega)]; rfl
theorem Nd (a b:Int):GC a b=some ((),((wW a b,()),())):=by
 have e:∀ x:Int,FD 0 (ES x 4611686018427387904)=fS x:=fun x=>by unfold FD ES fS;split <;> split <;> (try split) <;> omega
 have h1:=mG a;have h2:=mG b;unfold GC wW;dsimp only;rw [e,e,aN (by omega) (by omega)];by_cases h:4611686018427387904 - fS b < fS a
 . rw [aF h,if_pos h]; rfl
 . rw [az h,if_neg h,bb (by omega) (by omega)]; rfl
def yO (xs:List jx):Int:=xs.foldl (fun a h=>wW a h.2.1) 0
theorem IZ (xs:List jx) (hs:xs.length<=aX):JX xs=some ((),((yO xs,()),())):=by
 unfold JX;have h:=aD (step:=cW nX) xs (fun i (a:Int)=>(a,xs,ae xs,((i:Nat):Int),())) (fun _ x a=>Sum.inl (wW a x.2.1)) (fun a=> .inl (a,xs,ae xs,(xs.length:Int),())) (a0:=0) (fun i x a hx=>by
  have hlt:=ak hx;show nX a xs (ae xs) (i:Int)=_;unfold nX;rw [aG hx,aC hx,aV _ hx,aP (by omega),MS]; rfl) (fun a=>by
  show nX a xs (ae xs) (xs.length:Int)=_;unfold nX;rw [ax rfl]; rfl)
 rw [bC (fun (x:jx) a=>wW a x.2.1)] at h;have h':Iq 0 xs (ae xs) 0=_:=h;rw [h']; rfl
theorem Je (xs:List jx) (hs:xs.length<=aX):K1 xs=some ((),((yO xs,()),())):=by
 unfold K1;have h:=aD (step:=cW nJ) xs (fun i (a:Int)=>(a,xs,ae xs,((i:Nat):Int),())) (fun _ x a=>Sum.inl (wW a x.2.1)) (fun a=> .inl (a,xs,ae xs,(xs.length:Int),())) (a0:=0) (fun i x a hx=>by
  have hlt:=ak hx;show nJ a xs (ae xs) (i:Int)=_;unfold nJ;rw [aG hx,aC hx,aV _ hx,aP (by omega),Nd]; rfl) (fun a=>by
  show nJ a xs (ae xs) (xs.length:Int)=_;unfold nJ;rw [ax rfl]; rfl)
 rw [bC (fun (x:jx) a=>wW a x.2.1)] at h;have h':Gj 0 xs (ae xs) 0=_:=h;rw [h']; rfl
def vp (r:wJ):Bool:=cond (dF r.1 1 1000) (cond (dF (ae r.2.2.1) 1 8) (cond (aj (ae r.2.2.2.1) (ae r.2.2.1)) (cond (df r.2.1) (r.2.2.1.all (fun x=>cF x.1) && r.2.2.2.1.all (fun x=>cF x.1)) false) false) false) false
def Bn (r:wJ):Prop:=r.2.2.1.length<=1048576/\r.2.2.2.1.length<=1048576
theorem dW {a b:Int}:aj a b=true↔a=b:=by simp [aj]
theorem O0 (r:wJ) (hb:Bn r):Is r=some ((),((vp r,()),())):=by
 have hbig:aX=140737488355328:=rfl;obtain ⟨hb1,hb2⟩:=hb;unfold Is vp;dsimp only;rw [lx,lx,mx];dsimp only [Option.bind_some];cases dF r.1 1 1000 with
 | false=>rfl
 | true =>
 cases dF (ae r.2.2.1) 1 8 with
 | false=>rfl
 | true =>
 cases he:aj (ae r.2.2.2.1) (ae r.2.2.1) with
 | false=>rfl
 | true =>
 cases df r.2.1 with
 | false=>rfl
 | true =>
 have hlen:r.2.2.2.1.length=r.2.2.1.length:=by have:=dW.1 he;unfold ae at this; omega
 dsimp only [cond_true,cond_false,Bool.not_true];have h:=aD (step:=fc oG) (r.2.2.1.zip r.2.2.2.1) (fun i (_:Unit)=>(ae r.2.2.1,((i:Nat):Int),r,())) (fun _ x _=>bif cF x.1.1 && cF x.2.1 then Sum.inl () else .inr (.inr (false,()))) (fun _=> .inl (ae r.2.2.1,(r.2.2.1.length:Int),r,())) (a0:=()) (fun i x a hx=>by
  have hx':=List.getElem?_zip_eq_some.1 hx;have hlt:=ak hx'.1;show oG (ae r.2.2.1) (i:Int) r=_;unfold oG;rw [aG hx'.1,aC hx'.1,aC hx'.2,aV _ hx'.1,aV _ hx'.2,qx,qx,aP (by omega)];dsimp only [cond_true,Option.bind_some];cases cF x.1.1 <;> cases cF x.2.1 <;> rfl) (fun a=>by
  have e:(r.2.2.1.zip r.2.2.2.1).length=r.2.2.1.length:=by rw [List.length_zip,hlen,Nat.min_self]
  rw [e];show oG (ae r.2.2.1) (r.2.2.1.length:Int) r=_;unfold oG;rw [ax rfl]; rfl)
 rw [fM (fun (x:(Int×Unit)×(Int×Unit))=>cF x.1.1 && cF x.2.1)] at h;have h':Iw (ae r.2.2.1) 0 r=_:=h;rw [h'];have hz:∀ (a b:List (Int×Unit)),b.length=a.length->(a.zip b).all (fun x=>cF x.1.1 && cF x.2.1)=(a.all (fun x=>cF x.1) && b.all (fun x=>cF x.1)):=by
  intro a;induction a with
  | nil=>intro b hb; cases b with | nil=>rfl | cons _ _=>simp at hb
  | cons x a ih =>
    intro b hb;cases b with
    | nil=>simp at hb
    | cons y b => simp only [List.zip_cons_cons,List.all_cons];rw [ih b (by simpa using hb)];cases cF x.1 <;> cases cF y.1 <;> simp
 rw [hz _ _ hlen];cases r.2.2.1.all (fun x=>cF x.1) && r.2.2.2.1.all (fun x=>cF x.1) <;> rfl
theorem Gg (a b:List (Int×Unit)) (ha:a.length<=1048576) (hb:b.length<=1048576):KF [(a,()),(b,())]=some ((),((a ++ b,()),())):=by
 have hbig:aX=140737488355328:=rfl;unfold KF;have hlen:((a.length + b.length:Nat):Int)=(a.length:Int) + b.length:=by omega
 have h:Cy [(a,()),(b,())] 0 [(a,()),(b,())] 2 0=some (.inl ([(a,()),(b,())],(a.length:Int) + b.length,[(a,()),(b,())],2,2,())):=by
  refine aQ _ (x':=([(a,()),(b,())],(a.length:Int),[(a,()),(b,())],2,1,())) ?_ (aQ _ (x':=([(a,()),(b,())],(a.length:Int) + b.length,[(a,()),(b,())],2,2,())) ?_ (aJ _ ?_))
  . show qP [(a,()),(b,())] 0 [(a,()),(b,())] 2 0=_;unfold qP;have e:aq .i64 0 (ae (gt d53 [(a,()),(b,())] 0).1)=(a.length:Int):=by
     show aq .i64 0 (ae a)=_;rw [bb (by unfold ae; omega) (by unfold ae; omega)]; unfold ae; omega
    dsimp only;rw [e,az (a:=(a.length:Int)) (b:=0) (by omega)]; rfl
  . show qP [(a,()),(b,())] (a.length:Int) [(a,()),(b,())] 2 1=_;unfold qP;have e:aq .i64 (a.length:Int) (ae (gt d53 [(a,()),(b,())] 1).1)=(a.length:Int) + b.length:=by
     show aq .i64 (a.length:Int) (ae b)=_;rw [bb (by unfold ae; omega) (by unfold ae; omega)]; unfold ae; omega
    dsimp only;rw [e,az (a:=(a.length:Int) + b.length) (b:=0) (by omega)]; rfl
  . rfl
 have h1:Cy [(a,()),(b,())] 0 [(a,()),(b,())] (ae [(a,()),(b,())]) 0=_:=h;have hg:Kb ((a.length:Int) + b.length)=some ((),(([],()),())):=by
  unfold Kb;dsimp only;rw [az (by omega),aN (a:=0) (b:=0) (by decide) (by decide),aN (by omega) (by omega)];by_cases h0:(0:Int) < (a.length:Int) + b.length - (0 - 0)
  . have e2:VZ 8 ((a.length:Int) + b.length - (0 - 0))=true:=by
     unfold VZ bz;rw [decide_eq_true (by omega),decide_eq_true (by rw [hbig]; omega)]; rfl
    have e3:dJ 0 0 (vJ d3 ((a.length:Int) + b.length - (0 - 0)))=true:=by unfold dJ fH bz;rw [decide_eq_true (by decide),decide_eq_true (by omega)]; rfl
    rw [aF h0,e2,e3];rfl
  . rw [az h0]; rfl
 have h2:CN [] [(a,()),(b,())] 2 0=some (.inl (a ++ b,[(a,()),(b,())],2,2,())):=by
  refine aQ _ (x':=(a,[(a,()),(b,())],2,1,())) ?_ (aQ _ (x':=(a ++ b,[(a,()),(b,())],2,2,())) ?_ (aJ _ ?_))
  . show ru [] [(a,()),(b,())] 2 0=_;unfold ru;have e:cQ 8 ([]:List (Int×Unit)) (gt d53 [(a,()),(b,())] 0).1=true:=Nat.ble_eq_true_of_le (by show (0 + a.length) * 8<=aX; omega);rw [e]; rfl
  . show ru a [(a,()),(b,())] 2 1=_;unfold ru;have e:cQ 8 a (gt d53 [(a,()),(b,())] 1).1=true:=Nat.ble_eq_true_of_le (by show (a.length + b.length) * 8<=aX; omega);rw [e]; rfl
  . rfl
 have h2':CN [] [(a,()),(b,())] (ae [(a,()),(b,())]) 0=_:=h2;rw [h1];dsimp only [Option.bind_some,Sum.elim_inl];rw [hg];dsimp only [Option.bind_some,Sum.elim_inl];rw [h2']; rfl
theorem Ov (r:wJ) (hb:Bn r):G8 r=some ((),((vp r,()),())):=by
 have hbig:aX=140737488355328:=rfl;obtain ⟨hb1,hb2⟩:=hb;unfold G8;rw [Gg _ _ hb1 hb2];dsimp only [Option.bind_some];have h:=aD (step:=ft nB) (r.2.2.1 ++ r.2.2.2.1) (fun i (_:Unit)=>(ae r.2.2.1,r.2.2.1 ++ r.2.2.2.1,ae (r.2.2.1 ++ r.2.2.2.1),((i:Nat):Int),r,())) (fun _ x _=>bif cF x.1 then Sum.inl () else .inr (.inr (false,()))) (fun _=> .inl (ae r.2.2.1,r.2.2.1 ++ r.2.2.2.1,ae (r.2.2.1 ++ r.2.2.2.1),((r.2.2.1 ++ r.2.2.2.1).length:Int),r,())) (a0:=()) (fun i x a hx=>by
  have hlt:=ak hx;rw [List.length_append] at hlt;show nB (ae r.2.2.1) (r.2.2.1 ++ r.2.2.2.1) (ae (r.2.2.1 ++ r.2.2.2.1)) (i:Int) r=_;unfold nB;rw [aG hx,aC hx,aV _ hx,D5,aP (by omega)];dsimp only [cond_true,Option.bind_some];cases cF x.1 <;> rfl) (fun a=>by
  show nB (ae r.2.2.1) (r.2.2.1 ++ r.2.2.2.1) (ae (r.2.2.1 ++ r.2.2.2.1)) ((r.2.2.1 ++ r.2.2.2.1).length:Int) r=_;unfold nB;rw [ax rfl]; rfl)
 rw [fM (fun (x:Int×Unit)=>cF x.1)] at h;have h':I1 (ae r.2.2.1) (r.2.2.1 ++ r.2.2.2.1) (ae (r.2.2.1 ++ r.2.2.2.1)) 0 r=_:=h;rw [h',List.all_append];unfold vp;cases r.2.2.1.all (fun x=>cF x.1) && r.2.2.2.1.all (fun x=>cF x.1) with
 | false => cases dF r.1 1 1000 <;> cases dF (ae r.2.2.1) 1 8 <;> cases aj (ae r.2.2.2.1) (ae r.2.2.1) <;> cases df r.2.1 <;> rfl
 | true => dsimp only [cond_true,Option.bind_some,Sum.elim_inl];rw [jD,jD,mz];dsimp only [Option.bind_some];cases dF r.1 1 1000 <;> cases dF (ae r.2.2.1) 1 8 <;> cases aj (ae r.2.2.2.1) (ae r.2.2.1) <;> cases df r.2.1 <;> rfl
def uX (s:eC):Bool:=cond (cond (aS s.1) (aj (ae s.1) 6) false) (cond (cond (aS s.2.1) (aj (ae s.2.1) 4) false) (dF (ae s.2.2.1) 1 200) false) false
def Hq (s:eC):Prop:=s.1.length<=aX/\s.2.1.length<=aX
theorem N4 (s:eC) (hb:Hq s):K0 s=some ((),((uX s,()),())):=by unfold K0 uX;rw [fG _ hb.1,fG _ hb.2];dsimp only [Option.bind_some];rw [lx];cases cond (aS s.1) (aj (ae s.1) 6) false <;> cases cond (aS s.2.1) (aj (ae s.2.1) 4) false <;> rfl
theorem N1 (s:eC) (hb:Hq s):KA s=some ((),((uX s,()),())):=by unfold KA vc uX;rw [gF _ hb.1,gF _ hb.2];dsimp only [Option.bind_some];rw [jD];cases cond (aS s.1) (aj (ae s.1) 6) false <;> cases cond (aS s.2.1) (aj (ae s.2.1) 4) false <;> rfl
def gZ (a b:eC):Bool:=cond (bY a.1 b.1) (bY a.2.1 b.2.1) false
def ji (xs:List eC) (i:Nat) (x:eC):Bool:=cond (uX x) ((xs.take i).all (fun y=> !gZ y x)) false
def oD (xs:List eC):Bool:=cond (allI (ji xs) 0 xs) (bz (ae xs) 6) false
def Cq (xs:List eC):Prop:=xs.length<=1048576/\∀ y∈xs,Hq y
theorem qg {α:Type} (xs:List α) (i:Nat):sub xs 0 (i:Int)=xs.take i:=by unfold sub; simp
theorem iS {α:Type} {xs:List α} {i:Nat} (h:i<=xs.length):dJ 0 (i:Int) xs=true:=by unfold dJ fH bz;rw [decide_eq_true (by decide),decide_eq_true (by omega),decide_eq_true (by omega)]; rfl
theorem KV (xs:List eC) (hb:Cq xs):Kr xs=some ((),((oD xs,()),())):=by
 have hbig:aX=140737488355328:=rfl;have hb1:=hb.1;unfold Kr;have inner:∀ (i:Nat) (x:eC),i<=xs.length->Jk xs xs (ae xs) (i:Int) (xs.take i) (ae (xs.take i)) 0 x=some (bif (xs.take i).all (fun y=> !gZ y x) then .inl (xs,xs,ae xs,(i:Int),xs.take i,ae (xs.take i),((xs.take i).length:Int),x,()) else .inr (false,())):=fun i x hi=>by
  have hti:(xs.take i).length<=xs.length:=by rw [List.length_take]; exact Nat.min_le_right _ _
  have h:=aD (step:=xQ nI) (xs.take i) (fun j (_:Unit)=>(xs,xs,ae xs,(i:Int),xs.take i,ae (xs.take i),((j:Nat):Int),x,())) (fun _ y _=>bif !gZ y x then Sum.inl () else .inr (.inr (false,()))) (fun _=> .inl (xs,xs,ae xs,(i:Int),xs.take i,ae (xs.take i),((xs.take i).length:Int),x,())) (a0:=()) (fun j y a hy=>by
   have hlt:=ak hy;show nI xs xs (ae xs) (i:Int) (xs.take i) (ae (xs.take i)) (j:Int) x=_;unfold nI gZ;rw [aG hy,aC hy,aV _ hy,aP (by omega)];dsimp only [cond_true];cases cond (bY y.1 x.1) (bY y.2.1 x.2.1) false <;> rfl) (fun a=>by
   show nI xs xs (ae xs) (i:Int) (xs.take i) (ae (xs.take i)) ((xs.take i).length:Int) x=_;unfold nI;rw [ax rfl]; rfl)
  rw [fM (fun y=> !gZ y x)] at h;exact h
 have h:=aD (step:=cW oo) xs (fun i (_:Unit)=>(xs,xs,ae xs,((i:Nat):Int),())) (fun i x _=>bif ji xs i x then Sum.inl () else .inr (.inr (false,()))) (fun _=> .inl (xs,xs,ae xs,(xs.length:Int),())) (a0:=()) (fun i x a hx=>by
  have hlt:=ak hx;show oo xs xs (ae xs) (i:Int)=_;unfold oo ji;rw [aG hx,aC hx,aV _ hx];dsimp only [cond_true];rw [N4 x (hb.2 x (List.mem_of_getElem? hx)),iS (Nat.le_of_lt hlt),qg];dsimp only [cond_true,Option.bind_some];rw [inner i x (Nat.le_of_lt hlt)];cases uX x with
  | false=>rfl
  | true =>
    cases (xs.take i).all (fun y=> !gZ y x) with
    | false=>rfl
    | true =>
      dsimp only [cond_true,cond_false,Bool.not_true,Option.bind_some,Sum.elim_inl];rw [aP (by omega)]; rfl) (fun a=>by
  show oo xs xs (ae xs) (xs.length:Int)=_;unfold oo;rw [ax rfl]; rfl)
 rw [cC] at h;have h':G3 xs xs (ae xs) 0=_:=h;rw [h'];unfold oD;cases allI (ji xs) 0 xs <;> rfl
def gh {α:Type} (p:α->Bool):Nat->List α->Int
 | _,[] => -1
 | i,x :: r=>bif p x then (i:Int) else gh p (i + 1) r
theorem l4 {α Y:Type} (p:α->Bool) (y:Int->Y) (z:Y) (out:Y->Int) (hy:∀ n,out (y n)=n) (hz:out z = -1):∀ (xs:List α) (i:Nat),out (kK (fun i x _=>bif p x then Sum.inr (y (i:Int)) else .inl ()) (fun _=>z) i xs ())=gh p i xs
 | [],_=>hz
 | x :: r,i=>by
   rw [kK,gh];cases hp:p x with
   | true=>exact hy _
   | false=>exact l4 p y z out hy hz r (i + 1)
theorem uc {α:Type} (p:α->Bool):∀ (xs:List α) (i:Nat),gh p i xs = -1∨((i:Int)<=gh p i xs/\gh p i xs < i + xs.length)
 | [],_=> .inl rfl
 | x :: r,i=>by
   rw [gh];cases p x with
   | true=>right; simp only [cond_true,List.length_cons]; omega
   | false =>
     rcases uc p r (i + 1) with h | h
     . exact .inl h
     . right; simp only [cond_false,List.length_cons]; omega
theorem A8 {α:Type} (p:α->Bool):∀ {xs:List α} {i:Nat} {x:α} (k:Nat),xs[i]? = some x->p x=true->(gh p k xs=((k + i:Nat):Int)↔(xs.take i).all (fun y=> !p y)=true)
 | [],i,x,k,h,_=>by simp at h
 | y :: r,0,x,k,h,hp=>by simp only [List.getElem?_cons_zero,Option.some.injEq] at h;subst h;rw [gh,hp]; simp
 | y :: r,i + 1,x,k,h,hp=>by
   have ih:=A8 p (xs:=r) (i:=i) (x:=x) (k + 1) (by simpa using h) hp;rw [gh,List.take_succ_cons,List.all_cons];cases hy:p y with
   | true => simp only [cond_true,Bool.not_true,Bool.false_and,Bool.false_eq_true,iff_false];omega
   | false => simp only [cond_false,Bool.not_false,Bool.true_and];rw [<- ih,show k + 1 + i=k + (i + 1) by omega]
theorem Ix (xs:List eC) (a b:List UInt8) (hs:xs.length<=1048576):JZ xs a b=some ((),((gh (fun y=>cond (bY y.1 a) (bY y.2.1 b) false) 0 xs,()),())):=by
 have hbig:aX=140737488355328:=rfl;unfold JZ Od;have h:=aD (step:=cW oK) xs (fun i (_:Unit)=>(xs,((a,()),(b,()),()),ae xs,((i:Nat):Int),())) (fun i y _=>bif cond (bY y.1 a) (bY y.2.1 b) false then Sum.inr (.inr ((i:Int),())) else Sum.inl ()) (fun _=> .inl (xs,((a,()),(b,()),()),ae xs,(xs.length:Int),())) (a0:=()) (fun i y u hy=>by
  have hlt:=ak hy;show oK xs ((a,()),(b,()),()) (ae xs) (i:Int)=_;unfold oK NW;rw [aG hy,aC hy,aV _ hy,aP (by omega)];dsimp only [cond_true,Option.bind_some];cases cond (bY y.1 a) (bY y.2.1 b) false <;> rfl) (fun u=>by
  show oK xs ((a,()),(b,()),()) (ae xs) (xs.length:Int)=_;unfold oK;rw [ax rfl]; rfl)
 have h':F3 xs ((a,()),(b,()),()) (ae xs) 0=_:=h;rw [h'];have hf:=l4 (Y:=Sum ((List eC)×(((List UInt8)×Unit)×((List UInt8)×Unit)×Unit)×Int×Int×Unit) (Int×Unit)) (fun (y:eC)=>cond (bY y.1 a) (bY y.2.1 b) false) (fun n=> .inr (n,())) (.inl (xs,((a,()),(b,()),()),ae xs,(xs.length:Int),())) (fun y=>match y with | .inl _ => -1 | .inr z=>z.1) (fun _=>rfl) rfl xs 0;rw [<- hf];dsimp only [Option.bind_some];cases kK _ _ 0 xs () <;> rfl
theorem Le (xs:List eC) (hb:Cq xs):Kd xs=some ((),((oD xs,()),())):=by
 have hbig:aX=140737488355328:=rfl;have hb1:=hb.1;unfold Kd;have h:=aD (step:=cW nW) xs (fun i (_:Unit)=>(xs,xs,ae xs,((i:Nat):Int),())) (fun i x _=>bif ji xs i x then Sum.inl () else .inr (.inr (false,()))) (fun _=> .inl (xs,xs,ae xs,(xs.length:Int),())) (a0:=()) (fun i x a hx=>by
  have hlt:=ak hx;show nW xs xs (ae xs) (i:Int)=_;unfold nW ji;rw [aG hx,aC hx,aV _ hx];dsimp only [cond_true];rw [N1 x (hb.2 x (List.mem_of_getElem? hx))];dsimp only [cond_true,Option.bind_some];rw [Ix xs _ _ hb1,aP (by omega)];have hp:cond (bY x.1 x.1) (bY x.2.1 x.2.1) false=true:=by rw [eb,eb]; rfl
  have hk:=A8 (fun (y:eC)=>cond (bY y.1 x.1) (bY y.2.1 x.2.1) false) 0 hx hp;rw [Nat.zero_add,<- dW] at hk;have hk':aj (gh (fun (y:eC)=>cond (bY y.1 x.1) (bY y.2.1 x.2.1) false) 0 xs) (i:Int)=(xs.take i).all (fun y=> !gZ y x):=by rw [Bool.eq_iff_iff]; exact hk
  cases uX x with
  | false=>rfl
  | true =>
    dsimp only [cond_true,cond_false,Bool.not_true,Option.bind_some];rw [hk'];cases (xs.take i).all (fun y=> !gZ y x) <;> rfl) (fun a=>by
  show nW xs xs (ae xs) (xs.length:Int)=_;unfold nW;rw [ax rfl]; rfl)
 rw [cC] at h;have h':GL xs xs (ae xs) 0=_:=h;rw [h'];unfold oD;cases allI (ji xs) 0 xs <;> rfl
abbrev aO:=List UInt8×Int×Int×Int×Int×List jx×Int×Int×List (Int×Unit)×List (Int×Unit)×List eC×Unit
def wZ (a:aO):wJ:=(a.2.2.2.2.2.2.1,a.2.2.2.2.2.2.2.1,a.2.2.2.2.2.2.2.2.1,a.2.2.2.2.2.2.2.2.2.1,())
def je (a:aO):Prop:=a.1.length<=1048576/\(a.2.2.2.2.2.1.length<=1048576/\∀ y∈a.2.2.2.2.2.1,y.1.length<=1048576)/\Bn (wZ a)/\a.2.2.2.2.2.2.2.2.2.2.1.length<=1048576/\∀ y∈a.2.2.2.2.2.2.2.2.2.2.1,y.1.length<=1048576/\y.2.1.length<=1048576/\y.2.2.1.length<=1048576
theorem cl {n:Nat} (h:n<=1048576):n<=aX:=Nat.le_trans h (by decide)
theorem je.hs {a:aO} (h:je a):CX a.2.2.2.2.2.1:=⟨cl h.2.1.1,fun y hy=>cl (h.2.1.2 y hy)⟩
theorem je.ss {a:aO} (h:je a):Cq a.2.2.2.2.2.2.2.2.2.2.1:=⟨h.2.2.2.1,fun y hy=>⟨cl (h.2.2.2.2 y hy).1,cl (h.2.2.2.2 y hy).2.1⟩⟩
def vh (a:aO):Bool:=cond (fo a.1) (cond (dF a.2.1 0 9007199254740992) (cond (dF a.2.2.2.1 0 1000) (cond (dF a.2.2.2.2.1 0 9007199254740992) (cond (cF a.2.2.1) (cond (nK a.2.2.2.2.2.1) (cond (vp (wZ a)) (cond (oD a.2.2.2.2.2.2.2.2.2.2.1) (bz (wW a.2.2.1 (yO a.2.2.2.2.2.1)) a.2.1) false) false) false) false) false) false) false) false
theorem Og (a:aO) (hb:je a):UJ a=some ((),((vh a,()),())):=by
 have h1:=vi a.1 (cl hb.1);have h2:=K9 _ hb.hs;have h3:Is (a.2.2.2.2.2.2.1,a.2.2.2.2.2.2.2.1,a.2.2.2.2.2.2.2.2.1,a.2.2.2.2.2.2.2.2.2.1,())=_:=O0 (wZ a) hb.2.2.1;have h4:=KV _ hb.ss;have h5:=IZ _ hb.hs.1;unfold UJ vh;rw [h1,h2,h3,h4,h5,lx,lx,lx,qx];dsimp only [Option.bind_some];rw [MS];dsimp only [Option.bind_some];cases fo a.1 <;> first | rfl | skip
 cases dF a.2.1 0 9007199254740992 <;> first | rfl | skip
 cases dF a.2.2.2.1 0 1000 <;> first | rfl | skip
 cases dF a.2.2.2.2.1 0 9007199254740992 <;> first | rfl | skip
 cases cF a.2.2.1 <;> first | rfl | skip
 cases nK a.2.2.2.2.2.1 <;> first | rfl | skip
 cases vp (wZ a) <;> first | rfl | skip
 cases oD a.2.2.2.2.2.2.2.2.2.2.1 <;> rfl
theorem O9 (a:aO) (hb:je a):UG a=some ((),((vh a,()),())):=by
 have h1:=tJ a.1 (cl hb.1);have h2:=LP _ hb.hs;have h3:G8 (a.2.2.2.2.2.2.1,a.2.2.2.2.2.2.2.1,a.2.2.2.2.2.2.2.2.1,a.2.2.2.2.2.2.2.2.2.1,())=_:=Ov (wZ a) hb.2.2.1;have h4:=Le _ hb.ss;have h5:=Je _ hb.hs.1;unfold UG vh;rw [h1,h2,h3,h4,h5,jD,jD,jD,D5];dsimp only [Option.bind_some];rw [Nd];dsimp only [Option.bind_some];cases fo a.1 <;> first | rfl | skip
 cases dF a.2.1 0 9007199254740992 <;> first | rfl | skip
 cases dF a.2.2.2.1 0 1000 <;> first | rfl | skip
 cases dF a.2.2.2.2.1 0 9007199254740992 <;> first | rfl | skip
 cases cF a.2.2.1 <;> first | rfl | skip
 cases nK a.2.2.2.2.2.1 <;> first | rfl | skip
 cases vp (wZ a) <;> first | rfl | skip
 cases oD a.2.2.2.2.2.2.2.2.2.2.1 <;> rfl
theorem hJ {α:Type} {b:Nat} {xs:List α} (h:xs.length * b<=aX):cQ b ([]:List α) xs=true:=Nat.ble_eq_true_of_le (by simpa using h)
theorem IN (r:wJ) (hb:Bn r):Jx r=some ((),(r,())):=by have hbig:aX=140737488355328:=rfl;obtain ⟨h1,h2⟩:=hb;unfold Jx;rw [hJ (by omega),hJ (by omega)]; rfl
theorem HI (r:wJ) (hb:Bn r):Gd r=some ((),(r,())):=by have hbig:aX=140737488355328:=rfl;obtain ⟨h1,h2⟩:=hb;unfold Gd Fk;rw [hJ (by omega),hJ (by omega)]; rfl
theorem EM (xs:List eC) (hs:xs.length<=1048576) (hb:∀ y∈xs,y.2.2.1.length<=1048576):LK xs=some ((),((xs,()),())):=by
 have hbig:aX=140737488355328:=rfl;unfold LK;have h:=a6 (step:=cW nD) xs (fun i (a:List eC)=>(a,xs,ae xs,((i:Nat):Int),())) (fun _ x a=>Sum.inl (a ++ [x])) (fun a=> .inl (a,xs,ae xs,(xs.length:Int),())) (fun i a=>a.length=i) (a0:=[]) rfl (fun i x a hx ha=>by
  have hlt:=ak hx;have hm:=hb x (List.mem_of_getElem? hx);show nD a xs (ae xs) (i:Int)=_;unfold nD;have e:∀ y:eC,cQ 56 a [y]=true:=fun y=>Nat.ble_eq_true_of_le (by simp; omega)
  rw [aG hx,aC hx,aV _ hx];dsimp only [cond_true];rw [hJ (by omega),e,aP (by omega)];rfl) (fun i x a a' hx ha hf=>by
  simp only [Sum.inl.injEq] at hf;rw [<- hf,List.length_append,ha]; rfl) (fun a ha=>by
  show nD a xs (ae xs) (xs.length:Int)=_;unfold nD;rw [ax rfl]; rfl)
 rw [jl] at h;have h':IK [] xs (ae xs) 0=_:=h;rw [h']; rfl
theorem Fh (xs:List eC) (hs:xs.length<=1048576) (hb:∀ y∈xs,y.2.2.1.length<=1048576):Kh xs=some ((),((xs,()),())):=by
 have hbig:aX=140737488355328:=rfl;unfold Kh;have h:=a6 (step:=cW nP) xs (fun i (a:List eC)=>(a,xs,ae xs,((i:Nat):Int),())) (fun _ x a=>Sum.inl (a ++ [x])) (fun a=> .inl (a,xs,ae xs,(xs.length:Int),())) (fun i a=>a.length=i) (a0:=[]) rfl (fun i x a hx ha=>by
  have hlt:=ak hx;have hm:=hb x (List.mem_of_getElem? hx);show nP a xs (ae xs) (i:Int)=_;unfold nP Hl;have e:∀ y:eC,cQ 56 a [y]=true:=fun y=>Nat.ble_eq_true_of_le (by simp; omega)
  rw [aG hx,aC hx,aV _ hx];dsimp only [cond_true];rw [hJ (by omega),aP (by omega)];dsimp only [cond_true,Option.bind_some];rw [e];rfl) (fun i x a a' hx ha hf=>by
  simp only [Sum.inl.injEq] at hf;rw [<- hf,List.length_append,ha]; rfl) (fun a ha=>by
  show nP a xs (ae xs) (xs.length:Int)=_;unfold nP;rw [ax rfl]; rfl)
 rw [jl] at h;have h':IL [] xs (ae xs) 0=_:=h;rw [h']; rfl
theorem IX (a:aO) (hb:je a):Ur a=some ((),(a,())):=by have hbig:aX=140737488355328:=rfl;have h1:=hb.2.1.1;have h2:Jx (a.2.2.2.2.2.2.1,a.2.2.2.2.2.2.2.1,a.2.2.2.2.2.2.2.2.1,a.2.2.2.2.2.2.2.2.2.1,())=_:=IN (wZ a) hb.2.2.1;have h3:=EM _ hb.2.2.2.1 (fun y hy=>(hb.2.2.2.2 y hy).2.2);unfold Ur;rw [hJ (by omega),h2,h3]; rfl
theorem GI (a:aO) (hb:je a):J8 a=some ((),(a,())):=by have hbig:aX=140737488355328:=rfl;have h1:=hb.2.1.1;have h2:Gd (a.2.2.2.2.2.2.1,a.2.2.2.2.2.2.2.1,a.2.2.2.2.2.2.2.2.1,a.2.2.2.2.2.2.2.2.2.1,())=_:=HI (wZ a) hb.2.2.1;have h3:=Fh _ hb.2.2.2.1 (fun y hy=>(hb.2.2.2.2 y hy).2.2);unfold J8 Ia;rw [hJ (by omega),h2,h3]; rfl
def gp (h:Nat) (c:UInt8):Nat:=((h ^^^ c.toNat) * 16777619) % 4294967296
def Cn (s:List UInt8):Nat:=s.foldl gp 2166136261
theorem B8 (h:Nat) (c:UInt8):gp h c < 4294967296:=Nat.mod_lt _ (by decide)
theorem Ju {a c:Nat} (ha:a < 4294967296) (hc:c < 256):a ^^^ c < 4294967296:=by have:=Nat.xor_lt_two_pow (x:=a) (y:=c) (n:=32) (by omega) (by omega);omega
theorem iQ (n a:Nat):BitVec.ofInt n (a:Int)=BitVec.ofNat n a:=by simp
theorem CF {a:Nat} (c:UInt8) (ha:a < 4294967296):yP .i64 (iq .i64 (zJ .i64 (a:Int) (bP .i64 (c.toNat:Int))) 16777619) 4294967295=((gp a c:Nat):Int):=by
 have hc:c.toNat < 256:=c.toNat_lt;have hx:=Ju ha hc;have e1:bP .i64 (c.toNat:Int)=(c.toNat:Int):=IntWalk.i64_in _ (by omega);have e2:zJ .i64 (a:Int) (c.toNat:Int)=((a ^^^ c.toNat:Nat):Int):=by
  unfold zJ;have:(BitVec.ofInt IntKind.i64.bits (a:Int) ^^^ BitVec.ofInt IntKind.i64.bits (c.toNat:Int)).toNat=a ^^^ c.toNat:=by
   rw [iQ,iQ,BitVec.toNat_xor,BitVec.toNat_ofNat,BitVec.toNat_ofNat];have h64:2 ^ IntKind.i64.bits=18446744073709551616:=by decide
   rw [h64,Nat.mod_eq_of_lt (by omega),Nat.mod_eq_of_lt (by omega)]
  rw [this];exact IntWalk.i64_in _ (by omega)
 have e3:iq .i64 ((a ^^^ c.toNat:Nat):Int) 16777619=(((a ^^^ c.toNat) * 16777619:Nat):Int):=by unfold iq;rw [IntWalk.i64_in _ (by omega)];omega
 rw [e1,e2,e3];unfold yP gp;have:(BitVec.ofInt IntKind.i64.bits (((a ^^^ c.toNat) * 16777619:Nat):Int) &&& BitVec.ofInt IntKind.i64.bits (4294967295:Int)).toNat=((a ^^^ c.toNat) * 16777619) % 4294967296:=by
  have h32:(4294967295:Int)=((4294967295:Nat):Int):=rfl;rw [h32,iQ,iQ,BitVec.toNat_and,BitVec.toNat_ofNat,BitVec.toNat_ofNat];have h64:2 ^ IntKind.i64.bits=18446744073709551616:=by decide
  rw [h64,Nat.mod_eq_of_lt (by omega:(a ^^^ c.toNat) * 16777619 < 18446744073709551616),Nat.mod_eq_of_lt (by omega:4294967295 < 18446744073709551616)];exact Nat.and_two_pow_sub_one_eq_mod _ 32
 rw [this];have:=Nat.mod_lt ((a ^^^ c.toNat) * 16777619) (show 0 < 4294967296 by decide);exact IntWalk.i64_in _ (by omega)
theorem CD {a:Nat} (c:UInt8) (ha:a < 4294967296):iq .u32 (zJ .u32 (a:Int) (bP .u32 (c.toNat:Int))) 16777619=((gp a c:Nat):Int):=by
 have hc:c.toNat < 256:=c.toNat_lt;have hx:=Ju ha hc;have e1:bP .u32 (c.toNat:Int)=(c.toNat:Int):=IntWalk.u32_in _ (by omega);have e2:zJ .u32 (a:Int) (c.toNat:Int)=((a ^^^ c.toNat:Nat):Int):=by
  unfold zJ;have:(BitVec.ofInt IntKind.u32.bits (a:Int) ^^^ BitVec.ofInt IntKind.u32.bits (c.toNat:Int)).toNat=a ^^^ c.toNat:=by
   rw [iQ,iQ,BitVec.toNat_xor,BitVec.toNat_ofNat,BitVec.toNat_ofNat];have h32:2 ^ IntKind.u32.bits=4294967296:=by decide
   rw [h32,Nat.mod_eq_of_lt ha,Nat.mod_eq_of_lt (by omega)]
  rw [this];exact IntWalk.u32_in _ (by omega)
 rw [e1,e2];unfold iq gp;rw [IntKind.wrap_u32];omega
theorem Ub (s:List UInt8) (hb:s.length<=aX):UK s=some ((),((((Cn s:Nat):Int),()),())):=by
 have hbig:aX=140737488355328:=rfl;unfold UK;have h:=a6 (step:=fc wq) s (fun i (a:Nat)=>(s,((a:Nat):Int),((i:Nat):Int),())) (fun _ x a=>Sum.inl (gp a x)) (fun a=> .inl (s,((a:Nat):Int),(s.length:Int),())) (fun _ a=>a < 4294967296) (a0:=2166136261) (by decide) (fun i x a hx ha=>by
  have hlt:=ak hx;show wq s (a:Int) (i:Int)=_;unfold wq;rw [aG hx,aC hx,eE hx,aP (by omega),CF x ha]; rfl) (fun i x a a' hx ha hf=>by
  simp only [Sum.inl.injEq] at hf;rw [<- hf]; exact B8 a x) (fun a ha=>by
  show wq s (a:Int) (s.length:Int)=_;unfold wq;rw [ax rfl]; rfl)
 rw [bC (fun x a=>gp a x)] at h;have h':MR s 2166136261 0=_:=h;rw [h']; rfl
theorem KQ (s:List UInt8):Cn s < 4294967296:=by
 have:∀ (s:List UInt8) (a:Nat),a < 4294967296->s.foldl gp a < 4294967296:=fun s=>by
  induction s with
  | nil=>exact fun a h=>h
  | cons c r ih=>exact fun a _=>ih _ (B8 a c)
 exact this s _ (by decide)
theorem R6 (s:List UInt8) (hb:s.length<=aX):Uv s=some ((),((((Cn s:Nat):Int),()),())):=by
 have hbig:aX=140737488355328:=rfl;unfold Uv;have h:=a6 (step:=cW uj) s (fun i (a:Nat)=>(s,((a:Nat):Int),ae s,((i:Nat):Int),())) (fun _ x a=>Sum.inl (gp a x)) (fun a=> .inl (s,((a:Nat):Int),ae s,(s.length:Int),())) (fun _ a=>a < 4294967296) (a0:=2166136261) (by decide) (fun i x a hx ha=>by
  have hlt:=ak hx;show uj s (a:Int) (ae s) (i:Int)=_;unfold uj;rw [aG hx,aC hx,eE hx,aP (by omega),CD x ha]; rfl) (fun i x a a' hx ha hf=>by
  simp only [Sum.inl.injEq] at hf;rw [<- hf]; exact B8 a x) (fun a ha=>by
  show uj s (a:Int) (ae s) (s.length:Int)=_;unfold uj;rw [ax rfl]; rfl)
 rw [bC (fun x a=>gp a x)] at h;have h':Ms s 2166136261 (ae s) 0=_:=h;rw [h'];have:=KQ s;have e:bP .i64 ((Cn s:Nat):Int)=((Cn s:Nat):Int):=IntWalk.i64_in _ (by omega);show some ((),((bP .i64 ((Cn s:Nat):Int),()),()))=_;rw [e]
def aw (s:List UInt8) (n:Int):Int:=cond (au n 1) 0 (gH ((Cn s:Nat):Int) n)
theorem qy (s:List UInt8) (n:Int) (hb:s.length<=aX):Nf s n=some ((),((aw s n,()),())):=by
 unfold Nf aw;rw [Ub s hb];by_cases h:n < 1
 . rw [aF h]; rfl
 . rw [az h];have:aj n 0=false:=by
    rw [Bool.eq_false_iff]; intro hh; rw [dW] at hh; omega
   dsimp only [cond_false,Option.bind_some];rw [this]; rfl
theorem Ax (s:List UInt8) (n:Int) (hb:s.length<=aX):Tq s n=some ((),((aw s n,()),())):=by
 unfold Tq aw;rw [R6 s hb];by_cases h:n < 1
 . rw [aF h]; rfl
 . rw [az h];have:aj n 0=false:=by
    rw [Bool.eq_false_iff]; intro hh; rw [dW] at hh; omega
   dsimp only [cond_false,Option.bind_some];rw [this]; rfl
def jf (xs:List aO) (i:Nat) (x:aO):Bool:=cond (vh x) (cond (decide (0 < i)) (jO (gt ([],0,0,0,0,[],0,0,[],[],[],()) xs ((i:Int) - 1)).1 x.1) true) false
def Bq (b:List aO):Bool:=cond (allI (jf b) 0 b) (bz (ae b) 6) false
def Iv (b:List aO):Prop:=b.length<=1048576/\∀ a∈b,je a
theorem NY (b:List aO) (hb:Iv b):RE (b,())=some ((),((Bq b,()),())):=by
 have hbig:aX=140737488355328:=rfl;have hl:=hb.1;unfold RE;have h:=aD (step:=cW vk) b (fun i (_:Unit)=>(b,ae b,((i:Nat):Int),(b,()),())) (fun i x _=>bif jf b i x then Sum.inl () else .inr (.inr (false,()))) (fun _=> .inl (b,ae b,(b.length:Int),(b,()),())) (a0:=()) (fun i x a hx=>by
  have hlt:=ak hx;show vk b (ae b) (i:Int) (b,())=_;unfold vk jf;rw [aG hx,aC hx,aV _ hx];dsimp only [cond_true];rw [Og x (hb.2 x (List.mem_of_getElem? hx)),aP (by omega)];dsimp only [Option.bind_some];cases vh x with
  | false=>rfl
  | true =>
    by_cases h0:0 < i
    . rw [aF (show (0:Int) < i by omega),aN (by omega) (by omega),ie hx h0];dsimp only [cond_true,cond_false,Bool.not_true];have e:gt d92 b ((i:Int) - 1)=gt ([],0,0,0,0,[],0,0,[],[],[],()) b ((i:Int) - 1):=rfl;rw [e,decide_eq_true h0];cases jO (gt ([],0,0,0,0,[],0,0,[],[],[],()) b ((i:Int) - 1)).1 x.1 <;> rfl
    . rw [az (show ¬ (0:Int) < i by omega),decide_eq_false h0]; rfl) (fun a=>by
  show vk b (ae b) (b.length:Int) (b,())=_;unfold vk;rw [ax rfl]; rfl)
 rw [cC] at h;have h':Nt b (ae b) 0 (b,())=_:=h;dsimp only;rw [h'];unfold Bq;cases allI (jf b) 0 b <;> rfl
theorem Oa (b:List aO) (hb:Iv b):QJ (b,())=some ((),((Bq b,()),())):=by
 have hbig:aX=140737488355328:=rfl;have hl:=hb.1;unfold QJ;have h:=aD (step:=cW uE) b (fun i (_:Unit)=>(b,ae b,((i:Nat):Int),(b,()),())) (fun i x _=>bif jf b i x then Sum.inl () else .inr (.inr (false,()))) (fun _=> .inl (b,ae b,(b.length:Int),(b,()),())) (a0:=()) (fun i x a hx=>by
  have hlt:=ak hx;show uE b (ae b) (i:Int) (b,())=_;unfold uE jf;rw [aG hx,aC hx,aV _ hx];dsimp only [cond_true];rw [O9 x (hb.2 x (List.mem_of_getElem? hx)),aP (by omega)];dsimp only [Option.bind_some];cases vh x with
  | false=>rfl
  | true =>
    by_cases h0:0 < i
    . rw [aF (show (0:Int) < i by omega),aN (by omega) (by omega),ie hx h0];dsimp only [cond_true,cond_false,Bool.not_true];rw [tk];have e:gt d92 b ((i:Int) - 1)=gt ([],0,0,0,0,[],0,0,[],[],[],()) b ((i:Int) - 1):=rfl;rw [e,decide_eq_true h0];cases jO (gt ([],0,0,0,0,[],0,0,[],[],[],()) b ((i:Int) - 1)).1 x.1 <;> rfl
    . rw [az (show ¬ (0:Int) < i by omega),decide_eq_false h0]; rfl) (fun a=>by
  show uE b (ae b) (b.length:Int) (b,())=_;unfold uE;rw [ax rfl]; rfl)
 rw [cC] at h;have h':NG b (ae b) 0 (b,())=_:=h;dsimp only;rw [h'];unfold Bq;cases allI (jf b) 0 b <;> rfl
abbrev dp (a b:aO):Bool:=jO a.1 b.1
theorem fm:JD dp:=LV (fun (a:aO)=>a.1)
abbrev bK:Nat:=1099511627776
theorem J6 (a b:aO):∃ v,OG a b=some ((),((v,()),()))/\au v 0=dp a b:=by
 unfold OG;cases h:jO a.1 b.1 with
 | true=>exact ⟨_,rfl,by show _=jO a.1 b.1; rw [h]; rfl⟩
 | false =>
   cases !(PX a.1 b.1) with
   | true=>exact ⟨_,rfl,by show _=jO a.1 b.1; rw [h]; rfl⟩
   | false=>exact ⟨_,rfl,by show _=jO a.1 b.1; rw [h]; rfl⟩
theorem N3 (P S:List aO) (x:aO) (b i:Int):∀ (n:Nat) (A1 A2:List aO),A1.length=n->(P ++ (A1 ++ x :: A2) ++ S).length<=bK ->
 ∃ B1 B2 j',A1=B1 ++ B2/\(∀ y∈B2,dp x y=true)/\(∀ C y,B1=C ++ [y]->dp x y=false) /\
  yZ (P ++ (A1 ++ x :: A2) ++ S) (P.length:Int) b () i ((P.length + A1.length:Nat):Int)=some (.inl (P ++ (B1 ++ x :: (B2 ++ A2)) ++ S,(P.length:Int),b,(),i,j',())):=by
 intro n;induction n with
 | zero => intro A1 A2 hn hl;have:A1=[]:=List.length_eq_zero_iff.1 hn;subst this;refine ⟨[],[],((P.length + 0:Nat):Int),rfl,fun y hy=>by simp at hy,fun C y h=>by simp at h,aJ _ ?_⟩;show oZ (P ++ ([] ++ x :: A2) ++ S) (P.length:Int) b () i ((P.length + 0:Nat):Int)=_;unfold oZ;rw [az (by omega)];rfl
 | succ n ih =>
   intro A1 A2 hn hl;obtain ⟨B,y,rfl⟩:=sJ (a:=A1) (fun h=>by subst h; simp at hn);have hB:B.length=n:=by simpa using hn
   simp only [bK,List.length_append,List.length_cons,List.length_nil] at hl;have e0:P ++ (B ++ [y] ++ x :: A2) ++ S=(P ++ B) ++ y :: x :: (A2 ++ S):=by simp
   have e1:P ++ (B ++ [y] ++ x :: A2) ++ S=(P ++ B ++ [y]) ++ x :: (A2 ++ S):=by simp
   have hj:((P.length + (B ++ [y]).length:Nat):Int)=((P ++ B ++ [y]).length:Int):=by simp <;> omega
   have hj1:aH .i64 ((P.length + (B ++ [y]).length:Nat):Int) 1=((P ++ B).length:Int):=by rw [aN (by simp <;> omega) (by simp <;> omega)]; simp <;> omega
   obtain ⟨v,hv1,hv2⟩:=J6 x y
   have hstep:oZ (P ++ (B ++ [y] ++ x :: A2) ++ S) (P.length:Int) b () i ((P.length + (B ++ [y]).length:Nat):Int) =
    cond (dp x y) (some (.inl (P ++ (B ++ x :: (y :: A2)) ++ S,(P.length:Int),b,(),i,((P.length + B.length:Nat):Int),()))) (some (.inr (.inl (P ++ (B ++ [y] ++ x :: A2) ++ S,(P.length:Int),b,(),i,((P.length + (B ++ [y]).length:Nat):Int),())))):=by
    unfold oZ;have i1:a7 ((P.length + (B ++ [y]).length:Nat):Int) (P ++ (B ++ [y] ++ x :: A2) ++ S)=true:=by rw [e1]; exact gW _ _ _ hj
    have i2:a7 ((P ++ B).length:Int) (P ++ (B ++ [y] ++ x :: A2) ++ S)=true:=by rw [e0]; exact gW _ _ _ rfl
    have a1:zE ((P.length + (B ++ [y]).length:Nat):Int) (P ++ (B ++ [y] ++ x :: A2) ++ S) ((P.length + (B ++ [y]).length:Nat):Int)=true:=by rw [e1]; exact jT _ _ _ hj
    have a2:zE ((P ++ B).length:Int) (P ++ (B ++ [y] ++ x :: A2) ++ S) ((P ++ B).length:Int)=true:=by rw [e0]; exact jT _ _ _ rfl
    have t1:gt d92 (P ++ (B ++ [y] ++ x :: A2) ++ S) ((P.length + (B ++ [y]).length:Nat):Int)=x:=by rw [e1]; exact wK _ _ _ _ hj
    have t2:gt d92 (P ++ (B ++ [y] ++ x :: A2) ++ S) ((P ++ B).length:Int)=y:=by rw [e0]; exact wK _ _ _ _ rfl
    rw [aF (by simp <;> omega)];dsimp only [cond_true];rw [hj1,i1,i2,t1,t2,a1,a2,hv1];dsimp only [cond_true,Option.bind_some];rw [hv2];cases dp x y with
    | false=>rfl
    | true =>
      have sw:FV d92 (P ++ (B ++ [y] ++ x :: A2) ++ S) ((P.length + (B ++ [y]).length:Nat):Int) ((P ++ B).length:Int)=P ++ (B ++ x :: (y :: A2)) ++ S:=by
       rw [e0];unfold FV;have:=xf d92 (P ++ B) y x (A2 ++ S);have k1:((P.length + (B ++ [y]).length:Nat):Int).toNat=(P ++ B).length + 1:=by simp <;> omega
       rw [k1,Int.toNat_natCast,this];simp
      rw [sw];have k2:((P ++ B).length:Int)=((P.length + B.length:Nat):Int):=by simp
      rw [k2]
   cases hc:dp x y with
   | false => rw [hc] at hstep;refine ⟨B ++ [y],[],((P.length + (B ++ [y]).length:Nat):Int),by simp,fun y hy=>by simp at hy,fun C z h => ?_,aJ _ hstep⟩;have:=List.append_inj' h rfl;have h2:=this.2;simp only [List.cons.injEq,and_true] at h2;rw [<- h2]; exact hc
   | true =>
     rw [hc] at hstep;obtain ⟨B1,B2,j',q1,q2,q3,q4⟩:=ih B (y :: A2) hB (by simp [bK]; omega);refine ⟨B1,B2 ++ [y],j',by rw [q1]; simp,fun z hz => ?_,q3,aQ _ hstep ?_⟩
     . rcases List.mem_append.1 hz with hz | hz
       . exact q2 z hz
       . simp only [List.mem_singleton] at hz; subst hz; exact hc
     . have:B2 ++ [y] ++ A2=B2 ++ y :: A2:=by simp
       rw [this];exact q4
theorem KZ (P S:List aO) (b:Int):∀ (n:Nat) (A R:List aO),R.length=n->lA dp A->b=((P.length + A.length + R.length:Nat):Int)->(P ++ (A ++ R) ++ S).length<=bK ->
 ∃ M,lA dp M/\eh dp (A ++ R) M/\oE (P ++ (A ++ R) ++ S) (P.length:Int) b () ((P.length + A.length:Nat):Int)=some (.inl (P ++ M ++ S,(P.length:Int),b,(),b,())):=by
 intro n;induction n with
 | zero =>
   intro A R hn hA hb hl;have:R=[]:=List.length_eq_zero_iff.1 hn;subst this;have hb':b=((P.length + A.length:Nat):Int):=by simpa using hb
   refine ⟨A,hA,by rw [List.append_nil]; exact eh.refl _,aJ _ ?_⟩;show ly (P ++ (A ++ []) ++ S) (P.length:Int) b () ((P.length + A.length:Nat):Int)=_;unfold ly;rw [az (by omega),List.append_nil,<- hb'];rfl
 | succ n ih =>
   intro A R hn hA hb hl;cases R with
   | nil=>simp at hn
   | cons x R =>
     have hR:R.length=n:=by simpa using hn
     have hl':=hl;simp only [bK,List.length_append,List.length_cons] at hl';have e0:P ++ (A ++ x :: R) ++ S=P ++ (A ++ x :: []) ++ (R ++ S):=by simp
     obtain ⟨B1,B2,j',q1,q2,q3,q4⟩:=N3 P (R ++ S) x b ((P.length + A.length:Nat):Int) A.length A [] rfl (by rw [<- e0]; exact hl);rw [List.append_nil,<- e0] at q4;subst q1;have hs:=cf.1 hA;have hlast:∀ y∈B1,dp x y=false:=fun y hy=>by
      obtain ⟨C,z,rfl⟩:=sJ (a:=B1) (fun h=>by subst h; simp at hy);have hz:=q3 C z rfl;rcases List.mem_append.1 hy with hy | hy
      . exact fm.le_trans ((cf.1 hs.1).2.2 y hy z (by simp)) hz
      . simp only [List.mem_singleton] at hy; subst hy; exact hz
     have hsrt:lA dp (B1 ++ x :: B2):=by
      refine cf.2 ⟨hs.1,List.pairwise_cons.2 ⟨fun y hy => ?_,hs.2.1⟩,fun y hy z hz => ?_⟩
      . cases h:dp y x with
        | false=>rfl
        | true => have:=fm.trans _ _ _ h (q2 y hy);rw [fm.irr] at this;simp at this
      . rcases List.mem_cons.1 hz with rfl | hz
        . exact hlast y hy
        . exact hs.2.2 y hy z hz
     have hstb:eh dp (B1 ++ B2 ++ x :: R) (B1 ++ x :: B2 ++ R):=by
      have h1:eh dp (B2 ++ [x]) ([x] ++ B2):=eh.swap fm fun y hy z hz=>by simp only [List.mem_singleton] at hz; subst hz; exact q2 y hy
      have h2:=((eh.refl B1).append h1).append (eh.refl R);simpa using h2
     obtain ⟨M,m1,m2,m3⟩:=ih (B1 ++ x :: B2) R hR hsrt (by rw [hb]; simp only [List.length_append,List.length_cons]; omega) (by simp only [bK,List.length_append,List.length_cons] at hl' ⊢; omega);refine ⟨M,m1,hstb.trans m2,aQ _ (x':=(P ++ (B1 ++ x :: B2 ++ R) ++ S,(P.length:Int),b,(),((P.length + (B1 ++ x :: B2).length:Nat):Int),())) ?_ m3⟩;show ly (P ++ (B1 ++ B2 ++ x :: R) ++ S) (P.length:Int) b () ((P.length + (B1 ++ B2).length:Nat):Int)=_;unfold ly;rw [aF (by rw [hb]; simp only [List.length_append,List.length_cons]; omega),q4];dsimp only [cond_true,Option.bind_some,Sum.elim_inl];have k1:aq .i64 ((P.length + (B1 ++ B2).length:Nat):Int) 1=((P.length + (B1 ++ x :: B2).length:Nat):Int):=by rw [bb (by omega) (by simp only [List.length_append] at *; omega)];simp only [List.length_append,List.length_cons]; omega
     rw [k1];simp
theorem M9 (P L S:List aO) (hl:(P ++ L ++ S).length<=bK):∃ M,lA dp M/\eh dp L M/\E2 (P ++ L ++ S) (P.length:Int) ((P.length + L.length:Nat):Int)=some (((P ++ M ++ S,()),()),()):=by
 have hl':=hl;simp only [bK,List.length_append] at hl';unfold E2;have k0:aq .i64 (P.length:Int) 1=((P.length + 1:Nat):Int):=by rw [bb (by omega) (by omega)]; omega
 rw [k0];cases L with
 | nil => refine ⟨[],D4,eh.refl _,?_⟩;have:oE (P ++ [] ++ S) (P.length:Int) ((P.length + 0:Nat):Int) () ((P.length + 1:Nat):Int)=some (.inl (P ++ [] ++ S,(P.length:Int),((P.length + 0:Nat):Int),(),((P.length + 1:Nat):Int),())):=aJ _ (by show ly (P ++ [] ++ S) (P.length:Int) ((P.length + 0:Nat):Int) () ((P.length + 1:Nat):Int)=_;unfold ly;rw [az (by omega)]; rfl);show Option.bind (oE (P ++ [] ++ S) (P.length:Int) ((P.length + 0:Nat):Int) () ((P.length + 1:Nat):Int)) _=_;rw [this];rfl
 | cons x L => obtain ⟨M,m1,m2,m3⟩:=KZ P S ((P.length + (x :: L).length:Nat):Int) L.length [x] L rfl (L8 x) (by simp only [List.length_cons,List.length_nil]; omega) (by simpa using hl);refine ⟨M,m1,m2,?_⟩;have m3':oE (P ++ x :: L ++ S) (P.length:Int) ((P.length + (x :: L).length:Nat):Int) () ((P.length + 1:Nat):Int)=_:=m3;rw [m3'];rfl
theorem Gr {α:Type} (d:α) (u:List α) (p:α) (v:List α) (q:α) (w:List α):j9 d (u ++ p :: (v ++ q :: w)) u.length (u.length + (1 + v.length))=u ++ q :: (v ++ p :: w):=by
 unfold j9;have h1:(u ++ p :: (v ++ q :: w)).getD u.length d=p:=by simp [List.getD]
 have h2:(u ++ p :: (v ++ q :: w)).getD (u.length + (1 + v.length)) d=q:=by rw [List.getD,List.getElem?_append_right (by omega),show u.length + (1 + v.length) - u.length=v.length + 1 by omega,List.getElem?_cons_succ,List.getElem?_append_right (by omega),Nat.sub_self];rfl
 rw [h1,h2,List.set_append,if_neg (by omega),Nat.sub_self,List.set_append,if_neg (by omega),show u.length + (1 + v.length) - u.length=v.length + 1 by omega];show u ++ (q :: (v ++ q :: w)).set (v.length + 1) p=_;rw [List.set_cons_succ,List.set_append,if_neg (by omega),Nat.sub_self];rfl
theorem GM (P Y S:List aO):∀ (n:Nat) (Z1 X2 X1 Z2:List aO),X2.length=n->Z2.length=n->X1.length=Z1.length->(P ++ (Z1 ++ X2) ++ Y ++ (X1 ++ Z2) ++ S).length<=bK ->
 wM (P ++ (Z1 ++ X2) ++ Y ++ (X1 ++ Z2) ++ S) (P.length:Int) ((P.length + (Z1.length + n) + Y.length:Nat):Int) ((Z1.length + n:Nat):Int) (Z1.length:Int) =
  some (.inl (P ++ (Z1 ++ Z2) ++ Y ++ (X1 ++ X2) ++ S,(P.length:Int),((P.length + (Z1.length + n) + Y.length:Nat):Int),((Z1.length + n:Nat):Int),((Z1.length + n:Nat):Int),())):=by
 intro n;induction n with
 | zero => intro Z1 X2 X1 Z2 h1 h2 h3 hl;have e1:X2=[]:=List.length_eq_zero_iff.1 h1;have e2:Z2=[]:=List.length_eq_zero_iff.1 h2;subst e1; subst e2;refine aJ _ ?_;show pk (P ++ (Z1 ++ []) ++ Y ++ (X1 ++ []) ++ S) (P.length:Int) ((P.length + (Z1.length + 0) + Y.length:Nat):Int) ((Z1.length + 0:Nat):Int) (Z1.length:Int)=_;unfold pk;rw [az (by omega)];rfl
 | succ n ih =>
   intro Z1 X2 X1 Z2 h1 h2 h3 hl;cases X2 with
   | nil=>simp at h1
   | cons x X2 =>
   cases Z2 with
   | nil=>simp at h2
   | cons z Z2 =>
   have hx:X2.length=n:=by simpa using h1
   have hz:Z2.length=n:=by simpa using h2
   have hl':=hl;simp only [bK,List.length_append,List.length_cons] at hl';have ih':=ih (Z1 ++ [z]) X2 (X1 ++ [x]) Z2 hx hz (by simp [h3]) (by simp only [bK,List.length_append,List.length_cons,List.length_nil]; omega);have e1:((P.length + ((Z1 ++ [z]).length + n) + Y.length:Nat):Int)=((P.length + (Z1.length + (n + 1)) + Y.length:Nat):Int):=by simp only [List.length_append,List.length_cons,List.length_nil]; omega
   have e2:(((Z1 ++ [z]).length + n:Nat):Int)=((Z1.length + (n + 1):Nat):Int):=by simp only [List.length_append,List.length_cons,List.length_nil]; omega
   have e3:(((Z1 ++ [z]).length:Nat):Int)=aq .i64 (Z1.length:Int) 1:=by rw [bb (by omega) (by omega)]; simp
   rw [e1,e2,e3] at ih';have ef:P ++ (Z1 ++ [z] ++ Z2) ++ Y ++ (X1 ++ [x] ++ X2) ++ S=P ++ (Z1 ++ z :: Z2) ++ Y ++ (X1 ++ x :: X2) ++ S:=by simp
   rw [ef] at ih';refine aQ _ ?_ ih';show pk (P ++ (Z1 ++ x :: X2) ++ Y ++ (X1 ++ z :: Z2) ++ S) (P.length:Int) ((P.length + (Z1.length + (n + 1)) + Y.length:Nat):Int) ((Z1.length + (n + 1):Nat):Int) (Z1.length:Int)=_;have d1:P ++ (Z1 ++ x :: X2) ++ Y ++ (X1 ++ z :: Z2) ++ S=(P ++ Z1) ++ x :: ((X2 ++ Y ++ X1) ++ z :: (Z2 ++ S)):=by simp
   have d2:P ++ (Z1 ++ x :: X2) ++ Y ++ (X1 ++ z :: Z2) ++ S=(P ++ Z1 ++ x :: (X2 ++ Y ++ X1)) ++ z :: (Z2 ++ S):=by simp
   have k1:aq .i64 ((P.length + (Z1.length + (n + 1)) + Y.length:Nat):Int) (Z1.length:Int)=((P ++ Z1 ++ x :: (X2 ++ Y ++ X1)).length:Int):=by rw [bb (by omega) (by omega)];simp only [List.length_append,List.length_cons]; omega
   have k2:aq .i64 (P.length:Int) (Z1.length:Int)=((P ++ Z1).length:Int):=by rw [bb (by omega) (by omega)];simp only [List.length_append]; omega
   unfold pk;rw [aF (by omega),k1,k2];dsimp only [cond_true];have i1:a7 ((P ++ Z1 ++ x :: (X2 ++ Y ++ X1)).length:Int) (P ++ (Z1 ++ x :: X2) ++ Y ++ (X1 ++ z :: Z2) ++ S)=true:=by rw [d2]; exact gW _ _ _ rfl
   have i2:a7 ((P ++ Z1).length:Int) (P ++ (Z1 ++ x :: X2) ++ Y ++ (X1 ++ z :: Z2) ++ S)=true:=by rw [d1]; exact gW _ _ _ rfl
   have a1:zE ((P ++ Z1 ++ x :: (X2 ++ Y ++ X1)).length:Int) (P ++ (Z1 ++ x :: X2) ++ Y ++ (X1 ++ z :: Z2) ++ S) ((P ++ Z1 ++ x :: (X2 ++ Y ++ X1)).length:Int)=true:=by rw [d2]; exact jT _ _ _ rfl
   have a2:zE ((P ++ Z1).length:Int) (P ++ (Z1 ++ x :: X2) ++ Y ++ (X1 ++ z :: Z2) ++ S) ((P ++ Z1).length:Int)=true:=by rw [d1]; exact jT _ _ _ rfl
   rw [i1,i2,a1,a2];dsimp only [cond_true];have sw:FV d92 (P ++ (Z1 ++ x :: X2) ++ Y ++ (X1 ++ z :: Z2) ++ S) ((P ++ Z1).length:Int) ((P ++ Z1 ++ x :: (X2 ++ Y ++ X1)).length:Int)=P ++ (Z1 ++ [z] ++ X2) ++ Y ++ (X1 ++ [x] ++ Z2) ++ S:=by
    unfold FV;rw [Int.toNat_natCast,Int.toNat_natCast,d1];have k3:(P ++ Z1 ++ x :: (X2 ++ Y ++ X1)).length=(P ++ Z1).length + (1 + (X2 ++ Y ++ X1).length):=by simp only [List.length_append,List.length_cons]; omega
    rw [k3,Gr];simp
   rw [sw]
theorem I3 (P X Y Z S:List aO) (hx:X.length=Z.length) (hl:(P ++ X ++ Y ++ Z ++ S).length<=bK):yu (P ++ X ++ Y ++ Z ++ S) (P.length:Int) ((P.length + X.length + Y.length:Nat):Int) (X.length:Int)=some (((P ++ Z ++ Y ++ X ++ S,()),()),()):=by unfold yu;have h:=GM P Y S X.length [] X [] Z rfl hx.symm rfl hl;simp only [List.nil_append,List.length_nil,Nat.zero_add] at h;have h':wM (P ++ X ++ Y ++ Z ++ S) (P.length:Int) ((P.length + X.length + Y.length:Nat):Int) (X.length:Int) 0=_:=h;rw [h'];rfl
theorem Gv:∀ (n:Nat) (P X Y S:List aO) (m:Nat),X.length + Y.length=n->0 < X.length->0 < Y.length->m=P.length + X.length->(P ++ X ++ Y ++ S).length<=bK ->
 ∃ (t:List aO) (i:Nat),i<=m/\i<=n/\Hp (P ++ X ++ Y ++ S) (m:Int) () (X.length:Int) (Y.length:Int)=some (.inl (t,(m:Int),(),(i:Int),(i:Int),())) /\
  yu t ((m - i:Nat):Int) (m:Int) (i:Int)=some (((P ++ Y ++ X ++ S,()),()),()):=by
 intro n;induction n using Nat.strongRecOn with
 | _ n ih =>
 intro P X Y S m hn hX hY hm hl;subst hm;have hl':=hl;simp only [bK,List.length_append] at hl';rcases Nat.lt_trichotomy X.length Y.length with h | h | h
 . -- the second is longer: its end comes ahead
   obtain ⟨Y1,Y2,rfl,hY2⟩:∃ Y1 Y2,Y=Y1 ++ Y2/\Y2.length=X.length:=⟨Y.take (Y.length - X.length),Y.drop (Y.length - X.length),(List.take_append_drop _ _).symm,by rw [List.length_drop]; omega⟩;simp only [List.length_append] at h hn hl' hY;obtain ⟨t,i,i1,i2,q1,q2⟩:=ih (Y2.length + Y1.length) (by omega) P Y2 Y1 (X ++ S) (P.length + X.length) rfl (by omega) (by omega) (by omega) (by simp only [bK,List.length_append]; omega);refine ⟨t,i,i1,by omega,aQ _ ?_ q1,by rw [q2]; simp⟩;show l3 (P ++ X ++ (Y1 ++ Y2) ++ S) ((P.length + X.length:Nat):Int) () (X.length:Int) ((Y1 ++ Y2).length:Int)=_;have hs:=I3 P X Y1 Y2 S (by omega) (by simp only [bK,List.length_append]; omega);have e0:P ++ X ++ (Y1 ++ Y2) ++ S=P ++ X ++ Y1 ++ Y2 ++ S:=by simp
   have k0:aj (X.length:Int) ((Y1 ++ Y2).length:Int)=false:=by rw [Bool.eq_false_iff]; intro hh; rw [dW] at hh; simp only [List.length_append] at hh; omega
   have k1:aH .i64 ((P.length + X.length:Nat):Int) (X.length:Int)=(P.length:Int):=by rw [aN (by omega) (by omega)]; omega
   have k2:aq .i64 ((P.length + X.length:Nat):Int) ((Y1 ++ Y2).length:Int)=((P.length + X.length + (Y1 ++ Y2).length:Nat):Int):=by rw [bb (by omega) (by simp only [List.length_append]; omega)]; omega
   have k3:aH .i64 ((P.length + X.length + (Y1 ++ Y2).length:Nat):Int) (X.length:Int)=((P.length + X.length + Y1.length:Nat):Int):=by rw [aN (by omega) (by simp only [List.length_append]; omega)]; simp only [List.length_append]; omega
   have k4:aH .i64 ((Y1 ++ Y2).length:Int) (X.length:Int)=(Y1.length:Int):=by rw [aN (by omega) (by simp only [List.length_append]; omega)]; simp only [List.length_append]; omega
   unfold l3;rw [k0,az (by simp only [List.length_append]; omega)];dsimp only [cond_true,cond_false,Bool.not_false];rw [k1,k2,k3,k4,e0,hs];dsimp only [Option.bind_some];rw [hY2];simp
 . -- alike
   refine ⟨P ++ X ++ Y ++ S,X.length,by omega,by omega,aJ _ ?_,?_⟩
   . show l3 (P ++ X ++ Y ++ S) ((P.length + X.length:Nat):Int) () (X.length:Int) (Y.length:Int)=_;unfold l3;rw [<- h,bq];rfl
   . have hs:=I3 P X [] Y S h (by simp only [bK,List.length_append,List.length_nil]; omega);rw [List.append_nil,List.append_nil,List.length_nil,Nat.add_zero] at hs;rw [show P.length + X.length - X.length=P.length by omega];exact hs
 . -- the first is longer: its begin goes behind
   obtain ⟨X1,X2,rfl,hX1⟩:∃ X1 X2,X=X1 ++ X2/\X1.length=Y.length:=⟨X.take Y.length,X.drop Y.length,(List.take_append_drop _ _).symm,by rw [List.length_take]; omega⟩;simp only [List.length_append] at h hn hl' hX;obtain ⟨t,i,i1,i2,q1,q2⟩:=ih (X2.length + X1.length) (by omega) (P ++ Y) X2 X1 S (P.length + (X1 ++ X2).length) rfl (by omega) (by omega) (by simp only [List.length_append]; omega) (by simp only [bK,List.length_append]; omega);refine ⟨t,i,i1,by omega,aQ _ ?_ q1,by rw [q2]; simp⟩;show l3 (P ++ (X1 ++ X2) ++ Y ++ S) ((P.length + (X1 ++ X2).length:Nat):Int) () ((X1 ++ X2).length:Int) (Y.length:Int)=_;have hs:=I3 P X1 X2 Y S hX1 (by simp only [bK,List.length_append]; omega);have e0:P ++ (X1 ++ X2) ++ Y ++ S=P ++ X1 ++ X2 ++ Y ++ S:=by simp
   have k0:aj ((X1 ++ X2).length:Int) (Y.length:Int)=false:=by rw [Bool.eq_false_iff]; intro hh; rw [dW] at hh; simp only [List.length_append] at hh; omega
   have k1:aH .i64 ((P.length + (X1 ++ X2).length:Nat):Int) ((X1 ++ X2).length:Int)=(P.length:Int):=by rw [aN (by omega) (by simp only [List.length_append]; omega)]; omega
   have k3:((P.length + (X1 ++ X2).length:Nat):Int)=((P.length + X1.length + X2.length:Nat):Int):=by simp only [List.length_append]; omega
   have k4:aH .i64 ((X1 ++ X2).length:Int) (Y.length:Int)=(X2.length:Int):=by rw [aN (by omega) (by simp only [List.length_append]; omega)]; simp only [List.length_append]; omega
   unfold l3;rw [k0,aF (by simp only [List.length_append]; omega)];dsimp only [cond_true,cond_false,Bool.not_false];rw [k1,k4,e0,<- hX1];have hs':yu (P ++ X1 ++ X2 ++ Y ++ S) (P.length:Int) ((P.length + (X1 ++ X2).length:Nat):Int) (X1.length:Int)=some (((P ++ Y ++ X2 ++ X1 ++ S,()),()),()):=by rw [k3]; exact hs
   rw [hs'];dsimp only [Option.bind_some];simp
theorem TA (P X Y S:List aO) (hX:0 < X.length) (hY:0 < Y.length) (hl:(P ++ X ++ Y ++ S).length<=bK) :
 zl (P ++ X ++ Y ++ S) (P.length:Int) ((P.length + X.length:Nat):Int) ((P.length + X.length + Y.length:Nat):Int)=some (((P ++ Y ++ X ++ S,()),()),()):=by
 have hl':=hl;simp only [bK,List.length_append] at hl';obtain ⟨t,i,i1,i2,q1,q2⟩:=Gv (X.length + Y.length) P X Y S (P.length + X.length) rfl hX hY rfl hl;unfold zl;have k1:aH .i64 ((P.length + X.length:Nat):Int) (P.length:Int)=(X.length:Int):=by rw [aN (by omega) (by omega)]; omega
 have k2:aH .i64 ((P.length + X.length + Y.length:Nat):Int) ((P.length + X.length:Nat):Int)=(Y.length:Int):=by rw [aN (by omega) (by omega)]; omega
 rw [k1,k2,q1];dsimp only [Option.bind_some,Sum.elim_inl];have k3:aH .i64 ((P.length + X.length:Nat):Int) (i:Int)=((P.length + X.length - i:Nat):Int):=by rw [aN (by omega) (by omega)]; omega
 rw [k3,q2];rfl
theorem GO (P S:List aO) (x:aO) (i:Nat):∀ (n:Nat) (D U:List aO),U.length=n->i=P.length + D.length + U.length + 1->(P ++ (D ++ x :: U) ++ S).length<=bK ->
 ∃ k',tH (P ++ (D ++ x :: U) ++ S) (i:Int) ((P.length + D.length:Nat):Int)=some (.inl (P ++ (D ++ U ++ [x]) ++ S,(i:Int),k',())):=by
 intro n;induction n with
 | zero =>
   intro D U hn hi hl;have:U=[]:=List.length_eq_zero_iff.1 hn;subst this;simp only [List.length_nil] at hi;simp only [bK,List.length_append,List.length_cons] at hl;refine ⟨((P.length + D.length:Nat):Int),aJ _ ?_⟩;show ob (P ++ (D ++ [x]) ++ S) (i:Int) ((P.length + D.length:Nat):Int)=_;unfold ob;have k1:aH .i64 (i:Int) 1=((P.length + D.length:Nat):Int):=by rw [aN (by omega) (by omega)]; omega
   rw [k1,az (by omega),List.append_nil];rfl
 | succ n ih =>
   intro D U hn hi hl;cases U with
   | nil=>simp at hn
   | cons u U =>
     have hU:U.length=n:=by simpa using hn
     simp only [List.length_cons] at hi;have hl':=hl;simp only [bK,List.length_append,List.length_cons] at hl';obtain ⟨k',hk⟩:=ih (D ++ [u]) U hU (by simp only [List.length_append,List.length_cons,List.length_nil]; omega) (by simp only [bK,List.length_append,List.length_cons,List.length_nil]; omega);refine ⟨k',?_⟩;have ef:P ++ (D ++ [u] ++ U ++ [x]) ++ S=P ++ (D ++ u :: U ++ [x]) ++ S:=by simp
     rw [ef] at hk;refine aQ _ ?_ hk;show ob (P ++ (D ++ x :: u :: U) ++ S) (i:Int) ((P.length + D.length:Nat):Int)=_;have d1:P ++ (D ++ x :: u :: U) ++ S=(P ++ D) ++ x :: u :: (U ++ S):=by simp
     have d2:P ++ (D ++ x :: u :: U) ++ S=(P ++ D ++ [x]) ++ u :: (U ++ S):=by simp
     have k1:aH .i64 (i:Int) 1=((P.length + D.length + U.length + 1:Nat):Int):=by rw [aN (by omega) (by omega)]; omega
     have k2:((P.length + D.length:Nat):Int)=((P ++ D).length:Int):=by simp
     have k3:aq .i64 ((P ++ D).length:Int) 1=((P ++ D ++ [x]).length:Int):=by rw [bb (by omega) (by simp only [List.length_append]; omega)]; simp only [List.length_append,List.length_cons,List.length_nil]; omega
     unfold ob;rw [k1,aF (by omega),k2,k3];dsimp only [cond_true];have i1:a7 ((P ++ D ++ [x]).length:Int) (P ++ (D ++ x :: u :: U) ++ S)=true:=by rw [d2]; exact gW _ _ _ rfl
     have i2:a7 ((P ++ D).length:Int) (P ++ (D ++ x :: u :: U) ++ S)=true:=by rw [d1]; exact gW _ _ _ rfl
     have a1:zE ((P ++ D ++ [x]).length:Int) (P ++ (D ++ x :: u :: U) ++ S) ((P ++ D ++ [x]).length:Int)=true:=by rw [d2]; exact jT _ _ _ rfl
     have a2:zE ((P ++ D).length:Int) (P ++ (D ++ x :: u :: U) ++ S) ((P ++ D).length:Int)=true:=by rw [d1]; exact jT _ _ _ rfl
     rw [i1,i2,a1,a2];dsimp only [cond_true];have sw:FV d92 (P ++ (D ++ x :: u :: U) ++ S) ((P ++ D).length:Int) ((P ++ D ++ [x]).length:Int)=P ++ (D ++ [u] ++ x :: U) ++ S:=by
      unfold FV;have e1:(P ++ D ++ [x]).length=(P ++ D).length + 1:=by simp only [List.length_append,List.length_cons,List.length_nil]
      rw [Int.toNat_natCast,Int.toNat_natCast,e1,d1,Ca];simp
     rw [sw];have k4:((P ++ D ++ [x]).length:Int)=((P.length + (D ++ [u]).length:Nat):Int):=by simp only [List.length_append,List.length_cons,List.length_nil]; omega
     rw [k4]
theorem GK (P S:List aO) (y:aO):∀ (n:Nat) (D U:List aO),D.length=n->(P ++ (D ++ y :: U) ++ S).length<=bK ->
 ∃ k',tr (P ++ (D ++ y :: U) ++ S) (P.length:Int) ((P.length + D.length:Nat):Int)=some (.inl (P ++ (y :: (D ++ U)) ++ S,(P.length:Int),k',())):=by
 intro n;induction n with
 | zero => intro D U hn hl;have:D=[]:=List.length_eq_zero_iff.1 hn;subst this;refine ⟨((P.length + 0:Nat):Int),aJ _ ?_⟩;show oS (P ++ ([] ++ y :: U) ++ S) (P.length:Int) ((P.length + 0:Nat):Int)=_;unfold oS;rw [az (by omega)];rfl
 | succ n ih =>
   intro D U hn hl;obtain ⟨B,u,rfl⟩:=sJ (a:=D) (fun h=>by subst h; simp at hn);have hB:B.length=n:=by simpa using hn
   have hl':=hl;simp only [bK,List.length_append,List.length_cons,List.length_nil] at hl';obtain ⟨k',hk⟩:=ih B (u :: U) hB (by simp only [bK,List.length_append,List.length_cons]; omega);refine ⟨k',?_⟩;have ef:P ++ (y :: (B ++ u :: U)) ++ S=P ++ (y :: (B ++ [u] ++ U)) ++ S:=by simp
   rw [ef] at hk;refine aQ _ ?_ hk;show oS (P ++ (B ++ [u] ++ y :: U) ++ S) (P.length:Int) ((P.length + (B ++ [u]).length:Nat):Int)=_;have d1:P ++ (B ++ [u] ++ y :: U) ++ S=(P ++ B) ++ u :: y :: (U ++ S):=by simp
   have d2:P ++ (B ++ [u] ++ y :: U) ++ S=(P ++ B ++ [u]) ++ y :: (U ++ S):=by simp
   have k1:aH .i64 ((P.length + (B ++ [u]).length:Nat):Int) 1=((P ++ B).length:Int):=by rw [aN (by simp only [List.length_append,List.length_cons,List.length_nil]; omega) (by simp only [List.length_append,List.length_cons,List.length_nil]; omega)];simp only [List.length_append,List.length_cons,List.length_nil]; omega
   have k2:((P.length + (B ++ [u]).length:Nat):Int)=((P ++ B ++ [u]).length:Int):=by simp only [List.length_append,List.length_cons,List.length_nil]; omega
   unfold oS;rw [k1,aF (by simp only [List.length_append,List.length_cons,List.length_nil]; omega),k2];dsimp only [cond_true];have i1:a7 ((P ++ B ++ [u]).length:Int) (P ++ (B ++ [u] ++ y :: U) ++ S)=true:=by rw [d2]; exact gW _ _ _ rfl
   have i2:a7 ((P ++ B).length:Int) (P ++ (B ++ [u] ++ y :: U) ++ S)=true:=by rw [d1]; exact gW _ _ _ rfl
   have a1:zE ((P ++ B ++ [u]).length:Int) (P ++ (B ++ [u] ++ y :: U) ++ S) ((P ++ B ++ [u]).length:Int)=true:=by rw [d2]; exact jT _ _ _ rfl
   have a2:zE ((P ++ B).length:Int) (P ++ (B ++ [u] ++ y :: U) ++ S) ((P ++ B).length:Int)=true:=by rw [d1]; exact jT _ _ _ rfl
   rw [i1,i2,a1,a2];dsimp only [cond_true];have sw:FV d92 (P ++ (B ++ [u] ++ y :: U) ++ S) ((P ++ B ++ [u]).length:Int) ((P ++ B).length:Int)=P ++ (B ++ y :: u :: U) ++ S:=by
    unfold FV;have e1:(P ++ B ++ [u]).length=(P ++ B).length + 1:=by simp only [List.length_append,List.length_cons,List.length_nil]
    rw [Int.toNat_natCast,Int.toNat_natCast,e1,d1,xf];simp
   rw [sw];have k4:((P ++ B).length:Int)=((P.length + B.length:Nat):Int):=by simp
   rw [k4]
theorem SU (P S:List aO) (x:aO) (R:List aO) (hR:lA dp R) (hl:(P ++ x :: R ++ S).length<=bK):∃ n,n<=R.length/\(∀ y∈R.take n,dp y x=true)/\(∀ y∈R.drop n,dp y x=false) /\
 uf (P ++ x :: R ++ S) (P.length:Int) () ((P.length + 1:Nat):Int) ((P.length + 1 + R.length:Nat):Int)=some (.inl (P ++ x :: R ++ S,(P.length:Int),(),((P.length + 1 + n:Nat):Int),((P.length + 1 + n:Nat):Int),())):=by
 have hl':=hl;simp only [bK,List.length_append,List.length_cons] at hl';have e0:P ++ x :: R ++ S=(P ++ [x]) ++ R ++ S:=by simp
 have hpl:(P ++ [x]).length=P.length + 1:=by simp
 have hg:∀ q,q < R.length->(P ++ x :: R ++ S).getD (P.length + 1 + q) d92=R.getD q d92:=fun q hq=>by rw [e0,<- hpl]; exact pZ _ _ _ _ hq
 have h:=bsearch (fun (z:(List aO)×Int×Unit×Int×Int×Unit)=>l8 z.1 z.2.1 z.2.2.1 z.2.2.2.1 z.2.2.2.2.1) (fun lo hi=>(P ++ x :: R ++ S,(P.length:Int),(),(lo:Int),(hi:Int),())) (fun k=> .inl (P ++ x :: R ++ S,(P.length:Int),(),(k:Int),(k:Int),()))
  (fun h=>dp ((P ++ x :: R ++ S).getD h d92) x) (P.length + 1) (P.length + 1 + R.length) (fun h h' h1 h2 h3 hf=>by
    obtain ⟨q,rfl⟩:∃ q,h=P.length + 1 + q:=⟨h - (P.length + 1),by omega⟩;obtain ⟨q',rfl⟩:∃ q',h'=P.length + 1 + q':=⟨h' - (P.length + 1),by omega⟩;rw [hg q (by omega)] at hf;rw [hg q' (by omega)];rcases fm.neg _ (R.getD q' d92) _ hf with h4 | h4
    . rw [hD fm _ hR (by omega) (by omega)] at h4; simp at h4
    . exact h4) (fun lo hi h1 h2 h3=>by
    show l8 (P ++ x :: R ++ S) (P.length:Int) () (lo:Int) (hi:Int)=_;unfold l8;obtain ⟨v,hv1,hv2⟩:=J6 ((P ++ x :: R ++ S).getD ((lo + hi) / 2) d92) x;have hx:gt d92 (P ++ x :: R ++ S) (P.length:Int)=x:=by
     have:P ++ x :: R ++ S=P ++ x :: (R ++ S):=by simp
     rw [this]; exact wK _ _ _ _ rfl
    rw [aF (by omega),sO (by omega)];dsimp only [cond_true];rw [mF (by simp only [List.length_append,List.length_cons]; omega),mF (by simp only [List.length_append,List.length_cons]; omega),yt,hx,hv1];dsimp only [cond_true,Option.bind_some];rw [hv2,aP (by have:aX=140737488355328:=rfl; omega)];cases dp ((P ++ x :: R ++ S).getD ((lo + hi) / 2) d92) x <;> rfl) (fun k h1 h2=>by
    show l8 (P ++ x :: R ++ S) (P.length:Int) () (k:Int) (k:Int)=_;unfold l8;rw [az (by omega)]; rfl)
  _ (P.length + 1) (P.length + 1 + R.length) rfl (Nat.le_refl _) (by omega) (Nat.le_refl _) (fun h h1 h2=>by omega) (fun h h1 h2=>by omega)
 obtain ⟨k,k1,k2,k3,k4,k5⟩:=h;obtain ⟨n,rfl⟩:∃ n,k=P.length + 1 + n:=⟨k - (P.length + 1),by omega⟩;refine ⟨n,by omega,fun y hy => ?_,fun y hy => ?_,k5⟩
 . obtain ⟨q,q1,q2,rfl⟩:=mS d92 hy;rw [<- hg q q2]; exact k3 _ (by omega) (by omega)
 . obtain ⟨q,q1,q2,rfl⟩:=mL d92 hy;rw [<- hg q q2]; exact k4 _ (by omega) (by omega)
theorem SS (P S:List aO) (y:aO) (L:List aO) (hL:lA dp L) (hl:(P ++ L ++ y :: S).length<=bK):∃ n,n<=L.length/\(∀ x∈L.take n,dp y x=false)/\(∀ x∈L.drop n,dp y x=true) /\
 we (P ++ L ++ y :: S) ((P.length + L.length:Nat):Int) () (P.length:Int) ((P.length + L.length:Nat):Int)=some (.inl (P ++ L ++ y :: S,((P.length + L.length:Nat):Int),(),((P.length + n:Nat):Int),((P.length + n:Nat):Int),())):=by
 have hl':=hl;simp only [bK,List.length_append,List.length_cons] at hl';have hg:∀ q,q < L.length->(P ++ L ++ y :: S).getD (P.length + q) d92=L.getD q d92:=fun q hq=>pZ _ _ _ _ hq
 have h:=bsearch (fun (z:(List aO)×Int×Unit×Int×Int×Unit)=>lT z.1 z.2.1 z.2.2.1 z.2.2.2.1 z.2.2.2.2.1) (fun lo hi=>(P ++ L ++ y :: S,((P.length + L.length:Nat):Int),(),(lo:Int),(hi:Int),())) (fun k=> .inl (P ++ L ++ y :: S,((P.length + L.length:Nat):Int),(),(k:Int),(k:Int),()))
  (fun h=> !dp y ((P ++ L ++ y :: S).getD h d92)) P.length (P.length + L.length) (fun h h' h1 h2 h3 hf=>by
    obtain ⟨q,rfl⟩:∃ q,h=P.length + q:=⟨h - P.length,by omega⟩;obtain ⟨q',rfl⟩:∃ q',h'=P.length + q':=⟨h' - P.length,by omega⟩;rw [hg q (by omega),Bool.not_eq_true'] at hf;rw [hg q' (by omega),Bool.not_eq_true'];exact fm.le_trans (hD fm _ hL (by omega) (by omega)) hf) (fun lo hi h1 h2 h3=>by
    show lT (P ++ L ++ y :: S) ((P.length + L.length:Nat):Int) () (lo:Int) (hi:Int)=_;unfold lT;obtain ⟨v,hv1,hv2⟩:=J6 y ((P ++ L ++ y :: S).getD ((lo + hi) / 2) d92);have hy:gt d92 (P ++ L ++ y :: S) ((P.length + L.length:Nat):Int)=y:=wK _ (P ++ L) _ _ (by simp);rw [aF (by omega),sO (by omega)];dsimp only [cond_true];rw [mF (by simp only [List.length_append,List.length_cons]; omega),mF (by simp only [List.length_append,List.length_cons]; omega),yt d92 _ ((lo + hi) / 2),hy,hv1];dsimp only [cond_true,Option.bind_some];rw [hv2,aP (by have:aX=140737488355328:=rfl; omega)];cases dp y ((P ++ L ++ y :: S).getD ((lo + hi) / 2) d92) <;> rfl) (fun k h1 h2=>by
    show lT (P ++ L ++ y :: S) ((P.length + L.length:Nat):Int) () (k:Int) (k:Int)=_;unfold lT;rw [az (by omega)]; rfl)
  _ P.length (P.length + L.length) rfl (Nat.le_refl _) (by omega) (Nat.le_refl _) (fun h h1 h2=>by omega) (fun h h1 h2=>by omega)
 obtain ⟨k,k1,k2,k3,k4,k5⟩:=h;obtain ⟨n,rfl⟩:∃ n,k=P.length + n:=⟨k - P.length,by omega⟩;refine ⟨n,by omega,fun x hx => ?_,fun x hx => ?_,k5⟩
 . obtain ⟨q,q1,q2,rfl⟩:=mS d92 hx;have:=k3 (P.length + q) (by omega) (by omega);rw [hg q q2,Bool.not_eq_true'] at this;exact this
 . obtain ⟨q,q1,q2,rfl⟩:=mL d92 hx;have:=k4 (P.length + q) (by omega) (by omega);rw [hg q q2,Bool.not_eq_false'] at this;exact this
theorem Tz (P L R S:List aO) (hL:lA dp L) (hR:lA dp R) (mid lo0 hi0:Nat) (c1:P.length<=lo0) (c2:lo0<=hi0) (c3:hi0<=P.length + L.length) (c4:hi0<=mid) (c5:mid<=lo0 + R.length) (hm:mid<=bK) (b:Int) (hl:(P ++ L ++ R ++ S).length<=bK) :
 ∃ k,lo0<=k/\k<=hi0/\(∀ c,lo0<=c->c < k->dp (R.getD (mid - 1 - c) d92) (L.getD (c - P.length) d92)=false)/\(∀ c,k<=c->c < hi0->dp (R.getD (mid - 1 - c) d92) (L.getD (c - P.length) d92)=true) /\
 ll (P ++ L ++ R ++ S) (P.length:Int) ((P.length + L.length:Nat):Int) b () (mid:Int) ((mid + (P.length + L.length):Nat):Int) (lo0:Int) (hi0:Int) ((mid + (P.length + L.length):Nat) - 1:Int) =
  some (.inl (P ++ L ++ R ++ S,(P.length:Int),((P.length + L.length:Nat):Int),b,(),(mid:Int),((mid + (P.length + L.length):Nat):Int),(k:Int),(k:Int),((mid + (P.length + L.length):Nat) - 1:Int),())):=by
 have hl':=hl;simp only [bK,List.length_append] at hl' hm;have hgL:∀ c,P.length<=c->c < P.length + L.length->(P ++ L ++ R ++ S).getD c d92=L.getD (c - P.length) d92:=fun c h1 h2=>by have:=pZ d92 P L (R ++ S) (q:=c - P.length) (by omega);rw [show P.length + (c - P.length)=c by omega] at this;rw [List.append_assoc (P ++ L)];exact this
 have hgR:∀ q,q < R.length->(P ++ L ++ R ++ S).getD (P.length + L.length + q) d92=R.getD q d92:=fun q hq=>by have:=pZ d92 (P ++ L) R S hq;rw [List.length_append] at this;exact this
 have h:=bsearch (fun (z:(List aO)×Int×Int×Int×Unit×Int×Int×Int×Int×Int×Unit)=>mr z.1 z.2.1 z.2.2.1 z.2.2.2.1 z.2.2.2.2.1 z.2.2.2.2.2.1 z.2.2.2.2.2.2.1 z.2.2.2.2.2.2.2.1 z.2.2.2.2.2.2.2.2.1 z.2.2.2.2.2.2.2.2.2.1)
  (fun lo hi=>(P ++ L ++ R ++ S,(P.length:Int),((P.length + L.length:Nat):Int),b,(),(mid:Int),((mid + (P.length + L.length):Nat):Int),(lo:Int),(hi:Int),((mid + (P.length + L.length):Nat) - 1:Int),())) (fun k=> .inl (P ++ L ++ R ++ S,(P.length:Int),((P.length + L.length:Nat):Int),b,(),(mid:Int),((mid + (P.length + L.length):Nat):Int),(k:Int),(k:Int),((mid + (P.length + L.length):Nat) - 1:Int),()))
  (fun c=> !dp (R.getD (mid - 1 - c) d92) (L.getD (c - P.length) d92)) lo0 hi0 (fun h h' h1 h2 h3 hf=>by
    rw [Bool.not_eq_true'] at hf ⊢;refine fm.le_trans (b:=R.getD (mid - 1 - h) d92) (fm.le_trans (hD fm _ hL (by omega) (by omega)) hf) (hD fm _ hR (by omega) (by omega))) (fun lo hi h1 h2 h3=>by
    show mr (P ++ L ++ R ++ S) (P.length:Int) ((P.length + L.length:Nat):Int) b () (mid:Int) ((mid + (P.length + L.length):Nat):Int) (lo:Int) (hi:Int) ((mid + (P.length + L.length):Nat) - 1:Int)=_;unfold mr;have hc1:lo<=(lo + hi) / 2:=by omega
    have hc2:(lo + hi) / 2 < hi:=by omega
    rw [sO (by omega)];generalize (lo + hi) / 2=c at hc1 hc2;obtain ⟨v,hv1,hv2⟩:=J6 (R.getD (mid - 1 - c) d92) (L.getD (c - P.length) d92);have k1:aH .i64 ((mid + (P.length + L.length):Nat) - 1:Int) (c:Int)=((P.length + L.length + (mid - 1 - c):Nat):Int):=by rw [aN (by omega) (by omega)]; omega
    rw [aF (by omega)];dsimp only [cond_true];rw [k1,mF (by simp only [List.length_append]; omega),mF (by simp only [List.length_append]; omega),yt,yt,hgR _ (by omega),hgL _ (by omega) (by omega),hv1];dsimp only [cond_true,Option.bind_some];rw [hv2,aP (by have:aX=140737488355328:=rfl; omega)];cases dp (R.getD (mid - 1 - c) d92) (L.getD (c - P.length) d92) <;> rfl) (fun k h1 h2=>by
    show mr (P ++ L ++ R ++ S) (P.length:Int) ((P.length + L.length:Nat):Int) b () (mid:Int) ((mid + (P.length + L.length):Nat):Int) (k:Int) (k:Int) ((mid + (P.length + L.length):Nat) - 1:Int)=_;unfold mr;rw [az (by omega)]; rfl)
  _ lo0 hi0 rfl (Nat.le_refl _) c2 (Nat.le_refl _) (fun h h1 h2=>by omega) (fun h h1 h2=>by omega)
 obtain ⟨k,k1,k2,k3,k4,k5⟩:=h;refine ⟨k,k1,k2,fun c h1 h2 => ?_,fun c h1 h2 => ?_,k5⟩
 . have:=k3 c h1 h2;rwa [Bool.not_eq_true'] at this
 . have:=k4 c h1 h2;rwa [Bool.not_eq_false'] at this
noncomputable def ya (n:Nat) (t:List aO) (a m b mid k e:Int):Option ((((List aO)×Unit)×Unit)×Unit) :=
 Option.bind (cond (cond (au k m) (au m e) false) (zl t k m e) (some (((t,()),()),()))) fun y2 =>
 Option.bind (cond (cond (au a k) (au k mid) false) (eN n y2.1.1.1 a k mid) (some (((y2.1.1.1,()),()),()))) fun y3 =>
 Option.bind (cond (cond (au mid e) (au e b) false) (eN n y3.1.1.1 mid e b) (some (((y3.1.1.1,()),()),()))) fun y4=>some ((y4.1.1,()),())
theorem Ei (n:Nat) (t:List aO) (a m b:Int) (h1:aj (aH .i64 m a) 1=false) (h2:aj (aH .i64 b m) 1=false) (mid nn lo hi k:Int) (hmid:bP .i64 (ib .u64 (bP .u64 (aq .i64 a b)) 1)=mid) (hnn:aq .i64 mid m=nn) (hlo:lo=cond (au mid m) (aH .i64 nn b) a) (hhi:hi=cond (au mid m) mid m)
 (hs:ll t a m b () mid nn lo hi (aH .i64 nn 1)=some (.inl (t,a,m,b,(),mid,nn,k,k,aH .i64 nn 1,()))) :
 eN (n + 1) t a m b=ya n t a m b mid k (aH .i64 nn k):=by
 rw [oh,h1,h2,hmid];dsimp only [cond_false];rw [hnn];unfold ya;cases hm:au mid m with
 | true =>
   rw [hm] at hlo hhi;dsimp only [cond_true] at hlo hhi ⊢;rw [<- hlo,<- hhi]
   conv=>lhs; rw [show ll t a m b () hi nn lo hi (aH .i64 nn 1)=some (.inl (t,a,m,b,(),hi,nn,k,k,aH .i64 nn 1,())) by rw [hhi] at hs ⊢; exact hs]
   dsimp only [Option.bind_some,Sum.elim_inl];rw [hhi];cases (cond (au k m) (au m (aH .i64 nn k)) false) <;> cases (cond (au a k) (au k mid) false) <;> cases (cond (au mid (aH .i64 nn k)) (au (aH .i64 nn k) b) false) <;> rfl
 | false => rw [hm] at hlo hhi;dsimp only [cond_false] at hlo hhi ⊢;subst hlo; subst hhi;rw [hs];dsimp only [Option.bind_some,Sum.elim_inl];cases (cond (au k hi) (au hi (aH .i64 nn k)) false) <;> cases (cond (au lo k) (au k mid) false) <;> cases (cond (au mid (aH .i64 nn k)) (au (aH .i64 nn k) b) false) <;> rfl
theorem C2 {a b:aO} (h:dp a b=true):dp b a=false:=by
 cases hb:dp b a with
 | false=>rfl
 | true => have:=fm.trans _ _ _ h hb;rw [fm.irr] at this;simp at this
theorem Na:∀ (n:Nat) (P L R S:List aO),L.length + R.length<=n->0 < L.length->0 < R.length->lA dp L->lA dp R->(P ++ L ++ R ++ S).length<=bK ->
 ∃ M,lA dp M/\eh dp (L ++ R) M/\eN n (P ++ L ++ R ++ S) (P.length:Int) ((P.length + L.length:Nat):Int) ((P.length + L.length + R.length:Nat):Int)=some (((P ++ M ++ S,()),()),()):=by
 intro n;induction n with
 | zero=>intro P L R S h1 h2 h3; omega
 | succ n ih =>
 intro P L R S hn hL0 hR0 hL hR hl;have hl':=hl;simp only [bK,List.length_append] at hl';have km:aH .i64 ((P.length + L.length:Nat):Int) (P.length:Int)=(L.length:Int):=by rw [aN (by omega) (by omega)]; omega
 have kb:aH .i64 ((P.length + L.length + R.length:Nat):Int) ((P.length + L.length:Nat):Int)=(R.length:Int):=by rw [aN (by omega) (by omega)]; omega
 by_cases hA:L.length=1
 . obtain ⟨x,rfl⟩:∃ x,L=[x]:=List.length_eq_one_iff.1 hA;have e0:P ++ [x] ++ R ++ S=P ++ x :: R ++ S:=by simp
   obtain ⟨k,k1,k2,k3,k4⟩:=SU P S x R hR (by rw [<- e0]; exact hl);have hs:=hR;rw [<- List.take_append_drop k R] at hs;have hs:=cf.1 hs;obtain ⟨kk,hk⟩:=GO P (R.drop k ++ S) x (P.length + 1 + k) (R.take k).length [] (R.take k) rfl (by rw [List.length_take]; simp only [List.length_nil]; omega) (by simp only [bK,List.length_append,List.length_cons,List.length_take,List.length_drop,List.length_nil] at hl' ⊢; omega);have e1:P ++ ([] ++ x :: R.take k) ++ (R.drop k ++ S)=P ++ x :: R ++ S:=by have:R.take k ++ R.drop k=R:=List.take_append_drop k R;simp only [List.nil_append,List.append_assoc,List.cons_append];rw [<- List.append_assoc (R.take k),this]
   rw [e1] at hk;refine ⟨R.take k ++ [x] ++ R.drop k,?_,?_,?_⟩
   . rw [List.append_assoc];refine cf.2 ⟨hs.1,List.pairwise_cons.2 ⟨fun y hy=>k3 y hy,hs.2.1⟩,fun y hy z hz => ?_⟩;rcases List.mem_cons.1 hz with rfl | hz
     . exact C2 (k2 y hy)
     . exact hs.2.2 y hy z hz
   . have h1:eh dp ([x] ++ R.take k) (R.take k ++ [x]):=eh.swap fm fun z hz y hy=>by
      simp only [List.mem_singleton] at hz; subst hz; exact k2 y hy
     have h2:=h1.append (eh.refl (R.drop k));rw [List.append_assoc,List.take_append_drop] at h2;exact h2
   . rw [oh,km,hA];have:aj ((1:Nat):Int) 1=true:=rfl;rw [this];dsimp only [cond_true];rw [e0,k4];dsimp only [Option.bind_some,Sum.elim_inl];simp only [List.length_nil,Nat.add_zero] at hk;rw [hk];dsimp only [Option.bind_some,Sum.elim_inl];simp
 by_cases hB:R.length=1
 . obtain ⟨y,rfl⟩:∃ y,R=[y]:=List.length_eq_one_iff.1 hB;have e0:P ++ L ++ [y] ++ S=P ++ L ++ y :: S:=by simp
   obtain ⟨k,k1,k2,k3,k4⟩:=SS P S y L hL (by rw [<- e0]; exact hl);have hs:=hL;rw [<- List.take_append_drop k L] at hs;have hs:=cf.1 hs;obtain ⟨kk,hk⟩:=GK (P ++ L.take k) S y (L.drop k).length (L.drop k) [] rfl (by simp only [bK,List.length_append,List.length_cons,List.length_take,List.length_drop,List.length_nil] at hl' ⊢; omega);have e1:P ++ L.take k ++ (L.drop k ++ [y]) ++ S=P ++ L ++ y :: S:=by have:L.take k ++ L.drop k=L:=List.take_append_drop k L;simp only [List.append_assoc,List.cons_append,List.nil_append];rw [<- List.append_assoc (L.take k),this]
   have e2:(((P ++ L.take k).length:Nat):Int)=((P.length + k:Nat):Int):=by simp only [List.length_append,List.length_take]; omega
   have e3:(((P ++ L.take k).length + (L.drop k).length:Nat):Int)=((P.length + L.length:Nat):Int):=by simp only [List.length_append,List.length_take,List.length_drop]; omega
   rw [e1,e2,e3] at hk;refine ⟨L.take k ++ (y :: L.drop k),?_,?_,?_⟩
   . refine cf.2 ⟨hs.1,List.pairwise_cons.2 ⟨fun x hx=>C2 (k3 x hx),hs.2.1⟩,fun x hx z hz => ?_⟩;rcases List.mem_cons.1 hz with rfl | hz
     . exact k2 x hx
     . exact hs.2.2 x hx z hz
   . have h1:eh dp (L.drop k ++ [y]) ([y] ++ L.drop k):=eh.swap fm fun z hz x hx=>by
      simp only [List.mem_singleton] at hx; subst hx; exact k3 z hz
     have h2:=(eh.refl (L.take k)).append h1;rw [<- List.append_assoc,List.take_append_drop] at h2;exact h2
   . have hA':aj (L.length:Int) 1=false:=by
      rw [Bool.eq_false_iff]; intro hh; rw [dW] at hh; omega
     rw [oh,km,kb,hA',hB];have:aj ((1:Nat):Int) 1=true:=rfl;rw [this];dsimp only [cond_true,cond_false];rw [e0,k4];dsimp only [Option.bind_some,Sum.elim_inl];rw [hk];dsimp only [Option.bind_some,Sum.elim_inl];simp
 -- the long case
 obtain ⟨mid,hmidN⟩:∃ mid,mid=(P.length + (P.length + L.length + R.length)) / 2:=⟨_,rfl⟩;obtain ⟨lo0,hlo0⟩:∃ lo0,lo0=if mid < P.length + L.length then mid - R.length else P.length:=⟨_,rfl⟩
 obtain ⟨hi0,hhi0⟩:∃ hi0,hi0=if mid < P.length + L.length then mid else P.length + L.length:=⟨_,rfl⟩
 have c1:P.length<=lo0:=by rw [hlo0]; split <;> omega
 have c2:lo0<=hi0:=by rw [hlo0,hhi0]; split <;> omega
 have c3:hi0<=P.length + L.length:=by rw [hhi0]; split <;> omega
 have c4:hi0<=mid:=by rw [hhi0]; split <;> omega
 have c5:mid<=lo0 + R.length:=by rw [hlo0]; split <;> omega
 obtain ⟨k,k1,k2,k3,k4,k5⟩:=Tz P L R S hL hR mid lo0 hi0 c1 c2 c3 c4 c5 (by show mid<=1099511627776; omega) ((P.length + L.length + R.length:Nat):Int) hl;have hmid:=sO (i:=P.length) (j:=P.length + L.length + R.length) (by omega);rw [<- hmidN] at hmid;have hnn:aq .i64 (mid:Int) ((P.length + L.length:Nat):Int)=((mid + (P.length + L.length):Nat):Int):=by rw [bb (by omega) (by omega)]; omega
 have hsub1:aH .i64 ((mid + (P.length + L.length):Nat):Int) 1=((mid + (P.length + L.length):Nat) - 1:Int):=by rw [aN (by omega) (by omega)]
 have hA':aj (aH .i64 ((P.length + L.length:Nat):Int) (P.length:Int)) 1=false:=by rw [km,Bool.eq_false_iff]; intro hh; rw [dW] at hh; omega
 have hB':aj (aH .i64 ((P.length + L.length + R.length:Nat):Int) ((P.length + L.length:Nat):Int)) 1=false:=by rw [kb,Bool.eq_false_iff]; intro hh; rw [dW] at hh; omega
 have hlo:(lo0:Int)=cond (au (mid:Int) ((P.length + L.length:Nat):Int)) (aH .i64 ((mid + (P.length + L.length):Nat):Int) ((P.length + L.length + R.length:Nat):Int)) (P.length:Int):=by
  rw [hlo0];by_cases hm:mid < P.length + L.length
  . rw [if_pos hm,aF (by omega),cond_true,aN (by omega) (by omega)]; omega
  . rw [if_neg hm,az (by omega),cond_false]
 have hhi:(hi0:Int)=cond (au (mid:Int) ((P.length + L.length:Nat):Int)) (mid:Int) ((P.length + L.length:Nat):Int):=by
  rw [hhi0];by_cases hm:mid < P.length + L.length
  . rw [if_pos hm,aF (by omega),cond_true]
  . rw [if_neg hm,az (by omega),cond_false]
 have hsp:=Ei n (P ++ L ++ R ++ S) (P.length:Int) ((P.length + L.length:Nat):Int) ((P.length + L.length + R.length:Nat):Int) hA' hB' (mid:Int) ((mid + (P.length + L.length):Nat):Int) (lo0:Int) (hi0:Int) (k:Int) hmid hnn hlo hhi (by rw [hsub1]; exact k5);have he:aH .i64 ((mid + (P.length + L.length):Nat):Int) (k:Int)=((P.length + L.length + (mid - k):Nat):Int):=by rw [aN (by omega) (by omega)]; omega
 rw [he] at hsp
 -- the parts
 obtain ⟨L1,L2,hLe,hL1,hL2⟩:∃ L1 L2,L=L1 ++ L2/\L1=L.take (k - P.length)/\L2=L.drop (k - P.length):=⟨_,_,(List.take_append_drop _ _).symm,rfl,rfl⟩;obtain ⟨R1,R2,hRe,hR1,hR2⟩:∃ R1 R2,R=R1 ++ R2/\R1=R.take (mid - k)/\R2=R.drop (mid - k):=⟨_,_,(List.take_append_drop _ _).symm,rfl,rfl⟩;have n1:L1.length=k - P.length:=by rw [hL1,List.length_take]; omega
 have n2:L2.length=P.length + L.length - k:=by rw [hL2,List.length_drop]; omega
 have n3:R1.length=mid - k:=by rw [hR1,List.length_take]; omega
 have n4:R2.length=R.length - (mid - k):=by rw [hR2,List.length_drop]
 have sL:=hL;rw [hLe] at sL;have sL:=cf.1 sL;have sR:=hR;rw [hRe] at sR;have sR:=cf.1 sR;have xRL:∀ x∈R1,∀ y∈L2,dp x y=true:=fun x hx y hy=>by
  rw [hR1] at hx;rw [hL2] at hy;obtain ⟨q,q1,q2,rfl⟩:=mS d92 hx;obtain ⟨q',p1,p2,rfl⟩:=mL d92 hy;have hk:k < hi0:=by
   rcases Nat.lt_or_ge k hi0 with hh | hh
   . exact hh
   . exfalso;rw [hhi0] at hh;split at hh <;> omega
  have h0:=k4 k (Nat.le_refl _) hk;have h1:=hD fm d92 hR (q':=q) (q:=mid - 1 - k) (by omega) (by omega);have h2:=hD fm d92 hL (q':=k - P.length) (q:=q') (by omega) (by omega);rcases fm.neg _ (R.getD q d92) _ h0 with h3 | h3
  . rw [h1] at h3; simp at h3
  . rcases fm.neg _ (L.getD q' d92) _ h3 with h4 | h4
    . exact h4
    . rw [h2] at h4; simp at h4
 have xLR:∀ x∈L1,∀ y∈R2,dp y x=false:=fun x hx y hy=>by
  rw [hL1] at hx;rw [hR2] at hy;obtain ⟨q,q1,q2,rfl⟩:=mS d92 hx;obtain ⟨q',p1,p2,rfl⟩:=mL d92 hy;have hk:lo0 < k:=by
   rcases Nat.lt_or_ge lo0 k with hh | hh
   . exact hh
   . exfalso;rw [hlo0] at hh k1;split at hh <;> omega
  have h0:=k3 (k - 1) (by omega) (by omega);rw [show mid - 1 - (k - 1)=mid - k by omega,show k - 1 - P.length=k - P.length - 1 by omega] at h0;have h1:=hD fm d92 hL (q':=q) (q:=k - P.length - 1) (by omega) (by omega);have h2:=hD fm d92 hR (q':=mid - k) (q:=q') (by omega) (by omega);exact fm.le_trans (fm.le_trans h1 h0) h2
 -- the rotation
 have st1:cond (cond (au (k:Int) ((P.length + L.length:Nat):Int)) (au ((P.length + L.length:Nat):Int) ((P.length + L.length + (mid - k):Nat):Int)) false) (zl (P ++ L ++ R ++ S) (k:Int) ((P.length + L.length:Nat):Int) ((P.length + L.length + (mid - k):Nat):Int)) (some (((P ++ L ++ R ++ S,()),()),()))=some (((P ++ L1 ++ R1 ++ (L2 ++ R2 ++ S),()),()),()):=by
  by_cases z1:k < P.length + L.length
  . by_cases z2:0 < mid - k
    . rw [aF (by omega),aF (by omega)];dsimp only [cond_true];have h:=TA (P ++ L1) L2 R1 (R2 ++ S) (by omega) (by omega) (by simp only [bK,List.length_append]; omega);have e1:P ++ L1 ++ L2 ++ R1 ++ (R2 ++ S)=P ++ L ++ R ++ S:=by rw [hLe,hRe]; simp
      have e2:(((P ++ L1).length:Nat):Int)=(k:Int):=by simp only [List.length_append]; omega
      have e3:(((P ++ L1).length + L2.length:Nat):Int)=((P.length + L.length:Nat):Int):=by simp only [List.length_append]; omega
      have e4:(((P ++ L1).length + L2.length + R1.length:Nat):Int)=((P.length + L.length + (mid - k):Nat):Int):=by simp only [List.length_append]; omega
      rw [e1,e2,e3,e4] at h;rw [h];simp
    . have hz:R1=[]:=List.length_eq_zero_iff.1 (by omega);rw [aF (by omega),az (by omega)];dsimp only [cond_true,cond_false];rw [hLe,hRe,hz];simp
  . have hz:L2=[]:=List.length_eq_zero_iff.1 (by omega);rw [az (by omega)];dsimp only [cond_false];rw [hLe,hRe,hz];simp
 -- the left half
 obtain ⟨M1,s1,t1,u1⟩:∃ M1,lA dp M1/\eh dp (L1 ++ R1) M1/\cond (cond (au (P.length:Int) (k:Int)) (au (k:Int) (mid:Int)) false) (eN n (P ++ L1 ++ R1 ++ (L2 ++ R2 ++ S)) (P.length:Int) (k:Int) (mid:Int)) (some (((P ++ L1 ++ R1 ++ (L2 ++ R2 ++ S),()),()),()))=some (((P ++ M1 ++ (L2 ++ R2 ++ S),()),()),()):=by
  by_cases z1:P.length < k
  . by_cases z2:k < mid
    . obtain ⟨M,m1,m2,m3⟩:=ih P L1 R1 (L2 ++ R2 ++ S) (by omega) (by omega) (by omega) sL.1 sR.1 (by simp only [bK,List.length_append]; omega);refine ⟨M,m1,m2,?_⟩;rw [aF (by omega),aF (by omega)];dsimp only [cond_true];rw [show ((P.length + L1.length:Nat):Int)=(k:Int) by omega,show ((P.length + L1.length + R1.length:Nat):Int)=(mid:Int) by omega] at m3;exact m3
    . have hz:R1=[]:=List.length_eq_zero_iff.1 (by omega);refine ⟨L1,sL.1,by rw [hz,List.append_nil]; exact eh.refl _,?_⟩;rw [aF (by omega),az (by omega),hz];simp
  . have hz:L1=[]:=List.length_eq_zero_iff.1 (by omega);refine ⟨R1,sR.1,by rw [hz]; exact eh.refl _,?_⟩;rw [az (by omega),hz];simp
 have nM1:M1.length=L1.length + R1.length:=by have:=t1.1; rw [List.length_append] at this; omega
 -- the right half
 obtain ⟨M2,s2,t2,u2⟩:∃ M2,lA dp M2/\eh dp (L2 ++ R2) M2/\cond (cond (au (mid:Int) ((P.length + L.length + (mid - k):Nat):Int)) (au ((P.length + L.length + (mid - k):Nat):Int) ((P.length + L.length + R.length:Nat):Int)) false) (eN n (P ++ M1 ++ (L2 ++ R2 ++ S)) (mid:Int) ((P.length + L.length + (mid - k):Nat):Int) ((P.length + L.length + R.length:Nat):Int)) (some (((P ++ M1 ++ (L2 ++ R2 ++ S),()),()),()))=some (((P ++ (M1 ++ M2) ++ S,()),()),()):=by
  by_cases z1:0 < L2.length
  . by_cases z2:0 < R2.length
    . obtain ⟨M,m1,m2,m3⟩:=ih (P ++ M1) L2 R2 S (by omega) z1 z2 sL.2.1 sR.2.1 (by simp only [bK,List.length_append]; omega);refine ⟨M,m1,m2,?_⟩;rw [aF (by omega),aF (by omega)];dsimp only [cond_true];rw [show (((P ++ M1).length:Nat):Int)=(mid:Int) by simp only [List.length_append]; omega,show (((P ++ M1).length + L2.length:Nat):Int)=((P.length + L.length + (mid - k):Nat):Int) by simp only [List.length_append]; omega,show (((P ++ M1).length + L2.length + R2.length:Nat):Int)=((P.length + L.length + R.length:Nat):Int) by simp only [List.length_append]; omega] at m3;have e1:P ++ M1 ++ L2 ++ R2 ++ S=P ++ M1 ++ (L2 ++ R2 ++ S):=by simp
      rw [e1] at m3;rw [m3];simp
    . have hz:R2=[]:=List.length_eq_zero_iff.1 (by omega);refine ⟨L2,sL.2.1,by rw [hz,List.append_nil]; exact eh.refl _,?_⟩;rw [az (a:=((P.length + L.length + (mid - k):Nat):Int)) (by omega),hz];cases au (mid:Int) ((P.length + L.length + (mid - k):Nat):Int) <;> simp
  . have hz:L2=[]:=List.length_eq_zero_iff.1 (by omega);refine ⟨R2,sR.2.1,by rw [hz]; exact eh.refl _,?_⟩;rw [az (a:=(mid:Int)) (by omega),hz];simp
 refine ⟨M1 ++ M2,cf.2 ⟨s1,s2,fun x hx y hy => ?_⟩,?_,?_⟩
 . rcases List.mem_append.1 ((t1.mem fm).2 hx) with hx | hx
   . rcases List.mem_append.1 ((t2.mem fm).2 hy) with hy | hy
     . exact sL.2.2 x hx y hy
     . exact xLR x hx y hy
   . rcases List.mem_append.1 ((t2.mem fm).2 hy) with hy | hy
     . exact C2 (xRL x hx y hy)
     . exact sR.2.2 x hx y hy
 . have h1:eh dp (L2 ++ R1) (R1 ++ L2):=eh.swap fm fun y hy x hx=>xRL x hx y hy
   have h2:=((eh.refl L1).append h1).append (eh.refl R2);have h3:=t1.append t2;have e1:L ++ R=L1 ++ (L2 ++ R1) ++ R2:=by rw [hLe,hRe]; simp
   have e2:L1 ++ (R1 ++ L2) ++ R2=L1 ++ R1 ++ (L2 ++ R2):=by simp
   rw [e1];rw [e2] at h2;exact h2.trans h3
 . rw [hsp];unfold ya;rw [st1];dsimp only [Option.bind_some];rw [u1];dsimp only [Option.bind_some];rw [u2];rfl
theorem D7 (P L R S:List aO) (h2:0 < L.length) (h3:0 < R.length) (hL:lA dp L) (hR:lA dp R) (hl:(P ++ L ++ R ++ S).length<=bK) :
 ∃ M,lA dp M/\eh dp (L ++ R) M/\l9 (P ++ L ++ R ++ S) (P.length:Int) ((P.length + L.length:Nat):Int) ((P.length + L.length + R.length:Nat):Int)=some (((P ++ M ++ S,()),()),()):=by
 obtain ⟨M,m1,m2,m3⟩:=Na (L.length + R.length) P L R S (Nat.le_refl _) h2 h3 hL hR hl;refine ⟨M,m1,m2,K7 (n:=L.length + R.length) fun m hm => ?_⟩;obtain ⟨M',p1,p2,p3⟩:=Na m P L R S hm h2 h3 hL hR hl;rw [p3,qp fm p1 m1 (p2.symm.trans m2)]
def Kk (k:Nat) (cs:List (List aO)):Prop:=∀ c∈cs,c.length=k/\lA dp c
theorem yl {k:Nat}:∀ {cs:List (List aO)},Kk k cs->cs.flatten.length=cs.length * k
 | [],_=>by simp
 | c :: cs,h=>by
   have h1:=(h c (List.mem_cons_self ..)).1;have h2:=yl (cs:=cs) fun x hx=>h x (List.mem_cons_of_mem _ hx)
   rw [List.flatten_cons,List.length_append,h1,h2,List.length_cons,Nat.add_mul,Nat.one_mul,Nat.add_comm]
theorem Er (N:Nat):∀ (n:Nat) (P R:List aO),R.length=n->(P ++ R).length=N->N<=4194304 ->
 ∃ (cs:List (List aO)) (T:List aO),Kk 20 cs/\T.length < 20/\eh dp R (cs.flatten ++ T) /\
  B4 (P ++ R) (N:Int) () 20 (P.length:Int) ((P.length + 20:Nat):Int)=some (.inl (P ++ cs.flatten ++ T,(N:Int),(),20,((N - T.length:Nat):Int),((N - T.length + 20:Nat):Int),())):=by
 intro n;induction n using Nat.strongRecOn with
 | _ n ih =>
 intro P R hn hN hB;have hN':=hN;rw [List.length_append] at hN';by_cases h:R.length < 20
 . refine ⟨[],R,fun c hc=>by simp at hc,h,eh.refl _,aJ _ ?_⟩;show qQ (P ++ R) (N:Int) () 20 (P.length:Int) ((P.length + 20:Nat):Int)=_;unfold qQ;have:bz ((P.length + 20:Nat):Int) (N:Int)=false:=decide_eq_false (by omega);rw [this];have e:N - R.length=P.length:=by omega
   rw [e];simp
 . obtain ⟨L,S,rfl,hL⟩:∃ L S,R=L ++ S/\L.length=20:=⟨R.take 20,R.drop 20,(List.take_append_drop _ _).symm,by rw [List.length_take]; omega⟩;simp only [List.length_append] at hN' hn h;obtain ⟨M,m1,m2,m3⟩:=M9 P L S (by simp only [bK,List.length_append]; omega);have hM:M.length=20:=by rw [<- m2.1]; exact hL
   obtain ⟨cs,T,q1,q2,q3,q4⟩:=ih S.length (by omega) (P ++ M) S rfl (by simp only [List.length_append]; omega) hB;refine ⟨M :: cs,T,fun c hc => ?_,q2,?_,?_⟩
   . rcases List.mem_cons.1 hc with rfl | hc
     . exact ⟨hM,m1⟩
     . exact q1 c hc
   . have:=m2.append q3;rw [List.flatten_cons,List.append_assoc];exact this
   . have e1:P ++ M ++ cs.flatten ++ T=P ++ (M :: cs).flatten ++ T:=by simp
     rw [e1] at q4;refine aQ _ ?_ q4;show qQ (P ++ (L ++ S)) (N:Int) () 20 (P.length:Int) ((P.length + 20:Nat):Int)=_;unfold qQ;have k1:bz ((P.length + 20:Nat):Int) (N:Int)=true:=decide_eq_true (by omega);have e2:P ++ (L ++ S)=P ++ L ++ S:=by simp
     rw [hL] at m3;rw [k1,e2,m3];dsimp only [cond_true,Option.bind_some];have k2:aq .i64 ((P.length + 20:Nat):Int) 20=(((P ++ M).length + 20:Nat):Int):=by rw [bb (by omega) (by omega)]; simp only [List.length_append]; omega
     have k3:((P.length + 20:Nat):Int)=((P ++ M).length:Int):=by simp only [List.length_append]; omega
     rw [k2,k3]
theorem NN {k:Nat} (h:k<=1073741824):iq .i64 2 (k:Int)=((2 * k:Nat):Int)/\iq .i64 (k:Int) 2=((2 * k:Nat):Int):=by unfold iq;rw [IntWalk.i64_in _ (by omega),IntWalk.i64_in _ (by omega)];omega
theorem Fs (N k:Nat) (hk:0 < k) (hkB:k<=1073741824) (hB:N<=4194304) (T:List aO) (hT:T.length < k):∀ (n:Nat) (cs:List (List aO)) (P:List aO),cs.length=n->Kk k cs->(P ++ cs.flatten ++ T).length=N ->
 ∃ (ds c2:List (List aO)) (b':Int),Kk (2 * k) ds/\Kk k c2/\c2.length<=1/\eh dp cs.flatten (ds.flatten ++ c2.flatten) /\
  yf (P ++ cs.flatten ++ T) (N:Int) () (k:Int) (P.length:Int) ((P.length + 2 * k:Nat):Int)=some (.inl (P ++ ds.flatten ++ c2.flatten ++ T,(N:Int),(),(k:Int),((P ++ ds.flatten).length:Int),b',())):=by
 intro n;induction n using Nat.strongRecOn with
 | _ n ih =>
 intro cs P hn hc hN;have hN':=hN;simp only [List.length_append] at hN'
 have stop:cs.length<=1->∃ (ds c2:List (List aO)) (b':Int),Kk (2 * k) ds/\Kk k c2/\c2.length<=1/\eh dp cs.flatten (ds.flatten ++ c2.flatten) /\
  yf (P ++ cs.flatten ++ T) (N:Int) () (k:Int) (P.length:Int) ((P.length + 2 * k:Nat):Int)=some (.inl (P ++ ds.flatten ++ c2.flatten ++ T,(N:Int),(),(k:Int),((P ++ ds.flatten).length:Int),b',())):=fun h1=>by
  refine ⟨[],cs,((P.length + 2 * k:Nat):Int),fun c hc=>by simp at hc,hc,h1,by simpa using eh.refl _,aJ _ ?_⟩;show rb (P ++ cs.flatten ++ T) (N:Int) () (k:Int) (P.length:Int) ((P.length + 2 * k:Nat):Int)=_;unfold rb;have hf:=yl hc;have:cs.length * k<=k:=by have:=Nat.mul_le_mul_right k h1;omega
  have:bz ((P.length + 2 * k:Nat):Int) (N:Int)=false:=decide_eq_false (by omega);rw [this];simp
 cases cs with
 | nil=>exact stop (by simp)
 | cons c1 cs =>
 cases cs with
 | nil=>exact stop (by simp)
 | cons c2 cs =>
   have h1:=hc c1 (by simp);have h2:=hc c2 (by simp);have h3:Kk k cs:=fun c h=>hc c (by simp [h])
   simp only [List.flatten_cons,List.length_append] at hN';obtain ⟨M,m1,m2,m3⟩:=D7 P c1 c2 (cs.flatten ++ T) (by omega) (by omega) h1.2 h2.2 (by simp only [bK,List.length_append]; omega);have hM:M.length=2 * k:=by have:=m2.1; rw [List.length_append] at this; omega
   obtain ⟨ds,e2,b',q1,q2,q3,q4,q5⟩:=ih cs.length (by simp only [List.length_cons] at hn; omega) cs (P ++ M) rfl h3 (by simp only [List.length_append]; omega);refine ⟨M :: ds,e2,b',fun d hd => ?_,q2,q3,?_,?_⟩
   . rcases List.mem_cons.1 hd with rfl | hd
     . exact ⟨hM,m1⟩
     . exact q1 d hd
   . have:=m2.append q4;simpa using this
   . have e3:P ++ M ++ ds.flatten ++ e2.flatten ++ T=P ++ (M :: ds).flatten ++ e2.flatten ++ T:=by simp
     have e4:P ++ M ++ ds.flatten=P ++ (M :: ds).flatten:=by simp
     rw [e3,e4] at q5;refine aQ _ ?_ q5;show rb (P ++ (c1 :: c2 :: cs).flatten ++ T) (N:Int) () (k:Int) (P.length:Int) ((P.length + 2 * k:Nat):Int)=_;unfold rb;have k1:bz ((P.length + 2 * k:Nat):Int) (N:Int)=true:=decide_eq_true (by omega);have e5:P ++ (c1 :: c2 :: cs).flatten ++ T=P ++ c1 ++ c2 ++ (cs.flatten ++ T):=by simp
     have k2:aq .i64 (P.length:Int) (k:Int)=((P.length + c1.length:Nat):Int):=by rw [bb (by omega) (by omega)]; omega
     have k3:((P.length + 2 * k:Nat):Int)=((P.length + c1.length + c2.length:Nat):Int):=by omega
     rw [k1,(NN hkB).1,k2,k3,e5,m3];dsimp only [cond_true,Option.bind_some];have k4:aq .i64 ((P.length + c1.length + c2.length:Nat):Int) ((2 * k:Nat):Int)=(((P ++ M).length + 2 * k:Nat):Int):=by rw [bb (by omega) (by omega)]; simp only [List.length_append]; omega
     have k5:((P.length + c1.length + c2.length:Nat):Int)=((P ++ M).length:Int):=by simp only [List.length_append]; omega
     rw [k4,k5];simp
theorem E3 (N:Nat) (hB:N<=4194304):∀ (f k:Nat) (cs:List (List aO)) (T:List aO),N - k<=f->0 < k->k<=8388608->Kk k cs->T.length < k->lA dp T->(cs.flatten ++ T).length=N ->
 ∃ (M:List aO) (k':Int),lA dp M/\eh dp (cs.flatten ++ T) M/\BM (cs.flatten ++ T) (N:Int) () (k:Int)=some (.inl (M,(N:Int),(),k',())):=by
 intro f;induction f using Nat.strongRecOn with
 | _ f ih =>
 intro k cs T hf hk hkB hc hT hTs hN;have hN':=hN;rw [List.length_append,yl hc] at hN';by_cases h:k < N
 . obtain ⟨ds,c2,b',q1,q2,q3,q4,q5⟩:=Fs N k hk (by omega) hB T hT cs.length cs [] rfl hc (by simpa using hN);simp only [List.nil_append,List.length_nil,Nat.zero_add] at q5;have q5':yf (cs.flatten ++ T) (N:Int) () (k:Int) 0 ((2 * k:Nat):Int)=_:=q5;have hlen:ds.flatten.length + c2.flatten.length + T.length=N:=by
    have:=q4.1;rw [List.length_append] at this;rw [List.length_append] at hN;omega
   -- the rest behind the pairs
   obtain ⟨T',t1,t2,t3,t4⟩:∃ T',T'.length < 2 * k/\lA dp T'/\eh dp (c2.flatten ++ T) T' /\
    rI (cs.flatten ++ T) (N:Int) () (k:Int)=some (.inl (ds.flatten ++ T',(N:Int),(),((2 * k:Nat):Int),())):=by
    unfold rI;rw [aF (by omega),(NN (by omega)).1,q5'];dsimp only [cond_true,Option.bind_some,Sum.elim_inl];rw [(NN (k:=k) (by omega)).2];have k2:aq .i64 ((ds.flatten.length:Nat):Int) (k:Int)=((ds.flatten.length + k:Nat):Int):=by rw [bb (by omega) (by omega)]; omega
    rw [k2];cases c2 with
    | nil => simp only [List.flatten_nil,List.length_nil,Nat.add_zero] at hlen;refine ⟨T,by omega,hTs,by simpa using eh.refl _,?_⟩;rw [az (by omega)];simp
    | cons c c2 =>
      have:c2=[]:=List.length_eq_zero_iff.1 (by simp only [List.length_cons] at q3; omega);subst this;have hcc:=q2 c (by simp);simp only [List.flatten_cons,List.flatten_nil,List.append_nil] at hlen ⊢;by_cases hz:0 < T.length
      . obtain ⟨M,m1,m2,m3⟩:=D7 ds.flatten c T [] (by omega) hz hcc.2 hTs (by simp only [bK,List.length_append,List.length_nil]; omega);refine ⟨M,by have:=m2.1; rw [List.length_append] at this; omega,m1,m2,?_⟩;rw [hcc.1] at m3;rw [show ((ds.flatten.length + k + T.length:Nat):Int)=(N:Int) by omega,List.append_nil,List.append_nil] at m3;rw [aF (by omega),m3];simp
      . have:T=[]:=List.length_eq_zero_iff.1 (by omega);subst this;refine ⟨c,by omega,hcc.2,by simpa using eh.refl _,?_⟩;rw [az (by simp only [List.length_nil] at hlen; omega)];simp
   obtain ⟨M,k',m1,m2,m3⟩:=ih (N - 2 * k) (by omega) (2 * k) ds T' (Nat.le_refl _) (by omega) (by omega) q1 t1 t2 (by have:=t3.1; rw [List.length_append] at this ⊢; omega);refine ⟨M,k',m1,?_,aQ _ t4 m3⟩;have h1:=q4.append (eh.refl T);have h2:=(eh.refl ds.flatten).append t3;rw [List.append_assoc] at h1;exact (h1.trans h2).trans m2
 . refine ⟨cs.flatten ++ T,(k:Int),?_,eh.refl _,aJ _ ?_⟩
   . cases cs with
     | nil=>simpa using hTs
     | cons c cs =>
       simp only [List.length_cons,Nat.add_mul,Nat.one_mul] at hN';have h0:T=[]:=List.length_eq_zero_iff.1 (by omega);have h1:cs=[]:=by
        cases cs with
        | nil=>rfl
        | cons d cs=>simp only [List.length_cons,Nat.add_mul,Nat.one_mul] at hN'; omega
       subst h0; subst h1;simpa using (hc c (by simp)).2
   . show rI (cs.flatten ++ T) (N:Int) () (k:Int)=_;unfold rI;rw [az (by omega)];rfl
theorem NT (xs:List aO) (hB:xs.length<=4194304):∃ M,lA dp M/\eh dp xs M/\Ut xs=some (((M,()),()),()):=by
 obtain ⟨cs,T,q1,q2,q3,q4⟩:=Er xs.length xs.length [] xs rfl rfl hB;simp only [List.nil_append,List.length_nil,Nat.zero_add] at q4;have hlen:cs.flatten.length + T.length=xs.length:=by have:=q3.1; rw [List.length_append] at this; omega
 obtain ⟨T',t1,t2,t3⟩:=M9 cs.flatten T [] (by simp only [bK,List.length_append,List.length_nil]; omega);rw [List.append_nil,List.append_nil] at t3;have hT':T'.length=T.length:=t2.1.symm;obtain ⟨M,k',m1,m2,m3⟩:=E3 xs.length hB (xs.length) 20 cs T' (by omega) (by decide) (by decide) q1 (by omega) t1 (by rw [List.length_append]; omega);refine ⟨M,m1,(q3.trans ((eh.refl _).append t2)).trans m2,?_⟩;have q4':B4 xs (ae xs) () 20 0 20=_:=q4;have e1:((cs.flatten.length + T.length:Nat):Int)=(xs.length:Int):=by omega
 have e2:((xs.length - T.length:Nat):Int)=(cs.flatten.length:Int):=by omega
 rw [e1] at t3;unfold Ut O1;rw [q4'];dsimp only [Option.bind_some,Sum.elim_inl];rw [e2,t3];dsimp only [Option.bind_some];have m3':BM (cs.flatten ++ T') (xs.length:Int) () 20=_:=m3;rw [m3'];rfl
theorem Gm (out:List aO) (x:aO) (hS:lA dp out) (hl:out.length<=4194304) (t11:List (gf)) (t12 t13:Int) (t18:List aO) (t19 t20:Int) (b2:List aO×Unit):∀ (n:Nat) (A B:List aO),out=A ++ B->A.length=n->(∀ y∈B,dp x y=true) ->
 ∃ A' B',out=A' ++ B'/\(∀ y∈B',dp x y=true)/\(∀ y∈A',dp x y=false)/\Bg out (A.length:Int) t11 t12 t13 t18 t19 t20 b2 x=some (.inl (out,(A'.length:Int),t11,t12,t13,t18,t19,t20,b2,x,())):=by
 have hbig:aX=140737488355328:=rfl;intro n;induction n with
 | zero => intro A B hAB hn hB;have:A=[]:=List.length_eq_zero_iff.1 hn;subst this;refine ⟨[],B,hAB,hB,fun y hy=>by simp at hy,aJ _ ?_⟩;show ux out 0 t11 t12 t13 t18 t19 t20 b2 x=_;unfold ux;rfl
 | succ n ih =>
   intro A B hAB hn hB;obtain ⟨C,y,rfl⟩:=sJ (a:=A) (fun h=>by subst h; simp at hn);have hC:C.length=n:=by simpa using hn
   have hlen:=congrArg List.length hAB;simp only [List.length_append,List.length_cons,List.length_nil] at hlen;have k1:aH .i64 ((C ++ [y]).length:Int) 1=(C.length:Int):=by rw [aN (by simp only [List.length_append,List.length_cons,List.length_nil]; omega) (by simp only [List.length_append,List.length_cons,List.length_nil]; omega)]; simp only [List.length_append,List.length_cons,List.length_nil]; omega
   have e0:out=C ++ y :: B:=by rw [hAB]; simp
   have i1:a7 (C.length:Int) out=true:=by rw [e0]; exact gW _ _ _ rfl
   have g1:gt d92 out (C.length:Int)=y:=by rw [e0]; exact wK _ _ _ _ rfl
   have hstep:ux out ((C ++ [y]).length:Int) t11 t12 t13 t18 t19 t20 b2 x=cond (dp x y) (some (.inl (out,(C.length:Int),t11,t12,t13,t18,t19,t20,b2,x,()))) (some (.inr (.inl (out,((C ++ [y]).length:Int),t11,t12,t13,t18,t19,t20,b2,x,())))):=by unfold ux;rw [aF (by simp only [List.length_append,List.length_cons,List.length_nil]; omega)];dsimp only [cond_true];rw [k1,i1,g1,tk];dsimp only [cond_true];rw [Bool.not_not]
   cases hc:dp x y with
   | true =>
     rw [hc] at hstep;obtain ⟨A',B',r1,r2,r3,r4⟩:=ih C (y :: B) e0 hC (fun z hz=>by
      rcases List.mem_cons.1 hz with rfl | hz
      . exact hc
      . exact hB z hz)
     exact ⟨A',B',r1,r2,r3,aQ _ hstep r4⟩
   | false =>
     rw [hc] at hstep;refine ⟨C ++ [y],B,hAB,hB,fun z hz => ?_,aJ _ hstep⟩;rcases List.mem_append.1 hz with hz | hz
     . rw [hAB] at hS;have:=(cf.1 (cf.1 hS).1).2.2 z hz y (by simp);exact fm.le_trans this hc
     . simp only [List.mem_singleton] at hz; subst hz; exact hc
abbrev fQ:=Int×List aO×Unit
def fg (l:List fQ):List aO:=(l.map fun s=>s.2.1).flatten
def xb (l:List fQ):Prop:=l.length<=1048576/\(fg l).length<=1048576/\∀ s∈l,∀ a∈s.2.1,je a
theorem rG {l:List fQ} {i:Nat} {s:fQ} (h:l[i]? = some s):fg (l.take (i + 1))=fg (l.take i) ++ s.2.1:=by unfold fg;rw [List.take_add_one,h];simp
theorem yY (l:List fQ) (i:Nat):(fg (l.take i)).length<=(fg l).length:=by
 have:fg l=fg (l.take i) ++ fg (l.drop i):=by unfold fg;rw [<- List.flatten_append,<- List.map_append,List.take_append_drop]
 rw [this,List.length_append];omega
theorem Pl (base acc:List aO) (hb:∀ a∈acc,je a) (hl:(base ++ acc).length<=1048576) (t11:List fQ) (t12 t13:Int) (b2:List aO×Unit) (out:List aO) (h1:lA dp out) (h2:eh dp base out) :
 ∃ M,(lA dp M/\eh dp (base ++ acc.take acc.length) M)/\Dq out t11 t12 t13 acc (ae acc) 0 b2=some (.inl (M,t11,t12,t13,acc,ae acc,(acc.length:Int),b2,())):=by
 have hbig:aX=140737488355328:=rfl;rw [List.length_append] at hl;refine mU (step:=xQ rO) acc (fun i (o:List aO)=>(o,t11,t12,t13,acc,ae acc,((i:Nat):Int),b2,())) (fun o=> .inl (o,t11,t12,t13,acc,ae acc,(acc.length:Int),b2,())) (fun i o=>lA dp o/\eh dp (base ++ acc.take i) o) (fun i x o hx ho => ?_) (fun o ho => ?_) acc.length 0 out (by omega) ⟨h1,by simpa using h2⟩
 . have hlt:=ak hx;have hxB:=hb x (List.mem_of_getElem? hx);have hol:o.length<=1048576:=by
    have:=ho.2.1;rw [List.length_append,List.length_take] at this;omega
   obtain ⟨A,B,r1,r2,r3,r4⟩:=Gm o x ho.1 (by omega) t11 t12 t13 acc (ae acc) (i:Int) b2 o.length o [] (by simp) rfl (fun y hy=>by simp at hy);have hAB:o.length=A.length + B.length:=by rw [r1,List.length_append]
   refine ⟨A ++ [x] ++ B,?_,?_,?_⟩
   . show rO o t11 t12 t13 acc (ae acc) (i:Int) b2=_;unfold rO;have r4':Bg o (ae o) t11 t12 t13 acc (ae acc) (i:Int) b2 x=_:=r4;have f1:dJ 0 (A.length:Int) o=true:=by
      show (decide ((0:Int)<=0) && (decide ((0:Int)<=(A.length:Int)) && decide ((A.length:Int)<=(o.length:Int))))=true;rw [decide_eq_true (by omega),decide_eq_true (by omega),decide_eq_true (by omega)]; rfl
     have f2:Ts 160 [] o (A.length:Int)=true:=Nat.ble_eq_true_of_le (by simp only [List.length_nil,Int.toNat_natCast]; omega);have f3:NB o (A.length:Int)=A:=by unfold NB; rw [Int.toNat_natCast,r1]; simp
     have f4:Vz o (A.length:Int)=B:=by unfold Vz; rw [Int.toNat_natCast,r1]; simp
     have f5:N2 (A.length:Int) (A.length:Int)=true:=by unfold N2 preB bz;rw [decide_eq_true (by omega),Nat.beq_refl]; rfl
     have f6:cQ 160 (lP [] A) [x]=true:=Nat.ble_eq_true_of_le (by show ((([]:List aO) ++ A).length + 1) * 160<=aX; simp only [List.nil_append]; omega);have f7:cQ 160 (lP (lP [] A) [x]) B=true:=Nat.ble_eq_true_of_le (by show ((([]:List aO) ++ A ++ [x]).length + B.length) * 160<=aX; simp only [List.nil_append,List.length_append,List.length_cons,List.length_nil]; omega);rw [aG hx,aC hx,aV _ hx,r4'];dsimp only [cond_true,Option.bind_some,Sum.elim_inl];rw [f1,f2,f3,f4,f5,IX x hxB,aP (by omega)];dsimp only [cond_true,Option.bind_some];rw [f6,f7];rfl
   . have hs:=ho.1;rw [r1] at hs;have hs:=cf.1 hs;rw [List.append_assoc];refine cf.2 ⟨hs.1,List.pairwise_cons.2 ⟨fun y hy=>C2 (r2 y hy),hs.2.1⟩,fun y hy z hz => ?_⟩;rcases List.mem_cons.1 hz with rfl | hz
     . exact r3 y hy
     . exact hs.2.2 y hy z hz
   . have e1:base ++ acc.take (i + 1)=base ++ acc.take i ++ [x]:=by rw [List.take_add_one,hx]; simp
     rw [e1];have q1:=ho.2.append (eh.refl [x]);have q2:eh dp (B ++ [x]) ([x] ++ B):=eh.swap fm fun y hy z hz=>by simp only [List.mem_singleton] at hz; subst hz; exact r2 y hy
     have q3:=(eh.refl A).append q2;rw [r1] at q1;rw [List.append_assoc A] at q1;rw [List.append_assoc A];exact q1.trans q3
 . show rO o t11 t12 t13 acc (ae acc) (acc.length:Int) b2=_;unfold rO;rw [ax rfl]; rfl
theorem Bk (l:List fQ) (hB:xb l):∃ M,(lA dp M/\eh dp (fg l) M)/\NJ l=some ((),((M,()),())):=by
 have hbig:aX=140737488355328:=rfl;have hl:=hB.1;obtain ⟨M,⟨m1,m2⟩,m3⟩:=mU (step:=ft rY) l (fun j (o:List aO)=>(o,l,ae l,((j:Nat):Int),(([]:List aO),()),())) (fun o=> .inl (o,l,ae l,(l.length:Int),([],()),())) (fun j o=>lA dp o/\eh dp (fg (l.take j)) o) (fun j s o hx ho=>by
  have hlt:=ak hx;have hs:=hB.2.2 s (List.mem_of_getElem? hx);have e1:=rG hx;have e2:=yY l (j + 1);have e3:=hB.2.1;obtain ⟨M,⟨m1,m2⟩,m3⟩:=Pl (fg (l.take j)) s.2.1 hs (by rw [<- e1]; omega) l (ae l) (j:Int) ([],()) o ho.1 ho.2;rw [List.take_length,<- e1] at m2;refine ⟨M,?_,m1,m2⟩;show rY o l (ae l) (j:Int) ([],())=_;unfold rY;rw [aG hx,aC hx,aV _ hx];dsimp only [cond_true];rw [m3];dsimp only [Option.bind_some,Sum.elim_inl];rw [aP (by omega)]) (fun o ho=>by
  show rY o l (ae l) (l.length:Int) ([],())=_;unfold rY;rw [ax rfl]; rfl) l.length 0 [] (by omega) ⟨D4,eh.refl _⟩
 rw [List.take_length] at m2;refine ⟨M,⟨m1,m2⟩,?_⟩;unfold NJ;have m3':C0 [] l (ae l) 0 ([],())=_:=m3;rw [m3'];rfl
theorem Hc (acc:List aO) (hb:∀ a∈acc,je a) (hl:acc.length<=1048576):Ux (acc,())=some ((),((acc,()),())):=by
 have hbig:aX=140737488355328:=rfl;unfold Ux OR;have h:=a6 (step:=DY oQ) acc (fun i (a:List aO)=>((),acc,ae acc,((i:Nat):Int),(([]:List aO),()),(a,()),())) (fun _ x a=>Sum.inl (a ++ [x])) (fun a=> .inl ((),acc,ae acc,(acc.length:Int),([],()),(a,()),())) (fun i a=>a.length=i) (a0:=[]) rfl (fun i x a hx ha=>by
  have hlt:=ak hx;show oQ () acc (ae acc) (i:Int) ([],()) (a,())=_;unfold oQ;have e:∀ y:aO,cQ 160 a [y]=true:=fun y=>Nat.ble_eq_true_of_le (by simp; omega)
  rw [aG hx,aC hx,aV _ hx,GI x (hb x (List.mem_of_getElem? hx)),aP (by omega)];dsimp only [cond_true,Option.bind_some];rw [e];rfl) (fun i x a a' hx ha hf=>by
  simp only [Sum.inl.injEq] at hf;rw [<- hf,List.length_append,ha]; rfl) (fun a ha=>by
  show oQ () acc (ae acc) (acc.length:Int) ([],()) (a,())=_;unfold oQ;rw [ax rfl]; rfl)
 rw [jl] at h;have h':Ge () acc (ae acc) 0 ([],()) ([],())=_:=h;dsimp only;rw [h'];rfl
theorem GW (l:List fQ) (hB:xb l):∃ M,(lA dp M/\eh dp (fg l) M)/\PO l=some ((),((M,()),())):=by
 have hbig:aX=140737488355328:=rfl;have hl:=hB.1;have hl2:=hB.2.1;obtain ⟨o,ho,hm⟩:=mU (step:=ft vQ) l (fun j (o:List aO)=>(l,ae l,((j:Nat):Int),(([]:List aO),()),(o,()),())) (fun o=> .inl (l,ae l,(l.length:Int),([],()),(o,()),())) (fun j o=>o=fg (l.take j)) (fun j s o hx ho=>by
  have hlt:=ak hx;have hs:=hB.2.2 s (List.mem_of_getElem? hx);have e1:=rG hx;have e2:=yY l (j + 1);rw [e1,List.length_append] at e2;refine ⟨o ++ s.2.1,?_,by rw [ho,e1]⟩;show vQ l (ae l) (j:Int) ([],()) (o,())=_;unfold vQ;have e:cQ 160 o s.2.1=true:=Nat.ble_eq_true_of_le (by rw [ho]; omega);rw [aG hx,aC hx,aV _ hx];dsimp only [cond_true];rw [Hc s.2.1 hs (by omega)];dsimp only [cond_true,Option.bind_some];rw [e,aP (by omega)];rfl) (fun o ho=>by
  show vQ l (ae l) (l.length:Int) ([],()) (o,())=_;unfold vQ;rw [ax rfl]; rfl) l.length 0 [] (by omega) rfl
 rw [List.take_length] at ho;subst ho;obtain ⟨M,m1,m2,m3⟩:=NT (fg l) (by omega);refine ⟨M,⟨m1,m2⟩,?_⟩;unfold PO;have hm':Mw l (ae l) 0 ([],()) ([],())=_:=hm;rw [hm'];dsimp only [Option.bind_some,Sum.elim_inl];rw [m3];rfl
theorem EF (l:List fQ) (hB:xb l):∃ M,M.length=(fg l).length/\(∀ x∈M,x∈fg l)/\eh dp (fg l) M/\NJ l=some ((),((M,()),()))/\PO l=some ((),((M,()),())):=by obtain ⟨M,⟨m1,m2⟩,m3⟩:=Bk l hB;obtain ⟨M',⟨p1,p2⟩,p3⟩:=GW l hB;have e:=qp fm p1 m1 (p2.symm.trans m2);subst e;exact ⟨M',p2.1.symm,fun x hx=>(p2.mem fm).2 hx,p2,m3,p3⟩
abbrev aR:=List (Int×Unit)
def xX (b:aR):Prop:=b.length<=1048576/\∀ x∈b,0<=x.1/\x.1<=255
def er (b:aR) (a k:Nat):aR:=(b.drop a).take k
theorem I9 (b:aR) (a k:Nat):sub b (a:Int) ((a + k:Nat):Int)=er b a k:=by unfold sub er;rw [Int.toNat_natCast,Int.toNat_natCast,List.drop_take,Nat.add_sub_cancel_left]
theorem lu {b:aR} {a k:Nat} (h:a + k<=b.length):(er b a k).length=k:=by unfold er;rw [List.length_take,List.length_drop];omega
theorem Gp {b:aR} {a k i:Nat} {x:Int×Unit} (h:(er b a k)[i]? = some x):i < k/\b[a + i]? = some x:=by
 unfold er at h;rw [List.getElem?_take] at h;split at h
 . rw [List.getElem?_drop] at h;exact ⟨by assumption,h⟩
 . simp at h
theorem Pb {b:aR} {a k:Nat} {x:Int×Unit} (h:x∈er b a k):x∈b:=List.mem_of_mem_drop (List.mem_of_mem_take h)
theorem Dh {b:aR} {a k:Nat} (h:a + k<=b.length):dJ (a:Int) ((a + k:Nat):Int) b=true:=by show (decide ((0:Int)<=(a:Int)) && (decide ((a:Int)<=((a + k:Nat):Int)) && decide (((a + k:Nat):Int)<=(b.length:Int))))=true;rw [decide_eq_true (by omega),decide_eq_true (by omega),decide_eq_true (by omega)]; rfl
theorem zw (b:aR) (a k:Nat) (hb:b.length<=1048576) (ha:a<=b.length) (hk:k<=1048576):yE b a k=some ((),(if a + k<=b.length then ((er b a k,()),(true,()),()) else (([],()),(false,()),()))):=by
 unfold yE;have e:aH .i64 (ae b) (a:Int)=(b.length:Int) - a:=aN (by show -4611686018427387904<=(b.length:Int) - a; omega) (by show (b.length:Int) - a<=_; omega);have i1:dF (a:Int) 0 (ae b)=true:=fe.2 ⟨by omega,by show (a:Int)<=(b.length:Int); omega⟩;have e2:aq .i64 (a:Int) (k:Int)=((a + k:Nat):Int):=by rw [bb (by omega) (by omega)]; omega
 dsimp only;rw [jD,e,e2];dsimp only [Option.bind_some];rw [i1,az (a:=(k:Int)) (b:=0) (by omega)];by_cases h:a + k<=b.length
 . rw [az (by omega),if_pos h,Dh h,I9];rfl
 . rw [aF (by omega),if_neg h]; rfl
def dP (s:List UInt8):Bool:=s.all fun x=>cond (au (x.toNat:Int) 32) false (!(au 126 (x.toNat:Int)))
theorem C9 (s:List UInt8) (hs:s.length<=aX):yo s=some ((),((dP s,()),())):=by
 unfold yo;have h:=aD (step:=wP o8) s (fun i (_:Unit)=>(s,((i:Nat):Int),())) (fun _ x _=>bif cond (au (x.toNat:Int) 32) false (!(au 126 (x.toNat:Int))) then Sum.inl () else .inr (.inr (false,()))) (fun _=> .inl (s,(s.length:Int),())) (a0:=()) (fun i x a hx=>by
  have hlt:=ak hx;show o8 s (i:Int)=_;unfold o8;rw [aG hx,aC hx,eE hx,aP (by omega)];dsimp only [cond_true];cases au (x.toNat:Int) 32 <;> cases au 126 (x.toNat:Int) <;> rfl) (fun a=>by
  show o8 s (s.length:Int)=_;unfold o8;rw [ax rfl]; rfl)
 rw [fM] at h;have h':IM s 0=_:=h;rw [h'];unfold dP;cases s.all _ <;> rfl
theorem JY (s:List UInt8) (hs:s.length<=aX):FE s=some ((),((dP s,()),())):=by
 unfold FE;have h:=aD (step:=fc oX) s (fun i (_:Unit)=>(s,ae s,((i:Nat):Int),())) (fun _ x _=>bif cond (au (x.toNat:Int) 32) false (!(au 126 (x.toNat:Int))) then Sum.inl () else .inr (.inr (false,()))) (fun _=> .inl (s,ae s,(s.length:Int),())) (a0:=()) (fun i x a hx=>by
  have hlt:=ak hx;show oX s (ae s) (i:Int)=_;unfold oX;rw [aG hx,aC hx,eE hx,aP (by omega)];dsimp only [cond_true];cases au (x.toNat:Int) 32 <;> cases au 126 (x.toNat:Int) <;> rfl) (fun a=>by
  show oX s (ae s) (s.length:Int)=_;unfold oX;rw [ax rfl]; rfl)
 rw [fM] at h;have h':Ii s (ae s) 0=_:=h;rw [h'];unfold dP;cases s.all _ <;> rfl
def ke (acc:Nat) (s:List UInt8):Nat:=s.foldl (fun n x=>n * 10 + (x.toNat - 48)) acc
theorem ze:∀ (s:List UInt8) (acc k:Nat),s.all fJ=true->acc < 10 ^ k->ke acc s < 10 ^ (k + s.length)
 | [],acc,k,_,h=>h
 | x :: s,acc,k,hd,h=>by simp only [List.all_cons,Bool.and_eq_true] at hd;have:=fF.1 hd.1;have h2:=ze s (acc * 10 + (x.toNat - 48)) (k + 1) hd.2 (by rw [Nat.pow_succ]; omega);rw [List.length_cons,show k + (s.length + 1)=k + 1 + s.length by omega];exact h2
theorem zP:∀ (s:List UInt8) (acc:Nat),s.all fJ=true->ke acc s < 1844674407370955162->Lib.parseUint10 acc s= .ok (ke acc s)
 | [],acc,_,_=>rfl
 | x :: s,acc,hd,h=>by
   simp only [List.all_cons,Bool.and_eq_true] at hd;have hx:=fF.1 hd.1;have hmono:∀ (s:List UInt8) (a:Nat),a<=ke a s:=fun s=>by
    induction s with
    | nil=>intro a; exact Nat.le_refl _
    | cons y s ih=>intro a; exact Nat.le_trans (by omega) (ih (a * 10 + (y.toNat - 48)))
   have h1:=hmono s (acc * 10 + (x.toNat - 48));have h:ke (acc * 10 + (x.toNat - 48)) s < 1844674407370955162:=h;have ih:=zP s (acc * 10 + (x.toNat - 48)) hd.2 h;unfold Lib.parseUint10;rw [if_pos hx,if_neg (by omega),if_neg (by omega),ih];rfl
theorem cZ {s:List UInt8}:aS s=true↔s.all fJ=true/\s≠[]:=by
 unfold aS;cases s.all fJ with
 | false=>simp
 | true=>cases s <;> simp [au,ae]
def wQ (s:List UInt8):Option Nat:=if aS s=true/\s.length<=18 then some (ke 0 s) else none
def LA (o:Option Nat):Option (Unit×((Int×Unit)×(Bool×Unit)×Unit)):=some ((),match o with | some n=>(((n:Int),()),(true,()),()) | none=>((0,()),(false,()),()))
theorem MJ (s:List UInt8) (hs:s.length<=aX):Ct s=LA (wQ s):=by
 unfold Ct sT wQ;rw [gF s hs];dsimp only [Option.bind_some];cases hd:aS s with
 | false=>rfl
 | true =>
   by_cases h18:s.length<=18
   . rw [if_pos ⟨rfl,h18⟩,Nat.ble_eq_true_of_le h18];obtain ⟨h1,h2⟩:=cZ.1 hd;have hb:=ze s 0 0 h1 (by decide);have hb2:ke 0 s < 1000000000000000000:=Nat.lt_of_lt_of_le hb (by rw [Nat.zero_add]; exact Nat.pow_le_pow_right (by decide) h18);have hu:=zP s 0 h1 (by omega);have hv:Lib.atoiAll s= .ok (ke 0 s:Int):=by
      cases s with
      | nil=>exact absurd rfl h2
      | cons c r => have hc:=List.all_eq_true.1 h1 c (by simp);have hc:=fF.1 hc;rw [Lib.atoiAll_plain c r (by omega) (by omega)];unfold Lib.parseMag;rw [if_neg (by simp),hu];show (if 9223372036854775808<=ke 0 (c :: r) then _ else _)=_;rw [if_neg (by omega)]
     rw [hv];rfl
   . rw [if_neg (fun h=>h18 h.2)];have:Nat.ble s.length 18=false:=by
      cases h:Nat.ble s.length 18 with
      | false=>rfl
      | true=>exact absurd (Nat.le_of_ble_eq_true h) h18
     rw [this];rfl
theorem Dp (s:List UInt8) (hs:s.length<=aX):sG s=LA (wQ s):=by
 have hbig:aX=140737488355328:=rfl;unfold sG wQ;rw [fG s hs];dsimp only [Option.bind_some];cases hd:aS s with
 | false=>rfl
 | true =>
   by_cases h18:s.length<=18
   . rw [if_pos ⟨rfl,h18⟩,az (by show ¬ (18:Int) < (s.length:Int); omega)];obtain ⟨h1,h2⟩:=cZ.1 hd;have h:=a6 (step:=fc oN) s (fun i (a:Nat)=>(s,(a:Int),((i:Nat):Int),())) (fun _ x a=>Sum.inl (a * 10 + (x.toNat - 48))) (fun a=> .inl (s,(a:Int),(s.length:Int),())) (fun i a=>a < 10 ^ i) (a0:=0) (by decide) (fun i x a hx ha=>by
      have hlt:=ak hx;have hc:=fF.1 (List.all_eq_true.1 h1 x (List.mem_of_getElem? hx));have h17:a < 10 ^ 17:=Nat.lt_of_lt_of_le ha (Nat.pow_le_pow_right (by decide) (by omega));have h17':a < 100000000000000000:=h17;show oN s (a:Int) (i:Int)=_;unfold oN;have m:iq .i64 (a:Int) 10=((a * 10:Nat):Int):=by unfold iq; rw [IntKind.wrap_i64]; omega
      have c:bP .i64 (x.toNat:Int)=(x.toNat:Int):=by unfold bP; rw [IntKind.wrap_i64]; omega
      rw [aG hx,aC hx,eE hx,aP (by omega),m,c,bb (by omega) (by omega),aN (by omega) (by omega)];dsimp only [cond_true];rw [show ((a * 10:Nat):Int) + (x.toNat:Int) - 48=((a * 10 + (x.toNat - 48):Nat):Int) by omega]) (fun i x a a' hx ha hf=>by
      have hc:=fF.1 (List.all_eq_true.1 h1 x (List.mem_of_getElem? hx));simp only [Sum.inl.injEq] at hf;rw [<- hf,Nat.pow_succ];omega) (fun a ha=>by
      show oN s (a:Int) (s.length:Int)=_;unfold oN;rw [ax rfl]; rfl)
     rw [bC] at h;have h':Hv s 0 0=_:=h;rw [h'];rfl
   . rw [if_neg (fun h=>h18 h.2),aF (by show (18:Int) < (s.length:Int); omega)];rfl
theorem Gb {s t:List UInt8} (h:s.length + t.length<=aX):SI s t=true:=Nat.ble_eq_true_of_le h
def JI (x:Int×Unit):List UInt8:=[UInt8.ofNat (48 + x.1.toNat / 16),UInt8.ofNat (48 + x.1.toNat % 16)]
def nG (l:aR):List UInt8:=(l.map JI).flatten
theorem qe:∀ l:aR,(nG l).length=2 * l.length
 | []=>rfl
 | x :: r=>by have:=qe r;unfold nG at this ⊢;simp only [List.map_cons,List.flatten_cons,List.length_append,this,JI,List.length_cons,List.length_nil];omega
def zq:List UInt8->aR
 | []=>[]
 | x :: r=>((x.toNat:Int),()) :: zq r
theorem qI:∀ q:List UInt8,strOf (zq q)=q
 | []=>rfl
 | x :: r=>by show UInt8.ofNat (Int.toNat (x.toNat:Int)) :: strOf (zq r)=_;rw [qI r,Int.toNat_natCast];simp
theorem sS:∀ q:List UInt8,(zq q).length=q.length
 | []=>rfl
 | x :: r=>congrArg (· + 1) (sS r)
theorem DQ:∀ q r:List UInt8,zq (q ++ r)=zq q ++ zq r
 | [],r=>rfl
 | x :: q,r=>congrArg (((x.toNat:Int),()) :: ·) (DQ q r)
theorem Ad:∀ (n:Nat) (q:List UInt8),(zq q).drop n=zq (q.drop n)
 | 0,q=>by simp
 | n + 1,[]=>rfl
 | n + 1,x :: r=>Ad n r
def iG (b:aR) (a n:Nat):Option (List UInt8) :=
 if 1<=n/\n<=38/\a + (n + 1) / 2<=b.length then
  (if (nG (er b a ((n + 1) / 2))).all fJ=true/\(n % 2=1->(nG (er b a ((n + 1) / 2))).head? = some 48) then some ((nG (er b a ((n + 1) / 2))).drop (n % 2)) else none)
 else none
def xa (o:Option (List UInt8)) (e:Int):Option (Unit×((List UInt8×Unit)×(Int×Unit)×(Bool×Unit)×Unit)):=some ((),match o with | some s=>((s,()),(e,()),(true,()),()) | none=>(([],()),(0,()),(false,()),()))
theorem yz {s:List UInt8}:s.head? = some 48↔∃ r,s=48 :: r:=by
 cases s with
 | nil=>simp
 | cons x r=>simp
theorem IT (n:Nat) (h:n<=1048576):n9 .i64 (aq .i64 (n:Int) 1) 2=(((n + 1) / 2:Nat):Int):=by rw [bb (by omega) (by omega)];unfold n9;rw [Int.tdiv_eq_ediv_of_nonneg (by omega),IntKind.wrap_i64];omega
theorem MX (n:Nat):aj (gH (n:Int) 2) 1=decide (n % 2=1):=by
 unfold aj gH;rw [Int.tmod_eq_emod_of_nonneg (by omega)];by_cases h:n % 2=1
 . rw [decide_eq_true h]; exact beq_iff_eq.2 (by omega)
 . rw [decide_eq_false h]; exact beq_eq_false_iff_ne.2 (by omega)
theorem TY (x:Int×Unit) (h:0<=x.1/\x.1<=255):strOf [((bP .u8 (aq .i64 48 (n9 .i64 (bP .i64 x.1) 16))),()),((bP .u8 (aq .i64 48 (gH (bP .i64 x.1) 16))),())]=JI x:=by
 obtain ⟨⟨n,hn⟩,hn2⟩:(∃ n:Nat,x.1=n)/\x.1<=255:=⟨⟨x.1.toNat,by omega⟩,h.2⟩;have c:bP .i64 x.1=(n:Int):=by unfold bP; rw [IntKind.wrap_i64]; omega
 have q:n9 .i64 (n:Int) 16=((n / 16:Nat):Int):=by unfold n9; rw [Int.tdiv_eq_ediv_of_nonneg (by omega),IntKind.wrap_i64]; omega
 have r:gH (n:Int) 16=((n % 16:Nat):Int):=by unfold gH; rw [Int.tmod_eq_emod_of_nonneg (by omega)]; omega
 have u:∀ k:Nat,k<=16->bP .u8 (aq .i64 48 (k:Int))=((48 + k:Nat):Int):=fun k hk=>by rw [bb (by omega) (by omega)]; unfold bP; rw [IntKind.wrap_u8]; omega
 rw [c,q,r,u _ (by omega),u _ (by omega)];unfold strOf JI;rw [hn];rfl
theorem TM:∀ c:Fin 256,aq .u8 48 (ib .u8 (c.val:Int) 4)=((48 + c.val / 16:Nat):Int)/\aq .u8 48 (yP .u8 (c.val:Int) 15)=((48 + c.val % 16:Nat):Int):=by decide +kernel
theorem Es {s:List UInt8} (h:∃ r,s=48 :: r):(s.drop 1).all fJ=s.all fJ:=by obtain ⟨r,rfl⟩:=h;rfl
theorem IP {s:List UInt8} (hs:s≠[]):aj (dm s 0) 48=true↔∃ r,s=48 :: r:=by
 cases s with
 | nil=>exact absurd rfl hs
 | cons x r =>
   show ((x.toNat:Int) == 48)=true↔_;rw [beq_iff_eq];refine ⟨fun h=>⟨r,?_⟩,fun ⟨r',h⟩ => ?_⟩
   . have:x=48:=UInt8.toNat_inj.1 (by show x.toNat=48; omega);rw [this]
   . rw [(List.cons.inj h).1]; rfl
theorem mu {s:List UInt8} (hs:s≠[]):aS s=s.all fJ:=by
 cases h:s.all fJ with
 | true=>exact cZ.2 ⟨h,hs⟩
 | false =>
   cases h2:aS s with
   | false=>rfl
   | true=>rw [(cZ.1 h2).1] at h; simp at h
theorem LI {s:List UInt8} {n:Nat} (h:n < s.length):s.drop n≠[]:=fun e=>by have:=congrArg List.length e;rw [List.length_drop] at this;simp only [List.length_nil] at this;omega
theorem C1 (b:aR) (a n:Nat) (hb:xX b) (ha:a<=b.length) (hn:n<=1048576):tX b a n=xa (iG b a n) ((a + (n + 1) / 2:Nat):Int):=by
 have hbig:aX=140737488355328:=rfl;have hl:=hb.1;unfold tX iG;have e:aH .i64 (ae b) (a:Int)=(b.length:Int) - a:=aN (by show -4611686018427387904<=(b.length:Int) - a; omega) (by show (b.length:Int) - a<=_; omega);have hq:=IT n hn;dsimp only;rw [e,hq,az (a:=(a:Int)) (b:=0) (by omega),az (a:=ae b) (b:=(a:Int)) (by show ¬ (b.length:Int) < a; omega)];by_cases h1:1<=n/\n<=38;rotate_left
 . rw [if_neg (fun h=>h1 ⟨h.1,h.2.1⟩)];by_cases h0:(n:Int) < 1
   . rw [aF h0]; rfl
   . rw [az h0,aF (by omega)]; rfl
 rw [az (a:=(n:Int)) (b:=1) (by omega),az (a:=38) (b:=(n:Int)) (by omega)];dsimp only [cond_false,cond_true];by_cases h2:a + (n + 1) / 2<=b.length;rotate_left
 . rw [if_neg (fun h=>h2 h.2.2),aF (by omega)]; rfl
 rw [if_pos ⟨h1.1,h1.2,h2⟩,az (by omega)];dsimp only [cond_false];have hpl:=lu h2;have h:=a6 (step:=ft pn) (er b a ((n + 1) / 2)) (fun i (o:List UInt8)=>(b,(a:Int),(n:Int),o,((a + i:Nat):Int),())) (fun _ x o=>Sum.inl (o ++ JI x)) (fun o=> .inl (b,(a:Int),(n:Int),o,((a + (n + 1) / 2:Nat):Int),())) (fun i o=>o.length=2 * i) (a0:=[]) rfl (fun i x o hx ho=>by
  obtain ⟨hik,hg⟩:=Gp hx;have hlt:=ak hg;show pn b (a:Int) (n:Int) o ((a + i:Nat):Int)=_;unfold pn;rw [hq,bb (by omega) (by omega),aF (by omega),aC hg,aV _ hg];dsimp only [cond_true];rw [TY x (hb.2 x (List.mem_of_getElem? hg)),Gb (by show o.length + 2<=aX; omega),aP (by omega)];rfl) (fun i x o o' hx ho hf=>by
  simp only [Sum.inl.injEq] at hf;rw [<- hf,List.length_append,ho];show 2 * i + 2=_;omega) (fun o ho=>by
  show pn b (a:Int) (n:Int) o ((a + (er b a ((n + 1) / 2)).length:Nat):Int)=_;unfold pn;rw [hq,bb (by omega) (by omega),hpl,az (by omega)]; rfl)
 have hfold:∀ (l:aR) (o:List UInt8),l.foldl (fun o x=>o ++ JI x) o=o ++ nG l:=fun l=>by
  induction l with
  | nil=>intro o; simp [nG]
  | cons x r ih=>intro o; rw [List.foldl_cons,ih]; simp [nG]
 rw [bC,hfold,List.nil_append] at h;have h':HS b (a:Int) (n:Int) [] (a:Int)=_:=h;rw [h'];generalize hs:nG (er b a ((n + 1) / 2))=s;have hsl:s.length=2 * ((n + 1) / 2):=by rw [<- hs,qe,hpl]
 have hsne:s≠[]:=fun e=>by rw [e] at hsl; simp only [List.length_nil] at hsl; omega
 dsimp only [Option.bind_some,Sum.elim_inl];rw [MX,hq,bb (by omega) (by omega),show (a:Int) + (((n + 1) / 2:Nat):Int)=((a + (n + 1) / 2:Nat):Int) by omega];by_cases hp:n % 2=1
 . rw [decide_eq_true hp,hp];have i0:a7 0 s=true:=ld (i:=0) (by omega);have c1:dJ 1 (ae s) s=true:=by
    show (decide ((0:Int)<=1) && (decide ((1:Int)<=(s.length:Int)) && decide ((s.length:Int)<=(s.length:Int))))=true;rw [decide_eq_true (by omega),decide_eq_true (by omega),decide_eq_true (by omega)]; rfl
   have sb:sub s 1 (ae s)=s.drop 1:=by show (s.take (Int.toNat (s.length:Int))).drop 1=_;rw [Int.toNat_natCast,List.take_length]
   rw [i0];dsimp only [cond_true];by_cases h48:∃ r,s=48 :: r
   . rw [(IP hsne).2 h48];rw [c1,sb,fG _ (by rw [List.length_drop]; omega),mu (LI (by omega)),Es h48];dsimp only [cond_true,Option.bind_some];cases hd:s.all fJ with
     | false=>rw [if_neg (fun h=>by simp at h)]; rfl
     | true=>rw [if_pos ⟨rfl,fun _=>yz.2 h48⟩]; rfl
   . have:aj (dm s 0) 48=false:=by
      cases h:aj (dm s 0) 48 with
      | false=>rfl
      | true=>exact absurd ((IP hsne).1 h) h48
     rw [this,if_neg (fun h=>h48 (yz.1 (h.2 rfl)))]; rfl
 . rw [decide_eq_false hp];have hp0:n % 2=0:=by omega
   rw [hp0];dsimp only [cond_false];rw [fG _ (by omega),mu hsne];dsimp only [Option.bind_some];cases hd:s.all fJ with
   | false=>rw [if_neg (fun h=>by simp at h)]; rfl
   | true=>rw [if_pos ⟨rfl,fun h=>by simp at h⟩]; rfl
theorem Jr (b:aR) (a n:Nat) (hb:xX b) (ha:a<=b.length) (hn:n<=1048576):yD b a n=xa (iG b a n) ((a + (n + 1) / 2:Nat):Int):=by
 have hbig:aX=140737488355328:=rfl;have hl:=hb.1;unfold yD iG;rw [jD,IT n hn];dsimp only [Option.bind_some];by_cases h1:1<=n/\n<=38;rotate_left
 . rw [if_neg (fun h=>h1 ⟨h.1,h.2.1⟩)];have:dF (n:Int) 1 38=false:=by
    cases h:dF (n:Int) 1 38 with
    | false=>rfl
    | true=>have:=fe.1 h; omega
   rw [this]; rfl
 rw [fe.2 (by omega:(1:Int)<=n/\(n:Int)<=38),zw b a _ hl ha (by omega)];have hloop:∀ (t9:aR) (t10:Bool) (p:aR),(∀ x∈p,0<=x.1/\x.1<=255)->p.length<=20->Ha (a:Int) (n:Int) t9 t10 [] p (ae p) 0=some (.inl ((a:Int),(n:Int),t9,t10,zq (nG p),p,ae p,(p.length:Int),())):=fun t9 t10 p hp hpl=>by
  have h:=a6 (step:=xQ nH) p (fun i (o:aR)=>((a:Int),(n:Int),t9,t10,o,p,ae p,((i:Nat):Int),())) (fun _ x o=>Sum.inl (o ++ zq (JI x))) (fun o=> .inl ((a:Int),(n:Int),t9,t10,o,p,ae p,(p.length:Int),())) (fun i o=>o.length=2 * i) (a0:=[]) rfl (fun i x o hx ho=>by
   have hlt:=ak hx;have hx2:=hp x (List.mem_of_getElem? hx);show nH (a:Int) (n:Int) t9 t10 o p (ae p) (i:Int)=_;unfold nH;rw [aG hx,aC hx,aV _ hx,aP (by omega)];obtain ⟨k,hk⟩:∃ k:Nat,x.1=k:=⟨x.1.toNat,by omega⟩;have hf:=TM ⟨k,by omega⟩;dsimp only at hf;rw [hk,hf.1,hf.2];dsimp only [cond_true];have:∀ ys:aR,ys.length=2->cQ 1 o ys=true:=fun ys hy=>Nat.ble_eq_true_of_le (by rw [hy]; omega)
   rw [this _ rfl];have e1:∀ m:Nat,m < 256->(UInt8.ofNat m).toNat=m:=fun m hm=>by simp [Nat.mod_eq_of_lt hm]
   show some (Sum.inl _)=some (Sum.inl _);unfold JI;rw [hk];simp only [Int.toNat_natCast,zq,lP,e1 (48 + k / 16) (by omega),e1 (48 + k % 16) (by omega)]) (fun i x o o' hx ho hf=>by
   simp only [Sum.inl.injEq] at hf;rw [<- hf,List.length_append,ho];show 2 * i + 2=_;omega) (fun o ho=>by
   show nH (a:Int) (n:Int) t9 t10 o p (ae p) (p.length:Int)=_;unfold nH;rw [ax rfl]; rfl)
  have hfold:∀ (l:aR) (o:aR),l.foldl (fun o x=>o ++ zq (JI x)) o=o ++ zq (nG l):=fun l=>by
   induction l with
   | nil=>intro o; show o=o ++ []; rw [List.append_nil]
   | cons x r ih=>intro o; rw [List.foldl_cons,ih,show nG (x :: r)=JI x ++ nG r from rfl,DQ,List.append_assoc]
  rw [bC,hfold,List.nil_append] at h;exact h
 by_cases h2:a + (n + 1) / 2<=b.length;rotate_left
 . rw [if_neg h2,if_neg (fun h=>h2 h.2.2)];exact (bn (hloop [] false [] (fun x hx=>by simp at hx) (by simp))).trans rfl
 rw [if_pos h2,if_pos ⟨h1.1,h1.2,h2⟩];have hpl:=lu h2;refine (bn (hloop _ true _ (fun x hx=>hb.2 x (Pb hx)) (by omega))).trans ?_;generalize hs:nG (er b a ((n + 1) / 2))=s;have hsl:s.length=2 * ((n + 1) / 2):=by rw [<- hs,qe,hpl]
 have hsne:s≠[]:=fun e=>by rw [e] at hsl; simp only [List.length_nil] at hsl; omega
 show Option.bind (sI (strOf (zq s))) _=_;rw [qI,gF _ (by omega),mu hsne];generalize hm:zq s=m;have hlm:ae m=(s.length:Int):=by rw [<- hm]; show ((zq s).length:Int)=_; rw [sS]
 have hcut:aH .i64 (s.length:Int) (n:Int)=((n % 2:Nat):Int):=by rw [aN (by omega) (by omega)]; omega
 have hpc:ae (er b a ((n + 1) / 2))=(((n + 1) / 2:Nat):Int):=by show ((er b a _).length:Int)=_; rw [hpl]
 have c1:dJ ((n % 2:Nat):Int) (s.length:Int) m=true:=by show (decide ((0:Int)<=((n % 2:Nat):Int)) && (decide (((n % 2:Nat):Int)<=(s.length:Int)) && decide ((s.length:Int)<=(m.length:Int))))=true;rw [show (m.length:Int)=(s.length:Int) from hlm,decide_eq_true (by omega),decide_eq_true (by omega),decide_eq_true (by omega)]; rfl
 have sb:strOf (sub m ((n % 2:Nat):Int) (s.length:Int))=s.drop (n % 2):=by rw [<- hm];show strOf (((zq s).take (Int.toNat (s.length:Int))).drop (Int.toNat ((n % 2:Nat):Int)))=_;rw [Int.toNat_natCast,Int.toNat_natCast,List.take_of_length_le (by rw [sS]; exact Nat.le_refl _)];exact (congrArg strOf (Ad _ _)).trans (qI _)
 have hF:(cond (dJ (aH .i64 (ae m) (n:Int)) (ae m) m) (some ((),((strOf (sub m (aH .i64 (ae m) (n:Int)) (ae m)),()),(aq .i64 (a:Int) (ae (er b a ((n + 1) / 2))),()),(true,()),()))) none:Option (Unit×((List UInt8×Unit)×(Int×Unit)×(Bool×Unit)×Unit)))=xa (some (s.drop (n % 2))) ((a + (n + 1) / 2:Nat):Int):=by rw [hlm,hcut,hpc,bb (by omega) (by omega),c1,sb,show (a:Int) + (((n + 1) / 2:Nat):Int)=((a + (n + 1) / 2:Nat):Int) by omega];rfl
 show cond (!(s.all fJ)) (some ((),(([],()),(0,()),(false,()),()))) (cond (aj (gH (n:Int) 2) 1) (cond (a7 0 m) (cond (!(aj (gt (0,()) m 0).1 48)) (some ((),(([],()),(0,()),(false,()),()))) (cond (dJ (aH .i64 (ae m) (n:Int)) (ae m) m) (some ((),((strOf (sub m (aH .i64 (ae m) (n:Int)) (ae m)),()),(aq .i64 (a:Int) (ae (er b a ((n + 1) / 2))),()),(true,()),()))) none)) none)
  (cond (dJ (aH .i64 (ae m) (n:Int)) (ae m) m) (some ((),((strOf (sub m (aH .i64 (ae m) (n:Int)) (ae m)),()),(aq .i64 (a:Int) (ae (er b a ((n + 1) / 2))),()),(true,()),()))) none))=_
 rw [hF,MX];cases hd:s.all fJ with
 | false=>rw [if_neg (fun h=>by simp at h)]; rfl
 | true =>
   by_cases hp:n % 2=1
   . rw [decide_eq_true hp];subst hm;have hm0:∃ x r,s=x :: r:=by
      cases s with
      | nil=>exact absurd rfl hsne
      | cons x r=>exact ⟨x,r,rfl⟩
     obtain ⟨x,r,rfl⟩:=hm0;have i0:a7 0 (zq (x :: r))=true:=ld (i:=0) (by rw [sS]; simp);rw [i0];show cond (!(aj (x.toNat:Int) 48)) _ _=_;by_cases h48:x.toNat=48
     . have hx:x=48:=UInt8.toNat_inj.1 h48;rw [show aj (x.toNat:Int) 48=true from beq_iff_eq.2 (by omega),if_pos ⟨rfl,fun _=>by rw [hx]; rfl⟩]; rfl
     . rw [show aj (x.toNat:Int) 48=false from beq_eq_false_iff_ne.2 (by omega),if_neg (fun h=>by obtain ⟨r',h⟩:=yz.1 (h.2 hp);rw [(List.cons.inj h).1] at h48;exact h48 rfl)]; rfl
   . rw [decide_eq_false hp,if_pos ⟨rfl,fun h=>absurd h hp⟩]; rfl
def qa (p:aR) (i:Nat):Bool:=aj (gH (ib .i64 (bP .i64 (p.getD (i / 8) (0,())).1) ((7 - i % 8:Nat):Int)) 2) 1
def dR (p:aR):aR:=((List.range 64).filter (qa p)).map fun i=>(((i + 1:Nat):Int),())
theorem OP:∀ (c:Fin 256) (r:Fin 8),(!(aj (yP .u8 (c.val:Int) (ib .u8 128 (r.val:Int))) 0))=aj (gH (ib .i64 (bP .i64 (c.val:Int)) ((7 - r.val:Nat):Int)) 2) 1:=by decide +kernel
theorem rz (p:aR):∀ (l:List Nat) (o:aR),l.foldl (fun o i=>bif qa p i then o ++ [(((i + 1:Nat):Int),())] else o) o=o ++ (l.filter (qa p)).map fun i=>(((i + 1:Nat):Int),())
 | [],o=>by simp
 | i :: l,o=>by rw [List.foldl_cons,rz p l,List.filter_cons];cases qa p i <;> simp
theorem Dc {i x:Nat} (h:(List.range 64)[i]? = some x):x=i/\i < 64:=by have:=(List.getElem?_eq_some_iff.1 h);obtain ⟨h1,h2⟩:=this;rw [List.getElem_range] at h2;exact ⟨h2.symm,by simpa using h1⟩
theorem QT {i:Nat} (h:i < 64):aH .i64 ((i + 1:Nat):Int) 1=(i:Int)/\n9 .i64 (i:Int) 8=((i / 8:Nat):Int)/\gH (i:Int) 8=((i % 8:Nat):Int)/\bz ((i + 1:Nat):Int) 64=true:=by
 refine ⟨by rw [aN (by omega) (by omega)]; omega,?_,?_,decide_eq_true (by omega)⟩
 . unfold n9;rw [Int.tdiv_eq_ediv_of_nonneg (by omega),IntKind.wrap_i64];omega
 . unfold gH;rw [Int.tmod_eq_emod_of_nonneg (by omega)];omega
def np (b:aR) (a:Nat):Option (Unit×((aR×Unit)×(Int×Unit)×(Bool×Unit)×Unit)):=some ((),(if a + 8<=b.length then ((dR (er b a 8),()),(((a + 8:Nat):Int),()),(true,()),()) else (([],()),(0,()),(false,()),())))
theorem Dt (b:aR) (a k i:Nat) (hi:i < k) (h:a + k<=b.length):∃ x,b[a + i]? = some x/\(er b a k).getD i (0,())=x/\(er b a k)[i]? = some x:=by obtain ⟨x,hx⟩:∃ x,(er b a k)[i]? = some x:=⟨_,List.getElem?_eq_getElem (by rw [lu h]; exact hi)⟩;exact ⟨x,(Gp hx).2,by rw [List.getD_eq_getElem?_getD,hx]; rfl,hx⟩
theorem H4 (b:aR) (a:Nat) (hb:xX b) (ha:a<=b.length):CB b a=np b a:=by
 have hbig:aX=140737488355328:=rfl;have hl:=hb.1;unfold CB np;have e:aH .i64 (ae b) 8=(b.length:Int) - 8:=aN (by show -4611686018427387904<=(b.length:Int) - 8; omega) (by show (b.length:Int) - 8<=_; omega);rw [e,az (a:=(a:Int)) (b:=0) (by omega)];by_cases h8:a + 8<=b.length;rotate_left
 . rw [if_neg h8,aF (by omega)]; rfl
 rw [if_pos h8,az (by omega)];have h:=a6 (step:=cW qT) (List.range 64) (fun i (o:aR)=>(b,(a:Int),o,((i + 1:Nat):Int),())) (fun _ x o=>Sum.inl (bif qa (er b a 8) x then o ++ [(((x + 1:Nat):Int),())] else o)) (fun o=> .inl (b,(a:Int),o,65,())) (fun i o=>o.length<=i) (a0:=[]) (Nat.le_refl _) (fun i x o hx ho=>by
  obtain ⟨rfl,hi⟩:=Dc hx;obtain ⟨e1,e2,e3,e4⟩:=QT hi;obtain ⟨c,hc,hd,_⟩:=Dt b a 8 (x / 8) (by omega) h8;show qT b (a:Int) o ((x + 1:Nat):Int)=_;unfold qT;have e5:aH .i64 7 ((x % 8:Nat):Int)=((7 - x % 8:Nat):Int):=by rw [aN (by omega) (by omega)]; omega
  have e6:aq .i64 (a:Int) ((x / 8:Nat):Int)=((a + x / 8:Nat):Int):=by rw [bb (by omega) (by omega)]; omega
  have hbit:qa (er b a 8) x=aj (gH (ib .i64 (bP .i64 c.1) ((7 - x % 8:Nat):Int)) 2) 1:=by unfold qa; rw [hd]
  dsimp only;rw [e4,e1,e2,e3,e5,e6,aC hc,aV _ hc,show bz 0 ((7 - x % 8:Nat):Int)=true from decide_eq_true (by omega),<- hbit,aP (by omega)];have:cQ 8 o [(((x + 1:Nat):Int),())]=true:=Nat.ble_eq_true_of_le (by show (o.length + 1) * 8<=aX; omega);rw [this];cases qa (er b a 8) x <;> rfl) (fun i x o o' hx ho hf=>by
  simp only [Sum.inl.injEq] at hf;rw [<- hf];cases qa (er b a 8) x with
  | false=>show o.length<=_; omega
  | true=>show (o ++ [_]).length<=_; rw [List.length_append]; show o.length + 1<=_; omega) (fun o ho=>by
  show qT b (a:Int) o (((List.range 64).length + 1:Nat):Int)=_;rfl)
 rw [bC,rz,List.nil_append] at h;have h':Jl b (a:Int) [] 1=_:=h;refine (bn h').trans ?_;show some ((),((_,()),(aq .i64 (a:Int) 8,()),(true,()),()))=_;rw [bb (by omega) (by omega)];rfl
theorem I7 (b:aR) (a:Nat) (hb:xX b) (ha:a<=b.length):zS b a=np b a:=by
 have hbig:aX=140737488355328:=rfl;have hl:=hb.1;unfold zS np;have hp:yE b (a:Int) 8=_:=zw b a 8 hl ha (by decide);rw [hp];by_cases h8:a + 8<=b.length;rotate_left
 . rw [if_neg h8,if_neg h8]; rfl
 rw [if_pos h8,if_pos h8];generalize hq:er b a 8=p;have h:=a6 (step:=cW qN) (List.range 64) (fun i (o:aR)=>((a:Int),p,o,((i + 1:Nat):Int),())) (fun _ x o=>Sum.inl (bif qa p x then o ++ [(((x + 1:Nat):Int),())] else o)) (fun o=> .inl ((a:Int),p,o,65,())) (fun i o=>o.length<=i) (a0:=[]) (Nat.le_refl _) (fun i x o hx ho=>by
  obtain ⟨rfl,hi⟩:=Dc hx;obtain ⟨e1,e2,e3,e4⟩:=QT hi;obtain ⟨c,hc,hd,hc2⟩:=Dt b a 8 (x / 8) (by omega) h8;rw [hq] at hd hc2;have hcb:=hb.2 c (List.mem_of_getElem? hc);show qN (a:Int) p o ((x + 1:Nat):Int)=_;unfold qN;obtain ⟨k,hk⟩:∃ k:Nat,c.1=k:=⟨c.1.toNat,by omega⟩;have hbe:=OP ⟨k,by omega⟩ ⟨x % 8,by omega⟩;dsimp only at hbe;have hbit:qa p x= !(aj (yP .u8 c.1 (ib .u8 128 ((x % 8:Nat):Int))) 0):=by unfold qa; rw [hd,hk,hbe]
  dsimp only;rw [e4,e1,e2,e3,aC hc2,aV _ hc2,show bz 0 ((x % 8:Nat):Int)=true from decide_eq_true (by omega),<- hbit,aP (by omega)];have:cQ 8 o [(((x + 1:Nat):Int),())]=true:=Nat.ble_eq_true_of_le (by show (o.length + 1) * 8<=aX; omega);rw [this];cases qa p x <;> rfl) (fun i x o o' hx ho hf=>by
  simp only [Sum.inl.injEq] at hf;rw [<- hf];cases qa p x with
  | false=>show o.length<=_; omega
  | true=>show (o ++ [_]).length<=_; rw [List.length_append]; show o.length + 1<=_; omega) (fun o ho=>by
  show qN (a:Int) p o (((List.range 64).length + 1:Nat):Int)=_;rfl)
 rw [bC,rz,List.nil_append] at h;have h':GX (a:Int) p [] 1=_:=h;refine (bn h').trans ?_;show some ((),((_,()),(aq .i64 (a:Int) 8,()),(true,()),()))=_;rw [bb (by omega) (by omega)];rfl
theorem kq (p:aR):(dR p).length<=64:=by unfold dR;rw [List.length_map];exact Nat.le_trans (List.length_filter_le _ _) (by simp)
theorem F9 {p:aR} {x:Int×Unit} (h:x∈dR p):1<=x.1/\x.1<=64:=by obtain ⟨i,hi,rfl⟩:=List.mem_map.1 h;have:=List.mem_range.1 (List.mem_filter.1 hi).1;constructor <;> (show _<=_) <;> omega
abbrev Mu:=Int×Int×Int×Unit
def ik:List Mu:=[(2,3,19,()),(3,1,6,()),(4,1,12,()),(7,1,10,()),(11,1,6,()),(14,1,4,()),(37,2,12,()),(38,2,6,()),(39,2,2,()),(41,2,8,()),(48,5,60,()),(49,1,3,()),(54,5,60,()),(95,2,12,()),(102,4,20,()),(103,4,20,())]
def Ef (no:Int):Mu:=(ik.find? fun r=>aj r.1 no).getD (0,0,0,())
def bk (no:Int):Int:=(Ef no).2.1
def gy (no:Int):Int:=(Ef no).2.2.1
theorem mV {α Y:Type} (p:α->Bool) (y:α->Y) (z:Y):∀ (l:List α) (i:Nat),kK (fun _ x (_:Unit)=>bif p x then .inr (y x) else .inl ()) (fun _=>z) i l ()=match l.find? p with | some x=>y x | none=>z
 | [],_=>rfl
 | x :: l,i=>by
   have ih:=mV p y z l (i + 1);rw [List.find?_cons,kK];cases p x with
   | true=>rfl
   | false=>exact ih
theorem IE (no:Int):Ey no=some ((),(Ef no,())):=by
 unfold Ey;have h:=aD (step:=ft ri) ik (fun i (_:Unit)=>(no,ik,ae ik,((i:Nat):Int),(0,0,0,()),())) (fun _ x _=>bif aj x.1 no then .inr (.inr (x,())) else .inl ()) (fun _=> .inl (no,ik,ae ik,(ik.length:Int),(0,0,0,()),())) (a0:=()) (fun i x a hx=>by
  have hlt:=ak hx;have h16:ik.length=16:=rfl;have hbig:aX=140737488355328:=rfl;show ri no ik (ae ik) (i:Int) (0,0,0,())=_;unfold ri;rw [aG hx,aC hx,aV _ hx,aP (by omega)];dsimp only [cond_true];cases aj x.1 no <;> rfl) (fun a=>by
  show ri no ik (ae ik) (ik.length:Int) (0,0,0,())=_;rfl)
 rw [mV] at h;have h':Hi no ik (ae ik) 0 (0,0,0,())=_:=h;refine (bn h').trans ?_;unfold Ef;cases ik.find? _ <;> rfl
theorem qJ (no:Int):no=2∨no=3∨no=4∨no=7∨no=11∨no=14∨no=37∨no=38∨no=39∨no=41∨no=48∨no=49∨no=54∨no=95∨no=102∨no=103∨∀ k∈[2,3,4,7,11,14,37,38,39,41,48,49,54,95,102,103],aj no k=false/\aj k no=false:=by
 by_cases h:∀ k∈[2,3,4,7,11,14,37,38,39,41,48,49,54,95,102,103],no≠k
 . have:∀ k∈[2,3,4,7,11,14,37,38,39,41,48,49,54,95,102,103],aj no k=false/\aj k no=false:=fun k hk=>⟨beq_eq_false_iff_ne.2 (h k hk),beq_eq_false_iff_ne.2 (Ne.symm (h k hk))⟩
   iterate 16 right
   exact this
 . simp only [Classical.not_forall,Classical.not_not] at h;obtain ⟨k,hk,rfl⟩:=h;simp only [List.mem_cons,List.not_mem_nil,or_false] at hk;rcases hk with h | h | h | h | h | h | h | h | h | h | h | h | h | h | h | h <;> simp [h]
theorem zz {no:Int} (h:∀ k∈[2,3,4,7,11,14,37,38,39,41,48,49,54,95,102,103],aj no k=false/\aj k no=false):Ef no=(0,0,0,()):=by unfold Ef ik;simp only [List.find?_cons,(h 2 (by simp)).2,(h 3 (by simp)).2,(h 4 (by simp)).2,(h 7 (by simp)).2,(h 11 (by simp)).2,(h 14 (by simp)).2,(h 37 (by simp)).2,(h 38 (by simp)).2,(h 39 (by simp)).2,(h 41 (by simp)).2,(h 48 (by simp)).2,(h 49 (by simp)).2,(h 54 (by simp)).2,(h 95 (by simp)).2,(h 102 (by simp)).2,(h 103 (by simp)).2,List.find?_nil,Option.getD_none]
theorem B9 (no:Int):Fq no=some ((),((bk no,()),())):=by
 rcases qJ no with rfl | rfl | rfl | rfl | rfl | rfl | rfl | rfl | rfl | rfl | rfl | rfl | rfl | rfl | rfl | rfl | h
 all_goals first | rfl | skip
 unfold Fq bk;rw [zz h];simp only [(h 2 (by simp)).1,(h 3 (by simp)).1,(h 4 (by simp)).1,(h 7 (by simp)).1,(h 11 (by simp)).1,(h 14 (by simp)).1,(h 37 (by simp)).1,(h 38 (by simp)).1,(h 39 (by simp)).1,(h 41 (by simp)).1,(h 48 (by simp)).1,(h 49 (by simp)).1,(h 54 (by simp)).1,(h 95 (by simp)).1,(h 102 (by simp)).1,(h 103 (by simp)).1,cond_false]
theorem Ja (no:Int):FZ no=some ((),((gy no,()),())):=by
 rcases qJ no with rfl | rfl | rfl | rfl | rfl | rfl | rfl | rfl | rfl | rfl | rfl | rfl | rfl | rfl | rfl | rfl | h
 all_goals first | rfl | skip
 unfold FZ gy;rw [zz h];simp only [(h 2 (by simp)).1,(h 3 (by simp)).1,(h 4 (by simp)).1,(h 7 (by simp)).1,(h 11 (by simp)).1,(h 14 (by simp)).1,(h 37 (by simp)).1,(h 38 (by simp)).1,(h 39 (by simp)).1,(h 41 (by simp)).1,(h 48 (by simp)).1,(h 49 (by simp)).1,(h 54 (by simp)).1,(h 95 (by simp)).1,(h 102 (by simp)).1,(h 103 (by simp)).1,cond_false]
theorem yJ (no:Int):CI no=some ((),((bk no,()),())):=by unfold CI; rw [IE]; rfl
theorem Om (no:Int):Kc no=some ((),((gy no,()),())):=by unfold Kc; rw [IE]; rfl
theorem kinds (no:Int):∃ n:Nat,gy no=n/\((bk no=0/\n=0)∨(bk no=1/\1<=n/\n<=12)∨(bk no=2/\1<=n/\n<=12)∨(bk no=3/\n=19)∨(bk no=4/\n=20)∨(bk no=5/\n=60)):=by
 rcases qJ no with rfl | rfl | rfl | rfl | rfl | rfl | rfl | rfl | rfl | rfl | rfl | rfl | rfl | rfl | rfl | rfl | h
 . exact ⟨19,rfl,by decide⟩
 . exact ⟨6,rfl,by decide⟩
 . exact ⟨12,rfl,by decide⟩
 . exact ⟨10,rfl,by decide⟩
 . exact ⟨6,rfl,by decide⟩
 . exact ⟨4,rfl,by decide⟩
 . exact ⟨12,rfl,by decide⟩
 . exact ⟨6,rfl,by decide⟩
 . exact ⟨2,rfl,by decide⟩
 . exact ⟨8,rfl,by decide⟩
 . exact ⟨60,rfl,by decide⟩
 . exact ⟨3,rfl,by decide⟩
 . exact ⟨60,rfl,by decide⟩
 . exact ⟨12,rfl,by decide⟩
 . exact ⟨20,rfl,by decide⟩
 . exact ⟨20,rfl,by decide⟩
 . exact ⟨0,by unfold gy; rw [zz h]; rfl,.inl ⟨by unfold bk; rw [zz h],rfl⟩⟩
theorem dQ {b:aR} {a n:Nat} {s:List UInt8} (h:iG b a n=some s):s.all fJ=true/\s.length=n/\1<=n/\n<=38/\a + (n + 1) / 2<=b.length:=by
 unfold iG at h;split at h
 . rename_i h1;split at h
   . rename_i h2;cases h;have hl:(nG (er b a ((n + 1) / 2))).length=2 * ((n + 1) / 2):=by rw [qe,lu h1.2.2]
     refine ⟨List.all_eq_true.2 fun x hx=>List.all_eq_true.1 h2.1 x (List.mem_of_mem_drop hx),?_,h1⟩;rw [List.length_drop,hl];omega
   . simp at h
 . simp at h
theorem kx {s:List UInt8} {n:Nat} (h:s.length=n) (hn:1<=n):s≠[]:=fun e=>by rw [e] at h; simp only [List.length_nil] at h; omega
theorem AZ {s:List UInt8} {n:Nat} (h:s.all fJ=true) (hl:s.length=n) (h1:1<=n) (h2:n<=18):wQ s=some (ke 0 s):=by unfold wQ;rw [if_pos ⟨cZ.2 ⟨h,kx hl h1⟩,by omega⟩]
def FA (b:aR) (a d:Nat):Option (Unit×((Int×Unit)×(Int×Unit)×(Bool×Unit)×Unit)):=some ((),match iG b a d with | some t=>(((ke 0 t:Int),()),(((a + (d + 1) / 2:Nat):Int),()),(true,()),()) | none=>((0,()),(0,()),(false,()),()))
theorem ER:sG []=some ((),((0,()),(false,()),())):=Dp [] (Nat.zero_le _)
theorem Sc (b:aR) (a d:Nat) (hb:xX b) (ha:a<=b.length) (hd:d=2∨d=3):HB b a d=FA b a d:=by
 have hbig:aX=140737488355328:=rfl;unfold HB FA;have hc:cond (!(aj (d:Int) 2)) (!(aj (d:Int) 3)) false=false:=by rcases hd with rfl | rfl <;> rfl
 rw [hc,C1 b a d hb ha (by omega)];unfold xa;cases ho:iG b a d with
 | none => refine (bn ER).trans ?_;rfl
 | some t => obtain ⟨h1,h2,h3,h4,h5⟩:=dQ ho;have hn:sG t=_:=Dp t (by omega);rw [AZ h1 h2 h3 (by omega)] at hn;refine (bn hn).trans ?_;rfl
theorem QD (b:aR) (a d:Nat) (hb:xX b) (ha:a<=b.length) (hd:d=2∨d=3):Et b a d=FA b a d:=by
 have hbig:aX=140737488355328:=rfl;unfold Et FA;rw [jD,fe.2 (by omega:(2:Int)<=d/\(d:Int)<=3),Jr b a d hb ha (by omega)];unfold xa;cases ho:iG b a d with
 | none=>rfl
 | some t => obtain ⟨h1,h2,h3,h4,h5⟩:=dQ ho;have hn:Ct t=_:=MJ t (by omega);rw [AZ h1 h2 h3 (by omega)] at hn;refine (bn hn).trans ?_;rfl
def iH (no:Int) (s:List UInt8):Bool:=cond (aj (bk no) 1) (cond (aS s) (aj (ae s) (gy no)) false) (cond (aj (bk no) 2) (cond (dP s) (aj (ae s) (gy no)) false) (cond (aj (bk no) 3) (cond (aS s) (dF (ae s) 1 (gy no)) false) (cond (aj (bk no) 4) (cond (dP s) (dF (ae s) 1 (gy no)) false) (cond (aj (bk no) 5) (cond (dP s) (dF (ae s) 1 (gy no)) false) false))))
theorem SY (no:Int) (s:List UInt8) (hs:s.length<=aX):Kg no s=some ((),((iH no s,()),())):=by
 unfold Kg iH;rw [B9,Ja];dsimp only [Option.bind_some];rw [fG s hs,C9 s hs];dsimp only [Option.bind_some];rw [lx];dsimp only [Option.bind_some];cases aj (bk no) 1 with
 | true=>rfl
 | false =>
 cases aj (bk no) 2 with
 | true=>rfl
 | false =>
 cases aj (bk no) 3 with
 | true =>
   show some ((),((cond (aS s) (bz (ae s) (gy no)) false,()),()))=some ((),((cond (aS s) (dF (ae s) 1 (gy no)) false,()),()));cases hd:aS s with
   | false=>rfl
   | true =>
     have h1:bz 1 (ae s)=true:=by
      have:=(cZ.1 hd).2;cases s with
      | nil=>exact absurd rfl this
      | cons x r=>exact decide_eq_true (by show (1:Int)<=((r.length + 1:Nat):Int); omega)
     unfold dF;rw [h1]; rfl
 | false =>
 cases aj (bk no) 4 with
 | true=>cases dP s <;> rfl
 | false =>
 cases aj (bk no) 5 with
 | true=>cases dP s <;> rfl
 | false=>rfl
theorem G9 (no:Int) (s:List UInt8) (hs:s.length<=aX):wS no s=some ((),((iH no s,()),())):=by
 unfold wS iH;rw [IE,gF s hs,JY s hs];dsimp only [Option.bind_some];rw [jD];dsimp only [Option.bind_some];show cond (aj (bk no) 1) _ (cond (aj (bk no) 2) _ (cond (aj (bk no) 3) _ (cond (aj (bk no) 4) _ (cond (aj (bk no) 5) _ _))))=_;cases aj (bk no) 1 with
 | true=>rfl
 | false =>
 cases aj (bk no) 2 with
 | true=>rfl
 | false =>
 cases aj (bk no) 3 with
 | true=>cases aS s <;> rfl
 | false =>
 cases aj (bk no) 4 with
 | true=>cases dP s <;> rfl
 | false =>
 cases aj (bk no) 5 with
 | true=>cases dP s <;> rfl
 | false=>rfl
def oJ (b:aR) (a n:Nat):Option (List UInt8×Nat):=if a + n<=b.length then (bif dP (strOf (er b a n)) then some (strOf (er b a n),a + n) else none) else none
def p8 (b:aR) (a n:Nat):Option (List UInt8×Nat):=(iG b a n).map fun s=>(s,a + (n + 1) / 2)
def zy (b:aR) (a d n:Nat) (f:Nat->Nat->Option (List UInt8×Nat)):Option (List UInt8×Nat):=match iG b a d with
 | some t=>if 1<=ke 0 t/\ke 0 t<=n then f (a + (d + 1) / 2) (ke 0 t) else none
 | none=>none
def nj (b:aR) (a:Nat) (no:Int):Option (List UInt8×Nat) :=
 if bk no=1 then p8 b a (gy no).toNat else if bk no=2 then oJ b a (gy no).toNat
 else if bk no=3 then zy b a 2 (gy no).toNat (p8 b) else if bk no=4 then zy b a 2 (gy no).toNat (oJ b)
 else if bk no=5 then zy b a 3 (gy no).toNat (oJ b) else none
def kV (o:Option (List UInt8×Nat)):Option (Unit×((List UInt8×Unit)×(Int×Unit)×(Bool×Unit)×Unit)):=some ((),match o with | some s=>((s.1,()),((s.2:Int),()),(true,()),()) | none=>(([],()),(0,()),(false,()),()))
theorem kB (p:aR):(strOf p).length=p.length:=by unfold strOf; exact List.length_map _
theorem CY (b:aR) (a n:Nat):(match xa (iG b a n) ((a + (n + 1) / 2:Nat):Int) with | some y=>some ((),(y.2.1,y.2.2.1,y.2.2.2.1,())) | none=>none)=kV (p8 b a n):=by unfold xa p8 kV;cases iG b a n <;> rfl
noncomputable def Lu (b:aR) (a n:Int):Option (Unit×((List UInt8×Unit)×(Int×Unit)×(Bool×Unit)×Unit)) :=
 cond (cond (au (ae b) a) true (au (aH .i64 (ae b) a) n)) (some ((),(([],()),(0,()),(false,()),()))) (cond (dJ a (aq .i64 a n) b) (Option.bind (yo (strOf (sub b a (aq .i64 a n)))) fun y=>cond (!y.2.1.1) (some ((),(([],()),(0,()),(false,()),()))) (cond (dJ a (aq .i64 a n) b) (some ((),((strOf (sub b a (aq .i64 a n)),()),(aq .i64 a n,()),(true,()),()))) none)) none)
theorem Js (b:aR) (a n:Nat) (hb:xX b) (ha:a<=b.length) (hn:n<=1048576) :
 Lu b a n=kV (oJ b a n):=by
 have hbig:aX=140737488355328:=rfl;have hl:=hb.1;have e:aH .i64 (ae b) (a:Int)=(b.length:Int) - a:=aN (by show -4611686018427387904<=(b.length:Int) - a; omega) (by show (b.length:Int) - a<=_; omega);have e2:aq .i64 (a:Int) (n:Int)=((a + n:Nat):Int):=by rw [bb (by omega) (by omega)]; omega
 unfold oJ Lu;rw [e,e2,az (a:=ae b) (b:=(a:Int)) (by show ¬ (b.length:Int) < a; omega)];by_cases h:a + n<=b.length;rotate_left
 . rw [if_neg h,aF (by omega)]; rfl
 have hs:strOf (sub b (a:Int) ((a + n:Nat):Int))=strOf (er b a n):=congrArg strOf (I9 b a n);rw [if_pos h,az (by omega),Dh h,hs,C9 _ (by rw [kB,lu h]; omega)];dsimp only [Option.bind_some,cond_false,cond_true];cases dP (strOf (er b a n)) <;> rfl
theorem Se (b:aR) (a:Nat) (no:Int) (hb:xX b) (ha:a<=b.length):Ks b a no=kV (nj b a no):=by
 have hbig:aX=140737488355328:=rfl;have hl:=hb.1;obtain ⟨n,hn,hk⟩:=kinds no;have h0:au (a:Int) 0=false:=az (by omega)
 have hvar:∀ (d:Nat) (w:Int) (f:Nat->Nat->Option (List UInt8×Nat)) (F:Int->Int->Option (Unit×((List UInt8×Unit)×(Int×Unit)×(Bool×Unit)×Unit))),(d=2∨d=3)->(∀ a' k:Nat,a'<=b.length->k<=1048576->F (a':Int) (k:Int)=kV (f a' k)) ->
  (Option.bind (HB b a d) fun y5=>cond (!y5.2.2.2.1.1) (some ((),(([],()),(0,()),(false,()),()))) (Option.bind (qG y5.2.1.1 1 (n:Int)) fun y6=>cond (!y6.2.1.1) (some ((),(([],()),(0,()),(false,()),()))) (F y5.2.2.1.1 y5.2.1.1)))=kV (zy b a d n f):=by
  intro d w f F hd hF;rw [Sc b a d hb ha hd];unfold FA zy;cases ho:iG b a d with
  | none=>rfl
  | some t =>
    obtain ⟨h1,h2,h3,h4,h5⟩:=dQ ho;have hv:=ze t 0 0 h1 (by decide);have hv2:ke 0 t < 1000:=Nat.lt_of_lt_of_le hv (by rw [Nat.zero_add,h2]; exact Nat.pow_le_pow_right (by decide) (by omega:d<=3));dsimp only [Option.bind_some];rw [lx];dsimp only [Option.bind_some];by_cases hin:1<=ke 0 t/\ke 0 t<=n
    . rw [if_pos hin,fe.2 (by omega)];exact hF _ _ h5 (by omega)
    . rw [if_neg hin];have:dF (ke 0 t:Int) 1 (n:Int)=false:=by
       cases h:dF (ke 0 t:Int) 1 (n:Int) with
       | false=>rfl
       | true=>have:=fe.1 h; omega
      rw [this]; rfl
 unfold Ks nj;rw [B9,Ja,hn,h0];have hnn:Int.toNat (n:Int)=n:=Int.toNat_natCast n;rcases hk with ⟨hk,hz⟩ | ⟨hk,hz⟩ | ⟨hk,hz⟩ | ⟨hk,hz⟩ | ⟨hk,hz⟩ | ⟨hk,hz⟩
 . rw [hk]; rfl
 . rw [hk,hnn];show (Option.bind (tX b a n) fun y=>some ((),(y.2.1,y.2.2.1,y.2.2.2.1,())))=kV (p8 b a n);rw [C1 b a n hb ha (by omega),<- CY];rfl
 . rw [hk,hnn];exact Js b a n hb ha (by omega)
 . rw [hk,hnn];exact hvar 2 0 (p8 b) (fun a' k=>Option.bind (tX b a' k) fun y=>some ((),(y.2.1,y.2.2.1,y.2.2.2.1,()))) (.inl rfl) fun a' k ha' hk'=>by show (Option.bind (tX b (a':Int) (k:Int)) _)=_;rw [C1 b a' k hb ha' hk',<- CY];rfl
 . rw [hk,hnn];exact hvar 2 0 (oJ b) (Lu b) (.inl rfl) fun a' k ha' hk'=>Js b a' k hb ha' hk'
 . rw [hk,hnn];exact hvar 3 0 (oJ b) (Lu b) (.inr rfl) fun a' k ha' hk'=>Js b a' k hb ha' hk'
noncomputable def Ed (b:aR) (no a n:Int):Option (Unit×((List UInt8×Unit)×(Int×Unit)×(Bool×Unit)×Unit)) :=
 Option.bind (yD b a n) fun y5=>cond (!y5.2.2.2.1.1) (some ((),(([],()),(0,()),(false,()),()))) (Option.bind (wS no y5.2.1.1) fun y6=>cond (!y6.2.1.1) (some ((),(([],()),(0,()),(false,()),()))) (some ((),(y5.2.1,y5.2.2.1,(true,()),()))))
noncomputable def z8 (b:aR) (no a n:Int):Option (Unit×((List UInt8×Unit)×(Int×Unit)×(Bool×Unit)×Unit)) :=
 Option.bind (yE b a n) fun y5=>cond (!y5.2.2.1.1) (some ((),(([],()),(0,()),(false,()),()))) (Option.bind (wS no (strOf y5.2.1.1)) fun y6=>cond (!y6.2.1.1) (some ((),(([],()),(0,()),(false,()),()))) (some ((),((strOf y5.2.1.1,()),(aq .i64 a n,()),(true,()),()))))
theorem Dd (b:aR) (no:Int) (a n:Nat) (hb:xX b) (ha:a<=b.length) (hn:n<=1048576):Ed b no a n=kV ((p8 b a n).filter fun s=>iH no s.1):=by
 have hbig:aX=140737488355328:=rfl;unfold Ed p8;rw [Jr b a n hb ha hn];unfold xa;cases ho:iG b a n with
 | none=>rfl
 | some s => obtain ⟨h1,h2,h3,h4,h5⟩:=dQ ho;dsimp only [Option.bind_some];rw [G9 no s (by omega)];dsimp only [Option.bind_some,Option.map_some];rw [Option.filter_some];dsimp only;cases iH no s <;> rfl
def EE (b:aR) (a n:Nat):Option (List UInt8×Nat):=if a + n<=b.length then some (strOf (er b a n),a + n) else none
theorem sX (b:aR) (no:Int) (a n:Nat) (hb:xX b) (ha:a<=b.length) (hn:n<=1048576):z8 b no a n=kV ((EE b a n).filter fun s=>iH no s.1):=by
 have hbig:aX=140737488355328:=rfl;have hl:=hb.1;unfold z8 EE;rw [zw b a n hb.1 ha hn];by_cases h:a + n<=b.length;rotate_left
 . rw [if_neg h,if_neg h]; rfl
 rw [if_pos h,if_pos h,Option.filter_some];have hf:=G9 no (strOf (er b a n)) (by rw [kB,lu h]; omega);refine (bn hf).trans ?_;have e2:aq .i64 (a:Int) (n:Int)=((a + n:Nat):Int):=by rw [bb (by omega) (by omega)]; omega
 show cond (!(iH no (strOf (er b a n)))) _ (some ((),((_,()),(aq .i64 (a:Int) (n:Int),()),(true,()),())))=_;rw [e2];dsimp only;cases iH no (strOf (er b a n)) <;> rfl
theorem GJ (b:aR) (a d:Nat) (hb:xX b) (ha:a<=b.length) (hd:d=2∨d=3) (F:Int->Int->Option (Unit×((List UInt8×Unit)×(Int×Unit)×(Bool×Unit)×Unit))) (f:Nat->Nat->Option (List UInt8×Nat)) (n:Nat)
 (hF:∀ a' k:Nat,a'<=b.length->k<=1048576->F (a':Int) (k:Int)=kV (if 1<=k/\k<=n then f a' k else none)) :
 (Option.bind (Et b a d) fun y4=>cond (!y4.2.2.2.1.1) (some ((),(([],()),(0,()),(false,()),()))) (F y4.2.2.1.1 y4.2.1.1))=kV (zy b a d n f):=by
 rw [QD b a d hb ha hd];unfold FA zy;cases ho:iG b a d with
 | none=>rfl
 | some t => obtain ⟨h1,h2,h3,h4,h5⟩:=dQ ho;have hv:=ze t 0 0 h1 (by decide);have hv2:ke 0 t < 1000:=Nat.lt_of_lt_of_le hv (by rw [Nat.zero_add,h2]; exact Nat.pow_le_pow_right (by decide) (by omega:d<=3));exact hF _ _ h5 (by omega)
theorem iM {s:List UInt8} {n:Nat} (h:s.length=n):ae s=(n:Int):=by show (s.length:Int)=n; rw [h]
theorem pv {k n:Nat}:dF (k:Int) 1 (n:Int)=decide (1<=k/\k<=n):=by
 by_cases h:1<=k/\k<=n
 . rw [decide_eq_true h]; exact fe.2 (by omega)
 . rw [decide_eq_false h];cases h2:dF (k:Int) 1 (n:Int) with
   | false=>rfl
   | true=>have:=fe.1 h2; omega
theorem qb {no:Int} {n:Nat} (hn:gy no=n) (s:List UInt8):(bk no=1->iH no s=cond (aS s) (aj (ae s) (n:Int)) false)/\(bk no=2->iH no s=cond (dP s) (aj (ae s) (n:Int)) false)/\(bk no=3->iH no s=cond (aS s) (dF (ae s) 1 (n:Int)) false) /\
 ((bk no=4∨bk no=5)->iH no s=cond (dP s) (dF (ae s) 1 (n:Int)) false):=by
 unfold iH;rw [hn];refine ⟨fun h=>by rw [h]; rfl,fun h=>by rw [h]; rfl,fun h=>by rw [h]; rfl,fun h => ?_⟩;rcases h with h | h <;> (rw [h]; rfl)
theorem Dj {b:aR} {no:Int} {n:Nat} (hn:gy no=n) (hk:bk no=4∨bk no=5) (a k:Nat):(EE b a k).filter (fun s=>iH no s.1)=if 1<=k/\k<=n then oJ b a k else none:=by
 unfold EE oJ;by_cases h:a + k<=b.length;rotate_left
 . rw [if_neg h,if_neg h]; simp
 rw [if_pos h,if_pos h,Option.filter_some];dsimp only;rw [(qb hn _).2.2.2 hk,iM (by rw [kB,lu h]:(strOf (er b a k)).length=k),pv];by_cases hin:1<=k/\k<=n
 . rw [decide_eq_true hin,if_pos hin]; cases dP (strOf (er b a k)) <;> rfl
 . rw [decide_eq_false hin,if_neg hin]; cases dP (strOf (er b a k)) <;> rfl
theorem QU (b:aR) (a:Nat) (no:Int) (hb:xX b) (ha:a<=b.length):ID b a no=kV (nj b a no):=by
 have hbig:aX=140737488355328:=rfl;have hl:=hb.1;obtain ⟨n,hn,hk⟩:=kinds no;have hnn:Int.toNat (n:Int)=n:=Int.toNat_natCast n;have hlen:KJ no=some ((),((cond (aj (bk no) 5) 3 2,()),())):=by unfold KJ;rw [yJ];dsimp only [Option.bind_some];cases aj (bk no) 5 <;> rfl
 have base:ID b a no=cond (cond (cond (aj (bk no) 3) true (aj (bk no) 4)) true (aj (bk no) 5)) (Option.bind (Et b a (cond (aj (bk no) 5) 3 2)) fun y4=>cond (!y4.2.2.2.1.1) (some ((),(([],()),(0,()),(false,()),()))) (cond (cond (aj (bk no) 1) true (aj (bk no) 3)) (Ed b no y4.2.2.1.1 y4.2.1.1) (z8 b no y4.2.2.1.1 y4.2.1.1)))
  (cond (cond (aj (bk no) 1) true (aj (bk no) 3)) (Ed b no a (n:Int)) (z8 b no a (n:Int))):=by
  unfold ID;rw [Om,yJ,hlen,hn];rfl
 rw [base];unfold nj;rw [hn,hnn];rcases hk with ⟨hk,hz⟩ | ⟨hk,hz⟩ | ⟨hk,hz⟩ | ⟨hk,hz⟩ | ⟨hk,hz⟩ | ⟨hk,hz⟩
 . rw [hk];show z8 b no a (n:Int)=kV none;rw [sX b no a n hb ha (by omega)];have:∀ s,iH no s=false:=fun s=>by unfold iH; rw [hk]; rfl
   unfold EE;by_cases h:a + n<=b.length
   . rw [if_pos h,Option.filter_some,this]; rfl
   . rw [if_neg h]; rfl
 . rw [hk];show Ed b no a (n:Int)=kV (p8 b a n);rw [Dd b no a n hb ha (by omega)];unfold p8;cases ho:iG b a n with
   | none=>rfl
   | some s => obtain ⟨h1,h2,h3,h4,h5⟩:=dQ ho;rw [Option.map_some,Option.filter_some];dsimp only;rw [(qb hn s).1 hk,cZ.2 ⟨h1,kx h2 h3⟩,iM h2,bq];rfl
 . rw [hk];show z8 b no a (n:Int)=kV (oJ b a n);rw [sX b no a n hb ha (by omega)];unfold EE oJ;by_cases h:a + n<=b.length;rotate_left
   . rw [if_neg h,if_neg h]; rfl
   rw [if_pos h,if_pos h,Option.filter_some];dsimp only;rw [(qb hn _).2.1 hk,iM (by rw [kB,lu h]:(strOf (er b a n)).length=n),bq];cases dP (strOf (er b a n)) <;> rfl
 . rw [hk];exact GJ b a 2 hb ha (.inl rfl) (Ed b no) (p8 b) n fun a' k ha' hk'=>by
    rw [Dd b no a' k hb ha' hk'];unfold p8;cases ho:iG b a' k with
    | none => show kV none=kV (if _ then none else none);rw [ite_self]
    | some s =>
      obtain ⟨h1,h2,h3,h4,h5⟩:=dQ ho;rw [Option.map_some,Option.filter_some];dsimp only;rw [(qb hn s).2.2.1 hk,cZ.2 ⟨h1,kx h2 h3⟩,iM h2,pv];by_cases hin:1<=k/\k<=n
      . rw [decide_eq_true hin,if_pos hin]; rfl
      . rw [decide_eq_false hin,if_neg hin]; rfl
 . rw [hk];exact GJ b a 2 hb ha (.inl rfl) (z8 b no) (oJ b) n fun a' k ha' hk'=>by rw [sX b no a' k hb ha' hk',Dj hn (.inl hk)]
 . rw [hk];exact GJ b a 3 hb ha (.inr rfl) (z8 b no) (oJ b) n fun a' k ha' hk'=>by rw [sX b no a' k hb ha' hk',Dj hn (.inr hk)]
theorem qW {b:aR} {a:Nat} {no:Int} {s:List UInt8} {e:Nat} (ha:a<=b.length) (h:nj b a no=some (s,e)):iH no s=true/\s.length<=60/\e<=b.length:=by
 obtain ⟨n,hn,hk⟩:=kinds no;have hnn:Int.toNat (n:Int)=n:=Int.toNat_natCast n;have num:∀ a k,p8 b a k=some (s,e)->s.all fJ=true/\s.length=k/\1<=k/\e<=b.length:=fun a k h=>by unfold p8 at h;obtain ⟨q,hq,h⟩:=Option.map_eq_some_iff.1 h;cases h;obtain ⟨h1,h2,h3,h4,h5⟩:=dQ hq;exact ⟨h1,h2,h3,h5⟩
 have txt:∀ a k,oJ b a k=some (s,e)->dP s=true/\s.length=k/\e<=b.length:=fun a k h=>by
  unfold oJ at h;split at h
  . rename_i hl;cases hp:dP (strOf (er b a k)) with
    | false=>rw [hp] at h; simp at h
    | true => rw [hp] at h;cases h;exact ⟨hp,by rw [kB,lu hl],hl⟩
  . simp at h
 have var:∀ d f,zy b a d n f=some (s,e)->∃ a' k,1<=k/\k<=n/\f a' k=some (s,e):=fun d f h=>by
  unfold zy at h;split at h
  . split at h
    . rename_i hin;exact ⟨_,_,hin.1,hin.2,h⟩
    . simp at h
  . simp at h
 unfold nj at h;rw [hn,hnn] at h;rcases hk with ⟨hk,hz⟩ | ⟨hk,hz⟩ | ⟨hk,hz⟩ | ⟨hk,hz⟩ | ⟨hk,hz⟩ | ⟨hk,hz⟩ <;> rw [hk] at h
 . simp at h
 . obtain ⟨h1,h2,h3,h4⟩:=num _ _ h;exact ⟨by rw [(qb hn s).1 hk,cZ.2 ⟨h1,kx h2 h3⟩,iM h2,bq]; rfl,by omega,h4⟩
 . obtain ⟨h1,h2,h4⟩:=txt _ _ h;exact ⟨by rw [(qb hn s).2.1 hk,h1,iM h2,bq]; rfl,by omega,h4⟩
 . obtain ⟨a',k,k1,k2,h⟩:=var _ _ h;obtain ⟨h1,h2,h3,h4⟩:=num _ _ h;exact ⟨by rw [(qb hn s).2.2.1 hk,cZ.2 ⟨h1,kx h2 h3⟩,iM h2,pv,decide_eq_true ⟨k1,k2⟩]; rfl,by omega,h4⟩
 . obtain ⟨a',k,k1,k2,h⟩:=var _ _ h;obtain ⟨h1,h2,h4⟩:=txt _ _ h;exact ⟨by rw [(qb hn s).2.2.2 (.inl hk),h1,iM h2,pv,decide_eq_true ⟨k1,k2⟩]; rfl,by omega,h4⟩
 . obtain ⟨a',k,k1,k2,h⟩:=var _ _ h;obtain ⟨h1,h2,h4⟩:=txt _ _ h;exact ⟨by rw [(qb hn s).2.2.2 (.inr hk),h1,iM h2,pv,decide_eq_true ⟨k1,k2⟩]; rfl,by omega,h4⟩
end Go.Av
