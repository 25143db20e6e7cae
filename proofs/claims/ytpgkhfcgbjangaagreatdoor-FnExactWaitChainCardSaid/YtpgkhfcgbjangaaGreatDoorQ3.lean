/- Part of a proof that the law FnExactWaitChain answers true for every input: the printed functions of this program and their plain laws. No conditions beyond the statement. -/
import Derived.Test.YtpgkhfcgbjangaaGreatDoorP1
import Derived.Test.YtpgkhfcgbjangaaGreatDoorFw4
set_option maxRecDepth 100000
set_option maxHeartbeats 4000000
namespace Go.Av
abbrev jP:=List UInt8×Int×Int×Unit
abbrev eK:=List UInt8×List UInt8×List (Int×Unit)×Unit
abbrev ur:=Int×Int×List (Int×Unit)×List (Int×Unit)×Unit
def dv (a lo hi:Int):Bool:=cond (bD lo a) (bD a hi) false
theorem fC {a lo hi:Int}:dv a lo hi=true↔lo<=a/\a<=hi:=by unfold dv bD;by_cases h:lo<=a <;> simp [h]
theorem kr (a lo hi:Int):pU a lo hi=some ((),((dv a lo hi,()),())):=rfl
theorem iZ (a lo hi:Int):mA a lo hi=some ((),((dv a lo hi,()),())):=rfl
def cO (a:Int):Bool:=dv a 0 4611686018427387904
theorem pV (a:Int):Qa a=some ((),((cO a,()),())):=rfl
theorem Eh (a:Int):LN a=some ((),((cO a,()),())):=rfl
def cW (a:Int):Bool:=dv a 0 1000000000
theorem my (a:Int):GW a=some ((),((cW a,()),())):=rfl
theorem mQ (a:Int):uh a=some ((),((cW a,()),())):=rfl
def fP (x:UInt8):Bool:=cond (au (x.toNat:Int) 48) false (!(au 57 (x.toNat:Int)))
theorem fW {x:UInt8}:fP x=true↔48<=x.toNat/\x.toNat<=57:=by
 unfold fP au;by_cases h:(x.toNat:Int) < 48
 . simp [h]; omega
 . by_cases h2:(57:Int) < x.toNat
   . simp [h,h2]; omega
   . simp [h,h2]; omega
def aY (s:List UInt8):Bool:=cond (s.all fP) (au 0 (ae s)) false
theorem fO (s:List UInt8) (hs:s.length<=aV):qe s=some ((),((aY s,()),())):=by
 unfold qe;have h:=aG (step:=wY oK) s (fun i (_:Unit)=>(s,((i:Nat):Int),())) (fun _ x _=>bif fP x then Sum.inl () else .inr (.inr (false,()))) (fun _=> .inl (s,(s.length:Int),())) (a0:=()) (fun i x a hx=>by
  have hlt:=aj hx;show oK s (i:Int)=_;unfold oK fP;rw [aI hx,aC hx,eG hx,aO (by omega)];dsimp only [cond_true];cases au (x.toNat:Int) 48 <;> cases au 57 (x.toNat:Int) <;> rfl) (fun a=>by
  show oK s (s.length:Int)=_;unfold oK;rw [ax rfl]; rfl)
 rw [gh] at h;have h':Ig s 0=_:=h;rw [h'];unfold aY;cases s.all fP <;> rfl
theorem gJ (s:List UInt8) (hs:s.length<=aV):tF s=some ((),((aY s,()),())):=by
 unfold tF;have h:=aG (step:=dC pF) s (fun i (_:Unit)=>(s,ae s,((i:Nat):Int),())) (fun _ x _=>bif fP x then Sum.inl () else .inr (.inr (false,()))) (fun _=> .inl (s,ae s,(s.length:Int),())) (a0:=()) (fun i x a hx=>by
  have hlt:=aj hx;show pF s (ae s) (i:Int)=_;unfold pF fP;rw [aI hx,aC hx,eG hx,aO (by omega)];dsimp only [cond_true];cases au (x.toNat:Int) 48 <;> cases au 57 (x.toNat:Int) <;> rfl) (fun a=>by
  show pF s (ae s) (s.length:Int)=_;unfold pF;rw [ax rfl]; rfl)
 rw [gh] at h;have h':G6 s (ae s) 0=_:=h;rw [h'];unfold aY;cases s with
 | nil=>rfl
 | cons x r =>
   have e1:au 0 (ae (x :: r))=true:=aD (by unfold ae; simp only [List.length_cons]; omega);have e2:cq (x :: r) []=false:=rfl;cases (x :: r).all fP
   . rfl
   . dsimp only [cond_true,cond_false,Option.bind_some,Sum.elim_inl];rw [e1,e2]; rfl
def lF (x:UInt8):Bool:=cond (au (x.toNat:Int) 48) (cond (au (x.toNat:Int) 97) false (!(au 122 (x.toNat:Int)))) (cond (au 57 (x.toNat:Int)) (cond (au (x.toNat:Int) 97) false (!(au 122 (x.toNat:Int)))) true)
def ig (s:List UInt8):Bool:=cond (s.all lF) (dv (ae s) 1 6) false
theorem Bx (s:List UInt8) (hs:s.length<=aV):Kc s=some ((),((ig s,()),())):=by
 unfold Kc;have h:=aG (step:=wY pw) s (fun i (_:Unit)=>(s,((i:Nat):Int),())) (fun _ x _=>bif lF x then Sum.inl () else .inr (.inr (false,()))) (fun _=> .inl (s,(s.length:Int),())) (a0:=()) (fun i x a hx=>by
  have hlt:=aj hx;show pw s (i:Int)=_;unfold pw lF;rw [aI hx,aC hx,eG hx,aO (by omega)];dsimp only [cond_true];cases au (x.toNat:Int) 48 <;> cases au 57 (x.toNat:Int) <;> cases au (x.toNat:Int) 97 <;> cases au 122 (x.toNat:Int) <;> rfl) (fun a=>by
  show pw s (s.length:Int)=_;unfold pw;rw [ax rfl]; rfl)
 rw [gh] at h;have h':HO s 0=_:=h;rw [h'];unfold ig;cases s.all lF <;> rfl
theorem BP (s:List UInt8) (hs:s.length<=aV):Kn s=some ((),((ig s,()),())):=by
 unfold Kn;have h:=aG (step:=dC oU) s (fun i (_:Unit)=>(s,ae s,((i:Nat):Int),())) (fun _ x _=>bif lF x then Sum.inl () else .inr (.inr (false,()))) (fun _=> .inl (s,ae s,(s.length:Int),())) (a0:=()) (fun i x a hx=>by
  have hlt:=aj hx;show oU s (ae s) (i:Int)=_;unfold oU lF;rw [aI hx,aC hx,eG hx,aO (by omega)];dsimp only [cond_true];cases au (x.toNat:Int) 48 <;> cases au 57 (x.toNat:Int) <;> cases au (x.toNat:Int) 97 <;> cases au 122 (x.toNat:Int) <;> rfl) (fun a=>by
  show oU s (ae s) (s.length:Int)=_;unfold oU;rw [ax rfl]; rfl)
 rw [gh] at h;have h':Hd s (ae s) 0=_:=h;rw [h'];unfold ig;cases s.all lF <;> rfl
def xb (h:jP):Bool:=cond (ig h.1) (cond (dv h.2.1 1 9007199254740992) (cW h.2.2.1) false) false
theorem QX (h:jP) (hs:h.1.length<=aV):Lp h=some ((),((xb h,()),())):=by unfold Lp xb;simp only [Bx _ hs,kr,my,Option.bind_some];cases ig h.1 <;> cases dv h.2.1 1 9007199254740992 <;> rfl
theorem Q7 (h:jP) (hs:h.1.length<=aV):Mm h=some ((),((xb h,()),())):=by unfold Mm xb;simp only [BP _ hs,iZ,mQ,Option.bind_some];cases ig h.1 <;> cases dv h.2.1 1 9007199254740992 <;> rfl
def jN (xs:List jP) (i:Nat) (x:jP):Bool:=cond (xb x) (cond (au 0 (i:Int)) (kd (gt ([],0,0,()) xs ((i:Int) - 1)).1 x.1) true) false
def nW (xs:List jP):Bool:=cond (allI (jN xs) 0 xs) (bD (ae xs) 4) false
theorem nO:∀ (s t:List UInt8),(Op.bytesLess s t || cq s t)= !(Op.bytesLess t s)
 | [],[]=>rfl
 | [],_ :: _=>rfl
 | _ :: _,[]=>rfl
 | a :: s,b :: t=>by
   have ih:=nO s t;have e:cq (a :: s) (b :: t)=(a == b && cq s t):=rfl;show ((decide (a < b) || (a == b && Op.bytesLess s t)) || cq (a :: s) (b :: t))= !(decide (b < a) || (b == a && Op.bytesLess t s));rw [e];rcases Nat.lt_trichotomy a.toNat b.toNat with h | h | h
   . have h1:a < b:=UInt8.lt_iff_toNat_lt.2 h;have h2:¬ b < a:=fun hh=>by have:=UInt8.lt_iff_toNat_lt.1 hh; omega
     have h3:(b == a)=false:=by rw [beq_eq_false_iff_ne]; intro hh; subst hh; omega
     simp [h1,h2,h3]
   . have h1:a=b:=UInt8.toNat_inj.1 h;subst h1;have h2:¬ a < a:=fun hh=>by have:=UInt8.lt_iff_toNat_lt.1 hh; omega
     simpa [h2] using ih
   . have h1:¬ a < b:=fun hh=>by have:=UInt8.lt_iff_toNat_lt.1 hh; omega
     have h2:b < a:=UInt8.lt_iff_toNat_lt.2 h;have h3:(a == b)=false:=by rw [beq_eq_false_iff_ne]; intro hh; subst hh; omega
     simp [h1,h2,h3]
theorem uj (s t:List UInt8):PQ s t= !(kd t s):=nO s t
def Dl (xs:List jP):Prop:=xs.length<=aV/\∀ y∈xs,y.1.length<=aV
theorem iG {α:Type} {xs:List α} {i:Nat} {x:α} (hx:xs[i]? = some x) (h:0 < i):aU ((i:Int) - 1) xs=true:=by
 have:=aj hx;have e:(i:Int) - 1=((i - 1:Nat):Int):=by omega
 rw [e]; exact kt (by omega)
theorem Lc (xs:List jP) (hb:Dl xs):MY xs=some ((),((nW xs,()),())):=by
 have hbig:aV=140737488355328:=rfl;unfold MY;have h:=aG (step:=dh ob) xs (fun i (_:Unit)=>(xs,xs,ae xs,((i:Nat):Int),())) (fun i x _=>bif jN xs i x then Sum.inl () else .inr (.inr (false,()))) (fun _=> .inl (xs,xs,ae xs,(xs.length:Int),())) (a0:=()) (fun i x a hx=>by
  have hlt:=aj hx;have hl:=hb.1;show ob xs xs (ae xs) (i:Int)=_;unfold ob jN;rw [aI hx,aC hx,aW _ hx];dsimp only [cond_true];rw [QX x (hb.2 x (List.mem_of_getElem? hx)),aO (by omega)];dsimp only [Option.bind_some];cases xb x with
  | false=>rfl
  | true =>
    by_cases h0:0 < i
    . rw [aD (show (0:Int) < i by omega),aR (by omega) (by omega),iG hx h0];dsimp only [cond_true,cond_false,Bool.not_true];have e:gt d157 xs ((i:Int) - 1)=gt ([],0,0,()) xs ((i:Int) - 1):=rfl;rw [e];cases kd (gt ([],0,0,()) xs ((i:Int) - 1)).1 x.1 <;> rfl
    . rw [ay (show ¬ (0:Int) < i by omega)]; rfl) (fun a=>by
  show ob xs xs (ae xs) (xs.length:Int)=_;unfold ob;rw [ax rfl]; rfl)
 rw [cK] at h;have h':JK xs xs (ae xs) 0=_:=h;rw [h'];unfold nW;cases allI (jN xs) 0 xs <;> rfl
theorem M0 (xs:List jP) (hb:Dl xs):MW xs=some ((),((nW xs,()),())):=by
 have hbig:aV=140737488355328:=rfl;unfold MW;have h:=aG (step:=dh pE) xs (fun i (_:Unit)=>(xs,xs,ae xs,((i:Nat):Int),())) (fun i x _=>bif jN xs i x then Sum.inl () else .inr (.inr (false,()))) (fun _=> .inl (xs,xs,ae xs,(xs.length:Int),())) (a0:=()) (fun i x a hx=>by
  have hlt:=aj hx;have hl:=hb.1;show pE xs xs (ae xs) (i:Int)=_;unfold pE jN;rw [aI hx,aC hx,aW _ hx];dsimp only [cond_true];rw [Q7 x (hb.2 x (List.mem_of_getElem? hx)),aO (by omega)];dsimp only [Option.bind_some];cases xb x with
  | false=>rfl
  | true =>
    by_cases h0:0 < i
    . rw [aD (show (0:Int) < i by omega),aR (by omega) (by omega),iG hx h0];dsimp only [cond_true,cond_false,Bool.not_true];rw [uj];have e:gt d157 xs ((i:Int) - 1)=gt ([],0,0,()) xs ((i:Int) - 1):=rfl;rw [e];cases kd (gt ([],0,0,()) xs ((i:Int) - 1)).1 x.1 <;> rfl
    . rw [ay (show ¬ (0:Int) < i by omega)]; rfl) (fun a=>by
  show pE xs xs (ae xs) (xs.length:Int)=_;unfold pE;rw [ax rfl]; rfl)
 rw [cK] at h;have h':HN xs xs (ae xs) 0=_:=h;rw [h'];unfold nW;cases allI (jN xs) 0 xs <;> rfl
def eQ (dbl:Bool) (x:UInt8):Int:=cond dbl (cond (au 9 (2 * ((x.toNat:Int) - 48))) (2 * ((x.toNat:Int) - 48) - 9) (2 * ((x.toNat:Int) - 48))) ((x.toNat:Int) - 48)
theorem ua (b:Bool) {x:UInt8} (h:fP x=true):0<=eQ b x/\eQ b x<=9:=by
 obtain ⟨h1,h2⟩:=fW.1 h;unfold eQ au;cases b
 . dsimp only [cond_false]; omega
 . dsimp only [cond_true];by_cases h9:9 < 2 * ((x.toNat:Int) - 48)
   . rw [decide_eq_true h9]; dsimp only [cond_true]; omega
   . rw [decide_eq_false h9]; dsimp only [cond_false]; omega
def zq (xs:List UInt8) (a:Int×Bool):Int×Bool:=xs.foldl (fun a x=>(a.1 + eQ a.2 x,!a.2)) a
def Im (xs:List UInt8) (a:Int×Bool):Int×Bool:=xs.foldl (fun a x=>((a.1 + eQ a.2 x) % 10,!a.2)) a
theorem Eg:∀ (xs:List UInt8) (a:Int) (b:Bool),Im xs (a % 10,b)=((zq xs (a,b)).1 % 10,(zq xs (a,b)).2)
 | [],a,b=>rfl
 | x :: r,a,b=>by
   have e:(a % 10 + eQ b x) % 10=(a + eQ b x) % 10:=by omega
   show Im r ((a % 10 + eQ b x) % 10,!b)=((zq r (a + eQ b x,!b)).1 % 10,(zq r (a + eQ b x,!b)).2);rw [e];exact Eg r _ _
def BC (s:List UInt8):Int:=cond (aY s) ((10 - (zq s.reverse (0,true)).1 % 10) % 10) (-1)
theorem mP {s:List UInt8} (h:aY s=true):∀ x∈s,fP x=true:=by
 unfold aY at h;cases hs:s.all fP with
 | true=>exact fun x hx=>List.all_eq_true.1 hs x hx
 | false=>rw [hs] at h; simp at h
theorem zv {s:List UInt8} {i:Nat} {x:UInt8} (h:s.reverse[i]? = some x):i < s.length/\s[s.length - 1 - i]? = some x:=by
 have hl:i < s.length:=by simpa using aj h
 refine ⟨hl,?_⟩;rwa [List.getElem?_reverse hl] at h
theorem NJ {x:UInt8} (h:fP x=true):aH .i64 (bG .i64 (x.toNat:Int)) 48=(x.toNat:Int) - 48:=by obtain ⟨h1,h2⟩:=fW.1 h;have e:bG .i64 (x.toNat:Int)=(x.toNat:Int):=IntWalk.i64_in _ (by omega);rw [e]; exact aR (by omega) (by omega)
theorem OY {x:UInt8} (h:fP x=true):bG .i64 (aH .u8 (x.toNat:Int) 48)=(x.toNat:Int) - 48:=by obtain ⟨h1,h2⟩:=fW.1 h;have e:aH .u8 (x.toNat:Int) 48=(x.toNat:Int) - 48:=IntWalk.u8_in _ (by omega);rw [e]; exact IntWalk.i64_in _ (by omega)
theorem EB {a b:Int} (h1 : -4611686018427387904<=a * b) (h2:a * b<=4611686018427387904):jY .i64 a b=a * b:=by unfold jY; rw [IntWalk.i64_in _ (by omega)]
theorem nj {a:Int} (h:0<=a):fI a 10=a % 10:=by unfold fI; exact Int.tmod_eq_emod_of_nonneg h
theorem P8 (s:List UInt8) (hs:s.length<=aV):Mj s=some ((),((BC s,()),())):=by
 have hbig:aV=140737488355328:=rfl;unfold Mj BC;rw [fO s hs];dsimp only [Option.bind_some];cases hd:aY s with
 | false=>rfl
 | true =>
 have hall:=mP hd
 have h:=aT (step:=dh rq) s.reverse (fun i (a:Int×Bool)=>(s,a.1,a.2,(s.length:Int) - 1 - ((i:Nat):Int),())) (fun _ x a=>Sum.inl ((a.1 + eQ a.2 x) % 10,!a.2)) (fun a=> .inl (s,a.1,a.2,(-1:Int),()))
  (fun _ a=>0<=a.1/\a.1 < 10) (a0:=(0,true)) ⟨by decide,by decide⟩ (fun i x a hx ha=>by
    obtain ⟨hlt,hx'⟩:=zv hx;have hdx:=hall x (List.mem_of_getElem? hx');have hbd:=ua a.2 hdx;have hdd:=fW.1 hdx;have e:(s.length:Int) - 1 - (i:Int)=((s.length - 1 - i:Nat):Int):=by omega
    have e':(s.length:Int) - 1 - ((i + 1:Nat):Int)=((s.length - 1 - i:Nat):Int) - 1:=by omega
    obtain ⟨a1,a2⟩:=a;show rq s a1 a2 ((s.length:Int) - 1 - (i:Int))=some (.inl (s,(a1 + eQ a2 x) % 10,!a2,(s.length:Int) - 1 - ((i + 1:Nat):Int),()));rw [e,e'];have hle:bD 0 ((s.length - 1 - i:Nat):Int)=true:=decide_eq_true (by omega);have ha:0<=a1/\a1 < 10:=ha;unfold rq;rw [hle,aC hx',eG hx',NJ hdx,aR (a:=((s.length - 1 - i:Nat):Int)) (b:=1) (by omega) (by omega)];have hb:(0<=eQ a2 x/\eQ a2 x<=9):=hbd;cases a2 with
    | false => have hv:eQ false x=(x.toNat:Int) - 48:=rfl;dsimp only [cond_true,cond_false,Bool.not_false];rw [aL (by omega) (by omega),nj (by omega),hv]
    | true =>
      dsimp only [cond_true,cond_false,Bool.not_false,Bool.not_true];rw [EB (by omega) (by omega)];by_cases h9:9 < 2 * ((x.toNat:Int) - 48)
      . have hv:eQ true x=2 * ((x.toNat:Int) - 48) - 9:=by unfold eQ; rw [aD h9]; rfl
        rw [aD h9]; dsimp only [cond_true,cond_false,Bool.not_false]; rw [aR (by omega) (by omega),aL (by omega) (by omega),nj (by omega),hv]
      . have hv:eQ true x=2 * ((x.toNat:Int) - 48):=by unfold eQ; rw [ay h9]; rfl
        rw [ay h9]; dsimp only [cond_true,cond_false,Bool.not_false]; rw [aL (by omega) (by omega),nj (by omega),hv]) (fun i x a a' hx ha hf=>by
    simp only [Sum.inl.injEq] at hf;subst hf;show 0<=(a.1 + eQ a.2 x) % 10/\(a.1 + eQ a.2 x) % 10 < 10;omega) (fun a ha=>by
    have e:(s.length:Int) - 1 - ((s.reverse.length:Nat):Int) = -1:=by simp; omega
    show rq s a.1 a.2 ((s.length:Int) - 1 - ((s.reverse.length:Nat):Int))=_;rw [e];rfl)
 rw [bV (fun x a=>((a.1 + eQ a.2 x) % 10,!a.2))] at h;have h':JV s 0 true ((s.length:Int) - 1 - ((0:Nat):Int))=some (.inl (s,(Im s.reverse (0,true)).1,(Im s.reverse (0,true)).2,(-1:Int),())):=h;have e0:(s.length:Int) - 1 - ((0:Nat):Int)=aH .i64 (ae s) 1:=by rw [aR (by unfold ae; omega) (by unfold ae; omega)]; unfold ae; omega
 have eT:(Im s.reverse (0,true)).1=(zq s.reverse (0,true)).1 % 10:=by have:=Eg s.reverse 0 true;rw [show (0:Int) % 10=0 from rfl] at this;rw [this]
 rw [e0] at h';rw [h',eT];dsimp only [Option.bind_some,Sum.elim_inl,cond_true,cond_false,Bool.not_true];rw [aR (by omega) (by omega),nj (by omega)]; rfl
theorem Q9 (s:List UInt8) (hs:s.length<=aV):MQ s=some ((),((BC s,()),())):=by
 have hbig:aV=140737488355328:=rfl;unfold MQ BC;rw [gJ s hs];dsimp only [Option.bind_some];cases hd:aY s with
 | false=>rfl
 | true =>
 have hall:=mP hd
 have h:=aT (step:=dh sa) s.reverse (fun i (a:Int×Bool)=>(s,a.1,a.2,(s.length:Int) - 1 - ((i:Nat):Int),())) (fun _ x a=>Sum.inl (a.1 + eQ a.2 x,!a.2)) (fun a=> .inl (s,a.1,a.2,(-1:Int),()))
  (fun i a=>0<=a.1/\a.1<=9 * i) (a0:=(0,true)) ⟨by decide,by decide⟩ (fun i x a hx ha=>by
    obtain ⟨hlt,hx'⟩:=zv hx;have hdx:=hall x (List.mem_of_getElem? hx');have hbd:=ua a.2 hdx;have hdd:=fW.1 hdx;have e:(s.length:Int) - 1 - (i:Int)=((s.length - 1 - i:Nat):Int):=by omega
    have e':(s.length:Int) - 1 - ((i + 1:Nat):Int)=((s.length - 1 - i:Nat):Int) - 1:=by omega
    obtain ⟨a1,a2⟩:=a;show sa s a1 a2 ((s.length:Int) - 1 - (i:Int))=some (.inl (s,a1 + eQ a2 x,!a2,(s.length:Int) - 1 - ((i + 1:Nat):Int),()));rw [e,e'];have hle:bD 0 ((s.length - 1 - i:Nat):Int)=true:=decide_eq_true (by omega);have ha:0<=a1/\a1<=9 * i:=ha;unfold sa;rw [hle,aC hx',eG hx',OY hdx,aR (a:=((s.length - 1 - i:Nat):Int)) (b:=1) (by omega) (by omega)];have hb:(0<=eQ a2 x/\eQ a2 x<=9):=hbd;cases a2 with
    | false => have hv:eQ false x=(x.toNat:Int) - 48:=rfl;dsimp only [cond_true,cond_false,Bool.not_false];rw [aL (by omega) (by omega),hv]
    | true =>
      dsimp only [cond_true,cond_false,Bool.not_false,Bool.not_true];have em:jY .i64 ((x.toNat:Int) - 48) 2=2 * ((x.toNat:Int) - 48):=by rw [EB (by omega) (by omega)]; omega
      rw [em];by_cases h9:9 < 2 * ((x.toNat:Int) - 48)
      . have hv:eQ true x=2 * ((x.toNat:Int) - 48) - 9:=by unfold eQ; rw [aD h9]; rfl
        rw [aD h9]; dsimp only [cond_true,cond_false,Bool.not_false]; rw [aR (by omega) (by omega),aL (by omega) (by omega),hv]
      . have hv:eQ true x=2 * ((x.toNat:Int) - 48):=by unfold eQ; rw [ay h9]; rfl
        rw [ay h9]; dsimp only [cond_true,cond_false,Bool.not_false]; rw [aL (by omega) (by omega),hv]) (fun i x a a' hx ha hf=>by
    have hbd:=ua a.2 (hall x (List.mem_of_getElem? (zv hx).2));simp only [Sum.inl.injEq] at hf;subst hf;show 0<=a.1 + eQ a.2 x/\a.1 + eQ a.2 x<=9 * ((i + 1:Nat):Int);omega) (fun a ha=>by
    have e:(s.length:Int) - 1 - ((s.reverse.length:Nat):Int) = -1:=by simp; omega
    show sa s a.1 a.2 ((s.length:Int) - 1 - ((s.reverse.length:Nat):Int))=_;rw [e];rfl)
 rw [bV (fun x a=>(a.1 + eQ a.2 x,!a.2))] at h;have h':IN s 0 true ((s.length:Int) - 1 - ((0:Nat):Int))=some (.inl (s,(zq s.reverse (0,true)).1,(zq s.reverse (0,true)).2,(-1:Int),())):=h;have e0:(s.length:Int) - 1 - ((0:Nat):Int)=aH .i64 (ae s) 1:=by rw [aR (by unfold ae; omega) (by unfold ae; omega)]; unfold ae; omega
 have hS:∀ (xs:List UInt8) (a:Int×Bool),(∀ x∈xs,fP x=true)->0<=a.1->0<=(zq xs a).1:=by
  intro xs;induction xs with
  | nil=>intro a _ h; exact h
  | cons x r ih => intro a hx h;have:=ua a.2 (hx x (List.mem_cons_self ..));exact ih (a.1 + eQ a.2 x,!a.2) (fun y hy=>hx y (List.mem_cons_of_mem _ hy)) (by show 0<=a.1 + eQ a.2 x; omega)
 have h0:=hS s.reverse (0,true) (fun x hx=>hall x (List.mem_reverse.1 hx)) (by decide);rw [e0] at h';rw [h'];dsimp only [Option.bind_some,Sum.elim_inl,cond_true,cond_false,Bool.not_true];rw [nj h0,aR (by omega) (by omega),nj (by omega)]; rfl
def qD (s:List UInt8):Bool:=cond (aY s) (cond (bD 2 (ae s)) (aq (BC (sub s 0 (ae s - 1))) (dy s (ae s - 1) - 48)) false) false
theorem NP {s:List UInt8} (hd:aY s=true) (h:2<=s.length):∃ x,fP x=true/\aU (ae s - 1) s=true/\dy s (ae s - 1)=(x.toNat:Int)/\dO 0 (ae s - 1) s=true/\(sub s 0 (ae s - 1)).length<=s.length:=by
 have e:ae s - 1=((s.length - 1:Nat):Int):=by unfold ae; omega
 obtain ⟨x,hx⟩:∃ x,s[s.length - 1]? = some x:=⟨s[s.length - 1]'(by omega),by simp⟩;refine ⟨x,mP hd x (List.mem_of_getElem? hx),?_,?_,?_,?_⟩
 . rw [e]; exact aC hx
 . rw [e]; exact eG hx
 . rw [e]; unfold dO fS bD;rw [decide_eq_true (by decide),decide_eq_true (by omega),decide_eq_true (by omega)]; rfl
 . rw [e]; unfold sub; simp
theorem Js (s:List UInt8) (hs:s.length<=aV):ME s=some ((),((qD s,()),())):=by
 have hbig:aV=140737488355328:=rfl;unfold ME qD;rw [fO s hs];dsimp only [Option.bind_some];cases hd:aY s with
 | false=>rfl
 | true =>
   by_cases h2:2<=s.length
   . obtain ⟨x,h3,h4,h5,h6,h7⟩:=NP hd h2;have e1:bD 2 (ae s)=true:=decide_eq_true (by unfold ae; omega);have e2:aH .i64 (ae s) 1=ae s - 1:=aR (by unfold ae; omega) (by unfold ae; omega);rw [ay (show ¬ ae s < 2 by unfold ae; omega),e1,e2];dsimp only [cond_true,cond_false,Bool.not_true];rw [h6,h4,P8 _ (Nat.le_trans h7 hs),h5,NJ h3]; rfl
   . have e1:bD 2 (ae s)=false:=decide_eq_false (by unfold ae; omega);rw [aD (show ae s < 2 by unfold ae; omega),e1]; rfl
theorem H4 (s:List UInt8) (hs:s.length<=aV):MZ s=some ((),((qD s,()),())):=by
 have hbig:aV=140737488355328:=rfl;unfold MZ qD;have e2:aH .i64 (ae s) 1=ae s - 1:=aR (by unfold ae; omega) (by unfold ae; omega);dsimp only;rw [gJ s hs,e2];dsimp only [Option.bind_some];by_cases h2:2<=s.length
 . have e1:bD 2 (ae s)=true:=decide_eq_true (by unfold ae; omega);have e3:bD 1 (ae s - 1)=true:=decide_eq_true (by unfold ae; omega);rw [e1,e3];cases hd:aY s with
   | false=>rfl
   | true => obtain ⟨x,h3,h4,h5,h6,h7⟩:=NP hd h2;dsimp only [cond_true,cond_false,Bool.not_true];rw [h6,h4,Q9 _ (Nat.le_trans h7 hs),h5,OY h3]; rfl
 . have e1:bD 2 (ae s)=false:=decide_eq_false (by unfold ae; omega);have e3:bD 1 (ae s - 1)=false:=decide_eq_false (by unfold ae; omega);rw [e1,e3];cases aY s <;> rfl
def fF (s:List UInt8):Bool:=cond (bD (ae s) 19) (qD s) false
theorem vU (s:List UInt8) (hs:s.length<=aV):Fh s=some ((),((fF s,()),())):=by unfold Fh fF;rw [Js s hs];cases bD (ae s) 19 <;> rfl
theorem wQ (s:List UInt8) (hs:s.length<=aV):rU s=some ((),((fF s,()),())):=by unfold rU fF;rw [H4 s hs];cases bD (ae s) 19 <;> rfl
def gw (a:Int):Int:=if a < 0 then 0 else if 4611686018427387904 < a then 4611686018427387904 else a
theorem nv (a:Int):0<=gw a/\gw a<=4611686018427387904:=by
 unfold gw;split
 . omega
 . split <;> omega
def xD (a b:Int):Int:=if 4611686018427387904 - gw b < gw a then 4611686018427387904 else gw a + gw b
theorem Eu (a:Int):J3 a 0 4611686018427387904=some ((),((gw a,()),())):=by
 unfold J3 gw;by_cases h:a < 0
 . rw [aD h,if_pos h]; rfl
 . by_cases h2:4611686018427387904 < a
   . rw [ay h,if_neg h,aD h2,if_pos h2]; rfl
   . rw [ay h,if_neg h,ay h2,if_neg h2]; rfl
theorem wZ {a:Int} (h:0<=a/\a<=4611686018427387904):cO a=true:=fC.2 h
theorem O3 (a b:Int):Jr a b=some ((),((xD a b,()),())):=by
 unfold Jr Pj xD;have h1:=nv a;have h2:=nv b;rw [Eu,Eu];dsimp only [Option.bind_some];rw [pV,pV,wZ h1,wZ h2,aR (by omega) (by omega)];dsimp only [Option.bind_some,Bool.not_true,cond_false];by_cases h:4611686018427387904 - gw b < gw a
 . rw [aD h,if_pos h]; rfl
 . rw [ay h,if_neg h,aL (by omega) (by omega)]; rfl
theorem OX (a b:Int):I4 a b=some ((),((xD a b,()),())):=by
 have e:∀ x:Int,Fx 0 (Gb x 4611686018427387904)=gw x:=fun x=>by unfold Fx Gb gw;split <;> split <;> (try split) <;> omega
 have h1:=nv a;have h2:=nv b;unfold I4 xD;dsimp only;rw [e,e,aR (by omega) (by omega)];by_cases h:4611686018427387904 - gw b < gw a
 . rw [aD h,if_pos h]; rfl
 . rw [ay h,if_neg h,aL (by omega) (by omega)]; rfl
def zH (xs:List jP):Int:=xs.foldl (fun a h=>xD a h.2.1) 0
theorem Jk (xs:List jP) (hs:xs.length<=aV):L8 xs=some ((),((zH xs,()),())):=by
 unfold L8;have h:=aG (step:=dh pr) xs (fun i (a:Int)=>(a,xs,ae xs,((i:Nat):Int),())) (fun _ x a=>Sum.inl (xD a x.2.1)) (fun a=> .inl (a,xs,ae xs,(xs.length:Int),())) (a0:=0) (fun i x a hx=>by
  have hlt:=aj hx;show pr a xs (ae xs) (i:Int)=_;unfold pr;rw [aI hx,aC hx,aW _ hx,aO (by omega),O3]; rfl) (fun a=>by
  show pr a xs (ae xs) (xs.length:Int)=_;unfold pr;rw [ax rfl]; rfl)
 rw [bV (fun (x:jP) a=>xD a x.2.1)] at h;have h':IA 0 xs (ae xs) 0=_:=h;rw [h']; rfl
theorem Kf (xs:List jP) (hs:xs.length<=aV):MG xs=some ((),((zH xs,()),())):=by
 unfold MG;have h:=aG (step:=dh oN) xs (fun i (a:Int)=>(a,xs,ae xs,((i:Nat):Int),())) (fun _ x a=>Sum.inl (xD a x.2.1)) (fun a=> .inl (a,xs,ae xs,(xs.length:Int),())) (a0:=0) (fun i x a hx=>by
  have hlt:=aj hx;show oN a xs (ae xs) (i:Int)=_;unfold oN;rw [aI hx,aC hx,aW _ hx,aO (by omega),OX]; rfl) (fun a=>by
  show oN a xs (ae xs) (xs.length:Int)=_;unfold oN;rw [ax rfl]; rfl)
 rw [bV (fun (x:jP) a=>xD a x.2.1)] at h;have h':Jw 0 xs (ae xs) 0=_:=h;rw [h']; rfl
def xq (r:ur):Bool:=cond (dv r.1 1 1000) (cond (dv (ae r.2.2.1) 1 8) (cond (aq (ae r.2.2.2.1) (ae r.2.2.1)) (cond (cW r.2.1) (r.2.2.1.all (fun x=>cO x.1) && r.2.2.2.1.all (fun x=>cO x.1)) false) false) false) false
def BW (r:ur):Prop:=r.2.2.1.length<=1048576/\r.2.2.2.1.length<=1048576
theorem ej {a b:Int}:aq a b=true↔a=b:=by simp [aq]
theorem Px (r:ur) (hb:BW r):I2 r=some ((),((xq r,()),())):=by
 have hbig:aV=140737488355328:=rfl;obtain ⟨hb1,hb2⟩:=hb;unfold I2 xq;dsimp only;rw [kr,kr,my];dsimp only [Option.bind_some];cases dv r.1 1 1000 with
 | false=>rfl
 | true =>
 cases dv (ae r.2.2.1) 1 8 with
 | false=>rfl
 | true =>
 cases he:aq (ae r.2.2.2.1) (ae r.2.2.1) with
 | false=>rfl
 | true =>
 cases cW r.2.1 with
 | false=>rfl
 | true =>
 have hlen:r.2.2.2.1.length=r.2.2.1.length:=by have:=ej.1 he;unfold ae at this; omega
 dsimp only [cond_true,cond_false,Bool.not_true];have h:=aG (step:=dC pC) (r.2.2.1.zip r.2.2.2.1) (fun i (_:Unit)=>(ae r.2.2.1,((i:Nat):Int),r,())) (fun _ x _=>bif cO x.1.1 && cO x.2.1 then Sum.inl () else .inr (.inr (false,()))) (fun _=> .inl (ae r.2.2.1,(r.2.2.1.length:Int),r,())) (a0:=()) (fun i x a hx=>by
  have hx':=List.getElem?_zip_eq_some.1 hx;have hlt:=aj hx'.1;show pC (ae r.2.2.1) (i:Int) r=_;unfold pC;rw [aI hx'.1,aC hx'.1,aC hx'.2,aW _ hx'.1,aW _ hx'.2,pV,pV,aO (by omega)];dsimp only [cond_true,Option.bind_some];cases cO x.1.1 <;> cases cO x.2.1 <;> rfl) (fun a=>by
  have e:(r.2.2.1.zip r.2.2.2.1).length=r.2.2.1.length:=by rw [List.length_zip,hlen,Nat.min_self]
  rw [e];show pC (ae r.2.2.1) (r.2.2.1.length:Int) r=_;unfold pC;rw [ax rfl]; rfl)
 rw [gh (fun (x:(Int×Unit)×(Int×Unit))=>cO x.1.1 && cO x.2.1)] at h;have h':Ii (ae r.2.2.1) 0 r=_:=h;rw [h'];have hz:∀ (a b:List (Int×Unit)),b.length=a.length->(a.zip b).all (fun x=>cO x.1.1 && cO x.2.1)=(a.all (fun x=>cO x.1) && b.all (fun x=>cO x.1)):=by
  intro a;induction a with
  | nil=>intro b hb; cases b with | nil=>rfl | cons _ _=>simp at hb
  | cons x a ih =>
    intro b hb;cases b with
    | nil=>simp at hb
    | cons y b => simp only [List.zip_cons_cons,List.all_cons];rw [ih b (by simpa using hb)];cases cO x.1 <;> cases cO y.1 <;> simp
 rw [hz _ _ hlen];cases r.2.2.1.all (fun x=>cO x.1) && r.2.2.2.1.all (fun x=>cO x.1) <;> rfl
theorem Kg (a b:List (Int×Unit)) (ha:a.length<=1048576) (hb:b.length<=1048576):KN [(a,()),(b,())]=some ((),((a ++ b,()),())):=by
 have hbig:aV=140737488355328:=rfl;unfold KN;have hlen:((a.length + b.length:Nat):Int)=(a.length:Int) + b.length:=by omega
 have h:Df [(a,()),(b,())] 0 [(a,()),(b,())] 2 0=some (.inl ([(a,()),(b,())],(a.length:Int) + b.length,[(a,()),(b,())],2,2,())):=by
  refine aP _ (x':=([(a,()),(b,())],(a.length:Int),[(a,()),(b,())],2,1,())) ?_ (aP _ (x':=([(a,()),(b,())],(a.length:Int) + b.length,[(a,()),(b,())],2,2,())) ?_ (aF _ ?_))
  . show ri [(a,()),(b,())] 0 [(a,()),(b,())] 2 0=_;unfold ri;have e:ak .i64 0 (ae (gt d53 [(a,()),(b,())] 0).1)=(a.length:Int):=by
     show ak .i64 0 (ae a)=_;rw [aL (by unfold ae; omega) (by unfold ae; omega)]; unfold ae; omega
    dsimp only;rw [e,ay (a:=(a.length:Int)) (b:=0) (by omega)]; rfl
  . show ri [(a,()),(b,())] (a.length:Int) [(a,()),(b,())] 2 1=_;unfold ri;have e:ak .i64 (a.length:Int) (ae (gt d53 [(a,()),(b,())] 1).1)=(a.length:Int) + b.length:=by
     show ak .i64 (a.length:Int) (ae b)=_;rw [aL (by unfold ae; omega) (by unfold ae; omega)]; unfold ae; omega
    dsimp only;rw [e,ay (a:=(a.length:Int) + b.length) (b:=0) (by omega)]; rfl
  . rfl
 have h1:Df [(a,()),(b,())] 0 [(a,()),(b,())] (ae [(a,()),(b,())]) 0=_:=h;have hg:MC ((a.length:Int) + b.length)=some ((),(([],()),())):=by
  unfold MC;dsimp only;rw [ay (by omega),aR (a:=0) (b:=0) (by decide) (by decide),aR (by omega) (by omega)];by_cases h0:(0:Int) < (a.length:Int) + b.length - (0 - 0)
  . have e2:Y3 8 ((a.length:Int) + b.length - (0 - 0))=true:=by
     unfold Y3 bD;rw [decide_eq_true (by omega),decide_eq_true (by rw [hbig]; omega)]; rfl
    have e3:dO 0 0 (uF d3 ((a.length:Int) + b.length - (0 - 0)))=true:=by unfold dO fS bD;rw [decide_eq_true (by decide),decide_eq_true (by omega)]; rfl
    rw [aD h0,e2,e3];rfl
  . rw [ay h0]; rfl
 have h2:Du [] [(a,()),(b,())] 2 0=some (.inl (a ++ b,[(a,()),(b,())],2,2,())):=by
  refine aP _ (x':=(a,[(a,()),(b,())],2,1,())) ?_ (aP _ (x':=(a ++ b,[(a,()),(b,())],2,2,())) ?_ (aF _ ?_))
  . show sg [] [(a,()),(b,())] 2 0=_;unfold sg;have e:cT 8 ([]:List (Int×Unit)) (gt d53 [(a,()),(b,())] 0).1=true:=Nat.ble_eq_true_of_le (by show (0 + a.length) * 8<=aV; omega);rw [e]; rfl
  . show sg a [(a,()),(b,())] 2 1=_;unfold sg;have e:cT 8 a (gt d53 [(a,()),(b,())] 1).1=true:=Nat.ble_eq_true_of_le (by show (a.length + b.length) * 8<=aV; omega);rw [e]; rfl
  . rfl
 have h2':Du [] [(a,()),(b,())] (ae [(a,()),(b,())]) 0=_:=h2;rw [h1];dsimp only [Option.bind_some,Sum.elim_inl];rw [hg];dsimp only [Option.bind_some,Sum.elim_inl];rw [h2']; rfl
theorem QF (r:ur) (hb:BW r):G9 r=some ((),((xq r,()),())):=by
 have hbig:aV=140737488355328:=rfl;obtain ⟨hb1,hb2⟩:=hb;unfold G9;rw [Kg _ _ hb1 hb2];dsimp only [Option.bind_some];have h:=aG (step:=gz py) (r.2.2.1 ++ r.2.2.2.1) (fun i (_:Unit)=>(ae r.2.2.1,r.2.2.1 ++ r.2.2.2.1,ae (r.2.2.1 ++ r.2.2.2.1),((i:Nat):Int),r,())) (fun _ x _=>bif cO x.1 then Sum.inl () else .inr (.inr (false,()))) (fun _=> .inl (ae r.2.2.1,r.2.2.1 ++ r.2.2.2.1,ae (r.2.2.1 ++ r.2.2.2.1),((r.2.2.1 ++ r.2.2.2.1).length:Int),r,())) (a0:=()) (fun i x a hx=>by
  have hlt:=aj hx;rw [List.length_append] at hlt;show py (ae r.2.2.1) (r.2.2.1 ++ r.2.2.2.1) (ae (r.2.2.1 ++ r.2.2.2.1)) (i:Int) r=_;unfold py;rw [aI hx,aC hx,aW _ hx,Eh,aO (by omega)];dsimp only [cond_true,Option.bind_some];cases cO x.1 <;> rfl) (fun a=>by
  show py (ae r.2.2.1) (r.2.2.1 ++ r.2.2.2.1) (ae (r.2.2.1 ++ r.2.2.2.1)) ((r.2.2.1 ++ r.2.2.2.1).length:Int) r=_;unfold py;rw [ax rfl]; rfl)
 rw [gh (fun (x:Int×Unit)=>cO x.1)] at h;have h':JU (ae r.2.2.1) (r.2.2.1 ++ r.2.2.2.1) (ae (r.2.2.1 ++ r.2.2.2.1)) 0 r=_:=h;rw [h',List.all_append];unfold xq;cases r.2.2.1.all (fun x=>cO x.1) && r.2.2.2.1.all (fun x=>cO x.1) with
 | false => cases dv r.1 1 1000 <;> cases dv (ae r.2.2.1) 1 8 <;> cases aq (ae r.2.2.2.1) (ae r.2.2.1) <;> cases cW r.2.1 <;> rfl
 | true => dsimp only [cond_true,Option.bind_some,Sum.elim_inl];rw [iZ,iZ,mQ];dsimp only [Option.bind_some];cases dv r.1 1 1000 <;> cases dv (ae r.2.2.1) 1 8 <;> cases aq (ae r.2.2.2.1) (ae r.2.2.1) <;> cases cW r.2.1 <;> rfl
def vM (s:eK):Bool:=cond (cond (aY s.1) (aq (ae s.1) 6) false) (cond (cond (aY s.2.1) (aq (ae s.2.1) 4) false) (dv (ae s.2.2.1) 1 200) false) false
def Hs (s:eK):Prop:=s.1.length<=aV/\s.2.1.length<=aV
theorem Rk (s:eK) (hb:Hs s):Mg s=some ((),((vM s,()),())):=by unfold Mg vM;rw [fO _ hb.1,fO _ hb.2];dsimp only [Option.bind_some];rw [kr];cases cond (aY s.1) (aq (ae s.1) 6) false <;> cases cond (aY s.2.1) (aq (ae s.2.1) 4) false <;> rfl
theorem Pu (s:eK) (hb:Hs s):Nh s=some ((),((vM s,()),())):=by unfold Nh vq vM;rw [gJ _ hb.1,gJ _ hb.2];dsimp only [Option.bind_some];rw [iZ];cases cond (aY s.1) (aq (ae s.1) 6) false <;> cases cond (aY s.2.1) (aq (ae s.2.1) 4) false <;> rfl
def iv (a b:eK):Bool:=cond (cq a.1 b.1) (cq a.2.1 b.2.1) false
def jM (xs:List eK) (i:Nat) (x:eK):Bool:=cond (vM x) ((xs.take i).all (fun y=> !iv y x)) false
def pv (xs:List eK):Bool:=cond (allI (jM xs) 0 xs) (bD (ae xs) 6) false
def CI (xs:List eK):Prop:=xs.length<=1048576/\∀ y∈xs,Hs y
theorem qC {α:Type} (xs:List α) (i:Nat):sub xs 0 (i:Int)=xs.take i:=by unfold sub; simp
theorem jj {α:Type} {xs:List α} {i:Nat} (h:i<=xs.length):dO 0 (i:Int) xs=true:=by unfold dO fS bD;rw [decide_eq_true (by decide),decide_eq_true (by omega),decide_eq_true (by omega)]; rfl
theorem Ll (xs:List eK) (hb:CI xs):K0 xs=some ((),((pv xs,()),())):=by
 have hbig:aV=140737488355328:=rfl;have hb1:=hb.1;unfold K0;have inner:∀ (i:Nat) (x:eK),i<=xs.length->J7 xs xs (ae xs) (i:Int) (xs.take i) (ae (xs.take i)) 0 x=some (bif (xs.take i).all (fun y=> !iv y x) then .inl (xs,xs,ae xs,(i:Int),xs.take i,ae (xs.take i),((xs.take i).length:Int),x,()) else .inr (false,())):=fun i x hi=>by
  have hti:(xs.take i).length<=xs.length:=by rw [List.length_take]; exact Nat.min_le_right _ _
  have h:=aG (step:=yl oL) (xs.take i) (fun j (_:Unit)=>(xs,xs,ae xs,(i:Int),xs.take i,ae (xs.take i),((j:Nat):Int),x,())) (fun _ y _=>bif !iv y x then Sum.inl () else .inr (.inr (false,()))) (fun _=> .inl (xs,xs,ae xs,(i:Int),xs.take i,ae (xs.take i),((xs.take i).length:Int),x,())) (a0:=()) (fun j y a hy=>by
   have hlt:=aj hy;show oL xs xs (ae xs) (i:Int) (xs.take i) (ae (xs.take i)) (j:Int) x=_;unfold oL iv;rw [aI hy,aC hy,aW _ hy,aO (by omega)];dsimp only [cond_true];cases cond (cq y.1 x.1) (cq y.2.1 x.2.1) false <;> rfl) (fun a=>by
   show oL xs xs (ae xs) (i:Int) (xs.take i) (ae (xs.take i)) ((xs.take i).length:Int) x=_;unfold oL;rw [ax rfl]; rfl)
  rw [gh (fun y=> !iv y x)] at h;exact h
 have h:=aG (step:=dh pQ) xs (fun i (_:Unit)=>(xs,xs,ae xs,((i:Nat):Int),())) (fun i x _=>bif jM xs i x then Sum.inl () else .inr (.inr (false,()))) (fun _=> .inl (xs,xs,ae xs,(xs.length:Int),())) (a0:=()) (fun i x a hx=>by
  have hlt:=aj hx;show pQ xs xs (ae xs) (i:Int)=_;unfold pQ jM;rw [aI hx,aC hx,aW _ hx];dsimp only [cond_true];rw [Rk x (hb.2 x (List.mem_of_getElem? hx)),jj (Nat.le_of_lt hlt),qC];dsimp only [cond_true,Option.bind_some];rw [inner i x (Nat.le_of_lt hlt)];cases vM x with
  | false=>rfl
  | true =>
    cases (xs.take i).all (fun y=> !iv y x) with
    | false=>rfl
    | true =>
      dsimp only [cond_true,cond_false,Bool.not_true,Option.bind_some,Sum.elim_inl];rw [aO (by omega)]; rfl) (fun a=>by
  show pQ xs xs (ae xs) (xs.length:Int)=_;unfold pQ;rw [ax rfl]; rfl)
 rw [cK] at h;have h':Iv xs xs (ae xs) 0=_:=h;rw [h'];unfold pv;cases allI (jM xs) 0 xs <;> rfl
def gG {α:Type} (p:α->Bool):Nat->List α->Int
 | _,[] => -1
 | i,x :: r=>bif p x then (i:Int) else gG p (i + 1) r
theorem mE {α Y:Type} (p:α->Bool) (y:Int->Y) (z:Y) (out:Y->Int) (hy:∀ n,out (y n)=n) (hz:out z = -1):∀ (xs:List α) (i:Nat),out (ju (fun i x _=>bif p x then Sum.inr (y (i:Int)) else .inl ()) (fun _=>z) i xs ())=gG p i xs
 | [],_=>hz
 | x :: r,i=>by
   rw [ju,gG];cases hp:p x with
   | true=>exact hy _
   | false=>exact mE p y z out hy hz r (i + 1)
theorem wB {α:Type} (p:α->Bool):∀ (xs:List α) (i:Nat),gG p i xs = -1∨((i:Int)<=gG p i xs/\gG p i xs < i + xs.length)
 | [],_=> .inl rfl
 | x :: r,i=>by
   rw [gG];cases p x with
   | true=>right; simp only [cond_true,List.length_cons]; omega
   | false =>
     rcases wB p r (i + 1) with h | h
     . exact .inl h
     . right; simp only [cond_false,List.length_cons]; omega
theorem BS {α:Type} (p:α->Bool):∀ {xs:List α} {i:Nat} {x:α} (k:Nat),xs[i]? = some x->p x=true->(gG p k xs=((k + i:Nat):Int)↔(xs.take i).all (fun y=> !p y)=true)
 | [],i,x,k,h,_=>by simp at h
 | y :: r,0,x,k,h,hp=>by simp only [List.getElem?_cons_zero,Option.some.injEq] at h;subst h;rw [gG,hp]; simp
 | y :: r,i + 1,x,k,h,hp=>by
   have ih:=BS p (xs:=r) (i:=i) (x:=x) (k + 1) (by simpa using h) hp;rw [gG,List.take_succ_cons,List.all_cons];cases hy:p y with
   | true => simp only [cond_true,Bool.not_true,Bool.false_and,Bool.false_eq_true,iff_false];omega
   | false => simp only [cond_false,Bool.not_false,Bool.true_and];rw [<- ih,show k + 1 + i=k + (i + 1) by omega]
theorem J9 (xs:List eK) (a b:List UInt8) (hs:xs.length<=1048576):KT xs a b=some ((),((gG (fun y=>cond (cq y.1 a) (cq y.2.1 b) false) 0 xs,()),())):=by
 have hbig:aV=140737488355328:=rfl;unfold KT PD;have h:=aG (step:=dh o8) xs (fun i (_:Unit)=>(xs,((a,()),(b,()),()),ae xs,((i:Nat):Int),())) (fun i y _=>bif cond (cq y.1 a) (cq y.2.1 b) false then Sum.inr (.inr ((i:Int),())) else Sum.inl ()) (fun _=> .inl (xs,((a,()),(b,()),()),ae xs,(xs.length:Int),())) (a0:=()) (fun i y u hy=>by
  have hlt:=aj hy;show o8 xs ((a,()),(b,()),()) (ae xs) (i:Int)=_;unfold o8 Rq;rw [aI hy,aC hy,aW _ hy,aO (by omega)];dsimp only [cond_true,Option.bind_some];cases cond (cq y.1 a) (cq y.2.1 b) false <;> rfl) (fun u=>by
  show o8 xs ((a,()),(b,()),()) (ae xs) (xs.length:Int)=_;unfold o8;rw [ax rfl]; rfl)
 have h':JT xs ((a,()),(b,()),()) (ae xs) 0=_:=h;rw [h'];have hf:=mE (Y:=Sum ((List eK)×(((List UInt8)×Unit)×((List UInt8)×Unit)×Unit)×Int×Int×Unit) (Int×Unit)) (fun (y:eK)=>cond (cq y.1 a) (cq y.2.1 b) false) (fun n=> .inr (n,())) (.inl (xs,((a,()),(b,()),()),ae xs,(xs.length:Int),())) (fun y=>match y with | .inl _ => -1 | .inr z=>z.1) (fun _=>rfl) rfl xs 0;rw [<- hf];dsimp only [Option.bind_some];cases ju _ _ 0 xs () <;> rfl
theorem Nf (xs:List eK) (hb:CI xs):LV xs=some ((),((pv xs,()),())):=by
 have hbig:aV=140737488355328:=rfl;have hb1:=hb.1;unfold LV;have h:=aG (step:=dh nT) xs (fun i (_:Unit)=>(xs,xs,ae xs,((i:Nat):Int),())) (fun i x _=>bif jM xs i x then Sum.inl () else .inr (.inr (false,()))) (fun _=> .inl (xs,xs,ae xs,(xs.length:Int),())) (a0:=()) (fun i x a hx=>by
  have hlt:=aj hx;show nT xs xs (ae xs) (i:Int)=_;unfold nT jM;rw [aI hx,aC hx,aW _ hx];dsimp only [cond_true];rw [Pu x (hb.2 x (List.mem_of_getElem? hx))];dsimp only [cond_true,Option.bind_some];rw [J9 xs _ _ hb1,aO (by omega)];have hp:cond (cq x.1 x.1) (cq x.2.1 x.2.1) false=true:=by rw [ep,ep]; rfl
  have hk:=BS (fun (y:eK)=>cond (cq y.1 x.1) (cq y.2.1 x.2.1) false) 0 hx hp;rw [Nat.zero_add,<- ej] at hk;have hk':aq (gG (fun (y:eK)=>cond (cq y.1 x.1) (cq y.2.1 x.2.1) false) 0 xs) (i:Int)=(xs.take i).all (fun y=> !iv y x):=by rw [Bool.eq_iff_iff]; exact hk
  cases vM x with
  | false=>rfl
  | true =>
    dsimp only [cond_true,cond_false,Bool.not_true,Option.bind_some];rw [hk'];cases (xs.take i).all (fun y=> !iv y x) <;> rfl) (fun a=>by
  show nT xs xs (ae xs) (xs.length:Int)=_;unfold nT;rw [ax rfl]; rfl)
 rw [cK] at h;have h':H8 xs xs (ae xs) 0=_:=h;rw [h'];unfold pv;cases allI (jM xs) 0 xs <;> rfl
abbrev aQ:=List UInt8×Int×Int×Int×Int×List jP×Int×Int×List (Int×Unit)×List (Int×Unit)×List eK×Unit
def xE (a:aQ):ur:=(a.2.2.2.2.2.2.1,a.2.2.2.2.2.2.2.1,a.2.2.2.2.2.2.2.2.1,a.2.2.2.2.2.2.2.2.2.1,())
def jE (a:aQ):Prop:=a.1.length<=1048576/\(a.2.2.2.2.2.1.length<=1048576/\∀ y∈a.2.2.2.2.2.1,y.1.length<=1048576)/\BW (xE a)/\a.2.2.2.2.2.2.2.2.2.2.1.length<=1048576/\∀ y∈a.2.2.2.2.2.2.2.2.2.2.1,y.1.length<=1048576/\y.2.1.length<=1048576/\y.2.2.1.length<=1048576
theorem cE {n:Nat} (h:n<=1048576):n<=aV:=Nat.le_trans h (by decide)
theorem jE.hs {a:aQ} (h:jE a):Dl a.2.2.2.2.2.1:=⟨cE h.2.1.1,fun y hy=>cE (h.2.1.2 y hy)⟩
theorem jE.ss {a:aQ} (h:jE a):CI a.2.2.2.2.2.2.2.2.2.2.1:=⟨h.2.2.2.1,fun y hy=>⟨cE (h.2.2.2.2 y hy).1,cE (h.2.2.2.2 y hy).2.1⟩⟩
def xv (a:aQ):Bool:=cond (fF a.1) (cond (dv a.2.1 0 9007199254740992) (cond (dv a.2.2.2.1 0 1000) (cond (dv a.2.2.2.2.1 0 9007199254740992) (cond (cO a.2.2.1) (cond (nW a.2.2.2.2.2.1) (cond (xq (xE a)) (cond (pv a.2.2.2.2.2.2.2.2.2.2.1) (bD (xD a.2.2.1 (zH a.2.2.2.2.2.1)) a.2.1) false) false) false) false) false) false) false) false
theorem QW (a:aQ) (hb:jE a):VX a=some ((),((xv a,()),())):=by
 have h1:=vU a.1 (cE hb.1);have h2:=Lc _ hb.hs;have h3:I2 (a.2.2.2.2.2.2.1,a.2.2.2.2.2.2.2.1,a.2.2.2.2.2.2.2.2.1,a.2.2.2.2.2.2.2.2.2.1,())=_:=Px (xE a) hb.2.2.1;have h4:=Ll _ hb.ss;have h5:=Jk _ hb.hs.1;unfold VX xv;rw [h1,h2,h3,h4,h5,kr,kr,kr,pV];dsimp only [Option.bind_some];rw [O3];dsimp only [Option.bind_some];cases fF a.1 <;> first | rfl | skip
 cases dv a.2.1 0 9007199254740992 <;> first | rfl | skip
 cases dv a.2.2.2.1 0 1000 <;> first | rfl | skip
 cases dv a.2.2.2.2.1 0 9007199254740992 <;> first | rfl | skip
 cases cO a.2.2.1 <;> first | rfl | skip
 cases nW a.2.2.2.2.2.1 <;> first | rfl | skip
 cases xq (xE a) <;> first | rfl | skip
 cases pv a.2.2.2.2.2.2.2.2.2.2.1 <;> rfl
theorem Qp (a:aQ) (hb:jE a):Vy a=some ((),((xv a,()),())):=by
 have h1:=wQ a.1 (cE hb.1);have h2:=M0 _ hb.hs;have h3:G9 (a.2.2.2.2.2.2.1,a.2.2.2.2.2.2.2.1,a.2.2.2.2.2.2.2.2.1,a.2.2.2.2.2.2.2.2.2.1,())=_:=QF (xE a) hb.2.2.1;have h4:=Nf _ hb.ss;have h5:=Kf _ hb.hs.1;unfold Vy xv;rw [h1,h2,h3,h4,h5,iZ,iZ,iZ,Eh];dsimp only [Option.bind_some];rw [OX];dsimp only [Option.bind_some];cases fF a.1 <;> first | rfl | skip
 cases dv a.2.1 0 9007199254740992 <;> first | rfl | skip
 cases dv a.2.2.2.1 0 1000 <;> first | rfl | skip
 cases dv a.2.2.2.2.1 0 9007199254740992 <;> first | rfl | skip
 cases cO a.2.2.1 <;> first | rfl | skip
 cases nW a.2.2.2.2.2.1 <;> first | rfl | skip
 cases xq (xE a) <;> first | rfl | skip
 cases pv a.2.2.2.2.2.2.2.2.2.2.1 <;> rfl
theorem iy {α:Type} {b:Nat} {xs:List α} (h:xs.length * b<=aV):cT b ([]:List α) xs=true:=Nat.ble_eq_true_of_le (by simpa using h)
theorem Kk (r:ur) (hb:BW r):G0 r=some ((),(r,())):=by have hbig:aV=140737488355328:=rfl;obtain ⟨h1,h2⟩:=hb;unfold G0;rw [iy (by omega),iy (by omega)]; rfl
theorem HG (r:ur) (hb:BW r):KB r=some ((),(r,())):=by have hbig:aV=140737488355328:=rfl;obtain ⟨h1,h2⟩:=hb;unfold KB Gu;rw [iy (by omega),iy (by omega)]; rfl
theorem Gj (xs:List eK) (hs:xs.length<=1048576) (hb:∀ y∈xs,y.2.2.1.length<=1048576):LI xs=some ((),((xs,()),())):=by
 have hbig:aV=140737488355328:=rfl;unfold LI;have h:=aT (step:=dh o7) xs (fun i (a:List eK)=>(a,xs,ae xs,((i:Nat):Int),())) (fun _ x a=>Sum.inl (a ++ [x])) (fun a=> .inl (a,xs,ae xs,(xs.length:Int),())) (fun i a=>a.length=i) (a0:=[]) rfl (fun i x a hx ha=>by
  have hlt:=aj hx;have hm:=hb x (List.mem_of_getElem? hx);show o7 a xs (ae xs) (i:Int)=_;unfold o7;have e:∀ y:eK,cT 56 a [y]=true:=fun y=>Nat.ble_eq_true_of_le (by simp; omega)
  rw [aI hx,aC hx,aW _ hx];dsimp only [cond_true];rw [iy (by omega),e,aO (by omega)];rfl) (fun i x a a' hx ha hf=>by
  simp only [Sum.inl.injEq] at hf;rw [<- hf,List.length_append,ha]; rfl) (fun a ha=>by
  show o7 a xs (ae xs) (xs.length:Int)=_;unfold o7;rw [ax rfl]; rfl)
 rw [jI] at h;have h':Kp [] xs (ae xs) 0=_:=h;rw [h']; rfl
theorem Gk (xs:List eK) (hs:xs.length<=1048576) (hb:∀ y∈xs,y.2.2.1.length<=1048576):Lx xs=some ((),((xs,()),())):=by
 have hbig:aV=140737488355328:=rfl;unfold Lx;have h:=aT (step:=dh pk) xs (fun i (a:List eK)=>(a,xs,ae xs,((i:Nat):Int),())) (fun _ x a=>Sum.inl (a ++ [x])) (fun a=> .inl (a,xs,ae xs,(xs.length:Int),())) (fun i a=>a.length=i) (a0:=[]) rfl (fun i x a hx ha=>by
  have hlt:=aj hx;have hm:=hb x (List.mem_of_getElem? hx);show pk a xs (ae xs) (i:Int)=_;unfold pk G7;have e:∀ y:eK,cT 56 a [y]=true:=fun y=>Nat.ble_eq_true_of_le (by simp; omega)
  rw [aI hx,aC hx,aW _ hx];dsimp only [cond_true];rw [iy (by omega),aO (by omega)];dsimp only [cond_true,Option.bind_some];rw [e];rfl) (fun i x a a' hx ha hf=>by
  simp only [Sum.inl.injEq] at hf;rw [<- hf,List.length_append,ha]; rfl) (fun a ha=>by
  show pk a xs (ae xs) (xs.length:Int)=_;unfold pk;rw [ax rfl]; rfl)
 rw [jI] at h;have h':II [] xs (ae xs) 0=_:=h;rw [h']; rfl
theorem Je (a:aQ) (hb:jE a):V0 a=some ((),(a,())):=by have hbig:aV=140737488355328:=rfl;have h1:=hb.2.1.1;have h2:G0 (a.2.2.2.2.2.2.1,a.2.2.2.2.2.2.2.1,a.2.2.2.2.2.2.2.2.1,a.2.2.2.2.2.2.2.2.2.1,())=_:=Kk (xE a) hb.2.2.1;have h3:=Gj _ hb.2.2.2.1 (fun y hy=>(hb.2.2.2.2 y hy).2.2);unfold V0;rw [iy (by omega),h2,h3]; rfl
theorem IM (a:aQ) (hb:jE a):MT a=some ((),(a,())):=by have hbig:aV=140737488355328:=rfl;have h1:=hb.2.1.1;have h2:KB (a.2.2.2.2.2.2.1,a.2.2.2.2.2.2.2.1,a.2.2.2.2.2.2.2.2.1,a.2.2.2.2.2.2.2.2.2.1,())=_:=HG (xE a) hb.2.2.1;have h3:=Gk _ hb.2.2.2.1 (fun y hy=>(hb.2.2.2.2 y hy).2.2);unfold MT Ki;rw [iy (by omega),h2,h3]; rfl
def gR (h:Nat) (c:UInt8):Nat:=((h ^^^ c.toNat) * 16777619) % 4294967296
def yR (s:List UInt8):Nat:=s.foldl gR 2166136261
theorem C6 (h:Nat) (c:UInt8):gR h c < 4294967296:=Nat.mod_lt _ (by decide)
theorem It {a c:Nat} (ha:a < 4294967296) (hc:c < 256):a ^^^ c < 4294967296:=by have:=Nat.xor_lt_two_pow (x:=a) (y:=c) (n:=32) (by omega) (by omega);omega
theorem jk (n a:Nat):BitVec.ofInt n (a:Int)=BitVec.ofNat n a:=by simp
theorem Ds {a:Nat} (c:UInt8) (ha:a < 4294967296):zK .i64 (jY .i64 (Bm .i64 (a:Int) (bG .i64 (c.toNat:Int))) 16777619) 4294967295=((gR a c:Nat):Int):=by
 have hc:c.toNat < 256:=c.toNat_lt;have hx:=It ha hc;have e1:bG .i64 (c.toNat:Int)=(c.toNat:Int):=IntWalk.i64_in _ (by omega);have e2:Bm .i64 (a:Int) (c.toNat:Int)=((a ^^^ c.toNat:Nat):Int):=by
  unfold Bm;have:(BitVec.ofInt IntKind.i64.bits (a:Int) ^^^ BitVec.ofInt IntKind.i64.bits (c.toNat:Int)).toNat=a ^^^ c.toNat:=by
   rw [jk,jk,BitVec.toNat_xor,BitVec.toNat_ofNat,BitVec.toNat_ofNat];have h64:2 ^ IntKind.i64.bits=18446744073709551616:=by decide
   rw [h64,Nat.mod_eq_of_lt (by omega),Nat.mod_eq_of_lt (by omega)]
  rw [this];exact IntWalk.i64_in _ (by omega)
 have e3:jY .i64 ((a ^^^ c.toNat:Nat):Int) 16777619=(((a ^^^ c.toNat) * 16777619:Nat):Int):=by unfold jY;rw [IntWalk.i64_in _ (by omega)];omega
 rw [e1,e2,e3];unfold zK gR;have:(BitVec.ofInt IntKind.i64.bits (((a ^^^ c.toNat) * 16777619:Nat):Int) &&& BitVec.ofInt IntKind.i64.bits (4294967295:Int)).toNat=((a ^^^ c.toNat) * 16777619) % 4294967296:=by
  have h32:(4294967295:Int)=((4294967295:Nat):Int):=rfl;rw [h32,jk,jk,BitVec.toNat_and,BitVec.toNat_ofNat,BitVec.toNat_ofNat];have h64:2 ^ IntKind.i64.bits=18446744073709551616:=by decide
  rw [h64,Nat.mod_eq_of_lt (by omega:(a ^^^ c.toNat) * 16777619 < 18446744073709551616),Nat.mod_eq_of_lt (by omega:4294967295 < 18446744073709551616)];exact Nat.and_two_pow_sub_one_eq_mod _ 32
 rw [this];have:=Nat.mod_lt ((a ^^^ c.toNat) * 16777619) (show 0 < 4294967296 by decide);exact IntWalk.i64_in _ (by omega)
theorem CP {a:Nat} (c:UInt8) (ha:a < 4294967296):jY .u32 (Bm .u32 (a:Int) (bG .u32 (c.toNat:Int))) 16777619=((gR a c:Nat):Int):=by
 have hc:c.toNat < 256:=c.toNat_lt;have hx:=It ha hc;have e1:bG .u32 (c.toNat:Int)=(c.toNat:Int):=IntWalk.u32_in _ (by omega);have e2:Bm .u32 (a:Int) (c.toNat:Int)=((a ^^^ c.toNat:Nat):Int):=by
  unfold Bm;have:(BitVec.ofInt IntKind.u32.bits (a:Int) ^^^ BitVec.ofInt IntKind.u32.bits (c.toNat:Int)).toNat=a ^^^ c.toNat:=by
   rw [jk,jk,BitVec.toNat_xor,BitVec.toNat_ofNat,BitVec.toNat_ofNat];have h32:2 ^ IntKind.u32.bits=4294967296:=by decide
   rw [h32,Nat.mod_eq_of_lt ha,Nat.mod_eq_of_lt (by omega)]
  rw [this];exact IntWalk.u32_in _ (by omega)
 rw [e1,e2];unfold jY gR;rw [IntKind.wrap_u32];omega
theorem SY (s:List UInt8) (hb:s.length<=aV):Vw s=some ((),((((yR s:Nat):Int),()),())):=by
 have hbig:aV=140737488355328:=rfl;unfold Vw;have h:=aT (step:=dC w9) s (fun i (a:Nat)=>(s,((a:Nat):Int),((i:Nat):Int),())) (fun _ x a=>Sum.inl (gR a x)) (fun a=> .inl (s,((a:Nat):Int),(s.length:Int),())) (fun _ a=>a < 4294967296) (a0:=2166136261) (by decide) (fun i x a hx ha=>by
  have hlt:=aj hx;show w9 s (a:Int) (i:Int)=_;unfold w9;rw [aI hx,aC hx,eG hx,aO (by omega),Ds x ha]; rfl) (fun i x a a' hx ha hf=>by
  simp only [Sum.inl.injEq] at hf;rw [<- hf]; exact C6 a x) (fun a ha=>by
  show w9 s (a:Int) (s.length:Int)=_;unfold w9;rw [ax rfl]; rfl)
 rw [bV (fun x a=>gR a x)] at h;have h':Nl s 2166136261 0=_:=h;rw [h']; rfl
theorem Lt (s:List UInt8):yR s < 4294967296:=by
 have:∀ (s:List UInt8) (a:Nat),a < 4294967296->s.foldl gR a < 4294967296:=fun s=>by
  induction s with
  | nil=>exact fun a h=>h
  | cons c r ih=>exact fun a _=>ih _ (C6 a c)
 exact this s _ (by decide)
theorem UA (s:List UInt8) (hb:s.length<=aV):Vu s=some ((),((((yR s:Nat):Int),()),())):=by
 have hbig:aV=140737488355328:=rfl;unfold Vu;have h:=aT (step:=dh wP) s (fun i (a:Nat)=>(s,((a:Nat):Int),ae s,((i:Nat):Int),())) (fun _ x a=>Sum.inl (gR a x)) (fun a=> .inl (s,((a:Nat):Int),ae s,(s.length:Int),())) (fun _ a=>a < 4294967296) (a0:=2166136261) (by decide) (fun i x a hx ha=>by
  have hlt:=aj hx;show wP s (a:Int) (ae s) (i:Int)=_;unfold wP;rw [aI hx,aC hx,eG hx,aO (by omega),CP x ha]; rfl) (fun i x a a' hx ha hf=>by
  simp only [Sum.inl.injEq] at hf;rw [<- hf]; exact C6 a x) (fun a ha=>by
  show wP s (a:Int) (ae s) (s.length:Int)=_;unfold wP;rw [ax rfl]; rfl)
 rw [bV (fun x a=>gR a x)] at h;have h':Np s 2166136261 (ae s) 0=_:=h;rw [h'];have:=Lt s;have e:bG .i64 ((yR s:Nat):Int)=((yR s:Nat):Int):=IntWalk.i64_in _ (by omega);show some ((),((bG .i64 ((yR s:Nat):Int),()),()))=_;rw [e]
def aw (s:List UInt8) (n:Int):Int:=cond (au n 1) 0 (fI ((yR s:Nat):Int) n)
theorem p7 (s:List UInt8) (n:Int) (hb:s.length<=aV):Ny s n=some ((),((aw s n,()),())):=by
 unfold Ny aw;rw [SY s hb];by_cases h:n < 1
 . rw [aD h]; rfl
 . rw [ay h];have:aq n 0=false:=by
    rw [Bool.eq_false_iff]; intro hh; rw [ej] at hh; omega
   dsimp only [cond_false,Option.bind_some];rw [this]; rfl
theorem A3 (s:List UInt8) (n:Int) (hb:s.length<=aV):SK s n=some ((),((aw s n,()),())):=by
 unfold SK aw;rw [UA s hb];by_cases h:n < 1
 . rw [aD h]; rfl
 . rw [ay h];have:aq n 0=false:=by
    rw [Bool.eq_false_iff]; intro hh; rw [ej] at hh; omega
   dsimp only [cond_false,Option.bind_some];rw [this]; rfl
theorem rF (s:List UInt8) {n:Int} (h:1<=n):0<=aw s n/\aw s n < n:=by unfold aw;rw [ay (by omega)];show 0<=((yR s:Nat):Int).tmod n/\((yR s:Nat):Int).tmod n < n;rw [Int.tmod_eq_emod_of_nonneg (by omega)];exact ⟨Int.emod_nonneg _ (by omega),Int.emod_lt_of_pos _ (by omega)⟩
def jL (xs:List aQ) (i:Nat) (x:aQ):Bool:=cond (xv x) (cond (decide (0 < i)) (kd (gt ([],0,0,0,0,[],0,0,[],[],[],()) xs ((i:Int) - 1)).1 x.1) true) false
def Bg (b:List aQ):Bool:=cond (allI (jL b) 0 b) (bD (ae b) 6) false
def Km (b:List aQ):Prop:=b.length<=1048576/\∀ a∈b,jE a
theorem Q4 (b:List aQ) (hb:Km b):U6 (b,())=some ((),((Bg b,()),())):=by
 have hbig:aV=140737488355328:=rfl;have hl:=hb.1;unfold U6;have h:=aG (step:=dh xi) b (fun i (_:Unit)=>(b,ae b,((i:Nat):Int),(b,()),())) (fun i x _=>bif jL b i x then Sum.inl () else .inr (.inr (false,()))) (fun _=> .inl (b,ae b,(b.length:Int),(b,()),())) (a0:=()) (fun i x a hx=>by
  have hlt:=aj hx;show xi b (ae b) (i:Int) (b,())=_;unfold xi jL;rw [aI hx,aC hx,aW _ hx];dsimp only [cond_true];rw [QW x (hb.2 x (List.mem_of_getElem? hx)),aO (by omega)];dsimp only [Option.bind_some];cases xv x with
  | false=>rfl
  | true =>
    by_cases h0:0 < i
    . rw [aD (show (0:Int) < i by omega),aR (by omega) (by omega),iG hx h0];dsimp only [cond_true,cond_false,Bool.not_true];have e:gt d92 b ((i:Int) - 1)=gt ([],0,0,0,0,[],0,0,[],[],[],()) b ((i:Int) - 1):=rfl;rw [e,decide_eq_true h0];cases kd (gt ([],0,0,0,0,[],0,0,[],[],[],()) b ((i:Int) - 1)).1 x.1 <;> rfl
    . rw [ay (show ¬ (0:Int) < i by omega),decide_eq_false h0]; rfl) (fun a=>by
  show xi b (ae b) (b.length:Int) (b,())=_;unfold xi;rw [ax rfl]; rfl)
 rw [cK] at h;have h':NC b (ae b) 0 (b,())=_:=h;dsimp only;rw [h'];unfold Bg;cases allI (jL b) 0 b <;> rfl
theorem Rl (b:List aQ) (hb:Km b):T9 (b,())=some ((),((Bg b,()),())):=by
 have hbig:aV=140737488355328:=rfl;have hl:=hb.1;unfold T9;have h:=aG (step:=dh wO) b (fun i (_:Unit)=>(b,ae b,((i:Nat):Int),(b,()),())) (fun i x _=>bif jL b i x then Sum.inl () else .inr (.inr (false,()))) (fun _=> .inl (b,ae b,(b.length:Int),(b,()),())) (a0:=()) (fun i x a hx=>by
  have hlt:=aj hx;show wO b (ae b) (i:Int) (b,())=_;unfold wO jL;rw [aI hx,aC hx,aW _ hx];dsimp only [cond_true];rw [Qp x (hb.2 x (List.mem_of_getElem? hx)),aO (by omega)];dsimp only [Option.bind_some];cases xv x with
  | false=>rfl
  | true =>
    by_cases h0:0 < i
    . rw [aD (show (0:Int) < i by omega),aR (by omega) (by omega),iG hx h0];dsimp only [cond_true,cond_false,Bool.not_true];rw [uj];have e:gt d92 b ((i:Int) - 1)=gt ([],0,0,0,0,[],0,0,[],[],[],()) b ((i:Int) - 1):=rfl;rw [e,decide_eq_true h0];cases kd (gt ([],0,0,0,0,[],0,0,[],[],[],()) b ((i:Int) - 1)).1 x.1 <;> rfl
    . rw [ay (show ¬ (0:Int) < i by omega),decide_eq_false h0]; rfl) (fun a=>by
  show wO b (ae b) (b.length:Int) (b,())=_;unfold wO;rw [ax rfl]; rfl)
 rw [cK] at h;have h':NW b (ae b) 0 (b,())=_:=h;dsimp only;rw [h'];unfold Bg;cases allI (jL b) 0 b <;> rfl
abbrev dz (a b:aQ):Bool:=kd a.1 b.1
theorem fH:KD dz:=L9 (fun (a:aQ)=>a.1)
abbrev bM:Nat:=1099511627776
theorem Lv (a b:aQ):∃ v,Qi a b=some ((),((v,()),()))/\au v 0=dz a b:=by
 unfold Qi;cases h:kd a.1 b.1 with
 | true=>exact ⟨_,rfl,by show _=kd a.1 b.1; rw [h]; rfl⟩
 | false =>
   cases !(PQ a.1 b.1) with
   | true=>exact ⟨_,rfl,by show _=kd a.1 b.1; rw [h]; rfl⟩
   | false=>exact ⟨_,rfl,by show _=kd a.1 b.1; rw [h]; rfl⟩
theorem QH (P S:List aQ) (x:aQ) (b i:Int):∀ (n:Nat) (A1 A2:List aQ),A1.length=n->(P ++ (A1 ++ x :: A2) ++ S).length<=bM ->
 ∃ B1 B2 j',A1=B1 ++ B2/\(∀ y∈B2,dz x y=true)/\(∀ C y,B1=C ++ [y]->dz x y=false) /\
  zA (P ++ (A1 ++ x :: A2) ++ S) (P.length:Int) b () i ((P.length + A1.length:Nat):Int)=some (.inl (P ++ (B1 ++ x :: (B2 ++ A2)) ++ S,(P.length:Int),b,(),i,j',())):=by
 intro n;induction n with
 | zero => intro A1 A2 hn hl;have:A1=[]:=List.length_eq_zero_iff.1 hn;subst this;refine ⟨[],[],((P.length + 0:Nat):Int),rfl,fun y hy=>by simp at hy,fun C y h=>by simp at h,aF _ ?_⟩;show om (P ++ ([] ++ x :: A2) ++ S) (P.length:Int) b () i ((P.length + 0:Nat):Int)=_;unfold om;rw [ay (by omega)];rfl
 | succ n ih =>
   intro A1 A2 hn hl;obtain ⟨B,y,rfl⟩:=tW (a:=A1) (fun h=>by subst h; simp at hn);have hB:B.length=n:=by simpa using hn
   simp only [bM,List.length_append,List.length_cons,List.length_nil] at hl;have e0:P ++ (B ++ [y] ++ x :: A2) ++ S=(P ++ B) ++ y :: x :: (A2 ++ S):=by simp
   have e1:P ++ (B ++ [y] ++ x :: A2) ++ S=(P ++ B ++ [y]) ++ x :: (A2 ++ S):=by simp
   have hj:((P.length + (B ++ [y]).length:Nat):Int)=((P ++ B ++ [y]).length:Int):=by simp <;> omega
   have hj1:aH .i64 ((P.length + (B ++ [y]).length:Nat):Int) 1=((P ++ B).length:Int):=by rw [aR (by simp <;> omega) (by simp <;> omega)]; simp <;> omega
   obtain ⟨v,hv1,hv2⟩:=Lv x y
   have hstep:om (P ++ (B ++ [y] ++ x :: A2) ++ S) (P.length:Int) b () i ((P.length + (B ++ [y]).length:Nat):Int) =
    cond (dz x y) (some (.inl (P ++ (B ++ x :: (y :: A2)) ++ S,(P.length:Int),b,(),i,((P.length + B.length:Nat):Int),()))) (some (.inr (.inl (P ++ (B ++ [y] ++ x :: A2) ++ S,(P.length:Int),b,(),i,((P.length + (B ++ [y]).length:Nat):Int),())))):=by
    unfold om;have i1:aU ((P.length + (B ++ [y]).length:Nat):Int) (P ++ (B ++ [y] ++ x :: A2) ++ S)=true:=by rw [e1]; exact im _ _ _ hj
    have i2:aU ((P ++ B).length:Int) (P ++ (B ++ [y] ++ x :: A2) ++ S)=true:=by rw [e0]; exact im _ _ _ rfl
    have a1:Aw ((P.length + (B ++ [y]).length:Nat):Int) (P ++ (B ++ [y] ++ x :: A2) ++ S) ((P.length + (B ++ [y]).length:Nat):Int)=true:=by rw [e1]; exact j7 _ _ _ hj
    have a2:Aw ((P ++ B).length:Int) (P ++ (B ++ [y] ++ x :: A2) ++ S) ((P ++ B).length:Int)=true:=by rw [e0]; exact j7 _ _ _ rfl
    have t1:gt d92 (P ++ (B ++ [y] ++ x :: A2) ++ S) ((P.length + (B ++ [y]).length:Nat):Int)=x:=by rw [e1]; exact vI _ _ _ _ hj
    have t2:gt d92 (P ++ (B ++ [y] ++ x :: A2) ++ S) ((P ++ B).length:Int)=y:=by rw [e0]; exact vI _ _ _ _ rfl
    rw [aD (by simp <;> omega)];dsimp only [cond_true];rw [hj1,i1,i2,t1,t2,a1,a2,hv1];dsimp only [cond_true,Option.bind_some];rw [hv2];cases dz x y with
    | false=>rfl
    | true =>
      have sw:GX d92 (P ++ (B ++ [y] ++ x :: A2) ++ S) ((P.length + (B ++ [y]).length:Nat):Int) ((P ++ B).length:Int)=P ++ (B ++ x :: (y :: A2)) ++ S:=by
       rw [e0];unfold GX;have:=xR d92 (P ++ B) y x (A2 ++ S);have k1:((P.length + (B ++ [y]).length:Nat):Int).toNat=(P ++ B).length + 1:=by simp <;> omega
       rw [k1,Int.toNat_natCast,this];simp
      rw [sw];have k2:((P ++ B).length:Int)=((P.length + B.length:Nat):Int):=by simp
      rw [k2]
   cases hc:dz x y with
   | false => rw [hc] at hstep;refine ⟨B ++ [y],[],((P.length + (B ++ [y]).length:Nat):Int),by simp,fun y hy=>by simp at hy,fun C z h => ?_,aF _ hstep⟩;have:=List.append_inj' h rfl;have h2:=this.2;simp only [List.cons.injEq,and_true] at h2;rw [<- h2]; exact hc
   | true =>
     rw [hc] at hstep;obtain ⟨B1,B2,j',q1,q2,q3,q4⟩:=ih B (y :: A2) hB (by simp [bM]; omega);refine ⟨B1,B2 ++ [y],j',by rw [q1]; simp,fun z hz => ?_,q3,aP _ hstep ?_⟩
     . rcases List.mem_append.1 hz with hz | hz
       . exact q2 z hz
       . simp only [List.mem_singleton] at hz; subst hz; exact hc
     . have:B2 ++ [y] ++ A2=B2 ++ y :: A2:=by simp
       rw [this];exact q4
theorem Mr (P S:List aQ) (b:Int):∀ (n:Nat) (A R:List aQ),R.length=n->ln dz A->b=((P.length + A.length + R.length:Nat):Int)->(P ++ (A ++ R) ++ S).length<=bM ->
 ∃ M,ln dz M/\eC dz (A ++ R) M/\pR (P ++ (A ++ R) ++ S) (P.length:Int) b () ((P.length + A.length:Nat):Int)=some (.inl (P ++ M ++ S,(P.length:Int),b,(),b,())):=by
 intro n;induction n with
 | zero =>
   intro A R hn hA hb hl;have:R=[]:=List.length_eq_zero_iff.1 hn;subst this;have hb':b=((P.length + A.length:Nat):Int):=by simpa using hb
   refine ⟨A,hA,by rw [List.append_nil]; exact eC.refl _,aF _ ?_⟩;show lu (P ++ (A ++ []) ++ S) (P.length:Int) b () ((P.length + A.length:Nat):Int)=_;unfold lu;rw [ay (by omega),List.append_nil,<- hb'];rfl
 | succ n ih =>
   intro A R hn hA hb hl;cases R with
   | nil=>simp at hn
   | cons x R =>
     have hR:R.length=n:=by simpa using hn
     have hl':=hl;simp only [bM,List.length_append,List.length_cons] at hl';have e0:P ++ (A ++ x :: R) ++ S=P ++ (A ++ x :: []) ++ (R ++ S):=by simp
     obtain ⟨B1,B2,j',q1,q2,q3,q4⟩:=QH P (R ++ S) x b ((P.length + A.length:Nat):Int) A.length A [] rfl (by rw [<- e0]; exact hl);rw [List.append_nil,<- e0] at q4;subst q1;have hs:=cD.1 hA;have hlast:∀ y∈B1,dz x y=false:=fun y hy=>by
      obtain ⟨C,z,rfl⟩:=tW (a:=B1) (fun h=>by subst h; simp at hy);have hz:=q3 C z rfl;rcases List.mem_append.1 hy with hy | hy
      . exact fH.le_trans ((cD.1 hs.1).2.2 y hy z (by simp)) hz
      . simp only [List.mem_singleton] at hy; subst hy; exact hz
     have hsrt:ln dz (B1 ++ x :: B2):=by
      refine cD.2 ⟨hs.1,List.pairwise_cons.2 ⟨fun y hy => ?_,hs.2.1⟩,fun y hy z hz => ?_⟩
      . cases h:dz y x with
        | false=>rfl
        | true => have:=fH.trans _ _ _ h (q2 y hy);rw [fH.irr] at this;simp at this
      . rcases List.mem_cons.1 hz with rfl | hz
        . exact hlast y hy
        . exact hs.2.2 y hy z hz
     have hstb:eC dz (B1 ++ B2 ++ x :: R) (B1 ++ x :: B2 ++ R):=by
      have h1:eC dz (B2 ++ [x]) ([x] ++ B2):=eC.swap fH fun y hy z hz=>by simp only [List.mem_singleton] at hz; subst hz; exact q2 y hy
      have h2:=((eC.refl B1).append h1).append (eC.refl R);simpa using h2
     obtain ⟨M,m1,m2,m3⟩:=ih (B1 ++ x :: B2) R hR hsrt (by rw [hb]; simp only [List.length_append,List.length_cons]; omega) (by simp only [bM,List.length_append,List.length_cons] at hl' ⊢; omega);refine ⟨M,m1,hstb.trans m2,aP _ (x':=(P ++ (B1 ++ x :: B2 ++ R) ++ S,(P.length:Int),b,(),((P.length + (B1 ++ x :: B2).length:Nat):Int),())) ?_ m3⟩;show lu (P ++ (B1 ++ B2 ++ x :: R) ++ S) (P.length:Int) b () ((P.length + (B1 ++ B2).length:Nat):Int)=_;unfold lu;rw [aD (by rw [hb]; simp only [List.length_append,List.length_cons]; omega),q4];dsimp only [cond_true,Option.bind_some,Sum.elim_inl];have k1:ak .i64 ((P.length + (B1 ++ B2).length:Nat):Int) 1=((P.length + (B1 ++ x :: B2).length:Nat):Int):=by rw [aL (by omega) (by simp only [List.length_append] at *; omega)];simp only [List.length_append,List.length_cons]; omega
     rw [k1];simp
theorem NS (P L S:List aQ) (hl:(P ++ L ++ S).length<=bM):∃ M,ln dz M/\eC dz L M/\GG (P ++ L ++ S) (P.length:Int) ((P.length + L.length:Nat):Int)=some (((P ++ M ++ S,()),()),()):=by
 have hl':=hl;simp only [bM,List.length_append] at hl';unfold GG;have k0:ak .i64 (P.length:Int) 1=((P.length + 1:Nat):Int):=by rw [aL (by omega) (by omega)]; omega
 rw [k0];cases L with
 | nil => refine ⟨[],Ej,eC.refl _,?_⟩;have:pR (P ++ [] ++ S) (P.length:Int) ((P.length + 0:Nat):Int) () ((P.length + 1:Nat):Int)=some (.inl (P ++ [] ++ S,(P.length:Int),((P.length + 0:Nat):Int),(),((P.length + 1:Nat):Int),())):=aF _ (by show lu (P ++ [] ++ S) (P.length:Int) ((P.length + 0:Nat):Int) () ((P.length + 1:Nat):Int)=_;unfold lu;rw [ay (by omega)]; rfl);show Option.bind (pR (P ++ [] ++ S) (P.length:Int) ((P.length + 0:Nat):Int) () ((P.length + 1:Nat):Int)) _=_;rw [this];rfl
 | cons x L => obtain ⟨M,m1,m2,m3⟩:=Mr P S ((P.length + (x :: L).length:Nat):Int) L.length [x] L rfl (MM x) (by simp only [List.length_cons,List.length_nil]; omega) (by simpa using hl);refine ⟨M,m1,m2,?_⟩;have m3':pR (P ++ x :: L ++ S) (P.length:Int) ((P.length + (x :: L).length:Nat):Int) () ((P.length + 1:Nat):Int)=_:=m3;rw [m3'];rfl
theorem JO {α:Type} (d:α) (u:List α) (p:α) (v:List α) (q:α) (w:List α):kA d (u ++ p :: (v ++ q :: w)) u.length (u.length + (1 + v.length))=u ++ q :: (v ++ p :: w):=by
 unfold kA;have h1:(u ++ p :: (v ++ q :: w)).getD u.length d=p:=by simp [List.getD]
 have h2:(u ++ p :: (v ++ q :: w)).getD (u.length + (1 + v.length)) d=q:=by rw [List.getD,List.getElem?_append_right (by omega),show u.length + (1 + v.length) - u.length=v.length + 1 by omega,List.getElem?_cons_succ,List.getElem?_append_right (by omega),Nat.sub_self];rfl
 rw [h1,h2,List.set_append,if_neg (by omega),Nat.sub_self,List.set_append,if_neg (by omega),show u.length + (1 + v.length) - u.length=v.length + 1 by omega];show u ++ (q :: (v ++ q :: w)).set (v.length + 1) p=_;rw [List.set_cons_succ,List.set_append,if_neg (by omega),Nat.sub_self];rfl
theorem IG (P Y S:List aQ):∀ (n:Nat) (Z1 X2 X1 Z2:List aQ),X2.length=n->Z2.length=n->X1.length=Z1.length->(P ++ (Z1 ++ X2) ++ Y ++ (X1 ++ Z2) ++ S).length<=bM ->
 xp (P ++ (Z1 ++ X2) ++ Y ++ (X1 ++ Z2) ++ S) (P.length:Int) ((P.length + (Z1.length + n) + Y.length:Nat):Int) ((Z1.length + n:Nat):Int) (Z1.length:Int) =
  some (.inl (P ++ (Z1 ++ Z2) ++ Y ++ (X1 ++ X2) ++ S,(P.length:Int),((P.length + (Z1.length + n) + Y.length:Nat):Int),((Z1.length + n:Nat):Int),((Z1.length + n:Nat):Int),())):=by
 intro n;induction n with
 | zero => intro Z1 X2 X1 Z2 h1 h2 h3 hl;have e1:X2=[]:=List.length_eq_zero_iff.1 h1;have e2:Z2=[]:=List.length_eq_zero_iff.1 h2;subst e1; subst e2;refine aF _ ?_;show px (P ++ (Z1 ++ []) ++ Y ++ (X1 ++ []) ++ S) (P.length:Int) ((P.length + (Z1.length + 0) + Y.length:Nat):Int) ((Z1.length + 0:Nat):Int) (Z1.length:Int)=_;unfold px;rw [ay (by omega)];rfl
 | succ n ih =>
   intro Z1 X2 X1 Z2 h1 h2 h3 hl;cases X2 with
   | nil=>simp at h1
   | cons x X2 =>
   cases Z2 with
   | nil=>simp at h2
   | cons z Z2 =>
   have hx:X2.length=n:=by simpa using h1
   have hz:Z2.length=n:=by simpa using h2
   have hl':=hl;simp only [bM,List.length_append,List.length_cons] at hl';have ih':=ih (Z1 ++ [z]) X2 (X1 ++ [x]) Z2 hx hz (by simp [h3]) (by simp only [bM,List.length_append,List.length_cons,List.length_nil]; omega);have e1:((P.length + ((Z1 ++ [z]).length + n) + Y.length:Nat):Int)=((P.length + (Z1.length + (n + 1)) + Y.length:Nat):Int):=by simp only [List.length_append,List.length_cons,List.length_nil]; omega
   have e2:(((Z1 ++ [z]).length + n:Nat):Int)=((Z1.length + (n + 1):Nat):Int):=by simp only [List.length_append,List.length_cons,List.length_nil]; omega
   have e3:(((Z1 ++ [z]).length:Nat):Int)=ak .i64 (Z1.length:Int) 1:=by rw [aL (by omega) (by omega)]; simp
   rw [e1,e2,e3] at ih';have ef:P ++ (Z1 ++ [z] ++ Z2) ++ Y ++ (X1 ++ [x] ++ X2) ++ S=P ++ (Z1 ++ z :: Z2) ++ Y ++ (X1 ++ x :: X2) ++ S:=by simp
   rw [ef] at ih';refine aP _ ?_ ih';show px (P ++ (Z1 ++ x :: X2) ++ Y ++ (X1 ++ z :: Z2) ++ S) (P.length:Int) ((P.length + (Z1.length + (n + 1)) + Y.length:Nat):Int) ((Z1.length + (n + 1):Nat):Int) (Z1.length:Int)=_;have d1:P ++ (Z1 ++ x :: X2) ++ Y ++ (X1 ++ z :: Z2) ++ S=(P ++ Z1) ++ x :: ((X2 ++ Y ++ X1) ++ z :: (Z2 ++ S)):=by simp
   have d2:P ++ (Z1 ++ x :: X2) ++ Y ++ (X1 ++ z :: Z2) ++ S=(P ++ Z1 ++ x :: (X2 ++ Y ++ X1)) ++ z :: (Z2 ++ S):=by simp
   have k1:ak .i64 ((P.length + (Z1.length + (n + 1)) + Y.length:Nat):Int) (Z1.length:Int)=((P ++ Z1 ++ x :: (X2 ++ Y ++ X1)).length:Int):=by rw [aL (by omega) (by omega)];simp only [List.length_append,List.length_cons]; omega
   have k2:ak .i64 (P.length:Int) (Z1.length:Int)=((P ++ Z1).length:Int):=by rw [aL (by omega) (by omega)];simp only [List.length_append]; omega
   unfold px;rw [aD (by omega),k1,k2];dsimp only [cond_true];have i1:aU ((P ++ Z1 ++ x :: (X2 ++ Y ++ X1)).length:Int) (P ++ (Z1 ++ x :: X2) ++ Y ++ (X1 ++ z :: Z2) ++ S)=true:=by rw [d2]; exact im _ _ _ rfl
   have i2:aU ((P ++ Z1).length:Int) (P ++ (Z1 ++ x :: X2) ++ Y ++ (X1 ++ z :: Z2) ++ S)=true:=by rw [d1]; exact im _ _ _ rfl
   have a1:Aw ((P ++ Z1 ++ x :: (X2 ++ Y ++ X1)).length:Int) (P ++ (Z1 ++ x :: X2) ++ Y ++ (X1 ++ z :: Z2) ++ S) ((P ++ Z1 ++ x :: (X2 ++ Y ++ X1)).length:Int)=true:=by rw [d2]; exact j7 _ _ _ rfl
   have a2:Aw ((P ++ Z1).length:Int) (P ++ (Z1 ++ x :: X2) ++ Y ++ (X1 ++ z :: Z2) ++ S) ((P ++ Z1).length:Int)=true:=by rw [d1]; exact j7 _ _ _ rfl
   rw [i1,i2,a1,a2];dsimp only [cond_true];have sw:GX d92 (P ++ (Z1 ++ x :: X2) ++ Y ++ (X1 ++ z :: Z2) ++ S) ((P ++ Z1).length:Int) ((P ++ Z1 ++ x :: (X2 ++ Y ++ X1)).length:Int)=P ++ (Z1 ++ [z] ++ X2) ++ Y ++ (X1 ++ [x] ++ Z2) ++ S:=by
    unfold GX;rw [Int.toNat_natCast,Int.toNat_natCast,d1];have k3:(P ++ Z1 ++ x :: (X2 ++ Y ++ X1)).length=(P ++ Z1).length + (1 + (X2 ++ Y ++ X1).length):=by simp only [List.length_append,List.length_cons]; omega
    rw [k3,JO];simp
   rw [sw]
theorem I3 (P X Y Z S:List aQ) (hx:X.length=Z.length) (hl:(P ++ X ++ Y ++ Z ++ S).length<=bM):zE (P ++ X ++ Y ++ Z ++ S) (P.length:Int) ((P.length + X.length + Y.length:Nat):Int) (X.length:Int)=some (((P ++ Z ++ Y ++ X ++ S,()),()),()):=by unfold zE;have h:=IG P Y S X.length [] X [] Z rfl hx.symm rfl hl;simp only [List.nil_append,List.length_nil,Nat.zero_add] at h;have h':xp (P ++ X ++ Y ++ Z ++ S) (P.length:Int) ((P.length + X.length + Y.length:Nat):Int) (X.length:Int) 0=_:=h;rw [h'];rfl
theorem Jl:∀ (n:Nat) (P X Y S:List aQ) (m:Nat),X.length + Y.length=n->0 < X.length->0 < Y.length->m=P.length + X.length->(P ++ X ++ Y ++ S).length<=bM ->
 ∃ (t:List aQ) (i:Nat),i<=m/\i<=n/\JZ (P ++ X ++ Y ++ S) (m:Int) () (X.length:Int) (Y.length:Int)=some (.inl (t,(m:Int),(),(i:Int),(i:Int),())) /\
  zE t ((m - i:Nat):Int) (m:Int) (i:Int)=some (((P ++ Y ++ X ++ S,()),()),()):=by
 intro n;induction n using Nat.strongRecOn with
 | _ n ih =>
 intro P X Y S m hn hX hY hm hl;subst hm;have hl':=hl;simp only [bM,List.length_append] at hl';rcases Nat.lt_trichotomy X.length Y.length with h | h | h
 . -- the second is longer: its end comes ahead
   obtain ⟨Y1,Y2,rfl,hY2⟩:∃ Y1 Y2,Y=Y1 ++ Y2/\Y2.length=X.length:=⟨Y.take (Y.length - X.length),Y.drop (Y.length - X.length),(List.take_append_drop _ _).symm,by rw [List.length_drop]; omega⟩;simp only [List.length_append] at h hn hl' hY;obtain ⟨t,i,i1,i2,q1,q2⟩:=ih (Y2.length + Y1.length) (by omega) P Y2 Y1 (X ++ S) (P.length + X.length) rfl (by omega) (by omega) (by omega) (by simp only [bM,List.length_append]; omega);refine ⟨t,i,i1,by omega,aP _ ?_ q1,by rw [q2]; simp⟩;show mO (P ++ X ++ (Y1 ++ Y2) ++ S) ((P.length + X.length:Nat):Int) () (X.length:Int) ((Y1 ++ Y2).length:Int)=_;have hs:=I3 P X Y1 Y2 S (by omega) (by simp only [bM,List.length_append]; omega);have e0:P ++ X ++ (Y1 ++ Y2) ++ S=P ++ X ++ Y1 ++ Y2 ++ S:=by simp
   have k0:aq (X.length:Int) ((Y1 ++ Y2).length:Int)=false:=by rw [Bool.eq_false_iff]; intro hh; rw [ej] at hh; simp only [List.length_append] at hh; omega
   have k1:aH .i64 ((P.length + X.length:Nat):Int) (X.length:Int)=(P.length:Int):=by rw [aR (by omega) (by omega)]; omega
   have k2:ak .i64 ((P.length + X.length:Nat):Int) ((Y1 ++ Y2).length:Int)=((P.length + X.length + (Y1 ++ Y2).length:Nat):Int):=by rw [aL (by omega) (by simp only [List.length_append]; omega)]; omega
   have k3:aH .i64 ((P.length + X.length + (Y1 ++ Y2).length:Nat):Int) (X.length:Int)=((P.length + X.length + Y1.length:Nat):Int):=by rw [aR (by omega) (by simp only [List.length_append]; omega)]; simp only [List.length_append]; omega
   have k4:aH .i64 ((Y1 ++ Y2).length:Int) (X.length:Int)=(Y1.length:Int):=by rw [aR (by omega) (by simp only [List.length_append]; omega)]; simp only [List.length_append]; omega
   unfold mO;rw [k0,ay (by simp only [List.length_append]; omega)];dsimp only [cond_true,cond_false,Bool.not_false];rw [k1,k2,k3,k4,e0,hs];dsimp only [Option.bind_some];rw [hY2];simp
 . -- alike
   refine ⟨P ++ X ++ Y ++ S,X.length,by omega,by omega,aF _ ?_,?_⟩
   . show mO (P ++ X ++ Y ++ S) ((P.length + X.length:Nat):Int) () (X.length:Int) (Y.length:Int)=_;unfold mO;rw [<- h,bq];rfl
   . have hs:=I3 P X [] Y S h (by simp only [bM,List.length_append,List.length_nil]; omega);rw [List.append_nil,List.append_nil,List.length_nil,Nat.add_zero] at hs;rw [show P.length + X.length - X.length=P.length by omega];exact hs
 . -- the first is longer: its begin goes behind
   obtain ⟨X1,X2,rfl,hX1⟩:∃ X1 X2,X=X1 ++ X2/\X1.length=Y.length:=⟨X.take Y.length,X.drop Y.length,(List.take_append_drop _ _).symm,by rw [List.length_take]; omega⟩;simp only [List.length_append] at h hn hl' hX;obtain ⟨t,i,i1,i2,q1,q2⟩:=ih (X2.length + X1.length) (by omega) (P ++ Y) X2 X1 S (P.length + (X1 ++ X2).length) rfl (by omega) (by omega) (by simp only [List.length_append]; omega) (by simp only [bM,List.length_append]; omega);refine ⟨t,i,i1,by omega,aP _ ?_ q1,by rw [q2]; simp⟩;show mO (P ++ (X1 ++ X2) ++ Y ++ S) ((P.length + (X1 ++ X2).length:Nat):Int) () ((X1 ++ X2).length:Int) (Y.length:Int)=_;have hs:=I3 P X1 X2 Y S hX1 (by simp only [bM,List.length_append]; omega);have e0:P ++ (X1 ++ X2) ++ Y ++ S=P ++ X1 ++ X2 ++ Y ++ S:=by simp
   have k0:aq ((X1 ++ X2).length:Int) (Y.length:Int)=false:=by rw [Bool.eq_false_iff]; intro hh; rw [ej] at hh; simp only [List.length_append] at hh; omega
   have k1:aH .i64 ((P.length + (X1 ++ X2).length:Nat):Int) ((X1 ++ X2).length:Int)=(P.length:Int):=by rw [aR (by omega) (by simp only [List.length_append]; omega)]; omega
   have k3:((P.length + (X1 ++ X2).length:Nat):Int)=((P.length + X1.length + X2.length:Nat):Int):=by simp only [List.length_append]; omega
   have k4:aH .i64 ((X1 ++ X2).length:Int) (Y.length:Int)=(X2.length:Int):=by rw [aR (by omega) (by simp only [List.length_append]; omega)]; simp only [List.length_append]; omega
   unfold mO;rw [k0,aD (by simp only [List.length_append]; omega)];dsimp only [cond_true,cond_false,Bool.not_false];rw [k1,k4,e0,<- hX1];have hs':zE (P ++ X1 ++ X2 ++ Y ++ S) (P.length:Int) ((P.length + (X1 ++ X2).length:Nat):Int) (X1.length:Int)=some (((P ++ Y ++ X2 ++ X1 ++ S,()),()),()):=by rw [k3]; exact hs
   rw [hs'];dsimp only [Option.bind_some];simp
theorem U5 (P X Y S:List aQ) (hX:0 < X.length) (hY:0 < Y.length) (hl:(P ++ X ++ Y ++ S).length<=bM) :
 zW (P ++ X ++ Y ++ S) (P.length:Int) ((P.length + X.length:Nat):Int) ((P.length + X.length + Y.length:Nat):Int)=some (((P ++ Y ++ X ++ S,()),()),()):=by
 have hl':=hl;simp only [bM,List.length_append] at hl';obtain ⟨t,i,i1,i2,q1,q2⟩:=Jl (X.length + Y.length) P X Y S (P.length + X.length) rfl hX hY rfl hl;unfold zW;have k1:aH .i64 ((P.length + X.length:Nat):Int) (P.length:Int)=(X.length:Int):=by rw [aR (by omega) (by omega)]; omega
 have k2:aH .i64 ((P.length + X.length + Y.length:Nat):Int) ((P.length + X.length:Nat):Int)=(Y.length:Int):=by rw [aR (by omega) (by omega)]; omega
 rw [k1,k2,q1];dsimp only [Option.bind_some,Sum.elim_inl];have k3:aH .i64 ((P.length + X.length:Nat):Int) (i:Int)=((P.length + X.length - i:Nat):Int):=by rw [aR (by omega) (by omega)]; omega
 rw [k3,q2];rfl
theorem Kq (P S:List aQ) (x:aQ) (i:Nat):∀ (n:Nat) (D U:List aQ),U.length=n->i=P.length + D.length + U.length + 1->(P ++ (D ++ x :: U) ++ S).length<=bM ->
 ∃ k',vC (P ++ (D ++ x :: U) ++ S) (i:Int) ((P.length + D.length:Nat):Int)=some (.inl (P ++ (D ++ U ++ [x]) ++ S,(i:Int),k',())):=by
 intro n;induction n with
 | zero =>
   intro D U hn hi hl;have:U=[]:=List.length_eq_zero_iff.1 hn;subst this;simp only [List.length_nil] at hi;simp only [bM,List.length_append,List.length_cons] at hl;refine ⟨((P.length + D.length:Nat):Int),aF _ ?_⟩;show nX (P ++ (D ++ [x]) ++ S) (i:Int) ((P.length + D.length:Nat):Int)=_;unfold nX;have k1:aH .i64 (i:Int) 1=((P.length + D.length:Nat):Int):=by rw [aR (by omega) (by omega)]; omega
   rw [k1,ay (by omega),List.append_nil];rfl
 | succ n ih =>
   intro D U hn hi hl;cases U with
   | nil=>simp at hn
   | cons u U =>
     have hU:U.length=n:=by simpa using hn
     simp only [List.length_cons] at hi;have hl':=hl;simp only [bM,List.length_append,List.length_cons] at hl';obtain ⟨k',hk⟩:=ih (D ++ [u]) U hU (by simp only [List.length_append,List.length_cons,List.length_nil]; omega) (by simp only [bM,List.length_append,List.length_cons,List.length_nil]; omega);refine ⟨k',?_⟩;have ef:P ++ (D ++ [u] ++ U ++ [x]) ++ S=P ++ (D ++ u :: U ++ [x]) ++ S:=by simp
     rw [ef] at hk;refine aP _ ?_ hk;show nX (P ++ (D ++ x :: u :: U) ++ S) (i:Int) ((P.length + D.length:Nat):Int)=_;have d1:P ++ (D ++ x :: u :: U) ++ S=(P ++ D) ++ x :: u :: (U ++ S):=by simp
     have d2:P ++ (D ++ x :: u :: U) ++ S=(P ++ D ++ [x]) ++ u :: (U ++ S):=by simp
     have k1:aH .i64 (i:Int) 1=((P.length + D.length + U.length + 1:Nat):Int):=by rw [aR (by omega) (by omega)]; omega
     have k2:((P.length + D.length:Nat):Int)=((P ++ D).length:Int):=by simp
     have k3:ak .i64 ((P ++ D).length:Int) 1=((P ++ D ++ [x]).length:Int):=by rw [aL (by omega) (by simp only [List.length_append]; omega)]; simp only [List.length_append,List.length_cons,List.length_nil]; omega
     unfold nX;rw [k1,aD (by omega),k2,k3];dsimp only [cond_true];have i1:aU ((P ++ D ++ [x]).length:Int) (P ++ (D ++ x :: u :: U) ++ S)=true:=by rw [d2]; exact im _ _ _ rfl
     have i2:aU ((P ++ D).length:Int) (P ++ (D ++ x :: u :: U) ++ S)=true:=by rw [d1]; exact im _ _ _ rfl
     have a1:Aw ((P ++ D ++ [x]).length:Int) (P ++ (D ++ x :: u :: U) ++ S) ((P ++ D ++ [x]).length:Int)=true:=by rw [d2]; exact j7 _ _ _ rfl
     have a2:Aw ((P ++ D).length:Int) (P ++ (D ++ x :: u :: U) ++ S) ((P ++ D).length:Int)=true:=by rw [d1]; exact j7 _ _ _ rfl
     rw [i1,i2,a1,a2];dsimp only [cond_true];have sw:GX d92 (P ++ (D ++ x :: u :: U) ++ S) ((P ++ D).length:Int) ((P ++ D ++ [x]).length:Int)=P ++ (D ++ [u] ++ x :: U) ++ S:=by
      unfold GX;have e1:(P ++ D ++ [x]).length=(P ++ D).length + 1:=by simp only [List.length_append,List.length_cons,List.length_nil]
      rw [Int.toNat_natCast,Int.toNat_natCast,e1,d1,CQ];simp
     rw [sw];have k4:((P ++ D ++ [x]).length:Int)=((P.length + (D ++ [u]).length:Nat):Int):=by simp only [List.length_append,List.length_cons,List.length_nil]; omega
     rw [k4]
theorem Ku (P S:List aQ) (y:aQ):∀ (n:Nat) (D U:List aQ),D.length=n->(P ++ (D ++ y :: U) ++ S).length<=bM ->
 ∃ k',uA (P ++ (D ++ y :: U) ++ S) (P.length:Int) ((P.length + D.length:Nat):Int)=some (.inl (P ++ (y :: (D ++ U)) ++ S,(P.length:Int),k',())):=by
 intro n;induction n with
 | zero => intro D U hn hl;have:D=[]:=List.length_eq_zero_iff.1 hn;subst this;refine ⟨((P.length + 0:Nat):Int),aF _ ?_⟩;show oI (P ++ ([] ++ y :: U) ++ S) (P.length:Int) ((P.length + 0:Nat):Int)=_;unfold oI;rw [ay (by omega)];rfl
 | succ n ih =>
   intro D U hn hl;obtain ⟨B,u,rfl⟩:=tW (a:=D) (fun h=>by subst h; simp at hn);have hB:B.length=n:=by simpa using hn
   have hl':=hl;simp only [bM,List.length_append,List.length_cons,List.length_nil] at hl';obtain ⟨k',hk⟩:=ih B (u :: U) hB (by simp only [bM,List.length_append,List.length_cons]; omega);refine ⟨k',?_⟩;have ef:P ++ (y :: (B ++ u :: U)) ++ S=P ++ (y :: (B ++ [u] ++ U)) ++ S:=by simp
   rw [ef] at hk;refine aP _ ?_ hk;show oI (P ++ (B ++ [u] ++ y :: U) ++ S) (P.length:Int) ((P.length + (B ++ [u]).length:Nat):Int)=_;have d1:P ++ (B ++ [u] ++ y :: U) ++ S=(P ++ B) ++ u :: y :: (U ++ S):=by simp
   have d2:P ++ (B ++ [u] ++ y :: U) ++ S=(P ++ B ++ [u]) ++ y :: (U ++ S):=by simp
   have k1:aH .i64 ((P.length + (B ++ [u]).length:Nat):Int) 1=((P ++ B).length:Int):=by rw [aR (by simp only [List.length_append,List.length_cons,List.length_nil]; omega) (by simp only [List.length_append,List.length_cons,List.length_nil]; omega)];simp only [List.length_append,List.length_cons,List.length_nil]; omega
   have k2:((P.length + (B ++ [u]).length:Nat):Int)=((P ++ B ++ [u]).length:Int):=by simp only [List.length_append,List.length_cons,List.length_nil]; omega
   unfold oI;rw [k1,aD (by simp only [List.length_append,List.length_cons,List.length_nil]; omega),k2];dsimp only [cond_true];have i1:aU ((P ++ B ++ [u]).length:Int) (P ++ (B ++ [u] ++ y :: U) ++ S)=true:=by rw [d2]; exact im _ _ _ rfl
   have i2:aU ((P ++ B).length:Int) (P ++ (B ++ [u] ++ y :: U) ++ S)=true:=by rw [d1]; exact im _ _ _ rfl
   have a1:Aw ((P ++ B ++ [u]).length:Int) (P ++ (B ++ [u] ++ y :: U) ++ S) ((P ++ B ++ [u]).length:Int)=true:=by rw [d2]; exact j7 _ _ _ rfl
   have a2:Aw ((P ++ B).length:Int) (P ++ (B ++ [u] ++ y :: U) ++ S) ((P ++ B).length:Int)=true:=by rw [d1]; exact j7 _ _ _ rfl
   rw [i1,i2,a1,a2];dsimp only [cond_true];have sw:GX d92 (P ++ (B ++ [u] ++ y :: U) ++ S) ((P ++ B ++ [u]).length:Int) ((P ++ B).length:Int)=P ++ (B ++ y :: u :: U) ++ S:=by
    unfold GX;have e1:(P ++ B ++ [u]).length=(P ++ B).length + 1:=by simp only [List.length_append,List.length_cons,List.length_nil]
    rw [Int.toNat_natCast,Int.toNat_natCast,e1,d1,xR];simp
   rw [sw];have k4:((P ++ B).length:Int)=((P.length + B.length:Nat):Int):=by simp
   rw [k4]
theorem Uh (P S:List aQ) (x:aQ) (R:List aQ) (hR:ln dz R) (hl:(P ++ x :: R ++ S).length<=bM):∃ n,n<=R.length/\(∀ y∈R.take n,dz y x=true)/\(∀ y∈R.drop n,dz y x=false) /\
 uG (P ++ x :: R ++ S) (P.length:Int) () ((P.length + 1:Nat):Int) ((P.length + 1 + R.length:Nat):Int)=some (.inl (P ++ x :: R ++ S,(P.length:Int),(),((P.length + 1 + n:Nat):Int),((P.length + 1 + n:Nat):Int),())):=by
 have hl':=hl;simp only [bM,List.length_append,List.length_cons] at hl';have e0:P ++ x :: R ++ S=(P ++ [x]) ++ R ++ S:=by simp
 have hpl:(P ++ [x]).length=P.length + 1:=by simp
 have hg:∀ q,q < R.length->(P ++ x :: R ++ S).getD (P.length + 1 + q) d92=R.getD q d92:=fun q hq=>by rw [e0,<- hpl]; exact pX _ _ _ _ hq
 have h:=bsearch (fun (z:(List aQ)×Int×Unit×Int×Int×Unit)=>mT z.1 z.2.1 z.2.2.1 z.2.2.2.1 z.2.2.2.2.1) (fun lo hi=>(P ++ x :: R ++ S,(P.length:Int),(),(lo:Int),(hi:Int),())) (fun k=> .inl (P ++ x :: R ++ S,(P.length:Int),(),(k:Int),(k:Int),()))
  (fun h=>dz ((P ++ x :: R ++ S).getD h d92) x) (P.length + 1) (P.length + 1 + R.length) (fun h h' h1 h2 h3 hf=>by
    obtain ⟨q,rfl⟩:∃ q,h=P.length + 1 + q:=⟨h - (P.length + 1),by omega⟩;obtain ⟨q',rfl⟩:∃ q',h'=P.length + 1 + q':=⟨h' - (P.length + 1),by omega⟩;rw [hg q (by omega)] at hf;rw [hg q' (by omega)];rcases fH.neg _ (R.getD q' d92) _ hf with h4 | h4
    . rw [iF fH _ hR (by omega) (by omega)] at h4; simp at h4
    . exact h4) (fun lo hi h1 h2 h3=>by
    show mT (P ++ x :: R ++ S) (P.length:Int) () (lo:Int) (hi:Int)=_;unfold mT;obtain ⟨v,hv1,hv2⟩:=Lv ((P ++ x :: R ++ S).getD ((lo + hi) / 2) d92) x;have hx:gt d92 (P ++ x :: R ++ S) (P.length:Int)=x:=by
     have:P ++ x :: R ++ S=P ++ x :: (R ++ S):=by simp
     rw [this]; exact vI _ _ _ _ rfl
    rw [aD (by omega),tP (by omega)];dsimp only [cond_true];rw [ny (by simp only [List.length_append,List.length_cons]; omega),ny (by simp only [List.length_append,List.length_cons]; omega),yU,hx,hv1];dsimp only [cond_true,Option.bind_some];rw [hv2,aO (by have:aV=140737488355328:=rfl; omega)];cases dz ((P ++ x :: R ++ S).getD ((lo + hi) / 2) d92) x <;> rfl) (fun k h1 h2=>by
    show mT (P ++ x :: R ++ S) (P.length:Int) () (k:Int) (k:Int)=_;unfold mT;rw [ay (by omega)]; rfl)
  _ (P.length + 1) (P.length + 1 + R.length) rfl (Nat.le_refl _) (by omega) (Nat.le_refl _) (fun h h1 h2=>by omega) (fun h h1 h2=>by omega)
 obtain ⟨k,k1,k2,k3,k4,k5⟩:=h;obtain ⟨n,rfl⟩:∃ n,k=P.length + 1 + n:=⟨k - (P.length + 1),by omega⟩;refine ⟨n,by omega,fun y hy => ?_,fun y hy => ?_,k5⟩
 . obtain ⟨q,q1,q2,rfl⟩:=na d92 hy;rw [<- hg q q2]; exact k3 _ (by omega) (by omega)
 . obtain ⟨q,q1,q2,rfl⟩:=np d92 hy;rw [<- hg q q2]; exact k4 _ (by omega) (by omega)
theorem Ug (P S:List aQ) (y:aQ) (L:List aQ) (hL:ln dz L) (hl:(P ++ L ++ y :: S).length<=bM):∃ n,n<=L.length/\(∀ x∈L.take n,dz y x=false)/\(∀ x∈L.drop n,dz y x=true) /\
 wT (P ++ L ++ y :: S) ((P.length + L.length:Nat):Int) () (P.length:Int) ((P.length + L.length:Nat):Int)=some (.inl (P ++ L ++ y :: S,((P.length + L.length:Nat):Int),(),((P.length + n:Nat):Int),((P.length + n:Nat):Int),())):=by
 have hl':=hl;simp only [bM,List.length_append,List.length_cons] at hl';have hg:∀ q,q < L.length->(P ++ L ++ y :: S).getD (P.length + q) d92=L.getD q d92:=fun q hq=>pX _ _ _ _ hq
 have h:=bsearch (fun (z:(List aQ)×Int×Unit×Int×Int×Unit)=>mY z.1 z.2.1 z.2.2.1 z.2.2.2.1 z.2.2.2.2.1) (fun lo hi=>(P ++ L ++ y :: S,((P.length + L.length:Nat):Int),(),(lo:Int),(hi:Int),())) (fun k=> .inl (P ++ L ++ y :: S,((P.length + L.length:Nat):Int),(),(k:Int),(k:Int),()))
  (fun h=> !dz y ((P ++ L ++ y :: S).getD h d92)) P.length (P.length + L.length) (fun h h' h1 h2 h3 hf=>by
    obtain ⟨q,rfl⟩:∃ q,h=P.length + q:=⟨h - P.length,by omega⟩;obtain ⟨q',rfl⟩:∃ q',h'=P.length + q':=⟨h' - P.length,by omega⟩;rw [hg q (by omega),Bool.not_eq_true'] at hf;rw [hg q' (by omega),Bool.not_eq_true'];exact fH.le_trans (iF fH _ hL (by omega) (by omega)) hf) (fun lo hi h1 h2 h3=>by
    show mY (P ++ L ++ y :: S) ((P.length + L.length:Nat):Int) () (lo:Int) (hi:Int)=_;unfold mY;obtain ⟨v,hv1,hv2⟩:=Lv y ((P ++ L ++ y :: S).getD ((lo + hi) / 2) d92);have hy:gt d92 (P ++ L ++ y :: S) ((P.length + L.length:Nat):Int)=y:=vI _ (P ++ L) _ _ (by simp);rw [aD (by omega),tP (by omega)];dsimp only [cond_true];rw [ny (by simp only [List.length_append,List.length_cons]; omega),ny (by simp only [List.length_append,List.length_cons]; omega),yU d92 _ ((lo + hi) / 2),hy,hv1];dsimp only [cond_true,Option.bind_some];rw [hv2,aO (by have:aV=140737488355328:=rfl; omega)];cases dz y ((P ++ L ++ y :: S).getD ((lo + hi) / 2) d92) <;> rfl) (fun k h1 h2=>by
    show mY (P ++ L ++ y :: S) ((P.length + L.length:Nat):Int) () (k:Int) (k:Int)=_;unfold mY;rw [ay (by omega)]; rfl)
  _ P.length (P.length + L.length) rfl (Nat.le_refl _) (by omega) (Nat.le_refl _) (fun h h1 h2=>by omega) (fun h h1 h2=>by omega)
 obtain ⟨k,k1,k2,k3,k4,k5⟩:=h;obtain ⟨n,rfl⟩:∃ n,k=P.length + n:=⟨k - P.length,by omega⟩;refine ⟨n,by omega,fun x hx => ?_,fun x hx => ?_,k5⟩
 . obtain ⟨q,q1,q2,rfl⟩:=na d92 hx;have:=k3 (P.length + q) (by omega) (by omega);rw [hg q q2,Bool.not_eq_true'] at this;exact this
 . obtain ⟨q,q1,q2,rfl⟩:=np d92 hx;have:=k4 (P.length + q) (by omega) (by omega);rw [hg q q2,Bool.not_eq_false'] at this;exact this
theorem RN (P L R S:List aQ) (hL:ln dz L) (hR:ln dz R) (mid lo0 hi0:Nat) (c1:P.length<=lo0) (c2:lo0<=hi0) (c3:hi0<=P.length + L.length) (c4:hi0<=mid) (c5:mid<=lo0 + R.length) (hm:mid<=bM) (b:Int) (hl:(P ++ L ++ R ++ S).length<=bM) :
 ∃ k,lo0<=k/\k<=hi0/\(∀ c,lo0<=c->c < k->dz (R.getD (mid - 1 - c) d92) (L.getD (c - P.length) d92)=false)/\(∀ c,k<=c->c < hi0->dz (R.getD (mid - 1 - c) d92) (L.getD (c - P.length) d92)=true) /\
 lE (P ++ L ++ R ++ S) (P.length:Int) ((P.length + L.length:Nat):Int) b () (mid:Int) ((mid + (P.length + L.length):Nat):Int) (lo0:Int) (hi0:Int) ((mid + (P.length + L.length):Nat) - 1:Int) =
  some (.inl (P ++ L ++ R ++ S,(P.length:Int),((P.length + L.length:Nat):Int),b,(),(mid:Int),((mid + (P.length + L.length):Nat):Int),(k:Int),(k:Int),((mid + (P.length + L.length):Nat) - 1:Int),())):=by
 have hl':=hl;simp only [bM,List.length_append] at hl' hm;have hgL:∀ c,P.length<=c->c < P.length + L.length->(P ++ L ++ R ++ S).getD c d92=L.getD (c - P.length) d92:=fun c h1 h2=>by have:=pX d92 P L (R ++ S) (q:=c - P.length) (by omega);rw [show P.length + (c - P.length)=c by omega] at this;rw [List.append_assoc (P ++ L)];exact this
 have hgR:∀ q,q < R.length->(P ++ L ++ R ++ S).getD (P.length + L.length + q) d92=R.getD q d92:=fun q hq=>by have:=pX d92 (P ++ L) R S hq;rw [List.length_append] at this;exact this
 have h:=bsearch (fun (z:(List aQ)×Int×Int×Int×Unit×Int×Int×Int×Int×Int×Unit)=>mF z.1 z.2.1 z.2.2.1 z.2.2.2.1 z.2.2.2.2.1 z.2.2.2.2.2.1 z.2.2.2.2.2.2.1 z.2.2.2.2.2.2.2.1 z.2.2.2.2.2.2.2.2.1 z.2.2.2.2.2.2.2.2.2.1)
  (fun lo hi=>(P ++ L ++ R ++ S,(P.length:Int),((P.length + L.length:Nat):Int),b,(),(mid:Int),((mid + (P.length + L.length):Nat):Int),(lo:Int),(hi:Int),((mid + (P.length + L.length):Nat) - 1:Int),())) (fun k=> .inl (P ++ L ++ R ++ S,(P.length:Int),((P.length + L.length:Nat):Int),b,(),(mid:Int),((mid + (P.length + L.length):Nat):Int),(k:Int),(k:Int),((mid + (P.length + L.length):Nat) - 1:Int),()))
  (fun c=> !dz (R.getD (mid - 1 - c) d92) (L.getD (c - P.length) d92)) lo0 hi0 (fun h h' h1 h2 h3 hf=>by
    rw [Bool.not_eq_true'] at hf ⊢;refine fH.le_trans (b:=R.getD (mid - 1 - h) d92) (fH.le_trans (iF fH _ hL (by omega) (by omega)) hf) (iF fH _ hR (by omega) (by omega))) (fun lo hi h1 h2 h3=>by
    show mF (P ++ L ++ R ++ S) (P.length:Int) ((P.length + L.length:Nat):Int) b () (mid:Int) ((mid + (P.length + L.length):Nat):Int) (lo:Int) (hi:Int) ((mid + (P.length + L.length):Nat) - 1:Int)=_;unfold mF;have hc1:lo<=(lo + hi) / 2:=by omega
    have hc2:(lo + hi) / 2 < hi:=by omega
    rw [tP (by omega)];generalize (lo + hi) / 2=c at hc1 hc2;obtain ⟨v,hv1,hv2⟩:=Lv (R.getD (mid - 1 - c) d92) (L.getD (c - P.length) d92);have k1:aH .i64 ((mid + (P.length + L.length):Nat) - 1:Int) (c:Int)=((P.length + L.length + (mid - 1 - c):Nat):Int):=by rw [aR (by omega) (by omega)]; omega
    rw [aD (by omega)];dsimp only [cond_true];rw [k1,ny (by simp only [List.length_append]; omega),ny (by simp only [List.length_append]; omega),yU,yU,hgR _ (by omega),hgL _ (by omega) (by omega),hv1];dsimp only [cond_true,Option.bind_some];rw [hv2,aO (by have:aV=140737488355328:=rfl; omega)];cases dz (R.getD (mid - 1 - c) d92) (L.getD (c - P.length) d92) <;> rfl) (fun k h1 h2=>by
    show mF (P ++ L ++ R ++ S) (P.length:Int) ((P.length + L.length:Nat):Int) b () (mid:Int) ((mid + (P.length + L.length):Nat):Int) (k:Int) (k:Int) ((mid + (P.length + L.length):Nat) - 1:Int)=_;unfold mF;rw [ay (by omega)]; rfl)
  _ lo0 hi0 rfl (Nat.le_refl _) c2 (Nat.le_refl _) (fun h h1 h2=>by omega) (fun h h1 h2=>by omega)
 obtain ⟨k,k1,k2,k3,k4,k5⟩:=h;refine ⟨k,k1,k2,fun c h1 h2 => ?_,fun c h1 h2 => ?_,k5⟩
 . have:=k3 c h1 h2;rwa [Bool.not_eq_true'] at this
 . have:=k4 c h1 h2;rwa [Bool.not_eq_false'] at this
noncomputable def zt (n:Nat) (t:List aQ) (a m b mid k e:Int):Option ((((List aQ)×Unit)×Unit)×Unit) :=
 Option.bind (cond (cond (au k m) (au m e) false) (zW t k m e) (some (((t,()),()),()))) fun y2 =>
 Option.bind (cond (cond (au a k) (au k mid) false) (eZ n y2.1.1.1 a k mid) (some (((y2.1.1.1,()),()),()))) fun y3 =>
 Option.bind (cond (cond (au mid e) (au e b) false) (eZ n y3.1.1.1 mid e b) (some (((y3.1.1.1,()),()),()))) fun y4=>some ((y4.1.1,()),())
theorem Fq (n:Nat) (t:List aQ) (a m b:Int) (h1:aq (aH .i64 m a) 1=false) (h2:aq (aH .i64 b m) 1=false) (mid nn lo hi k:Int) (hmid:bG .i64 (iK .u64 (bG .u64 (ak .i64 a b)) 1)=mid) (hnn:ak .i64 mid m=nn) (hlo:lo=cond (au mid m) (aH .i64 nn b) a) (hhi:hi=cond (au mid m) mid m)
 (hs:lE t a m b () mid nn lo hi (aH .i64 nn 1)=some (.inl (t,a,m,b,(),mid,nn,k,k,aH .i64 nn 1,()))) :
 eZ (n + 1) t a m b=zt n t a m b mid k (aH .i64 nn k):=by
 rw [oa,h1,h2,hmid];dsimp only [cond_false];rw [hnn];unfold zt;cases hm:au mid m with
 | true =>
   rw [hm] at hlo hhi;dsimp only [cond_true] at hlo hhi ⊢;rw [<- hlo,<- hhi]
   conv=>lhs; rw [show lE t a m b () hi nn lo hi (aH .i64 nn 1)=some (.inl (t,a,m,b,(),hi,nn,k,k,aH .i64 nn 1,())) by rw [hhi] at hs ⊢; exact hs]
   dsimp only [Option.bind_some,Sum.elim_inl];rw [hhi];cases (cond (au k m) (au m (aH .i64 nn k)) false) <;> cases (cond (au a k) (au k mid) false) <;> cases (cond (au mid (aH .i64 nn k)) (au (aH .i64 nn k) b) false) <;> rfl
 | false => rw [hm] at hlo hhi;dsimp only [cond_false] at hlo hhi ⊢;subst hlo; subst hhi;rw [hs];dsimp only [Option.bind_some,Sum.elim_inl];cases (cond (au k hi) (au hi (aH .i64 nn k)) false) <;> cases (cond (au lo k) (au k mid) false) <;> cases (cond (au mid (aH .i64 nn k)) (au (aH .i64 nn k) b) false) <;> rfl
theorem Ey {a b:aQ} (h:dz a b=true):dz b a=false:=by
 cases hb:dz b a with
 | false=>rfl
 | true => have:=fH.trans _ _ _ h hb;rw [fH.irr] at this;simp at this
theorem O4:∀ (n:Nat) (P L R S:List aQ),L.length + R.length<=n->0 < L.length->0 < R.length->ln dz L->ln dz R->(P ++ L ++ R ++ S).length<=bM ->
 ∃ M,ln dz M/\eC dz (L ++ R) M/\eZ n (P ++ L ++ R ++ S) (P.length:Int) ((P.length + L.length:Nat):Int) ((P.length + L.length + R.length:Nat):Int)=some (((P ++ M ++ S,()),()),()):=by
 intro n;induction n with
 | zero=>intro P L R S h1 h2 h3; omega
 | succ n ih =>
 intro P L R S hn hL0 hR0 hL hR hl;have hl':=hl;simp only [bM,List.length_append] at hl';have km:aH .i64 ((P.length + L.length:Nat):Int) (P.length:Int)=(L.length:Int):=by rw [aR (by omega) (by omega)]; omega
 have kb:aH .i64 ((P.length + L.length + R.length:Nat):Int) ((P.length + L.length:Nat):Int)=(R.length:Int):=by rw [aR (by omega) (by omega)]; omega
 by_cases hA:L.length=1
 . obtain ⟨x,rfl⟩:∃ x,L=[x]:=List.length_eq_one_iff.1 hA;have e0:P ++ [x] ++ R ++ S=P ++ x :: R ++ S:=by simp
   obtain ⟨k,k1,k2,k3,k4⟩:=Uh P S x R hR (by rw [<- e0]; exact hl);have hs:=hR;rw [<- List.take_append_drop k R] at hs;have hs:=cD.1 hs;obtain ⟨kk,hk⟩:=Kq P (R.drop k ++ S) x (P.length + 1 + k) (R.take k).length [] (R.take k) rfl (by rw [List.length_take]; simp only [List.length_nil]; omega) (by simp only [bM,List.length_append,List.length_cons,List.length_take,List.length_drop,List.length_nil] at hl' ⊢; omega);have e1:P ++ ([] ++ x :: R.take k) ++ (R.drop k ++ S)=P ++ x :: R ++ S:=by have:R.take k ++ R.drop k=R:=List.take_append_drop k R;simp only [List.nil_append,List.append_assoc,List.cons_append];rw [<- List.append_assoc (R.take k),this]
   rw [e1] at hk;refine ⟨R.take k ++ [x] ++ R.drop k,?_,?_,?_⟩
   . rw [List.append_assoc];refine cD.2 ⟨hs.1,List.pairwise_cons.2 ⟨fun y hy=>k3 y hy,hs.2.1⟩,fun y hy z hz => ?_⟩;rcases List.mem_cons.1 hz with rfl | hz
     . exact Ey (k2 y hy)
     . exact hs.2.2 y hy z hz
   . have h1:eC dz ([x] ++ R.take k) (R.take k ++ [x]):=eC.swap fH fun z hz y hy=>by
      simp only [List.mem_singleton] at hz; subst hz; exact k2 y hy
     have h2:=h1.append (eC.refl (R.drop k));rw [List.append_assoc,List.take_append_drop] at h2;exact h2
   . rw [oa,km,hA];have:aq ((1:Nat):Int) 1=true:=rfl;rw [this];dsimp only [cond_true];rw [e0,k4];dsimp only [Option.bind_some,Sum.elim_inl];simp only [List.length_nil,Nat.add_zero] at hk;rw [hk];dsimp only [Option.bind_some,Sum.elim_inl];simp
 by_cases hB:R.length=1
 . obtain ⟨y,rfl⟩:∃ y,R=[y]:=List.length_eq_one_iff.1 hB;have e0:P ++ L ++ [y] ++ S=P ++ L ++ y :: S:=by simp
   obtain ⟨k,k1,k2,k3,k4⟩:=Ug P S y L hL (by rw [<- e0]; exact hl);have hs:=hL;rw [<- List.take_append_drop k L] at hs;have hs:=cD.1 hs;obtain ⟨kk,hk⟩:=Ku (P ++ L.take k) S y (L.drop k).length (L.drop k) [] rfl (by simp only [bM,List.length_append,List.length_cons,List.length_take,List.length_drop,List.length_nil] at hl' ⊢; omega);have e1:P ++ L.take k ++ (L.drop k ++ [y]) ++ S=P ++ L ++ y :: S:=by have:L.take k ++ L.drop k=L:=List.take_append_drop k L;simp only [List.append_assoc,List.cons_append,List.nil_append];rw [<- List.append_assoc (L.take k),this]
   have e2:(((P ++ L.take k).length:Nat):Int)=((P.length + k:Nat):Int):=by simp only [List.length_append,List.length_take]; omega
   have e3:(((P ++ L.take k).length + (L.drop k).length:Nat):Int)=((P.length + L.length:Nat):Int):=by simp only [List.length_append,List.length_take,List.length_drop]; omega
   rw [e1,e2,e3] at hk;refine ⟨L.take k ++ (y :: L.drop k),?_,?_,?_⟩
   . refine cD.2 ⟨hs.1,List.pairwise_cons.2 ⟨fun x hx=>Ey (k3 x hx),hs.2.1⟩,fun x hx z hz => ?_⟩;rcases List.mem_cons.1 hz with rfl | hz
     . exact k2 x hx
     . exact hs.2.2 x hx z hz
   . have h1:eC dz (L.drop k ++ [y]) ([y] ++ L.drop k):=eC.swap fH fun z hz x hx=>by
      simp only [List.mem_singleton] at hx; subst hx; exact k3 z hz
     have h2:=(eC.refl (L.take k)).append h1;rw [<- List.append_assoc,List.take_append_drop] at h2;exact h2
   . have hA':aq (L.length:Int) 1=false:=by
      rw [Bool.eq_false_iff]; intro hh; rw [ej] at hh; omega
     rw [oa,km,kb,hA',hB];have:aq ((1:Nat):Int) 1=true:=rfl;rw [this];dsimp only [cond_true,cond_false];rw [e0,k4];dsimp only [Option.bind_some,Sum.elim_inl];rw [hk];dsimp only [Option.bind_some,Sum.elim_inl];simp
 -- the long case
 obtain ⟨mid,hmidN⟩:∃ mid,mid=(P.length + (P.length + L.length + R.length)) / 2:=⟨_,rfl⟩;obtain ⟨lo0,hlo0⟩:∃ lo0,lo0=if mid < P.length + L.length then mid - R.length else P.length:=⟨_,rfl⟩
 obtain ⟨hi0,hhi0⟩:∃ hi0,hi0=if mid < P.length + L.length then mid else P.length + L.length:=⟨_,rfl⟩
 have c1:P.length<=lo0:=by rw [hlo0]; split <;> omega
 have c2:lo0<=hi0:=by rw [hlo0,hhi0]; split <;> omega
 have c3:hi0<=P.length + L.length:=by rw [hhi0]; split <;> omega
 have c4:hi0<=mid:=by rw [hhi0]; split <;> omega
 have c5:mid<=lo0 + R.length:=by rw [hlo0]; split <;> omega
 obtain ⟨k,k1,k2,k3,k4,k5⟩:=RN P L R S hL hR mid lo0 hi0 c1 c2 c3 c4 c5 (by show mid<=1099511627776; omega) ((P.length + L.length + R.length:Nat):Int) hl;have hmid:=tP (i:=P.length) (j:=P.length + L.length + R.length) (by omega);rw [<- hmidN] at hmid;have hnn:ak .i64 (mid:Int) ((P.length + L.length:Nat):Int)=((mid + (P.length + L.length):Nat):Int):=by rw [aL (by omega) (by omega)]; omega
 have hsub1:aH .i64 ((mid + (P.length + L.length):Nat):Int) 1=((mid + (P.length + L.length):Nat) - 1:Int):=by rw [aR (by omega) (by omega)]
 have hA':aq (aH .i64 ((P.length + L.length:Nat):Int) (P.length:Int)) 1=false:=by rw [km,Bool.eq_false_iff]; intro hh; rw [ej] at hh; omega
 have hB':aq (aH .i64 ((P.length + L.length + R.length:Nat):Int) ((P.length + L.length:Nat):Int)) 1=false:=by rw [kb,Bool.eq_false_iff]; intro hh; rw [ej] at hh; omega
 have hlo:(lo0:Int)=cond (au (mid:Int) ((P.length + L.length:Nat):Int)) (aH .i64 ((mid + (P.length + L.length):Nat):Int) ((P.length + L.length + R.length:Nat):Int)) (P.length:Int):=by
  rw [hlo0];by_cases hm:mid < P.length + L.length
  . rw [if_pos hm,aD (by omega),cond_true,aR (by omega) (by omega)]; omega
  . rw [if_neg hm,ay (by omega),cond_false]
 have hhi:(hi0:Int)=cond (au (mid:Int) ((P.length + L.length:Nat):Int)) (mid:Int) ((P.length + L.length:Nat):Int):=by
  rw [hhi0];by_cases hm:mid < P.length + L.length
  . rw [if_pos hm,aD (by omega),cond_true]
  . rw [if_neg hm,ay (by omega),cond_false]
 have hsp:=Fq n (P ++ L ++ R ++ S) (P.length:Int) ((P.length + L.length:Nat):Int) ((P.length + L.length + R.length:Nat):Int) hA' hB' (mid:Int) ((mid + (P.length + L.length):Nat):Int) (lo0:Int) (hi0:Int) (k:Int) hmid hnn hlo hhi (by rw [hsub1]; exact k5);have he:aH .i64 ((mid + (P.length + L.length):Nat):Int) (k:Int)=((P.length + L.length + (mid - k):Nat):Int):=by rw [aR (by omega) (by omega)]; omega
 rw [he] at hsp
 -- the parts
 obtain ⟨L1,L2,hLe,hL1,hL2⟩:∃ L1 L2,L=L1 ++ L2/\L1=L.take (k - P.length)/\L2=L.drop (k - P.length):=⟨_,_,(List.take_append_drop _ _).symm,rfl,rfl⟩;obtain ⟨R1,R2,hRe,hR1,hR2⟩:∃ R1 R2,R=R1 ++ R2/\R1=R.take (mid - k)/\R2=R.drop (mid - k):=⟨_,_,(List.take_append_drop _ _).symm,rfl,rfl⟩;have n1:L1.length=k - P.length:=by rw [hL1,List.length_take]; omega
 have n2:L2.length=P.length + L.length - k:=by rw [hL2,List.length_drop]; omega
 have n3:R1.length=mid - k:=by rw [hR1,List.length_take]; omega
 have n4:R2.length=R.length - (mid - k):=by rw [hR2,List.length_drop]
 have sL:=hL;rw [hLe] at sL;have sL:=cD.1 sL;have sR:=hR;rw [hRe] at sR;have sR:=cD.1 sR;have xRL:∀ x∈R1,∀ y∈L2,dz x y=true:=fun x hx y hy=>by
  rw [hR1] at hx;rw [hL2] at hy;obtain ⟨q,q1,q2,rfl⟩:=na d92 hx;obtain ⟨q',p1,p2,rfl⟩:=np d92 hy;have hk:k < hi0:=by
   rcases Nat.lt_or_ge k hi0 with hh | hh
   . exact hh
   . exfalso;rw [hhi0] at hh;split at hh <;> omega
  have h0:=k4 k (Nat.le_refl _) hk;have h1:=iF fH d92 hR (q':=q) (q:=mid - 1 - k) (by omega) (by omega);have h2:=iF fH d92 hL (q':=k - P.length) (q:=q') (by omega) (by omega);rcases fH.neg _ (R.getD q d92) _ h0 with h3 | h3
  . rw [h1] at h3; simp at h3
  . rcases fH.neg _ (L.getD q' d92) _ h3 with h4 | h4
    . exact h4
    . rw [h2] at h4; simp at h4
 have xLR:∀ x∈L1,∀ y∈R2,dz y x=false:=fun x hx y hy=>by
  rw [hL1] at hx;rw [hR2] at hy;obtain ⟨q,q1,q2,rfl⟩:=na d92 hx;obtain ⟨q',p1,p2,rfl⟩:=np d92 hy;have hk:lo0 < k:=by
   rcases Nat.lt_or_ge lo0 k with hh | hh
   . exact hh
   . exfalso;rw [hlo0] at hh k1;split at hh <;> omega
  have h0:=k3 (k - 1) (by omega) (by omega);rw [show mid - 1 - (k - 1)=mid - k by omega,show k - 1 - P.length=k - P.length - 1 by omega] at h0;have h1:=iF fH d92 hL (q':=q) (q:=k - P.length - 1) (by omega) (by omega);have h2:=iF fH d92 hR (q':=mid - k) (q:=q') (by omega) (by omega);exact fH.le_trans (fH.le_trans h1 h0) h2
 -- the rotation
 have st1:cond (cond (au (k:Int) ((P.length + L.length:Nat):Int)) (au ((P.length + L.length:Nat):Int) ((P.length + L.length + (mid - k):Nat):Int)) false) (zW (P ++ L ++ R ++ S) (k:Int) ((P.length + L.length:Nat):Int) ((P.length + L.length + (mid - k):Nat):Int)) (some (((P ++ L ++ R ++ S,()),()),()))=some (((P ++ L1 ++ R1 ++ (L2 ++ R2 ++ S),()),()),()):=by
  by_cases z1:k < P.length + L.length
  . by_cases z2:0 < mid - k
    . rw [aD (by omega),aD (by omega)];dsimp only [cond_true];have h:=U5 (P ++ L1) L2 R1 (R2 ++ S) (by omega) (by omega) (by simp only [bM,List.length_append]; omega);have e1:P ++ L1 ++ L2 ++ R1 ++ (R2 ++ S)=P ++ L ++ R ++ S:=by rw [hLe,hRe]; simp
      have e2:(((P ++ L1).length:Nat):Int)=(k:Int):=by simp only [List.length_append]; omega
      have e3:(((P ++ L1).length + L2.length:Nat):Int)=((P.length + L.length:Nat):Int):=by simp only [List.length_append]; omega
      have e4:(((P ++ L1).length + L2.length + R1.length:Nat):Int)=((P.length + L.length + (mid - k):Nat):Int):=by simp only [List.length_append]; omega
      rw [e1,e2,e3,e4] at h;rw [h];simp
    . have hz:R1=[]:=List.length_eq_zero_iff.1 (by omega);rw [aD (by omega),ay (by omega)];dsimp only [cond_true,cond_false];rw [hLe,hRe,hz];simp
  . have hz:L2=[]:=List.length_eq_zero_iff.1 (by omega);rw [ay (by omega)];dsimp only [cond_false];rw [hLe,hRe,hz];simp
 -- the left half
 obtain ⟨M1,s1,t1,u1⟩:∃ M1,ln dz M1/\eC dz (L1 ++ R1) M1/\cond (cond (au (P.length:Int) (k:Int)) (au (k:Int) (mid:Int)) false) (eZ n (P ++ L1 ++ R1 ++ (L2 ++ R2 ++ S)) (P.length:Int) (k:Int) (mid:Int)) (some (((P ++ L1 ++ R1 ++ (L2 ++ R2 ++ S),()),()),()))=some (((P ++ M1 ++ (L2 ++ R2 ++ S),()),()),()):=by
  by_cases z1:P.length < k
  . by_cases z2:k < mid
    . obtain ⟨M,m1,m2,m3⟩:=ih P L1 R1 (L2 ++ R2 ++ S) (by omega) (by omega) (by omega) sL.1 sR.1 (by simp only [bM,List.length_append]; omega);refine ⟨M,m1,m2,?_⟩;rw [aD (by omega),aD (by omega)];dsimp only [cond_true];rw [show ((P.length + L1.length:Nat):Int)=(k:Int) by omega,show ((P.length + L1.length + R1.length:Nat):Int)=(mid:Int) by omega] at m3;exact m3
    . have hz:R1=[]:=List.length_eq_zero_iff.1 (by omega);refine ⟨L1,sL.1,by rw [hz,List.append_nil]; exact eC.refl _,?_⟩;rw [aD (by omega),ay (by omega),hz];simp
  . have hz:L1=[]:=List.length_eq_zero_iff.1 (by omega);refine ⟨R1,sR.1,by rw [hz]; exact eC.refl _,?_⟩;rw [ay (by omega),hz];simp
 have nM1:M1.length=L1.length + R1.length:=by have:=t1.1; rw [List.length_append] at this; omega
 -- the right half
 obtain ⟨M2,s2,t2,u2⟩:∃ M2,ln dz M2/\eC dz (L2 ++ R2) M2/\cond (cond (au (mid:Int) ((P.length + L.length + (mid - k):Nat):Int)) (au ((P.length + L.length + (mid - k):Nat):Int) ((P.length + L.length + R.length:Nat):Int)) false) (eZ n (P ++ M1 ++ (L2 ++ R2 ++ S)) (mid:Int) ((P.length + L.length + (mid - k):Nat):Int) ((P.length + L.length + R.length:Nat):Int)) (some (((P ++ M1 ++ (L2 ++ R2 ++ S),()),()),()))=some (((P ++ (M1 ++ M2) ++ S,()),()),()):=by
  by_cases z1:0 < L2.length
  . by_cases z2:0 < R2.length
    . obtain ⟨M,m1,m2,m3⟩:=ih (P ++ M1) L2 R2 S (by omega) z1 z2 sL.2.1 sR.2.1 (by simp only [bM,List.length_append]; omega);refine ⟨M,m1,m2,?_⟩;rw [aD (by omega),aD (by omega)];dsimp only [cond_true];rw [show (((P ++ M1).length:Nat):Int)=(mid:Int) by simp only [List.length_append]; omega,show (((P ++ M1).length + L2.length:Nat):Int)=((P.length + L.length + (mid - k):Nat):Int) by simp only [List.length_append]; omega,show (((P ++ M1).length + L2.length + R2.length:Nat):Int)=((P.length + L.length + R.length:Nat):Int) by simp only [List.length_append]; omega] at m3;have e1:P ++ M1 ++ L2 ++ R2 ++ S=P ++ M1 ++ (L2 ++ R2 ++ S):=by simp
      rw [e1] at m3;rw [m3];simp
    . have hz:R2=[]:=List.length_eq_zero_iff.1 (by omega);refine ⟨L2,sL.2.1,by rw [hz,List.append_nil]; exact eC.refl _,?_⟩;rw [ay (a:=((P.length + L.length + (mid - k):Nat):Int)) (by omega),hz];cases au (mid:Int) ((P.length + L.length + (mid - k):Nat):Int) <;> simp
  . have hz:L2=[]:=List.length_eq_zero_iff.1 (by omega);refine ⟨R2,sR.2.1,by rw [hz]; exact eC.refl _,?_⟩;rw [ay (a:=(mid:Int)) (by omega),hz];simp
 refine ⟨M1 ++ M2,cD.2 ⟨s1,s2,fun x hx y hy => ?_⟩,?_,?_⟩
 . rcases List.mem_append.1 ((t1.mem fH).2 hx) with hx | hx
   . rcases List.mem_append.1 ((t2.mem fH).2 hy) with hy | hy
     . exact sL.2.2 x hx y hy
     . exact xLR x hx y hy
   . rcases List.mem_append.1 ((t2.mem fH).2 hy) with hy | hy
     . exact Ey (xRL x hx y hy)
     . exact sR.2.2 x hx y hy
 . have h1:eC dz (L2 ++ R1) (R1 ++ L2):=eC.swap fH fun y hy x hx=>xRL x hx y hy
   have h2:=((eC.refl L1).append h1).append (eC.refl R2);have h3:=t1.append t2;have e1:L ++ R=L1 ++ (L2 ++ R1) ++ R2:=by rw [hLe,hRe]; simp
   have e2:L1 ++ (R1 ++ L2) ++ R2=L1 ++ R1 ++ (L2 ++ R2):=by simp
   rw [e1];rw [e2] at h2;exact h2.trans h3
 . rw [hsp];unfold zt;rw [st1];dsimp only [Option.bind_some];rw [u1];dsimp only [Option.bind_some];rw [u2];rfl
theorem D5 (P L R S:List aQ) (h2:0 < L.length) (h3:0 < R.length) (hL:ln dz L) (hR:ln dz R) (hl:(P ++ L ++ R ++ S).length<=bM) :
 ∃ M,ln dz M/\eC dz (L ++ R) M/\mI (P ++ L ++ R ++ S) (P.length:Int) ((P.length + L.length:Nat):Int) ((P.length + L.length + R.length:Nat):Int)=some (((P ++ M ++ S,()),()),()):=by
 obtain ⟨M,m1,m2,m3⟩:=O4 (L.length + R.length) P L R S (Nat.le_refl _) h2 h3 hL hR hl;refine ⟨M,m1,m2,Na (n:=L.length + R.length) fun m hm => ?_⟩;obtain ⟨M',p1,p2,p3⟩:=O4 m P L R S hm h2 h3 hL hR hl;rw [p3,qT fH p1 m1 (p2.symm.trans m2)]
def Lr (k:Nat) (cs:List (List aQ)):Prop:=∀ c∈cs,c.length=k/\ln dz c
theorem Ar {k:Nat}:∀ {cs:List (List aQ)},Lr k cs->cs.flatten.length=cs.length * k
 | [],_=>by simp
 | c :: cs,h=>by
   have h1:=(h c (List.mem_cons_self ..)).1;have h2:=Ar (cs:=cs) fun x hx=>h x (List.mem_cons_of_mem _ hx)
   rw [List.flatten_cons,List.length_append,h1,h2,List.length_cons,Nat.add_mul,Nat.one_mul,Nat.add_comm]
theorem Fg (N:Nat):∀ (n:Nat) (P R:List aQ),R.length=n->(P ++ R).length=N->N<=4194304 ->
 ∃ (cs:List (List aQ)) (T:List aQ),Lr 20 cs/\T.length < 20/\eC dz R (cs.flatten ++ T) /\
  Di (P ++ R) (N:Int) () 20 (P.length:Int) ((P.length + 20:Nat):Int)=some (.inl (P ++ cs.flatten ++ T,(N:Int),(),20,((N - T.length:Nat):Int),((N - T.length + 20:Nat):Int),())):=by
 intro n;induction n using Nat.strongRecOn with
 | _ n ih =>
 intro P R hn hN hB;have hN':=hN;rw [List.length_append] at hN';by_cases h:R.length < 20
 . refine ⟨[],R,fun c hc=>by simp at hc,h,eC.refl _,aF _ ?_⟩;show rC (P ++ R) (N:Int) () 20 (P.length:Int) ((P.length + 20:Nat):Int)=_;unfold rC;have:bD ((P.length + 20:Nat):Int) (N:Int)=false:=decide_eq_false (by omega);rw [this];have e:N - R.length=P.length:=by omega
   rw [e];simp
 . obtain ⟨L,S,rfl,hL⟩:∃ L S,R=L ++ S/\L.length=20:=⟨R.take 20,R.drop 20,(List.take_append_drop _ _).symm,by rw [List.length_take]; omega⟩;simp only [List.length_append] at hN' hn h;obtain ⟨M,m1,m2,m3⟩:=NS P L S (by simp only [bM,List.length_append]; omega);have hM:M.length=20:=by rw [<- m2.1]; exact hL
   obtain ⟨cs,T,q1,q2,q3,q4⟩:=ih S.length (by omega) (P ++ M) S rfl (by simp only [List.length_append]; omega) hB;refine ⟨M :: cs,T,fun c hc => ?_,q2,?_,?_⟩
   . rcases List.mem_cons.1 hc with rfl | hc
     . exact ⟨hM,m1⟩
     . exact q1 c hc
   . have:=m2.append q3;rw [List.flatten_cons,List.append_assoc];exact this
   . have e1:P ++ M ++ cs.flatten ++ T=P ++ (M :: cs).flatten ++ T:=by simp
     rw [e1] at q4;refine aP _ ?_ q4;show rC (P ++ (L ++ S)) (N:Int) () 20 (P.length:Int) ((P.length + 20:Nat):Int)=_;unfold rC;have k1:bD ((P.length + 20:Nat):Int) (N:Int)=true:=decide_eq_true (by omega);have e2:P ++ (L ++ S)=P ++ L ++ S:=by simp
     rw [hL] at m3;rw [k1,e2,m3];dsimp only [cond_true,Option.bind_some];have k2:ak .i64 ((P.length + 20:Nat):Int) 20=(((P ++ M).length + 20:Nat):Int):=by rw [aL (by omega) (by omega)]; simp only [List.length_append]; omega
     have k3:((P.length + 20:Nat):Int)=((P ++ M).length:Int):=by simp only [List.length_append]; omega
     rw [k2,k3]
theorem Qv {k:Nat} (h:k<=1073741824):jY .i64 2 (k:Int)=((2 * k:Nat):Int)/\jY .i64 (k:Int) 2=((2 * k:Nat):Int):=by unfold jY;rw [IntWalk.i64_in _ (by omega),IntWalk.i64_in _ (by omega)];omega
theorem Gv (N k:Nat) (hk:0 < k) (hkB:k<=1073741824) (hB:N<=4194304) (T:List aQ) (hT:T.length < k):∀ (n:Nat) (cs:List (List aQ)) (P:List aQ),cs.length=n->Lr k cs->(P ++ cs.flatten ++ T).length=N ->
 ∃ (ds c2:List (List aQ)) (b':Int),Lr (2 * k) ds/\Lr k c2/\c2.length<=1/\eC dz cs.flatten (ds.flatten ++ c2.flatten) /\
  zw (P ++ cs.flatten ++ T) (N:Int) () (k:Int) (P.length:Int) ((P.length + 2 * k:Nat):Int)=some (.inl (P ++ ds.flatten ++ c2.flatten ++ T,(N:Int),(),(k:Int),((P ++ ds.flatten).length:Int),b',())):=by
 intro n;induction n using Nat.strongRecOn with
 | _ n ih =>
 intro cs P hn hc hN;have hN':=hN;simp only [List.length_append] at hN'
 have stop:cs.length<=1->∃ (ds c2:List (List aQ)) (b':Int),Lr (2 * k) ds/\Lr k c2/\c2.length<=1/\eC dz cs.flatten (ds.flatten ++ c2.flatten) /\
  zw (P ++ cs.flatten ++ T) (N:Int) () (k:Int) (P.length:Int) ((P.length + 2 * k:Nat):Int)=some (.inl (P ++ ds.flatten ++ c2.flatten ++ T,(N:Int),(),(k:Int),((P ++ ds.flatten).length:Int),b',())):=fun h1=>by
  refine ⟨[],cs,((P.length + 2 * k:Nat):Int),fun c hc=>by simp at hc,hc,h1,by simpa using eC.refl _,aF _ ?_⟩;show rT (P ++ cs.flatten ++ T) (N:Int) () (k:Int) (P.length:Int) ((P.length + 2 * k:Nat):Int)=_;unfold rT;have hf:=Ar hc;have:cs.length * k<=k:=by have:=Nat.mul_le_mul_right k h1;omega
  have:bD ((P.length + 2 * k:Nat):Int) (N:Int)=false:=decide_eq_false (by omega);rw [this];simp
 cases cs with
 | nil=>exact stop (by simp)
 | cons c1 cs =>
 cases cs with
 | nil=>exact stop (by simp)
 | cons c2 cs =>
   have h1:=hc c1 (by simp);have h2:=hc c2 (by simp);have h3:Lr k cs:=fun c h=>hc c (by simp [h])
   simp only [List.flatten_cons,List.length_append] at hN';obtain ⟨M,m1,m2,m3⟩:=D5 P c1 c2 (cs.flatten ++ T) (by omega) (by omega) h1.2 h2.2 (by simp only [bM,List.length_append]; omega);have hM:M.length=2 * k:=by have:=m2.1; rw [List.length_append] at this; omega
   obtain ⟨ds,e2,b',q1,q2,q3,q4,q5⟩:=ih cs.length (by simp only [List.length_cons] at hn; omega) cs (P ++ M) rfl h3 (by simp only [List.length_append]; omega);refine ⟨M :: ds,e2,b',fun d hd => ?_,q2,q3,?_,?_⟩
   . rcases List.mem_cons.1 hd with rfl | hd
     . exact ⟨hM,m1⟩
     . exact q1 d hd
   . have:=m2.append q4;simpa using this
   . have e3:P ++ M ++ ds.flatten ++ e2.flatten ++ T=P ++ (M :: ds).flatten ++ e2.flatten ++ T:=by simp
     have e4:P ++ M ++ ds.flatten=P ++ (M :: ds).flatten:=by simp
     rw [e3,e4] at q5;refine aP _ ?_ q5;show rT (P ++ (c1 :: c2 :: cs).flatten ++ T) (N:Int) () (k:Int) (P.length:Int) ((P.length + 2 * k:Nat):Int)=_;unfold rT;have k1:bD ((P.length + 2 * k:Nat):Int) (N:Int)=true:=decide_eq_true (by omega);have e5:P ++ (c1 :: c2 :: cs).flatten ++ T=P ++ c1 ++ c2 ++ (cs.flatten ++ T):=by simp
     have k2:ak .i64 (P.length:Int) (k:Int)=((P.length + c1.length:Nat):Int):=by rw [aL (by omega) (by omega)]; omega
     have k3:((P.length + 2 * k:Nat):Int)=((P.length + c1.length + c2.length:Nat):Int):=by omega
     rw [k1,(Qv hkB).1,k2,k3,e5,m3];dsimp only [cond_true,Option.bind_some];have k4:ak .i64 ((P.length + c1.length + c2.length:Nat):Int) ((2 * k:Nat):Int)=(((P ++ M).length + 2 * k:Nat):Int):=by rw [aL (by omega) (by omega)]; simp only [List.length_append]; omega
     have k5:((P.length + c1.length + c2.length:Nat):Int)=((P ++ M).length:Int):=by simp only [List.length_append]; omega
     rw [k4,k5];simp
theorem E1 (N:Nat) (hB:N<=4194304):∀ (f k:Nat) (cs:List (List aQ)) (T:List aQ),N - k<=f->0 < k->k<=8388608->Lr k cs->T.length < k->ln dz T->(cs.flatten ++ T).length=N ->
 ∃ (M:List aQ) (k':Int),ln dz M/\eC dz (cs.flatten ++ T) M/\Db (cs.flatten ++ T) (N:Int) () (k:Int)=some (.inl (M,(N:Int),(),k',())):=by
 intro f;induction f using Nat.strongRecOn with
 | _ f ih =>
 intro k cs T hf hk hkB hc hT hTs hN;have hN':=hN;rw [List.length_append,Ar hc] at hN';by_cases h:k < N
 . obtain ⟨ds,c2,b',q1,q2,q3,q4,q5⟩:=Gv N k hk (by omega) hB T hT cs.length cs [] rfl hc (by simpa using hN);simp only [List.nil_append,List.length_nil,Nat.zero_add] at q5;have q5':zw (cs.flatten ++ T) (N:Int) () (k:Int) 0 ((2 * k:Nat):Int)=_:=q5;have hlen:ds.flatten.length + c2.flatten.length + T.length=N:=by
    have:=q4.1;rw [List.length_append] at this;rw [List.length_append] at hN;omega
   -- the rest behind the pairs
   obtain ⟨T',t1,t2,t3,t4⟩:∃ T',T'.length < 2 * k/\ln dz T'/\eC dz (c2.flatten ++ T) T' /\
    rr (cs.flatten ++ T) (N:Int) () (k:Int)=some (.inl (ds.flatten ++ T',(N:Int),(),((2 * k:Nat):Int),())):=by
    unfold rr;rw [aD (by omega),(Qv (by omega)).1,q5'];dsimp only [cond_true,Option.bind_some,Sum.elim_inl];rw [(Qv (k:=k) (by omega)).2];have k2:ak .i64 ((ds.flatten.length:Nat):Int) (k:Int)=((ds.flatten.length + k:Nat):Int):=by rw [aL (by omega) (by omega)]; omega
    rw [k2];cases c2 with
    | nil => simp only [List.flatten_nil,List.length_nil,Nat.add_zero] at hlen;refine ⟨T,by omega,hTs,by simpa using eC.refl _,?_⟩;rw [ay (by omega)];simp
    | cons c c2 =>
      have:c2=[]:=List.length_eq_zero_iff.1 (by simp only [List.length_cons] at q3; omega);subst this;have hcc:=q2 c (by simp);simp only [List.flatten_cons,List.flatten_nil,List.append_nil] at hlen ⊢;by_cases hz:0 < T.length
      . obtain ⟨M,m1,m2,m3⟩:=D5 ds.flatten c T [] (by omega) hz hcc.2 hTs (by simp only [bM,List.length_append,List.length_nil]; omega);refine ⟨M,by have:=m2.1; rw [List.length_append] at this; omega,m1,m2,?_⟩;rw [hcc.1] at m3;rw [show ((ds.flatten.length + k + T.length:Nat):Int)=(N:Int) by omega,List.append_nil,List.append_nil] at m3;rw [aD (by omega),m3];simp
      . have:T=[]:=List.length_eq_zero_iff.1 (by omega);subst this;refine ⟨c,by omega,hcc.2,by simpa using eC.refl _,?_⟩;rw [ay (by simp only [List.length_nil] at hlen; omega)];simp
   obtain ⟨M,k',m1,m2,m3⟩:=ih (N - 2 * k) (by omega) (2 * k) ds T' (Nat.le_refl _) (by omega) (by omega) q1 t1 t2 (by have:=t3.1; rw [List.length_append] at this ⊢; omega);refine ⟨M,k',m1,?_,aP _ t4 m3⟩;have h1:=q4.append (eC.refl T);have h2:=(eC.refl ds.flatten).append t3;rw [List.append_assoc] at h1;exact (h1.trans h2).trans m2
 . refine ⟨cs.flatten ++ T,(k:Int),?_,eC.refl _,aF _ ?_⟩
   . cases cs with
     | nil=>simpa using hTs
     | cons c cs =>
       simp only [List.length_cons,Nat.add_mul,Nat.one_mul] at hN';have h0:T=[]:=List.length_eq_zero_iff.1 (by omega);have h1:cs=[]:=by
        cases cs with
        | nil=>rfl
        | cons d cs=>simp only [List.length_cons,Nat.add_mul,Nat.one_mul] at hN'; omega
       subst h0; subst h1;simpa using (hc c (by simp)).2
   . show rr (cs.flatten ++ T) (N:Int) () (k:Int)=_;unfold rr;rw [ay (by omega)];rfl
theorem P3 (xs:List aQ) (hB:xs.length<=4194304):∃ M,ln dz M/\eC dz xs M/\VA xs=some (((M,()),()),()):=by
 obtain ⟨cs,T,q1,q2,q3,q4⟩:=Fg xs.length xs.length [] xs rfl rfl hB;simp only [List.nil_append,List.length_nil,Nat.zero_add] at q4;have hlen:cs.flatten.length + T.length=xs.length:=by have:=q3.1; rw [List.length_append] at this; omega
 obtain ⟨T',t1,t2,t3⟩:=NS cs.flatten T [] (by simp only [bM,List.length_append,List.length_nil]; omega);rw [List.append_nil,List.append_nil] at t3;have hT':T'.length=T.length:=t2.1.symm;obtain ⟨M,k',m1,m2,m3⟩:=E1 xs.length hB (xs.length) 20 cs T' (by omega) (by decide) (by decide) q1 (by omega) t1 (by rw [List.length_append]; omega);refine ⟨M,m1,(q3.trans ((eC.refl _).append t2)).trans m2,?_⟩;have q4':Di xs (ae xs) () 20 0 20=_:=q4;have e1:((cs.flatten.length + T.length:Nat):Int)=(xs.length:Int):=by omega
 have e2:((xs.length - T.length:Nat):Int)=(cs.flatten.length:Int):=by omega
 rw [e1] at t3;unfold VA Pe;rw [q4'];dsimp only [Option.bind_some,Sum.elim_inl];rw [e2,t3];dsimp only [Option.bind_some];have m3':Db (cs.flatten ++ T') (xs.length:Int) () 20=_:=m3;rw [m3'];rfl
theorem HY (out:List aQ) (x:aQ) (hS:ln dz out) (hl:out.length<=4194304) (t11:List (eS)) (t12 t13:Int) (t18:List aQ) (t19 t20:Int) (b2:List aQ×Unit):∀ (n:Nat) (A B:List aQ),out=A ++ B->A.length=n->(∀ y∈B,dz x y=true) ->
 ∃ A' B',out=A' ++ B'/\(∀ y∈B',dz x y=true)/\(∀ y∈A',dz x y=false)/\AK out (A.length:Int) t11 t12 t13 t18 t19 t20 b2 x=some (.inl (out,(A'.length:Int),t11,t12,t13,t18,t19,t20,b2,x,())):=by
 have hbig:aV=140737488355328:=rfl;intro n;induction n with
 | zero => intro A B hAB hn hB;have:A=[]:=List.length_eq_zero_iff.1 hn;subst this;refine ⟨[],B,hAB,hB,fun y hy=>by simp at hy,aF _ ?_⟩;show wJ out 0 t11 t12 t13 t18 t19 t20 b2 x=_;unfold wJ;rfl
 | succ n ih =>
   intro A B hAB hn hB;obtain ⟨C,y,rfl⟩:=tW (a:=A) (fun h=>by subst h; simp at hn);have hC:C.length=n:=by simpa using hn
   have hlen:=congrArg List.length hAB;simp only [List.length_append,List.length_cons,List.length_nil] at hlen;have k1:aH .i64 ((C ++ [y]).length:Int) 1=(C.length:Int):=by rw [aR (by simp only [List.length_append,List.length_cons,List.length_nil]; omega) (by simp only [List.length_append,List.length_cons,List.length_nil]; omega)]; simp only [List.length_append,List.length_cons,List.length_nil]; omega
   have e0:out=C ++ y :: B:=by rw [hAB]; simp
   have i1:aU (C.length:Int) out=true:=by rw [e0]; exact im _ _ _ rfl
   have g1:gt d92 out (C.length:Int)=y:=by rw [e0]; exact vI _ _ _ _ rfl
   have hstep:wJ out ((C ++ [y]).length:Int) t11 t12 t13 t18 t19 t20 b2 x=cond (dz x y) (some (.inl (out,(C.length:Int),t11,t12,t13,t18,t19,t20,b2,x,()))) (some (.inr (.inl (out,((C ++ [y]).length:Int),t11,t12,t13,t18,t19,t20,b2,x,())))):=by unfold wJ;rw [aD (by simp only [List.length_append,List.length_cons,List.length_nil]; omega)];dsimp only [cond_true];rw [k1,i1,g1,uj];dsimp only [cond_true];rw [Bool.not_not]
   cases hc:dz x y with
   | true =>
     rw [hc] at hstep;obtain ⟨A',B',r1,r2,r3,r4⟩:=ih C (y :: B) e0 hC (fun z hz=>by
      rcases List.mem_cons.1 hz with rfl | hz
      . exact hc
      . exact hB z hz)
     exact ⟨A',B',r1,r2,r3,aP _ hstep r4⟩
   | false =>
     rw [hc] at hstep;refine ⟨C ++ [y],B,hAB,hB,fun z hz => ?_,aF _ hstep⟩;rcases List.mem_append.1 hz with hz | hz
     . rw [hAB] at hS;have:=(cD.1 (cD.1 hS).1).2.2 z hz y (by simp);exact fH.le_trans this hc
     . simp only [List.mem_singleton] at hz; subst hz; exact hc
abbrev gn:=Int×List aQ×Unit
def fE (l:List gn):List aQ:=(l.map fun s=>s.2.1).flatten
def xF (l:List gn):Prop:=l.length<=1048576/\(fE l).length<=1048576/\∀ s∈l,∀ a∈s.2.1,jE a
theorem si {l:List gn} {i:Nat} {s:gn} (h:l[i]? = some s):fE (l.take (i + 1))=fE (l.take i) ++ s.2.1:=by unfold fE;rw [List.take_add_one,h];simp
theorem zL (l:List gn) (i:Nat):(fE (l.take i)).length<=(fE l).length:=by
 have:fE l=fE (l.take i) ++ fE (l.drop i):=by unfold fE;rw [<- List.flatten_append,<- List.map_append,List.take_append_drop]
 rw [this,List.length_append];omega
theorem QP (base acc:List aQ) (hb:∀ a∈acc,jE a) (hl:(base ++ acc).length<=1048576) (t11:List gn) (t12 t13:Int) (b2:List aQ×Unit) (out:List aQ) (h1:ln dz out) (h2:eC dz base out) :
 ∃ M,(ln dz M/\eC dz (base ++ acc.take acc.length) M)/\D7 out t11 t12 t13 acc (ae acc) 0 b2=some (.inl (M,t11,t12,t13,acc,ae acc,(acc.length:Int),b2,())):=by
 have hbig:aV=140737488355328:=rfl;rw [List.length_append] at hl;refine nk (step:=yl su) acc (fun i (o:List aQ)=>(o,t11,t12,t13,acc,ae acc,((i:Nat):Int),b2,())) (fun o=> .inl (o,t11,t12,t13,acc,ae acc,(acc.length:Int),b2,())) (fun i o=>ln dz o/\eC dz (base ++ acc.take i) o) (fun i x o hx ho => ?_) (fun o ho => ?_) acc.length 0 out (by omega) ⟨h1,by simpa using h2⟩
 . have hlt:=aj hx;have hxB:=hb x (List.mem_of_getElem? hx);have hol:o.length<=1048576:=by
    have:=ho.2.1;rw [List.length_append,List.length_take] at this;omega
   obtain ⟨A,B,r1,r2,r3,r4⟩:=HY o x ho.1 (by omega) t11 t12 t13 acc (ae acc) (i:Int) b2 o.length o [] (by simp) rfl (fun y hy=>by simp at hy);have hAB:o.length=A.length + B.length:=by rw [r1,List.length_append]
   refine ⟨A ++ [x] ++ B,?_,?_,?_⟩
   . show su o t11 t12 t13 acc (ae acc) (i:Int) b2=_;unfold su;have r4':AK o (ae o) t11 t12 t13 acc (ae acc) (i:Int) b2 x=_:=r4;have f1:dO 0 (A.length:Int) o=true:=by
      show (decide ((0:Int)<=0) && (decide ((0:Int)<=(A.length:Int)) && decide ((A.length:Int)<=(o.length:Int))))=true;rw [decide_eq_true (by omega),decide_eq_true (by omega),decide_eq_true (by omega)]; rfl
     have f2:Tk 160 [] o (A.length:Int)=true:=Nat.ble_eq_true_of_le (by simp only [List.length_nil,Int.toNat_natCast]; omega);have f3:Nw o (A.length:Int)=A:=by unfold Nw; rw [Int.toNat_natCast,r1]; simp
     have f4:Zk o (A.length:Int)=B:=by unfold Zk; rw [Int.toNat_natCast,r1]; simp
     have f5:Rs (A.length:Int) (A.length:Int)=true:=by unfold Rs preB bD;rw [decide_eq_true (by omega),Nat.beq_refl]; rfl
     have f6:cT 160 (ll [] A) [x]=true:=Nat.ble_eq_true_of_le (by show ((([]:List aQ) ++ A).length + 1) * 160<=aV; simp only [List.nil_append]; omega);have f7:cT 160 (ll (ll [] A) [x]) B=true:=Nat.ble_eq_true_of_le (by show ((([]:List aQ) ++ A ++ [x]).length + B.length) * 160<=aV; simp only [List.nil_append,List.length_append,List.length_cons,List.length_nil]; omega);rw [aI hx,aC hx,aW _ hx,r4'];dsimp only [cond_true,Option.bind_some,Sum.elim_inl];rw [f1,f2,f3,f4,f5,Je x hxB,aO (by omega)];dsimp only [cond_true,Option.bind_some];rw [f6,f7];rfl
   . have hs:=ho.1;rw [r1] at hs;have hs:=cD.1 hs;rw [List.append_assoc];refine cD.2 ⟨hs.1,List.pairwise_cons.2 ⟨fun y hy=>Ey (r2 y hy),hs.2.1⟩,fun y hy z hz => ?_⟩;rcases List.mem_cons.1 hz with rfl | hz
     . exact r3 y hy
     . exact hs.2.2 y hy z hz
   . have e1:base ++ acc.take (i + 1)=base ++ acc.take i ++ [x]:=by rw [List.take_add_one,hx]; simp
     rw [e1];have q1:=ho.2.append (eC.refl [x]);have q2:eC dz (B ++ [x]) ([x] ++ B):=eC.swap fH fun y hy z hz=>by simp only [List.mem_singleton] at hz; subst hz; exact r2 y hy
     have q3:=(eC.refl A).append q2;rw [r1] at q1;rw [List.append_assoc A] at q1;rw [List.append_assoc A];exact q1.trans q3
 . show su o t11 t12 t13 acc (ae acc) (acc.length:Int) b2=_;unfold su;rw [ax rfl]; rfl
theorem AI (l:List gn) (hB:xF l):∃ M,(ln dz M/\eC dz (fE l) M)/\OQ l=some ((),((M,()),())):=by
 have hbig:aV=140737488355328:=rfl;have hl:=hB.1;obtain ⟨M,⟨m1,m2⟩,m3⟩:=nk (step:=gz sJ) l (fun j (o:List aQ)=>(o,l,ae l,((j:Nat):Int),(([]:List aQ),()),())) (fun o=> .inl (o,l,ae l,(l.length:Int),([],()),())) (fun j o=>ln dz o/\eC dz (fE (l.take j)) o) (fun j s o hx ho=>by
  have hlt:=aj hx;have hs:=hB.2.2 s (List.mem_of_getElem? hx);have e1:=si hx;have e2:=zL l (j + 1);have e3:=hB.2.1;obtain ⟨M,⟨m1,m2⟩,m3⟩:=QP (fE (l.take j)) s.2.1 hs (by rw [<- e1]; omega) l (ae l) (j:Int) ([],()) o ho.1 ho.2;rw [List.take_length,<- e1] at m2;refine ⟨M,?_,m1,m2⟩;show sJ o l (ae l) (j:Int) ([],())=_;unfold sJ;rw [aI hx,aC hx,aW _ hx];dsimp only [cond_true];rw [m3];dsimp only [Option.bind_some,Sum.elim_inl];rw [aO (by omega)]) (fun o ho=>by
  show sJ o l (ae l) (l.length:Int) ([],())=_;unfold sJ;rw [ax rfl]; rfl) l.length 0 [] (by omega) ⟨Ej,eC.refl _⟩
 rw [List.take_length] at m2;refine ⟨M,⟨m1,m2⟩,?_⟩;unfold OQ;have m3':Ed [] l (ae l) 0 ([],())=_:=m3;rw [m3'];rfl
theorem H5 (acc:List aQ) (hb:∀ a∈acc,jE a) (hl:acc.length<=1048576):V1 (acc,())=some ((),((acc,()),())):=by
 have hbig:aV=140737488355328:=rfl;unfold V1 QR;have h:=aT (step:=D2 oZ) acc (fun i (a:List aQ)=>((),acc,ae acc,((i:Nat):Int),(([]:List aQ),()),(a,()),())) (fun _ x a=>Sum.inl (a ++ [x])) (fun a=> .inl ((),acc,ae acc,(acc.length:Int),([],()),(a,()),())) (fun i a=>a.length=i) (a0:=[]) rfl (fun i x a hx ha=>by
  have hlt:=aj hx;show oZ () acc (ae acc) (i:Int) ([],()) (a,())=_;unfold oZ;have e:∀ y:aQ,cT 160 a [y]=true:=fun y=>Nat.ble_eq_true_of_le (by simp; omega)
  rw [aI hx,aC hx,aW _ hx,IM x (hb x (List.mem_of_getElem? hx)),aO (by omega)];dsimp only [cond_true,Option.bind_some];rw [e];rfl) (fun i x a a' hx ha hf=>by
  simp only [Sum.inl.injEq] at hf;rw [<- hf,List.length_append,ha]; rfl) (fun a ha=>by
  show oZ () acc (ae acc) (acc.length:Int) ([],()) (a,())=_;unfold oZ;rw [ax rfl]; rfl)
 rw [jI] at h;have h':Kz () acc (ae acc) 0 ([],()) ([],())=_:=h;dsimp only;rw [h'];rfl
theorem JH (l:List gn) (hB:xF l):∃ M,(ln dz M/\eC dz (fE l) M)/\P6 l=some ((),((M,()),())):=by
 have hbig:aV=140737488355328:=rfl;have hl:=hB.1;have hl2:=hB.2.1;obtain ⟨o,ho,hm⟩:=nk (step:=gz wg) l (fun j (o:List aQ)=>(l,ae l,((j:Nat):Int),(([]:List aQ),()),(o,()),())) (fun o=> .inl (l,ae l,(l.length:Int),([],()),(o,()),())) (fun j o=>o=fE (l.take j)) (fun j s o hx ho=>by
  have hlt:=aj hx;have hs:=hB.2.2 s (List.mem_of_getElem? hx);have e1:=si hx;have e2:=zL l (j + 1);rw [e1,List.length_append] at e2;refine ⟨o ++ s.2.1,?_,by rw [ho,e1]⟩;show wg l (ae l) (j:Int) ([],()) (o,())=_;unfold wg;have e:cT 160 o s.2.1=true:=Nat.ble_eq_true_of_le (by rw [ho]; omega);rw [aI hx,aC hx,aW _ hx];dsimp only [cond_true];rw [H5 s.2.1 hs (by omega)];dsimp only [cond_true,Option.bind_some];rw [e,aO (by omega)];rfl) (fun o ho=>by
  show wg l (ae l) (l.length:Int) ([],()) (o,())=_;unfold wg;rw [ax rfl]; rfl) l.length 0 [] (by omega) rfl
 rw [List.take_length] at ho;subst ho;obtain ⟨M,m1,m2,m3⟩:=P3 (fE l) (by omega);refine ⟨M,⟨m1,m2⟩,?_⟩;unfold P6;have hm':NH l (ae l) 0 ([],()) ([],())=_:=hm;rw [hm'];dsimp only [Option.bind_some,Sum.elim_inl];rw [m3];rfl
theorem FK (l:List gn) (hB:xF l):∃ M,M.length=(fE l).length/\(∀ x∈M,x∈fE l)/\eC dz (fE l) M/\OQ l=some ((),((M,()),()))/\P6 l=some ((),((M,()),())):=by obtain ⟨M,⟨m1,m2⟩,m3⟩:=AI l hB;obtain ⟨M',⟨p1,p2⟩,p3⟩:=JH l hB;have e:=qT fH p1 m1 (p2.symm.trans m2);subst e;exact ⟨M',p2.1.symm,fun x hx=>(p2.mem fH).2 hx,p2,m3,p3⟩
abbrev aX:=List (Int×Unit)
def yf (b:aX):Prop:=b.length<=1048576/\∀ x∈b,0<=x.1/\x.1<=255
def eL (b:aX) (a k:Nat):aX:=(b.drop a).take k
theorem Hl (b:aX) (a k:Nat):sub b (a:Int) ((a + k:Nat):Int)=eL b a k:=by unfold sub eL;rw [Int.toNat_natCast,Int.toNat_natCast,List.drop_take,Nat.add_sub_cancel_left]
theorem lP {b:aX} {a k:Nat} (h:a + k<=b.length):(eL b a k).length=k:=by unfold eL;rw [List.length_take,List.length_drop];omega
theorem Kv {b:aX} {a k i:Nat} {x:Int×Unit} (h:(eL b a k)[i]? = some x):i < k/\b[a + i]? = some x:=by
 unfold eL at h;rw [List.getElem?_take] at h;split at h
 . rw [List.getElem?_drop] at h;exact ⟨by assumption,h⟩
 . simp at h
theorem Rx {b:aX} {a k:Nat} {x:Int×Unit} (h:x∈eL b a k):x∈b:=List.mem_of_mem_drop (List.mem_of_mem_take h)
theorem EO {b:aX} {a k:Nat} (h:a + k<=b.length):dO (a:Int) ((a + k:Nat):Int) b=true:=by show (decide ((0:Int)<=(a:Int)) && (decide ((a:Int)<=((a + k:Nat):Int)) && decide (((a + k:Nat):Int)<=(b.length:Int))))=true;rw [decide_eq_true (by omega),decide_eq_true (by omega),decide_eq_true (by omega)]; rfl
theorem yZ (b:aX) (a k:Nat) (hb:b.length<=1048576) (ha:a<=b.length) (hk:k<=1048576):Al b a k=some ((),(if a + k<=b.length then ((eL b a k,()),(true,()),()) else (([],()),(false,()),()))):=by
 unfold Al;have e:aH .i64 (ae b) (a:Int)=(b.length:Int) - a:=aR (by show -4611686018427387904<=(b.length:Int) - a; omega) (by show (b.length:Int) - a<=_; omega);have i1:dv (a:Int) 0 (ae b)=true:=fC.2 ⟨by omega,by show (a:Int)<=(b.length:Int); omega⟩;have e2:ak .i64 (a:Int) (k:Int)=((a + k:Nat):Int):=by rw [aL (by omega) (by omega)]; omega
 dsimp only;rw [iZ,e,e2];dsimp only [Option.bind_some];rw [i1,ay (a:=(k:Int)) (b:=0) (by omega)];by_cases h:a + k<=b.length
 . rw [ay (by omega),if_pos h,EO h,Hl];rfl
 . rw [aD (by omega),if_neg h]; rfl
def dX (s:List UInt8):Bool:=s.all fun x=>cond (au (x.toNat:Int) 32) false (!(au 126 (x.toNat:Int)))
theorem Ew (s:List UInt8) (hs:s.length<=aV):zX s=some ((),((dX s,()),())):=by
 unfold zX;have h:=aG (step:=wY po) s (fun i (_:Unit)=>(s,((i:Nat):Int),())) (fun _ x _=>bif cond (au (x.toNat:Int) 32) false (!(au 126 (x.toNat:Int))) then Sum.inl () else .inr (.inr (false,()))) (fun _=> .inl (s,(s.length:Int),())) (a0:=()) (fun i x a hx=>by
  have hlt:=aj hx;show po s (i:Int)=_;unfold po;rw [aI hx,aC hx,eG hx,aO (by omega)];dsimp only [cond_true];cases au (x.toNat:Int) 32 <;> cases au 126 (x.toNat:Int) <;> rfl) (fun a=>by
  show po s (s.length:Int)=_;unfold po;rw [ax rfl]; rfl)
 rw [gh] at h;have h':JN s 0=_:=h;rw [h'];unfold dX;cases s.all _ <;> rfl
theorem Lj (s:List UInt8) (hs:s.length<=aV):FT s=some ((),((dX s,()),())):=by
 unfold FT;have h:=aG (step:=dC oW) s (fun i (_:Unit)=>(s,ae s,((i:Nat):Int),())) (fun _ x _=>bif cond (au (x.toNat:Int) 32) false (!(au 126 (x.toNat:Int))) then Sum.inl () else .inr (.inr (false,()))) (fun _=> .inl (s,ae s,(s.length:Int),())) (a0:=()) (fun i x a hx=>by
  have hlt:=aj hx;show oW s (ae s) (i:Int)=_;unfold oW;rw [aI hx,aC hx,eG hx,aO (by omega)];dsimp only [cond_true];cases au (x.toNat:Int) 32 <;> cases au 126 (x.toNat:Int) <;> rfl) (fun a=>by
  show oW s (ae s) (s.length:Int)=_;unfold oW;rw [ax rfl]; rfl)
 rw [gh] at h;have h':Kh s (ae s) 0=_:=h;rw [h'];unfold dX;cases s.all _ <;> rfl
def kE (acc:Nat) (s:List UInt8):Nat:=s.foldl (fun n x=>n * 10 + (x.toNat - 48)) acc
theorem zy:∀ (s:List UInt8) (acc k:Nat),s.all fP=true->acc < 10 ^ k->kE acc s < 10 ^ (k + s.length)
 | [],acc,k,_,h=>h
 | x :: s,acc,k,hd,h=>by simp only [List.all_cons,Bool.and_eq_true] at hd;have:=fW.1 hd.1;have h2:=zy s (acc * 10 + (x.toNat - 48)) (k + 1) hd.2 (by rw [Nat.pow_succ]; omega);rw [List.length_cons,show k + (s.length + 1)=k + 1 + s.length by omega];exact h2
theorem AH:∀ (s:List UInt8) (acc:Nat),s.all fP=true->kE acc s < 1844674407370955162->Lib.parseUint10 acc s= .ok (kE acc s)
 | [],acc,_,_=>rfl
 | x :: s,acc,hd,h=>by
   simp only [List.all_cons,Bool.and_eq_true] at hd;have hx:=fW.1 hd.1;have hmono:∀ (s:List UInt8) (a:Nat),a<=kE a s:=fun s=>by
    induction s with
    | nil=>intro a; exact Nat.le_refl _
    | cons y s ih=>intro a; exact Nat.le_trans (by omega) (ih (a * 10 + (y.toNat - 48)))
   have h1:=hmono s (acc * 10 + (x.toNat - 48));have h:kE (acc * 10 + (x.toNat - 48)) s < 1844674407370955162:=h;have ih:=AH s (acc * 10 + (x.toNat - 48)) hd.2 h;unfold Lib.parseUint10;rw [if_pos hx,if_neg (by omega),if_neg (by omega),ih];rfl
theorem dm {s:List UInt8}:aY s=true↔s.all fP=true/\s≠[]:=by
 unfold aY;cases s.all fP with
 | false=>simp
 | true=>cases s <;> simp [au,ae]
def xL (s:List UInt8):Option Nat:=if aY s=true/\s.length<=18 then some (kE 0 s) else none
def Nd (o:Option Nat):Option (Unit×((Int×Unit)×(Bool×Unit)×Unit)):=some ((),match o with | some n=>(((n:Int),()),(true,()),()) | none=>((0,()),(false,()),()))
theorem OE (s:List UInt8) (hs:s.length<=aV):CK s=Nd (xL s):=by
 unfold CK tL xL;rw [gJ s hs];dsimp only [Option.bind_some];cases hd:aY s with
 | false=>rfl
 | true =>
   by_cases h18:s.length<=18
   . rw [if_pos ⟨rfl,h18⟩,Nat.ble_eq_true_of_le h18];obtain ⟨h1,h2⟩:=dm.1 hd;have hb:=zy s 0 0 h1 (by decide);have hb2:kE 0 s < 1000000000000000000:=Nat.lt_of_lt_of_le hb (by rw [Nat.zero_add]; exact Nat.pow_le_pow_right (by decide) h18);have hu:=AH s 0 h1 (by omega);have hv:Lib.atoiAll s= .ok (kE 0 s:Int):=by
      cases s with
      | nil=>exact absurd rfl h2
      | cons c r => have hc:=List.all_eq_true.1 h1 c (by simp);have hc:=fW.1 hc;rw [Lib.atoiAll_plain c r (by omega) (by omega)];unfold Lib.parseMag;rw [if_neg (by simp),hu];show (if 9223372036854775808<=kE 0 (c :: r) then _ else _)=_;rw [if_neg (by omega)]
     rw [hv];rfl
   . rw [if_neg (fun h=>h18 h.2)];have:Nat.ble s.length 18=false:=by
      cases h:Nat.ble s.length 18 with
      | false=>rfl
      | true=>exact absurd (Nat.le_of_ble_eq_true h) h18
     rw [this];rfl
theorem ER (s:List UInt8) (hs:s.length<=aV):tE s=Nd (xL s):=by
 have hbig:aV=140737488355328:=rfl;unfold tE xL;rw [fO s hs];dsimp only [Option.bind_some];cases hd:aY s with
 | false=>rfl
 | true =>
   by_cases h18:s.length<=18
   . rw [if_pos ⟨rfl,h18⟩,ay (by show ¬ (18:Int) < (s.length:Int); omega)];obtain ⟨h1,h2⟩:=dm.1 hd;have h:=aT (step:=dC pO) s (fun i (a:Nat)=>(s,(a:Int),((i:Nat):Int),())) (fun _ x a=>Sum.inl (a * 10 + (x.toNat - 48))) (fun a=> .inl (s,(a:Int),(s.length:Int),())) (fun i a=>a < 10 ^ i) (a0:=0) (by decide) (fun i x a hx ha=>by
      have hlt:=aj hx;have hc:=fW.1 (List.all_eq_true.1 h1 x (List.mem_of_getElem? hx));have h17:a < 10 ^ 17:=Nat.lt_of_lt_of_le ha (Nat.pow_le_pow_right (by decide) (by omega));have h17':a < 100000000000000000:=h17;show pO s (a:Int) (i:Int)=_;unfold pO;have m:jY .i64 (a:Int) 10=((a * 10:Nat):Int):=by unfold jY; rw [IntKind.wrap_i64]; omega
      have c:bG .i64 (x.toNat:Int)=(x.toNat:Int):=by unfold bG; rw [IntKind.wrap_i64]; omega
      rw [aI hx,aC hx,eG hx,aO (by omega),m,c,aL (by omega) (by omega),aR (by omega) (by omega)];dsimp only [cond_true];rw [show ((a * 10:Nat):Int) + (x.toNat:Int) - 48=((a * 10 + (x.toNat - 48):Nat):Int) by omega]) (fun i x a a' hx ha hf=>by
      have hc:=fW.1 (List.all_eq_true.1 h1 x (List.mem_of_getElem? hx));simp only [Sum.inl.injEq] at hf;rw [<- hf,Nat.pow_succ];omega) (fun a ha=>by
      show pO s (a:Int) (s.length:Int)=_;unfold pO;rw [ax rfl]; rfl)
     rw [bV] at h;have h':HE s 0 0=_:=h;rw [h'];rfl
   . rw [if_neg (fun h=>h18 h.2),aD (by show (18:Int) < (s.length:Int); omega)];rfl
theorem He {s t:List UInt8} (h:s.length + t.length<=aV):Gi s t=true:=Nat.ble_eq_true_of_le h
def KG (x:Int×Unit):List UInt8:=[UInt8.ofNat (48 + x.1.toNat / 16),UInt8.ofNat (48 + x.1.toNat % 16)]
def oT (l:aX):List UInt8:=(l.map KG).flatten
theorem qX:∀ l:aX,(oT l).length=2 * l.length
 | []=>rfl
 | x :: r=>by have:=qX r;unfold oT at this ⊢;simp only [List.map_cons,List.flatten_cons,List.length_append,this,KG,List.length_cons,List.length_nil];omega
def zo:List UInt8->aX
 | []=>[]
 | x :: r=>((x.toNat:Int),()) :: zo r
theorem rS:∀ q:List UInt8,strOf (zo q)=q
 | []=>rfl
 | x :: r=>by show UInt8.ofNat (Int.toNat (x.toNat:Int)) :: strOf (zo r)=_;rw [rS r,Int.toNat_natCast];simp
theorem ub:∀ q:List UInt8,(zo q).length=q.length
 | []=>rfl
 | x :: r=>congrArg (· + 1) (ub r)
theorem DZ:∀ q r:List UInt8,zo (q ++ r)=zo q ++ zo r
 | [],r=>rfl
 | x :: q,r=>congrArg (((x.toNat:Int),()) :: ·) (DZ q r)
theorem Bo:∀ (n:Nat) (q:List UInt8),(zo q).drop n=zo (q.drop n)
 | 0,q=>by simp
 | n + 1,[]=>rfl
 | n + 1,x :: r=>Bo n r
def ja (b:aX) (a n:Nat):Option (List UInt8) :=
 if 1<=n/\n<=38/\a + (n + 1) / 2<=b.length then
  (if (oT (eL b a ((n + 1) / 2))).all fP=true/\(n % 2=1->(oT (eL b a ((n + 1) / 2))).head? = some 48) then some ((oT (eL b a ((n + 1) / 2))).drop (n % 2)) else none)
 else none
def xJ (o:Option (List UInt8)) (e:Int):Option (Unit×((List UInt8×Unit)×(Int×Unit)×(Bool×Unit)×Unit)):=some ((),match o with | some s=>((s,()),(e,()),(true,()),()) | none=>(([],()),(0,()),(false,()),()))
theorem zB {s:List UInt8}:s.head? = some 48↔∃ r,s=48 :: r:=by
 cases s with
 | nil=>simp
 | cons x r=>simp
theorem IK (n:Nat) (h:n<=1048576):l6 .i64 (ak .i64 (n:Int) 1) 2=(((n + 1) / 2:Nat):Int):=by rw [aL (by omega) (by omega)];unfold l6;rw [Int.tdiv_eq_ediv_of_nonneg (by omega),IntKind.wrap_i64];omega
theorem NQ (n:Nat):aq (fI (n:Int) 2) 1=decide (n % 2=1):=by
 unfold aq fI;rw [Int.tmod_eq_emod_of_nonneg (by omega)];by_cases h:n % 2=1
 . rw [decide_eq_true h]; exact beq_iff_eq.2 (by omega)
 . rw [decide_eq_false h]; exact beq_eq_false_iff_ne.2 (by omega)
theorem Ux (x:Int×Unit) (h:0<=x.1/\x.1<=255):strOf [((bG .u8 (ak .i64 48 (l6 .i64 (bG .i64 x.1) 16))),()),((bG .u8 (ak .i64 48 (fI (bG .i64 x.1) 16))),())]=KG x:=by
 obtain ⟨⟨n,hn⟩,hn2⟩:(∃ n:Nat,x.1=n)/\x.1<=255:=⟨⟨x.1.toNat,by omega⟩,h.2⟩;have c:bG .i64 x.1=(n:Int):=by unfold bG; rw [IntKind.wrap_i64]; omega
 have q:l6 .i64 (n:Int) 16=((n / 16:Nat):Int):=by unfold l6; rw [Int.tdiv_eq_ediv_of_nonneg (by omega),IntKind.wrap_i64]; omega
 have r:fI (n:Int) 16=((n % 16:Nat):Int):=by unfold fI; rw [Int.tmod_eq_emod_of_nonneg (by omega)]; omega
 have u:∀ k:Nat,k<=16->bG .u8 (ak .i64 48 (k:Int))=((48 + k:Nat):Int):=fun k hk=>by rw [aL (by omega) (by omega)]; unfold bG; rw [IntKind.wrap_u8]; omega
 rw [c,q,r,u _ (by omega),u _ (by omega)];unfold strOf KG;rw [hn];rfl
theorem Uf:∀ c:Fin 256,ak .u8 48 (iK .u8 (c.val:Int) 4)=((48 + c.val / 16:Nat):Int)/\ak .u8 48 (zK .u8 (c.val:Int) 15)=((48 + c.val % 16:Nat):Int):=by decide +kernel
theorem FI {s:List UInt8} (h:∃ r,s=48 :: r):(s.drop 1).all fP=s.all fP:=by obtain ⟨r,rfl⟩:=h;rfl
theorem J6 {s:List UInt8} (hs:s≠[]):aq (dy s 0) 48=true↔∃ r,s=48 :: r:=by
 cases s with
 | nil=>exact absurd rfl hs
 | cons x r =>
   show ((x.toNat:Int) == 48)=true↔_;rw [beq_iff_eq];refine ⟨fun h=>⟨r,?_⟩,fun ⟨r',h⟩ => ?_⟩
   . have:x=48:=UInt8.toNat_inj.1 (by show x.toNat=48; omega);rw [this]
   . rw [(List.cons.inj h).1]; rfl
theorem mm {s:List UInt8} (hs:s≠[]):aY s=s.all fP:=by
 cases h:s.all fP with
 | true=>exact dm.2 ⟨h,hs⟩
 | false =>
   cases h2:aY s with
   | false=>rfl
   | true=>rw [(dm.1 h2).1] at h; simp at h
theorem Li {s:List UInt8} {n:Nat} (h:n < s.length):s.drop n≠[]:=fun e=>by have:=congrArg List.length e;rw [List.length_drop] at this;simp only [List.length_nil] at this;omega
theorem DH (b:aX) (a n:Nat) (hb:yf b) (ha:a<=b.length) (hn:n<=1048576):vr b a n=xJ (ja b a n) ((a + (n + 1) / 2:Nat):Int):=by
 have hbig:aV=140737488355328:=rfl;have hl:=hb.1;unfold vr ja;have e:aH .i64 (ae b) (a:Int)=(b.length:Int) - a:=aR (by show -4611686018427387904<=(b.length:Int) - a; omega) (by show (b.length:Int) - a<=_; omega);have hq:=IK n hn;dsimp only;rw [e,hq,ay (a:=(a:Int)) (b:=0) (by omega),ay (a:=ae b) (b:=(a:Int)) (by show ¬ (b.length:Int) < a; omega)];by_cases h1:1<=n/\n<=38;rotate_left
 . rw [if_neg (fun h=>h1 ⟨h.1,h.2.1⟩)];by_cases h0:(n:Int) < 1
   . rw [aD h0]; rfl
   . rw [ay h0,aD (by omega)]; rfl
 rw [ay (a:=(n:Int)) (b:=1) (by omega),ay (a:=38) (b:=(n:Int)) (by omega)];dsimp only [cond_false,cond_true];by_cases h2:a + (n + 1) / 2<=b.length;rotate_left
 . rw [if_neg (fun h=>h2 h.2.2),aD (by omega)]; rfl
 rw [if_pos ⟨h1.1,h1.2,h2⟩,ay (by omega)];dsimp only [cond_false];have hpl:=lP h2;have h:=aT (step:=gz od) (eL b a ((n + 1) / 2)) (fun i (o:List UInt8)=>(b,(a:Int),(n:Int),o,((a + i:Nat):Int),())) (fun _ x o=>Sum.inl (o ++ KG x)) (fun o=> .inl (b,(a:Int),(n:Int),o,((a + (n + 1) / 2:Nat):Int),())) (fun i o=>o.length=2 * i) (a0:=[]) rfl (fun i x o hx ho=>by
  obtain ⟨hik,hg⟩:=Kv hx;have hlt:=aj hg;show od b (a:Int) (n:Int) o ((a + i:Nat):Int)=_;unfold od;rw [hq,aL (by omega) (by omega),aD (by omega),aC hg,aW _ hg];dsimp only [cond_true];rw [Ux x (hb.2 x (List.mem_of_getElem? hg)),He (by show o.length + 2<=aV; omega),aO (by omega)];rfl) (fun i x o o' hx ho hf=>by
  simp only [Sum.inl.injEq] at hf;rw [<- hf,List.length_append,ho];show 2 * i + 2=_;omega) (fun o ho=>by
  show od b (a:Int) (n:Int) o ((a + (eL b a ((n + 1) / 2)).length:Nat):Int)=_;unfold od;rw [hq,aL (by omega) (by omega),hpl,ay (by omega)]; rfl)
 have hfold:∀ (l:aX) (o:List UInt8),l.foldl (fun o x=>o ++ KG x) o=o ++ oT l:=fun l=>by
  induction l with
  | nil=>intro o; simp [oT]
  | cons x r ih=>intro o; rw [List.foldl_cons,ih]; simp [oT]
 rw [bV,hfold,List.nil_append] at h;have h':JW b (a:Int) (n:Int) [] (a:Int)=_:=h;rw [h'];generalize hs:oT (eL b a ((n + 1) / 2))=s;have hsl:s.length=2 * ((n + 1) / 2):=by rw [<- hs,qX,hpl]
 have hsne:s≠[]:=fun e=>by rw [e] at hsl; simp only [List.length_nil] at hsl; omega
 dsimp only [Option.bind_some,Sum.elim_inl];rw [NQ,hq,aL (by omega) (by omega),show (a:Int) + (((n + 1) / 2:Nat):Int)=((a + (n + 1) / 2:Nat):Int) by omega];by_cases hp:n % 2=1
 . rw [decide_eq_true hp,hp];have i0:aU 0 s=true:=kt (i:=0) (by omega);have c1:dO 1 (ae s) s=true:=by
    show (decide ((0:Int)<=1) && (decide ((1:Int)<=(s.length:Int)) && decide ((s.length:Int)<=(s.length:Int))))=true;rw [decide_eq_true (by omega),decide_eq_true (by omega),decide_eq_true (by omega)]; rfl
   have sb:sub s 1 (ae s)=s.drop 1:=by show (s.take (Int.toNat (s.length:Int))).drop 1=_;rw [Int.toNat_natCast,List.take_length]
   rw [i0];dsimp only [cond_true];by_cases h48:∃ r,s=48 :: r
   . rw [(J6 hsne).2 h48];rw [c1,sb,fO _ (by rw [List.length_drop]; omega),mm (Li (by omega)),FI h48];dsimp only [cond_true,Option.bind_some];cases hd:s.all fP with
     | false=>rw [if_neg (fun h=>by simp at h)]; rfl
     | true=>rw [if_pos ⟨rfl,fun _=>zB.2 h48⟩]; rfl
   . have:aq (dy s 0) 48=false:=by
      cases h:aq (dy s 0) 48 with
      | false=>rfl
      | true=>exact absurd ((J6 hsne).1 h) h48
     rw [this,if_neg (fun h=>h48 (zB.1 (h.2 rfl)))]; rfl
 . rw [decide_eq_false hp];have hp0:n % 2=0:=by omega
   rw [hp0];dsimp only [cond_false];rw [fO _ (by omega),mm hsne];dsimp only [Option.bind_some];cases hd:s.all fP with
   | false=>rw [if_neg (fun h=>by simp at h)]; rfl
   | true=>rw [if_pos ⟨rfl,fun h=>by simp at h⟩]; rfl
theorem Ke (b:aX) (a n:Nat) (hb:yf b) (ha:a<=b.length) (hn:n<=1048576):yO b a n=xJ (ja b a n) ((a + (n + 1) / 2:Nat):Int):=by
 have hbig:aV=140737488355328:=rfl;have hl:=hb.1;unfold yO ja;rw [iZ,IK n hn];dsimp only [Option.bind_some];by_cases h1:1<=n/\n<=38;rotate_left
 . rw [if_neg (fun h=>h1 ⟨h.1,h.2.1⟩)];have:dv (n:Int) 1 38=false:=by
    cases h:dv (n:Int) 1 38 with
    | false=>rfl
    | true=>have:=fC.1 h; omega
   rw [this]; rfl
 rw [fC.2 (by omega:(1:Int)<=n/\(n:Int)<=38),yZ b a _ hl ha (by omega)];have hloop:∀ (t9:aX) (t10:Bool) (p:aX),(∀ x∈p,0<=x.1/\x.1<=255)->p.length<=20->IT (a:Int) (n:Int) t9 t10 [] p (ae p) 0=some (.inl ((a:Int),(n:Int),t9,t10,zo (oT p),p,ae p,(p.length:Int),())):=fun t9 t10 p hp hpl=>by
  have h:=aT (step:=yl oV) p (fun i (o:aX)=>((a:Int),(n:Int),t9,t10,o,p,ae p,((i:Nat):Int),())) (fun _ x o=>Sum.inl (o ++ zo (KG x))) (fun o=> .inl ((a:Int),(n:Int),t9,t10,o,p,ae p,(p.length:Int),())) (fun i o=>o.length=2 * i) (a0:=[]) rfl (fun i x o hx ho=>by
   have hlt:=aj hx;have hx2:=hp x (List.mem_of_getElem? hx);show oV (a:Int) (n:Int) t9 t10 o p (ae p) (i:Int)=_;unfold oV;rw [aI hx,aC hx,aW _ hx,aO (by omega)];obtain ⟨k,hk⟩:∃ k:Nat,x.1=k:=⟨x.1.toNat,by omega⟩;have hf:=Uf ⟨k,by omega⟩;dsimp only at hf;rw [hk,hf.1,hf.2];dsimp only [cond_true];have:∀ ys:aX,ys.length=2->cT 1 o ys=true:=fun ys hy=>Nat.ble_eq_true_of_le (by rw [hy]; omega)
   rw [this _ rfl];have e1:∀ m:Nat,m < 256->(UInt8.ofNat m).toNat=m:=fun m hm=>by simp [Nat.mod_eq_of_lt hm]
   show some (Sum.inl _)=some (Sum.inl _);unfold KG;rw [hk];simp only [Int.toNat_natCast,zo,ll,e1 (48 + k / 16) (by omega),e1 (48 + k % 16) (by omega)]) (fun i x o o' hx ho hf=>by
   simp only [Sum.inl.injEq] at hf;rw [<- hf,List.length_append,ho];show 2 * i + 2=_;omega) (fun o ho=>by
   show oV (a:Int) (n:Int) t9 t10 o p (ae p) (p.length:Int)=_;unfold oV;rw [ax rfl]; rfl)
  have hfold:∀ (l:aX) (o:aX),l.foldl (fun o x=>o ++ zo (KG x)) o=o ++ zo (oT l):=fun l=>by
   induction l with
   | nil=>intro o; show o=o ++ []; rw [List.append_nil]
   | cons x r ih=>intro o; rw [List.foldl_cons,ih,show oT (x :: r)=KG x ++ oT r from rfl,DZ,List.append_assoc]
  rw [bV,hfold,List.nil_append] at h;exact h
 by_cases h2:a + (n + 1) / 2<=b.length;rotate_left
 . rw [if_neg h2,if_neg (fun h=>h2 h.2.2)];exact (bn (hloop [] false [] (fun x hx=>by simp at hx) (by simp))).trans rfl
 rw [if_pos h2,if_pos ⟨h1.1,h1.2,h2⟩];have hpl:=lP h2;refine (bn (hloop _ true _ (fun x hx=>hb.2 x (Rx hx)) (by omega))).trans ?_;generalize hs:oT (eL b a ((n + 1) / 2))=s;have hsl:s.length=2 * ((n + 1) / 2):=by rw [<- hs,qX,hpl]
 have hsne:s≠[]:=fun e=>by rw [e] at hsl; simp only [List.length_nil] at hsl; omega
 show Option.bind (tF (strOf (zo s))) _=_;rw [rS,gJ _ (by omega),mm hsne];generalize hm:zo s=m;have hlm:ae m=(s.length:Int):=by rw [<- hm]; show ((zo s).length:Int)=_; rw [ub]
 have hcut:aH .i64 (s.length:Int) (n:Int)=((n % 2:Nat):Int):=by rw [aR (by omega) (by omega)]; omega
 have hpc:ae (eL b a ((n + 1) / 2))=(((n + 1) / 2:Nat):Int):=by show ((eL b a _).length:Int)=_; rw [hpl]
 have c1:dO ((n % 2:Nat):Int) (s.length:Int) m=true:=by show (decide ((0:Int)<=((n % 2:Nat):Int)) && (decide (((n % 2:Nat):Int)<=(s.length:Int)) && decide ((s.length:Int)<=(m.length:Int))))=true;rw [show (m.length:Int)=(s.length:Int) from hlm,decide_eq_true (by omega),decide_eq_true (by omega),decide_eq_true (by omega)]; rfl
 have sb:strOf (sub m ((n % 2:Nat):Int) (s.length:Int))=s.drop (n % 2):=by rw [<- hm];show strOf (((zo s).take (Int.toNat (s.length:Int))).drop (Int.toNat ((n % 2:Nat):Int)))=_;rw [Int.toNat_natCast,Int.toNat_natCast,List.take_of_length_le (by rw [ub]; exact Nat.le_refl _)];exact (congrArg strOf (Bo _ _)).trans (rS _)
 have hF:(cond (dO (aH .i64 (ae m) (n:Int)) (ae m) m) (some ((),((strOf (sub m (aH .i64 (ae m) (n:Int)) (ae m)),()),(ak .i64 (a:Int) (ae (eL b a ((n + 1) / 2))),()),(true,()),()))) none:Option (Unit×((List UInt8×Unit)×(Int×Unit)×(Bool×Unit)×Unit)))=xJ (some (s.drop (n % 2))) ((a + (n + 1) / 2:Nat):Int):=by rw [hlm,hcut,hpc,aL (by omega) (by omega),c1,sb,show (a:Int) + (((n + 1) / 2:Nat):Int)=((a + (n + 1) / 2:Nat):Int) by omega];rfl
 show cond (!(s.all fP)) (some ((),(([],()),(0,()),(false,()),()))) (cond (aq (fI (n:Int) 2) 1) (cond (aU 0 m) (cond (!(aq (gt (0,()) m 0).1 48)) (some ((),(([],()),(0,()),(false,()),()))) (cond (dO (aH .i64 (ae m) (n:Int)) (ae m) m) (some ((),((strOf (sub m (aH .i64 (ae m) (n:Int)) (ae m)),()),(ak .i64 (a:Int) (ae (eL b a ((n + 1) / 2))),()),(true,()),()))) none)) none)
  (cond (dO (aH .i64 (ae m) (n:Int)) (ae m) m) (some ((),((strOf (sub m (aH .i64 (ae m) (n:Int)) (ae m)),()),(ak .i64 (a:Int) (ae (eL b a ((n + 1) / 2))),()),(true,()),()))) none))=_
 rw [hF,NQ];cases hd:s.all fP with
 | false=>rw [if_neg (fun h=>by simp at h)]; rfl
 | true =>
   by_cases hp:n % 2=1
   . rw [decide_eq_true hp];subst hm;have hm0:∃ x r,s=x :: r:=by
      cases s with
      | nil=>exact absurd rfl hsne
      | cons x r=>exact ⟨x,r,rfl⟩
     obtain ⟨x,r,rfl⟩:=hm0;have i0:aU 0 (zo (x :: r))=true:=kt (i:=0) (by rw [ub]; simp);rw [i0];show cond (!(aq (x.toNat:Int) 48)) _ _=_;by_cases h48:x.toNat=48
     . have hx:x=48:=UInt8.toNat_inj.1 h48;rw [show aq (x.toNat:Int) 48=true from beq_iff_eq.2 (by omega),if_pos ⟨rfl,fun _=>by rw [hx]; rfl⟩]; rfl
     . rw [show aq (x.toNat:Int) 48=false from beq_eq_false_iff_ne.2 (by omega),if_neg (fun h=>by obtain ⟨r',h⟩:=zB.1 (h.2 hp);rw [(List.cons.inj h).1] at h48;exact h48 rfl)]; rfl
   . rw [decide_eq_false hp,if_pos ⟨rfl,fun h=>absurd h hp⟩]; rfl
def qd (p:aX) (i:Nat):Bool:=aq (fI (iK .i64 (bG .i64 (p.getD (i / 8) (0,())).1) ((7 - i % 8:Nat):Int)) 2) 1
def dV (p:aX):aX:=((List.range 64).filter (qd p)).map fun i=>(((i + 1:Nat):Int),())
theorem Ra:∀ (c:Fin 256) (r:Fin 8),(!(aq (zK .u8 (c.val:Int) (iK .u8 128 (r.val:Int))) 0))=aq (fI (iK .i64 (bG .i64 (c.val:Int)) ((7 - r.val:Nat):Int)) 2) 1:=by decide +kernel
theorem rI (p:aX):∀ (l:List Nat) (o:aX),l.foldl (fun o i=>bif qd p i then o ++ [(((i + 1:Nat):Int),())] else o) o=o ++ (l.filter (qd p)).map fun i=>(((i + 1:Nat):Int),())
 | [],o=>by simp
 | i :: l,o=>by rw [List.foldl_cons,rI p l,List.filter_cons];cases qd p i <;> simp
theorem EF {i x:Nat} (h:(List.range 64)[i]? = some x):x=i/\i < 64:=by have:=(List.getElem?_eq_some_iff.1 h);obtain ⟨h1,h2⟩:=this;rw [List.getElem_range] at h2;exact ⟨h2.symm,by simpa using h1⟩
theorem Us {i:Nat} (h:i < 64):aH .i64 ((i + 1:Nat):Int) 1=(i:Int)/\l6 .i64 (i:Int) 8=((i / 8:Nat):Int)/\fI (i:Int) 8=((i % 8:Nat):Int)/\bD ((i + 1:Nat):Int) 64=true:=by
 refine ⟨by rw [aR (by omega) (by omega)]; omega,?_,?_,decide_eq_true (by omega)⟩
 . unfold l6;rw [Int.tdiv_eq_ediv_of_nonneg (by omega),IntKind.wrap_i64];omega
 . unfold fI;rw [Int.tmod_eq_emod_of_nonneg (by omega)];omega
def nR (b:aX) (a:Nat):Option (Unit×((aX×Unit)×(Int×Unit)×(Bool×Unit)×Unit)):=some ((),(if a + 8<=b.length then ((dV (eL b a 8),()),(((a + 8:Nat):Int),()),(true,()),()) else (([],()),(0,()),(false,()),())))
theorem EK (b:aX) (a k i:Nat) (hi:i < k) (h:a + k<=b.length):∃ x,b[a + i]? = some x/\(eL b a k).getD i (0,())=x/\(eL b a k)[i]? = some x:=by obtain ⟨x,hx⟩:∃ x,(eL b a k)[i]? = some x:=⟨_,List.getElem?_eq_getElem (by rw [lP h]; exact hi)⟩;exact ⟨x,(Kv hx).2,by rw [List.getD_eq_getElem?_getD,hx]; rfl,hx⟩
theorem Ht (b:aX) (a:Nat) (hb:yf b) (ha:a<=b.length):CH b a=nR b a:=by
 have hbig:aV=140737488355328:=rfl;have hl:=hb.1;unfold CH nR;have e:aH .i64 (ae b) 8=(b.length:Int) - 8:=aR (by show -4611686018427387904<=(b.length:Int) - 8; omega) (by show (b.length:Int) - 8<=_; omega);rw [e,ay (a:=(a:Int)) (b:=0) (by omega)];by_cases h8:a + 8<=b.length;rotate_left
 . rw [if_neg h8,aD (by omega)]; rfl
 rw [if_pos h8,ay (by omega)];have h:=aT (step:=dh rZ) (List.range 64) (fun i (o:aX)=>(b,(a:Int),o,((i + 1:Nat):Int),())) (fun _ x o=>Sum.inl (bif qd (eL b a 8) x then o ++ [(((x + 1:Nat):Int),())] else o)) (fun o=> .inl (b,(a:Int),o,65,())) (fun i o=>o.length<=i) (a0:=[]) (Nat.le_refl _) (fun i x o hx ho=>by
  obtain ⟨rfl,hi⟩:=EF hx;obtain ⟨e1,e2,e3,e4⟩:=Us hi;obtain ⟨c,hc,hd,_⟩:=EK b a 8 (x / 8) (by omega) h8;show rZ b (a:Int) o ((x + 1:Nat):Int)=_;unfold rZ;have e5:aH .i64 7 ((x % 8:Nat):Int)=((7 - x % 8:Nat):Int):=by rw [aR (by omega) (by omega)]; omega
  have e6:ak .i64 (a:Int) ((x / 8:Nat):Int)=((a + x / 8:Nat):Int):=by rw [aL (by omega) (by omega)]; omega
  have hbit:qd (eL b a 8) x=aq (fI (iK .i64 (bG .i64 c.1) ((7 - x % 8:Nat):Int)) 2) 1:=by unfold qd; rw [hd]
  dsimp only;rw [e4,e1,e2,e3,e5,e6,aC hc,aW _ hc,show bD 0 ((7 - x % 8:Nat):Int)=true from decide_eq_true (by omega),<- hbit,aO (by omega)];have:cT 8 o [(((x + 1:Nat):Int),())]=true:=Nat.ble_eq_true_of_le (by show (o.length + 1) * 8<=aV; omega);rw [this];cases qd (eL b a 8) x <;> rfl) (fun i x o o' hx ho hf=>by
  simp only [Sum.inl.injEq] at hf;rw [<- hf];cases qd (eL b a 8) x with
  | false=>show o.length<=_; omega
  | true=>show (o ++ [_]).length<=_; rw [List.length_append]; show o.length + 1<=_; omega) (fun o ho=>by
  show rZ b (a:Int) o (((List.range 64).length + 1:Nat):Int)=_;rfl)
 rw [bV,rI,List.nil_append] at h;have h':JY b (a:Int) [] 1=_:=h;refine (bn h').trans ?_;show some ((),((_,()),(ak .i64 (a:Int) 8,()),(true,()),()))=_;rw [aL (by omega) (by omega)];rfl
theorem Kl (b:aX) (a:Nat) (hb:yf b) (ha:a<=b.length):AM b a=nR b a:=by
 have hbig:aV=140737488355328:=rfl;have hl:=hb.1;unfold AM nR;have hp:Al b (a:Int) 8=_:=yZ b a 8 hl ha (by decide);rw [hp];by_cases h8:a + 8<=b.length;rotate_left
 . rw [if_neg h8,if_neg h8]; rfl
 rw [if_pos h8,if_pos h8];generalize hq:eL b a 8=p;have h:=aT (step:=dh sf) (List.range 64) (fun i (o:aX)=>((a:Int),p,o,((i + 1:Nat):Int),())) (fun _ x o=>Sum.inl (bif qd p x then o ++ [(((x + 1:Nat):Int),())] else o)) (fun o=> .inl ((a:Int),p,o,65,())) (fun i o=>o.length<=i) (a0:=[]) (Nat.le_refl _) (fun i x o hx ho=>by
  obtain ⟨rfl,hi⟩:=EF hx;obtain ⟨e1,e2,e3,e4⟩:=Us hi;obtain ⟨c,hc,hd,hc2⟩:=EK b a 8 (x / 8) (by omega) h8;rw [hq] at hd hc2;have hcb:=hb.2 c (List.mem_of_getElem? hc);show sf (a:Int) p o ((x + 1:Nat):Int)=_;unfold sf;obtain ⟨k,hk⟩:∃ k:Nat,c.1=k:=⟨c.1.toNat,by omega⟩;have hbe:=Ra ⟨k,by omega⟩ ⟨x % 8,by omega⟩;dsimp only at hbe;have hbit:qd p x= !(aq (zK .u8 c.1 (iK .u8 128 ((x % 8:Nat):Int))) 0):=by unfold qd; rw [hd,hk,hbe]
  dsimp only;rw [e4,e1,e2,e3,aC hc2,aW _ hc2,show bD 0 ((x % 8:Nat):Int)=true from decide_eq_true (by omega),<- hbit,aO (by omega)];have:cT 8 o [(((x + 1:Nat):Int),())]=true:=Nat.ble_eq_true_of_le (by show (o.length + 1) * 8<=aV; omega);rw [this];cases qd p x <;> rfl) (fun i x o o' hx ho hf=>by
  simp only [Sum.inl.injEq] at hf;rw [<- hf];cases qd p x with
  | false=>show o.length<=_; omega
  | true=>show (o ++ [_]).length<=_; rw [List.length_append]; show o.length + 1<=_; omega) (fun o ho=>by
  show sf (a:Int) p o (((List.range 64).length + 1:Nat):Int)=_;rfl)
 rw [bV,rI,List.nil_append] at h;have h':Jp (a:Int) p [] 1=_:=h;refine (bn h').trans ?_;show some ((),((_,()),(ak .i64 (a:Int) 8,()),(true,()),()))=_;rw [aL (by omega) (by omega)];rfl
theorem lf (p:aX):(dV p).length<=64:=by unfold dV;rw [List.length_map];exact Nat.le_trans (List.length_filter_le _ _) (by simp)
theorem JM {p:aX} {x:Int×Unit} (h:x∈dV p):1<=x.1/\x.1<=64:=by obtain ⟨i,hi,rfl⟩:=List.mem_map.1 h;have:=List.mem_range.1 (List.mem_filter.1 hi).1;constructor <;> (show _<=_) <;> omega
abbrev Ow:=Int×Int×Int×Unit
def ir:List Ow:=[(2,3,19,()),(3,1,6,()),(4,1,12,()),(7,1,10,()),(11,1,6,()),(14,1,4,()),(37,2,12,()),(38,2,6,()),(39,2,2,()),(41,2,8,()),(48,5,60,()),(49,1,3,()),(54,5,60,()),(95,2,12,()),(102,4,20,()),(103,4,20,())]
def GB (no:Int):Ow:=(ir.find? fun r=>aq r.1 no).getD (0,0,0,())
def bm (no:Int):Int:=(GB no).2.1
def gL (no:Int):Int:=(GB no).2.2.1
theorem nA {α Y:Type} (p:α->Bool) (y:α->Y) (z:Y):∀ (l:List α) (i:Nat),ju (fun _ x (_:Unit)=>bif p x then .inr (y x) else .inl ()) (fun _=>z) i l ()=match l.find? p with | some x=>y x | none=>z
 | [],_=>rfl
 | x :: l,i=>by
   have ih:=nA p y z l (i + 1);rw [List.find?_cons,ju];cases p x with
   | true=>rfl
   | false=>exact ih
theorem HS (no:Int):GA no=some ((),(GB no,())):=by
 unfold GA;have h:=aG (step:=gz sd) ir (fun i (_:Unit)=>(no,ir,ae ir,((i:Nat):Int),(0,0,0,()),())) (fun _ x _=>bif aq x.1 no then .inr (.inr (x,())) else .inl ()) (fun _=> .inl (no,ir,ae ir,(ir.length:Int),(0,0,0,()),())) (a0:=()) (fun i x a hx=>by
  have hlt:=aj hx;have h16:ir.length=16:=rfl;have hbig:aV=140737488355328:=rfl;show sd no ir (ae ir) (i:Int) (0,0,0,())=_;unfold sd;rw [aI hx,aC hx,aW _ hx,aO (by omega)];dsimp only [cond_true];cases aq x.1 no <;> rfl) (fun a=>by
  show sd no ir (ae ir) (ir.length:Int) (0,0,0,())=_;rfl)
 rw [nA] at h;have h':Hk no ir (ae ir) 0 (0,0,0,())=_:=h;refine (bn h').trans ?_;unfold GB;cases ir.find? _ <;> rfl
theorem rO (no:Int):no=2∨no=3∨no=4∨no=7∨no=11∨no=14∨no=37∨no=38∨no=39∨no=41∨no=48∨no=49∨no=54∨no=95∨no=102∨no=103∨∀ k∈[2,3,4,7,11,14,37,38,39,41,48,49,54,95,102,103],aq no k=false/\aq k no=false:=by
 by_cases h:∀ k∈[2,3,4,7,11,14,37,38,39,41,48,49,54,95,102,103],no≠k
 . have:∀ k∈[2,3,4,7,11,14,37,38,39,41,48,49,54,95,102,103],aq no k=false/\aq k no=false:=fun k hk=>⟨beq_eq_false_iff_ne.2 (h k hk),beq_eq_false_iff_ne.2 (Ne.symm (h k hk))⟩
   iterate 16 right
   exact this
 . simp only [Classical.not_forall,Classical.not_not] at h;obtain ⟨k,hk,rfl⟩:=h;simp only [List.mem_cons,List.not_mem_nil,or_false] at hk;rcases hk with h | h | h | h | h | h | h | h | h | h | h | h | h | h | h | h <;> simp [h]
theorem zD {no:Int} (h:∀ k∈[2,3,4,7,11,14,37,38,39,41,48,49,54,95,102,103],aq no k=false/\aq k no=false):GB no=(0,0,0,()):=by unfold GB ir;simp only [List.find?_cons,(h 2 (by simp)).2,(h 3 (by simp)).2,(h 4 (by simp)).2,(h 7 (by simp)).2,(h 11 (by simp)).2,(h 14 (by simp)).2,(h 37 (by simp)).2,(h 38 (by simp)).2,(h 39 (by simp)).2,(h 41 (by simp)).2,(h 48 (by simp)).2,(h 49 (by simp)).2,(h 54 (by simp)).2,(h 95 (by simp)).2,(h 102 (by simp)).2,(h 103 (by simp)).2,List.find?_nil,Option.getD_none]
theorem Co (no:Int):FW no=some ((),((bm no,()),())):=by
 rcases rO no with rfl | rfl | rfl | rfl | rfl | rfl | rfl | rfl | rfl | rfl | rfl | rfl | rfl | rfl | rfl | rfl | h
 all_goals first | rfl | skip
 unfold FW bm;rw [zD h];simp only [(h 2 (by simp)).1,(h 3 (by simp)).1,(h 4 (by simp)).1,(h 7 (by simp)).1,(h 11 (by simp)).1,(h 14 (by simp)).1,(h 37 (by simp)).1,(h 38 (by simp)).1,(h 39 (by simp)).1,(h 41 (by simp)).1,(h 48 (by simp)).1,(h 49 (by simp)).1,(h 54 (by simp)).1,(h 95 (by simp)).1,(h 102 (by simp)).1,(h 103 (by simp)).1,cond_false]
theorem Kt (no:Int):Hg no=some ((),((gL no,()),())):=by
 rcases rO no with rfl | rfl | rfl | rfl | rfl | rfl | rfl | rfl | rfl | rfl | rfl | rfl | rfl | rfl | rfl | rfl | h
 all_goals first | rfl | skip
 unfold Hg gL;rw [zD h];simp only [(h 2 (by simp)).1,(h 3 (by simp)).1,(h 4 (by simp)).1,(h 7 (by simp)).1,(h 11 (by simp)).1,(h 14 (by simp)).1,(h 37 (by simp)).1,(h 38 (by simp)).1,(h 39 (by simp)).1,(h 41 (by simp)).1,(h 48 (by simp)).1,(h 49 (by simp)).1,(h 54 (by simp)).1,(h 95 (by simp)).1,(h 102 (by simp)).1,(h 103 (by simp)).1,cond_false]
theorem Am (no:Int):Dk no=some ((),((bm no,()),())):=by unfold Dk; rw [HS]; rfl
theorem PW (no:Int):Mi no=some ((),((gL no,()),())):=by unfold Mi; rw [HS]; rfl
theorem kinds (no:Int):∃ n:Nat,gL no=n/\((bm no=0/\n=0)∨(bm no=1/\1<=n/\n<=12)∨(bm no=2/\1<=n/\n<=12)∨(bm no=3/\n=19)∨(bm no=4/\n=20)∨(bm no=5/\n=60)):=by
 rcases rO no with rfl | rfl | rfl | rfl | rfl | rfl | rfl | rfl | rfl | rfl | rfl | rfl | rfl | rfl | rfl | rfl | h
 . exact ⟨19,rfl,by decide⟩
 . exact ⟨6,rfl,by decide⟩
 . exact ⟨12,rfl,by decide⟩
 . exact ⟨10,rfl,by decide⟩
 . exact ⟨6,rfl,by decide⟩
 . exact ⟨4,rfl,by decide⟩
 . exact ⟨12,rfl,by decide⟩
 . exact ⟨6,rfl,by decide⟩
 . exact ⟨2,rfl,by decide⟩
 . exact ⟨8,rfl,by decide⟩
 . exact ⟨60,rfl,by decide⟩
 . exact ⟨3,rfl,by decide⟩
 . exact ⟨60,rfl,by decide⟩
 . exact ⟨12,rfl,by decide⟩
 . exact ⟨20,rfl,by decide⟩
 . exact ⟨20,rfl,by decide⟩
 . exact ⟨0,by unfold gL; rw [zD h]; rfl,.inl ⟨by unfold bm; rw [zD h],rfl⟩⟩
theorem dR {b:aX} {a n:Nat} {s:List UInt8} (h:ja b a n=some s):s.all fP=true/\s.length=n/\1<=n/\n<=38/\a + (n + 1) / 2<=b.length:=by
 unfold ja at h;split at h
 . rename_i h1;split at h
   . rename_i h2;cases h;have hl:(oT (eL b a ((n + 1) / 2))).length=2 * ((n + 1) / 2):=by rw [qX,lP h1.2.2]
     refine ⟨List.all_eq_true.2 fun x hx=>List.all_eq_true.1 h2.1 x (List.mem_of_mem_drop hx),?_,h1⟩;rw [List.length_drop,hl];omega
   . simp at h
 . simp at h
theorem kP {s:List UInt8} {n:Nat} (h:s.length=n) (hn:1<=n):s≠[]:=fun e=>by rw [e] at h; simp only [List.length_nil] at h; omega
theorem BV {s:List UInt8} {n:Nat} (h:s.all fP=true) (hl:s.length=n) (h1:1<=n) (h2:n<=18):xL s=some (kE 0 s):=by unfold xL;rw [if_pos ⟨dm.2 ⟨h,kP hl h1⟩,by omega⟩]
def E9 (b:aX) (a d:Nat):Option (Unit×((Int×Unit)×(Int×Unit)×(Bool×Unit)×Unit)):=some ((),match ja b a d with | some t=>(((kE 0 t:Int),()),(((a + (d + 1) / 2:Nat):Int),()),(true,()),()) | none=>((0,()),(0,()),(false,()),()))
theorem Fm:tE []=some ((),((0,()),(false,()),())):=ER [] (Nat.zero_le _)
theorem TW (b:aX) (a d:Nat) (hb:yf b) (ha:a<=b.length) (hd:d=2∨d=3):Hb b a d=E9 b a d:=by
 have hbig:aV=140737488355328:=rfl;unfold Hb E9;have hc:cond (!(aq (d:Int) 2)) (!(aq (d:Int) 3)) false=false:=by rcases hd with rfl | rfl <;> rfl
 rw [hc,DH b a d hb ha (by omega)];unfold xJ;cases ho:ja b a d with
 | none => refine (bn Fm).trans ?_;rfl
 | some t => obtain ⟨h1,h2,h3,h4,h5⟩:=dR ho;have hn:tE t=_:=ER t (by omega);rw [BV h1 h2 h3 (by omega)] at hn;refine (bn hn).trans ?_;rfl
theorem S9 (b:aX) (a d:Nat) (hb:yf b) (ha:a<=b.length) (hd:d=2∨d=3):Fy b a d=E9 b a d:=by
 have hbig:aV=140737488355328:=rfl;unfold Fy E9;rw [iZ,fC.2 (by omega:(2:Int)<=d/\(d:Int)<=3),Ke b a d hb ha (by omega)];unfold xJ;cases ho:ja b a d with
 | none=>rfl
 | some t => obtain ⟨h1,h2,h3,h4,h5⟩:=dR ho;have hn:CK t=_:=OE t (by omega);rw [BV h1 h2 h3 (by omega)] at hn;refine (bn hn).trans ?_;rfl
def iW (no:Int) (s:List UInt8):Bool:=cond (aq (bm no) 1) (cond (aY s) (aq (ae s) (gL no)) false) (cond (aq (bm no) 2) (cond (dX s) (aq (ae s) (gL no)) false) (cond (aq (bm no) 3) (cond (aY s) (dv (ae s) 1 (gL no)) false) (cond (aq (bm no) 4) (cond (dX s) (dv (ae s) 1 (gL no)) false) (cond (aq (bm no) 5) (cond (dX s) (dv (ae s) 1 (gL no)) false) false))))
theorem Ve (no:Int) (s:List UInt8) (hs:s.length<=aV):Lu no s=some ((),((iW no s,()),())):=by
 unfold Lu iW;rw [Co,Kt];dsimp only [Option.bind_some];rw [fO s hs,Ew s hs];dsimp only [Option.bind_some];rw [kr];dsimp only [Option.bind_some];cases aq (bm no) 1 with
 | true=>rfl
 | false =>
 cases aq (bm no) 2 with
 | true=>rfl
 | false =>
 cases aq (bm no) 3 with
 | true =>
   show some ((),((cond (aY s) (bD (ae s) (gL no)) false,()),()))=some ((),((cond (aY s) (dv (ae s) 1 (gL no)) false,()),()));cases hd:aY s with
   | false=>rfl
   | true =>
     have h1:bD 1 (ae s)=true:=by
      have:=(dm.1 hd).2;cases s with
      | nil=>exact absurd rfl this
      | cons x r=>exact decide_eq_true (by show (1:Int)<=((r.length + 1:Nat):Int); omega)
     unfold dv;rw [h1]; rfl
 | false =>
 cases aq (bm no) 4 with
 | true=>cases dX s <;> rfl
 | false =>
 cases aq (bm no) 5 with
 | true=>cases dX s <;> rfl
 | false=>rfl
theorem Ih (no:Int) (s:List UInt8) (hs:s.length<=aV):xH no s=some ((),((iW no s,()),())):=by
 unfold xH iW;rw [HS,gJ s hs,Lj s hs];dsimp only [Option.bind_some];rw [iZ];dsimp only [Option.bind_some];show cond (aq (bm no) 1) _ (cond (aq (bm no) 2) _ (cond (aq (bm no) 3) _ (cond (aq (bm no) 4) _ (cond (aq (bm no) 5) _ _))))=_;cases aq (bm no) 1 with
 | true=>rfl
 | false =>
 cases aq (bm no) 2 with
 | true=>rfl
 | false =>
 cases aq (bm no) 3 with
 | true=>cases aY s <;> rfl
 | false =>
 cases aq (bm no) 4 with
 | true=>cases dX s <;> rfl
 | false =>
 cases aq (bm no) 5 with
 | true=>cases dX s <;> rfl
 | false=>rfl
def pj (b:aX) (a n:Nat):Option (List UInt8×Nat):=if a + n<=b.length then (bif dX (strOf (eL b a n)) then some (strOf (eL b a n),a + n) else none) else none
def p9 (b:aX) (a n:Nat):Option (List UInt8×Nat):=(ja b a n).map fun s=>(s,a + (n + 1) / 2)
def Ad (b:aX) (a d n:Nat) (f:Nat->Nat->Option (List UInt8×Nat)):Option (List UInt8×Nat):=match ja b a d with
 | some t=>if 1<=kE 0 t/\kE 0 t<=n then f (a + (d + 1) / 2) (kE 0 t) else none
 | none=>none
def nJ (b:aX) (a:Nat) (no:Int):Option (List UInt8×Nat) :=
 if bm no=1 then p9 b a (gL no).toNat else if bm no=2 then pj b a (gL no).toNat
 else if bm no=3 then Ad b a 2 (gL no).toNat (p9 b) else if bm no=4 then Ad b a 2 (gL no).toNat (pj b)
 else if bm no=5 then Ad b a 3 (gL no).toNat (pj b) else none
def lx (o:Option (List UInt8×Nat)):Option (Unit×((List UInt8×Unit)×(Int×Unit)×(Bool×Unit)×Unit)):=some ((),match o with | some s=>((s.1,()),((s.2:Int),()),(true,()),()) | none=>(([],()),(0,()),(false,()),()))
theorem kZ (p:aX):(strOf p).length=p.length:=by unfold strOf; exact List.length_map _
theorem Ec (b:aX) (a n:Nat):(match xJ (ja b a n) ((a + (n + 1) / 2:Nat):Int) with | some y=>some ((),(y.2.1,y.2.2.1,y.2.2.2.1,())) | none=>none)=lx (p9 b a n):=by unfold xJ p9 lx;cases ja b a n <;> rfl
noncomputable def KR (b:aX) (a n:Int):Option (Unit×((List UInt8×Unit)×(Int×Unit)×(Bool×Unit)×Unit)) :=
 cond (cond (au (ae b) a) true (au (aH .i64 (ae b) a) n)) (some ((),(([],()),(0,()),(false,()),()))) (cond (dO a (ak .i64 a n) b) (Option.bind (zX (strOf (sub b a (ak .i64 a n)))) fun y=>cond (!y.2.1.1) (some ((),(([],()),(0,()),(false,()),()))) (cond (dO a (ak .i64 a n) b) (some ((),((strOf (sub b a (ak .i64 a n)),()),(ak .i64 a n,()),(true,()),()))) none)) none)
theorem Kw (b:aX) (a n:Nat) (hb:yf b) (ha:a<=b.length) (hn:n<=1048576) :
 KR b a n=lx (pj b a n):=by
 have hbig:aV=140737488355328:=rfl;have hl:=hb.1;have e:aH .i64 (ae b) (a:Int)=(b.length:Int) - a:=aR (by show -4611686018427387904<=(b.length:Int) - a; omega) (by show (b.length:Int) - a<=_; omega);have e2:ak .i64 (a:Int) (n:Int)=((a + n:Nat):Int):=by rw [aL (by omega) (by omega)]; omega
 unfold pj KR;rw [e,e2,ay (a:=ae b) (b:=(a:Int)) (by show ¬ (b.length:Int) < a; omega)];by_cases h:a + n<=b.length;rotate_left
 . rw [if_neg h,aD (by omega)]; rfl
 have hs:strOf (sub b (a:Int) ((a + n:Nat):Int))=strOf (eL b a n):=congrArg strOf (Hl b a n);rw [if_pos h,ay (by omega),EO h,hs,Ew _ (by rw [kZ,lP h]; omega)];dsimp only [Option.bind_some,cond_false,cond_true];cases dX (strOf (eL b a n)) <;> rfl
theorem SW (b:aX) (a:Nat) (no:Int) (hb:yf b) (ha:a<=b.length):Mw b a no=lx (nJ b a no):=by
 have hbig:aV=140737488355328:=rfl;have hl:=hb.1;obtain ⟨n,hn,hk⟩:=kinds no;have h0:au (a:Int) 0=false:=ay (by omega)
 have hvar:∀ (d:Nat) (w:Int) (f:Nat->Nat->Option (List UInt8×Nat)) (F:Int->Int->Option (Unit×((List UInt8×Unit)×(Int×Unit)×(Bool×Unit)×Unit))),(d=2∨d=3)->(∀ a' k:Nat,a'<=b.length->k<=1048576->F (a':Int) (k:Int)=lx (f a' k)) ->
  (Option.bind (Hb b a d) fun y5=>cond (!y5.2.2.2.1.1) (some ((),(([],()),(0,()),(false,()),()))) (Option.bind (pU y5.2.1.1 1 (n:Int)) fun y6=>cond (!y6.2.1.1) (some ((),(([],()),(0,()),(false,()),()))) (F y5.2.2.1.1 y5.2.1.1)))=lx (Ad b a d n f):=by
  intro d w f F hd hF;rw [TW b a d hb ha hd];unfold E9 Ad;cases ho:ja b a d with
  | none=>rfl
  | some t =>
    obtain ⟨h1,h2,h3,h4,h5⟩:=dR ho;have hv:=zy t 0 0 h1 (by decide);have hv2:kE 0 t < 1000:=Nat.lt_of_lt_of_le hv (by rw [Nat.zero_add,h2]; exact Nat.pow_le_pow_right (by decide) (by omega:d<=3));dsimp only [Option.bind_some];rw [kr];dsimp only [Option.bind_some];by_cases hin:1<=kE 0 t/\kE 0 t<=n
    . rw [if_pos hin,fC.2 (by omega)];exact hF _ _ h5 (by omega)
    . rw [if_neg hin];have:dv (kE 0 t:Int) 1 (n:Int)=false:=by
       cases h:dv (kE 0 t:Int) 1 (n:Int) with
       | false=>rfl
       | true=>have:=fC.1 h; omega
      rw [this]; rfl
 unfold Mw nJ;rw [Co,Kt,hn,h0];have hnn:Int.toNat (n:Int)=n:=Int.toNat_natCast n;rcases hk with ⟨hk,hz⟩ | ⟨hk,hz⟩ | ⟨hk,hz⟩ | ⟨hk,hz⟩ | ⟨hk,hz⟩ | ⟨hk,hz⟩
 . rw [hk]; rfl
 . rw [hk,hnn];show (Option.bind (vr b a n) fun y=>some ((),(y.2.1,y.2.2.1,y.2.2.2.1,())))=lx (p9 b a n);rw [DH b a n hb ha (by omega),<- Ec];rfl
 . rw [hk,hnn];exact Kw b a n hb ha (by omega)
 . rw [hk,hnn];exact hvar 2 0 (p9 b) (fun a' k=>Option.bind (vr b a' k) fun y=>some ((),(y.2.1,y.2.2.1,y.2.2.2.1,()))) (.inl rfl) fun a' k ha' hk'=>by show (Option.bind (vr b (a':Int) (k:Int)) _)=_;rw [DH b a' k hb ha' hk',<- Ec];rfl
 . rw [hk,hnn];exact hvar 2 0 (pj b) (KR b) (.inl rfl) fun a' k ha' hk'=>Kw b a' k hb ha' hk'
 . rw [hk,hnn];exact hvar 3 0 (pj b) (KR b) (.inr rfl) fun a' k ha' hk'=>Kw b a' k hb ha' hk'
noncomputable def Gt (b:aX) (no a n:Int):Option (Unit×((List UInt8×Unit)×(Int×Unit)×(Bool×Unit)×Unit)) :=
 Option.bind (yO b a n) fun y5=>cond (!y5.2.2.2.1.1) (some ((),(([],()),(0,()),(false,()),()))) (Option.bind (xH no y5.2.1.1) fun y6=>cond (!y6.2.1.1) (some ((),(([],()),(0,()),(false,()),()))) (some ((),(y5.2.1,y5.2.2.1,(true,()),()))))
noncomputable def AG (b:aX) (no a n:Int):Option (Unit×((List UInt8×Unit)×(Int×Unit)×(Bool×Unit)×Unit)) :=
 Option.bind (Al b a n) fun y5=>cond (!y5.2.2.1.1) (some ((),(([],()),(0,()),(false,()),()))) (Option.bind (xH no (strOf y5.2.1.1)) fun y6=>cond (!y6.2.1.1) (some ((),(([],()),(0,()),(false,()),()))) (some ((),((strOf y5.2.1.1,()),(ak .i64 a n,()),(true,()),()))))
theorem DR (b:aX) (no:Int) (a n:Nat) (hb:yf b) (ha:a<=b.length) (hn:n<=1048576):Gt b no a n=lx ((p9 b a n).filter fun s=>iW no s.1):=by
 have hbig:aV=140737488355328:=rfl;unfold Gt p9;rw [Ke b a n hb ha hn];unfold xJ;cases ho:ja b a n with
 | none=>rfl
 | some s => obtain ⟨h1,h2,h3,h4,h5⟩:=dR ho;dsimp only [Option.bind_some];rw [Ih no s (by omega)];dsimp only [Option.bind_some,Option.map_some];rw [Option.filter_some];dsimp only;cases iW no s <;> rfl
def GM (b:aX) (a n:Nat):Option (List UInt8×Nat):=if a + n<=b.length then some (strOf (eL b a n),a + n) else none
theorem ui (b:aX) (no:Int) (a n:Nat) (hb:yf b) (ha:a<=b.length) (hn:n<=1048576):AG b no a n=lx ((GM b a n).filter fun s=>iW no s.1):=by
 have hbig:aV=140737488355328:=rfl;have hl:=hb.1;unfold AG GM;rw [yZ b a n hb.1 ha hn];by_cases h:a + n<=b.length;rotate_left
 . rw [if_neg h,if_neg h]; rfl
 rw [if_pos h,if_pos h,Option.filter_some];have hf:=Ih no (strOf (eL b a n)) (by rw [kZ,lP h]; omega);refine (bn hf).trans ?_;have e2:ak .i64 (a:Int) (n:Int)=((a + n:Nat):Int):=by rw [aL (by omega) (by omega)]; omega
 show cond (!(iW no (strOf (eL b a n)))) _ (some ((),((_,()),(ak .i64 (a:Int) (n:Int),()),(true,()),())))=_;rw [e2];dsimp only;cases iW no (strOf (eL b a n)) <;> rfl
theorem HR (b:aX) (a d:Nat) (hb:yf b) (ha:a<=b.length) (hd:d=2∨d=3) (F:Int->Int->Option (Unit×((List UInt8×Unit)×(Int×Unit)×(Bool×Unit)×Unit))) (f:Nat->Nat->Option (List UInt8×Nat)) (n:Nat)
 (hF:∀ a' k:Nat,a'<=b.length->k<=1048576->F (a':Int) (k:Int)=lx (if 1<=k/\k<=n then f a' k else none)) :
 (Option.bind (Fy b a d) fun y4=>cond (!y4.2.2.2.1.1) (some ((),(([],()),(0,()),(false,()),()))) (F y4.2.2.1.1 y4.2.1.1))=lx (Ad b a d n f):=by
 rw [S9 b a d hb ha hd];unfold E9 Ad;cases ho:ja b a d with
 | none=>rfl
 | some t => obtain ⟨h1,h2,h3,h4,h5⟩:=dR ho;have hv:=zy t 0 0 h1 (by decide);have hv2:kE 0 t < 1000:=Nat.lt_of_lt_of_le hv (by rw [Nat.zero_add,h2]; exact Nat.pow_le_pow_right (by decide) (by omega:d<=3));exact hF _ _ h5 (by omega)
theorem jb {s:List UInt8} {n:Nat} (h:s.length=n):ae s=(n:Int):=by show (s.length:Int)=n; rw [h]
theorem q8 {k n:Nat}:dv (k:Int) 1 (n:Int)=decide (1<=k/\k<=n):=by
 by_cases h:1<=k/\k<=n
 . rw [decide_eq_true h]; exact fC.2 (by omega)
 . rw [decide_eq_false h];cases h2:dv (k:Int) 1 (n:Int) with
   | false=>rfl
   | true=>have:=fC.1 h2; omega
theorem qy {no:Int} {n:Nat} (hn:gL no=n) (s:List UInt8):(bm no=1->iW no s=cond (aY s) (aq (ae s) (n:Int)) false)/\(bm no=2->iW no s=cond (dX s) (aq (ae s) (n:Int)) false)/\(bm no=3->iW no s=cond (aY s) (dv (ae s) 1 (n:Int)) false) /\
 ((bm no=4∨bm no=5)->iW no s=cond (dX s) (dv (ae s) 1 (n:Int)) false):=by
 unfold iW;rw [hn];refine ⟨fun h=>by rw [h]; rfl,fun h=>by rw [h]; rfl,fun h=>by rw [h]; rfl,fun h => ?_⟩;rcases h with h | h <;> (rw [h]; rfl)
theorem Em {b:aX} {no:Int} {n:Nat} (hn:gL no=n) (hk:bm no=4∨bm no=5) (a k:Nat):(GM b a k).filter (fun s=>iW no s.1)=if 1<=k/\k<=n then pj b a k else none:=by
 unfold GM pj;by_cases h:a + k<=b.length;rotate_left
 . rw [if_neg h,if_neg h]; simp
 rw [if_pos h,if_pos h,Option.filter_some];dsimp only;rw [(qy hn _).2.2.2 hk,jb (by rw [kZ,lP h]:(strOf (eL b a k)).length=k),q8];by_cases hin:1<=k/\k<=n
 . rw [decide_eq_true hin,if_pos hin]; cases dX (strOf (eL b a k)) <;> rfl
 . rw [decide_eq_false hin,if_neg hin]; cases dX (strOf (eL b a k)) <;> rfl
theorem TT (b:aX) (a:Nat) (no:Int) (hb:yf b) (ha:a<=b.length):Jc b a no=lx (nJ b a no):=by
 have hbig:aV=140737488355328:=rfl;have hl:=hb.1;obtain ⟨n,hn,hk⟩:=kinds no;have hnn:Int.toNat (n:Int)=n:=Int.toNat_natCast n;have hlen:M4 no=some ((),((cond (aq (bm no) 5) 3 2,()),())):=by unfold M4;rw [Am];dsimp only [Option.bind_some];cases aq (bm no) 5 <;> rfl
 have base:Jc b a no=cond (cond (cond (aq (bm no) 3) true (aq (bm no) 4)) true (aq (bm no) 5)) (Option.bind (Fy b a (cond (aq (bm no) 5) 3 2)) fun y4=>cond (!y4.2.2.2.1.1) (some ((),(([],()),(0,()),(false,()),()))) (cond (cond (aq (bm no) 1) true (aq (bm no) 3)) (Gt b no y4.2.2.1.1 y4.2.1.1) (AG b no y4.2.2.1.1 y4.2.1.1)))
  (cond (cond (aq (bm no) 1) true (aq (bm no) 3)) (Gt b no a (n:Int)) (AG b no a (n:Int))):=by
  unfold Jc;rw [PW,Am,hlen,hn];rfl
 rw [base];unfold nJ;rw [hn,hnn];rcases hk with ⟨hk,hz⟩ | ⟨hk,hz⟩ | ⟨hk,hz⟩ | ⟨hk,hz⟩ | ⟨hk,hz⟩ | ⟨hk,hz⟩
 . rw [hk];show AG b no a (n:Int)=lx none;rw [ui b no a n hb ha (by omega)];have:∀ s,iW no s=false:=fun s=>by unfold iW; rw [hk]; rfl
   unfold GM;by_cases h:a + n<=b.length
   . rw [if_pos h,Option.filter_some,this]; rfl
   . rw [if_neg h]; rfl
 . rw [hk];show Gt b no a (n:Int)=lx (p9 b a n);rw [DR b no a n hb ha (by omega)];unfold p9;cases ho:ja b a n with
   | none=>rfl
   | some s => obtain ⟨h1,h2,h3,h4,h5⟩:=dR ho;rw [Option.map_some,Option.filter_some];dsimp only;rw [(qy hn s).1 hk,dm.2 ⟨h1,kP h2 h3⟩,jb h2,bq];rfl
 . rw [hk];show AG b no a (n:Int)=lx (pj b a n);rw [ui b no a n hb ha (by omega)];unfold GM pj;by_cases h:a + n<=b.length;rotate_left
   . rw [if_neg h,if_neg h]; rfl
   rw [if_pos h,if_pos h,Option.filter_some];dsimp only;rw [(qy hn _).2.1 hk,jb (by rw [kZ,lP h]:(strOf (eL b a n)).length=n),bq];cases dX (strOf (eL b a n)) <;> rfl
 . rw [hk];exact HR b a 2 hb ha (.inl rfl) (Gt b no) (p9 b) n fun a' k ha' hk'=>by
    rw [DR b no a' k hb ha' hk'];unfold p9;cases ho:ja b a' k with
    | none => show lx none=lx (if _ then none else none);rw [ite_self]
    | some s =>
      obtain ⟨h1,h2,h3,h4,h5⟩:=dR ho;rw [Option.map_some,Option.filter_some];dsimp only;rw [(qy hn s).2.2.1 hk,dm.2 ⟨h1,kP h2 h3⟩,jb h2,q8];by_cases hin:1<=k/\k<=n
      . rw [decide_eq_true hin,if_pos hin]; rfl
      . rw [decide_eq_false hin,if_neg hin]; rfl
 . rw [hk];exact HR b a 2 hb ha (.inl rfl) (AG b no) (pj b) n fun a' k ha' hk'=>by rw [ui b no a' k hb ha' hk',Em hn (.inl hk)]
 . rw [hk];exact HR b a 3 hb ha (.inr rfl) (AG b no) (pj b) n fun a' k ha' hk'=>by rw [ui b no a' k hb ha' hk',Em hn (.inr hk)]
theorem rN {b:aX} {a:Nat} {no:Int} {s:List UInt8} {e:Nat} (ha:a<=b.length) (h:nJ b a no=some (s,e)):iW no s=true/\s.length<=60/\e<=b.length:=by
 obtain ⟨n,hn,hk⟩:=kinds no;have hnn:Int.toNat (n:Int)=n:=Int.toNat_natCast n;have num:∀ a k,p9 b a k=some (s,e)->s.all fP=true/\s.length=k/\1<=k/\e<=b.length:=fun a k h=>by unfold p9 at h;obtain ⟨q,hq,h⟩:=Option.map_eq_some_iff.1 h;cases h;obtain ⟨h1,h2,h3,h4,h5⟩:=dR hq;exact ⟨h1,h2,h3,h5⟩
 have txt:∀ a k,pj b a k=some (s,e)->dX s=true/\s.length=k/\e<=b.length:=fun a k h=>by
  unfold pj at h;split at h
  . rename_i hl;cases hp:dX (strOf (eL b a k)) with
    | false=>rw [hp] at h; simp at h
    | true => rw [hp] at h;cases h;exact ⟨hp,by rw [kZ,lP hl],hl⟩
  . simp at h
 have var:∀ d f,Ad b a d n f=some (s,e)->∃ a' k,1<=k/\k<=n/\f a' k=some (s,e):=fun d f h=>by
  unfold Ad at h;split at h
  . split at h
    . rename_i hin;exact ⟨_,_,hin.1,hin.2,h⟩
    . simp at h
  . simp at h
 unfold nJ at h;rw [hn,hnn] at h;rcases hk with ⟨hk,hz⟩ | ⟨hk,hz⟩ | ⟨hk,hz⟩ | ⟨hk,hz⟩ | ⟨hk,hz⟩ | ⟨hk,hz⟩ <;> rw [hk] at h
 . simp at h
 . obtain ⟨h1,h2,h3,h4⟩:=num _ _ h;exact ⟨by rw [(qy hn s).1 hk,dm.2 ⟨h1,kP h2 h3⟩,jb h2,bq]; rfl,by omega,h4⟩
 . obtain ⟨h1,h2,h4⟩:=txt _ _ h;exact ⟨by rw [(qy hn s).2.1 hk,h1,jb h2,bq]; rfl,by omega,h4⟩
 . obtain ⟨a',k,k1,k2,h⟩:=var _ _ h;obtain ⟨h1,h2,h3,h4⟩:=num _ _ h;exact ⟨by rw [(qy hn s).2.2.1 hk,dm.2 ⟨h1,kP h2 h3⟩,jb h2,q8,decide_eq_true ⟨k1,k2⟩]; rfl,by omega,h4⟩
 . obtain ⟨a',k,k1,k2,h⟩:=var _ _ h;obtain ⟨h1,h2,h4⟩:=txt _ _ h;exact ⟨by rw [(qy hn s).2.2.2 (.inl hk),h1,jb h2,q8,decide_eq_true ⟨k1,k2⟩]; rfl,by omega,h4⟩
 . obtain ⟨a',k,k1,k2,h⟩:=var _ _ h;obtain ⟨h1,h2,h4⟩:=txt _ _ h;exact ⟨by rw [(qy hn s).2.2.2 (.inr hk),h1,jb h2,q8,decide_eq_true ⟨k1,k2⟩]; rfl,by omega,h4⟩
end Go.Av
