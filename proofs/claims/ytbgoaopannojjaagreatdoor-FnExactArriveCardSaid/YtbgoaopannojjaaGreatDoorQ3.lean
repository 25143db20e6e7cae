/- Part of a proof that the law FnExactArrive answers true for every input: the printed functions of this program and their plain laws. No conditions beyond the statement. -/
import Derived.Test.YtbgoaopannojjaaGreatDoorP1
import Derived.Test.YtbgoaopannojjaaGreatDoorFw4
set_option maxRecDepth 100000
set_option maxHeartbeats 4000000
namespace Go.Av
abbrev jP:=List UInt8×Int×Int×Unit
abbrev eJ:=List UInt8×List UInt8×List (Int×Unit)×Unit
abbrev vw:=Int×Int×List (Int×Unit)×List (Int×Unit)×Unit
def dR (a lo hi:Int):Bool:=cond (bH lo a) (bH a hi) false
theorem gM {a lo hi:Int}:dR a lo hi=true↔lo<=a/\a<=hi:=by unfold dR bH;by_cases h:lo<=a <;> simp [h]
theorem lX (a lo hi:Int):rL a lo hi=some ((),((dR a lo hi,()),())):=rfl
theorem jY (a lo hi:Int):nL a lo hi=some ((),((dR a lo hi,()),())):=rfl
def cO (a:Int):Bool:=dR a 0 4611686018427387904
theorem qm (a:Int):QS a=some ((),((cO a,()),())):=rfl
theorem Fb (a:Int):W7 a=some ((),((cO a,()),())):=rfl
def dv (a:Int):Bool:=dR a 0 1000000000
theorem lu (a:Int):Gi a=some ((),((dv a,()),())):=rfl
theorem lU (a:Int):ua a=some ((),((dv a,()),())):=rfl
def fK (x:UInt8):Bool:=cond (au (x.toNat:Int) 48) false (!(au 57 (x.toNat:Int)))
theorem fQ {x:UInt8}:fK x=true↔48<=x.toNat/\x.toNat<=57:=by
 unfold fK au;by_cases h:(x.toNat:Int) < 48
 . simp [h]; omega
 . by_cases h2:(57:Int) < x.toNat
   . simp [h,h2]; omega
   . simp [h,h2]; omega
def aY (s:List UInt8):Bool:=cond (s.all fK) (au 0 (ae s)) false
theorem fN (s:List UInt8) (hs:s.length<=aT):rq s=some ((),((aY s,()),())):=by
 unfold rq;have h:=aI (step:=wI pQ) s (fun i (_:Unit)=>(s,((i:Nat):Int),())) (fun _ x _=>bif fK x then Sum.inl () else .inr (.inr (false,()))) (fun _=> .inl (s,(s.length:Int),())) (a0:=()) (fun i x a hx=>by
  have hlt:=ai hx;show pQ s (i:Int)=_;unfold pQ fK;rw [aD hx,az hx,eI hx,aJ (by omega)];dsimp only [cond_true];cases au (x.toNat:Int) 48 <;> cases au 57 (x.toNat:Int) <;> rfl) (fun a=>by
  show pQ s (s.length:Int)=_;unfold pQ;rw [aw rfl]; rfl)
 rw [fU] at h;have h':JP s 0=_:=h;rw [h'];unfold aY;cases s.all fK <;> rfl
theorem gP (s:List UInt8) (hs:s.length<=aT):uf s=some ((),((aY s,()),())):=by
 unfold uf;have h:=aI (step:=dn qe) s (fun i (_:Unit)=>(s,ae s,((i:Nat):Int),())) (fun _ x _=>bif fK x then Sum.inl () else .inr (.inr (false,()))) (fun _=> .inl (s,ae s,(s.length:Int),())) (a0:=()) (fun i x a hx=>by
  have hlt:=ai hx;show qe s (ae s) (i:Int)=_;unfold qe fK;rw [aD hx,az hx,eI hx,aJ (by omega)];dsimp only [cond_true];cases au (x.toNat:Int) 48 <;> cases au 57 (x.toNat:Int) <;> rfl) (fun a=>by
  show qe s (ae s) (s.length:Int)=_;unfold qe;rw [aw rfl]; rfl)
 rw [fU] at h;have h':HV s (ae s) 0=_:=h;rw [h'];unfold aY;cases s with
 | nil=>rfl
 | cons x r =>
   have e1:au 0 (ae (x :: r))=true:=aF (by unfold ae; simp only [List.length_cons]; omega);have e2:cr (x :: r) []=false:=rfl;cases (x :: r).all fK
   . rfl
   . dsimp only [cond_true,cond_false,Option.bind_some,Sum.elim_inl];rw [e1,e2]; rfl
def lM (x:UInt8):Bool:=cond (au (x.toNat:Int) 48) (cond (au (x.toNat:Int) 97) false (!(au 122 (x.toNat:Int)))) (cond (au 57 (x.toNat:Int)) (cond (au (x.toNat:Int) 97) false (!(au 122 (x.toNat:Int)))) true)
def iv (s:List UInt8):Bool:=cond (s.all lM) (dR (ae s) 1 6) false
theorem B7 (s:List UInt8) (hs:s.length<=aT):KY s=some ((),((iv s,()),())):=by
 unfold KY;have h:=aI (step:=wI oo) s (fun i (_:Unit)=>(s,((i:Nat):Int),())) (fun _ x _=>bif lM x then Sum.inl () else .inr (.inr (false,()))) (fun _=> .inl (s,(s.length:Int),())) (a0:=()) (fun i x a hx=>by
  have hlt:=ai hx;show oo s (i:Int)=_;unfold oo lM;rw [aD hx,az hx,eI hx,aJ (by omega)];dsimp only [cond_true];cases au (x.toNat:Int) 48 <;> cases au 57 (x.toNat:Int) <;> cases au (x.toNat:Int) 97 <;> cases au 122 (x.toNat:Int) <;> rfl) (fun a=>by
  show oo s (s.length:Int)=_;unfold oo;rw [aw rfl]; rfl)
 rw [fU] at h;have h':Kq s 0=_:=h;rw [h'];unfold iv;cases s.all lM <;> rfl
theorem Bw (s:List UInt8) (hs:s.length<=aT):IC s=some ((),((iv s,()),())):=by
 unfold IC;have h:=aI (step:=dn oA) s (fun i (_:Unit)=>(s,ae s,((i:Nat):Int),())) (fun _ x _=>bif lM x then Sum.inl () else .inr (.inr (false,()))) (fun _=> .inl (s,ae s,(s.length:Int),())) (a0:=()) (fun i x a hx=>by
  have hlt:=ai hx;show oA s (ae s) (i:Int)=_;unfold oA lM;rw [aD hx,az hx,eI hx,aJ (by omega)];dsimp only [cond_true];cases au (x.toNat:Int) 48 <;> cases au 57 (x.toNat:Int) <;> cases au (x.toNat:Int) 97 <;> cases au 122 (x.toNat:Int) <;> rfl) (fun a=>by
  show oA s (ae s) (s.length:Int)=_;unfold oA;rw [aw rfl]; rfl)
 rw [fU] at h;have h':IL s (ae s) 0=_:=h;rw [h'];unfold iv;cases s.all lM <;> rfl
def vT (h:jP):Bool:=cond (iv h.1) (cond (dR h.2.1 1 9007199254740992) (dv h.2.2.1) false) false
theorem Si (h:jP) (hs:h.1.length<=aT):Nu h=some ((),((vT h,()),())):=by unfold Nu vT;simp only [B7 _ hs,lX,lu,Option.bind_some];cases iv h.1 <;> cases dR h.2.1 1 9007199254740992 <;> rfl
theorem Q3 (h:jP) (hs:h.1.length<=aT):MR h=some ((),((vT h,()),())):=by unfold MR vT;simp only [Bw _ hs,jY,lU,Option.bind_some];cases iv h.1 <;> cases dR h.2.1 1 9007199254740992 <;> rfl
def jx (xs:List jP) (i:Nat) (x:jP):Bool:=cond (vT x) (cond (au 0 (i:Int)) (kj (gt ([],0,0,()) xs ((i:Int) - 1)).1 x.1) true) false
def oT (xs:List jP):Bool:=cond (allI (jx xs) 0 xs) (bH (ae xs) 4) false
theorem nN:∀ (s t:List UInt8),(Op.bytesLess s t || cr s t)= !(Op.bytesLess t s)
 | [],[]=>rfl
 | [],_ :: _=>rfl
 | _ :: _,[]=>rfl
 | a :: s,b :: t=>by
   have ih:=nN s t;have e:cr (a :: s) (b :: t)=(a == b && cr s t):=rfl;show ((decide (a < b) || (a == b && Op.bytesLess s t)) || cr (a :: s) (b :: t))= !(decide (b < a) || (b == a && Op.bytesLess t s));rw [e];rcases Nat.lt_trichotomy a.toNat b.toNat with h | h | h
   . have h1:a < b:=UInt8.lt_iff_toNat_lt.2 h;have h2:¬ b < a:=fun hh=>by have:=UInt8.lt_iff_toNat_lt.1 hh; omega
     have h3:(b == a)=false:=by rw [beq_eq_false_iff_ne]; intro hh; subst hh; omega
     simp [h1,h2,h3]
   . have h1:a=b:=UInt8.toNat_inj.1 h;subst h1;have h2:¬ a < a:=fun hh=>by have:=UInt8.lt_iff_toNat_lt.1 hh; omega
     simpa [h2] using ih
   . have h1:¬ a < b:=fun hh=>by have:=UInt8.lt_iff_toNat_lt.1 hh; omega
     have h2:b < a:=UInt8.lt_iff_toNat_lt.2 h;have h3:(a == b)=false:=by rw [beq_eq_false_iff_ne]; intro hh; subst hh; omega
     simp [h1,h2,h3]
theorem ux (s t:List UInt8):R7 s t= !(kj t s):=nN s t
def DK (xs:List jP):Prop:=xs.length<=aT/\∀ y∈xs,y.1.length<=aT
theorem iO {α:Type} {xs:List α} {i:Nat} {x:α} (hx:xs[i]? = some x) (h:0 < i):aR ((i:Int) - 1) xs=true:=by
 have:=ai hx;have e:(i:Int) - 1=((i - 1:Nat):Int):=by omega
 rw [e]; exact ln (by omega)
theorem Na (xs:List jP) (hb:DK xs):LR xs=some ((),((oT xs,()),())):=by
 have hbig:aT=140737488355328:=rfl;unfold LR;have h:=aI (step:=cV oM) xs (fun i (_:Unit)=>(xs,xs,ae xs,((i:Nat):Int),())) (fun i x _=>bif jx xs i x then Sum.inl () else .inr (.inr (false,()))) (fun _=> .inl (xs,xs,ae xs,(xs.length:Int),())) (a0:=()) (fun i x a hx=>by
  have hlt:=ai hx;have hl:=hb.1;show oM xs xs (ae xs) (i:Int)=_;unfold oM jx;rw [aD hx,az hx,aV _ hx];dsimp only [cond_true];rw [Si x (hb.2 x (List.mem_of_getElem? hx)),aJ (by omega)];dsimp only [Option.bind_some];cases vT x with
  | false=>rfl
  | true =>
    by_cases h0:0 < i
    . rw [aF (show (0:Int) < i by omega),aS (by omega) (by omega),iO hx h0];dsimp only [cond_true,cond_false,Bool.not_true];have e:gt d95 xs ((i:Int) - 1)=gt ([],0,0,()) xs ((i:Int) - 1):=rfl;rw [e];cases kj (gt ([],0,0,()) xs ((i:Int) - 1)).1 x.1 <;> rfl
    . rw [ax (show ¬ (0:Int) < i by omega)]; rfl) (fun a=>by
  show oM xs xs (ae xs) (xs.length:Int)=_;unfold oM;rw [aw rfl]; rfl)
 rw [cN] at h;have h':H6 xs xs (ae xs) 0=_:=h;rw [h'];unfold oT;cases allI (jx xs) 0 xs <;> rfl
theorem LX (xs:List jP) (hb:DK xs):LJ xs=some ((),((oT xs,()),())):=by
 have hbig:aT=140737488355328:=rfl;unfold LJ;have h:=aI (step:=cV p8) xs (fun i (_:Unit)=>(xs,xs,ae xs,((i:Nat):Int),())) (fun i x _=>bif jx xs i x then Sum.inl () else .inr (.inr (false,()))) (fun _=> .inl (xs,xs,ae xs,(xs.length:Int),())) (a0:=()) (fun i x a hx=>by
  have hlt:=ai hx;have hl:=hb.1;show p8 xs xs (ae xs) (i:Int)=_;unfold p8 jx;rw [aD hx,az hx,aV _ hx];dsimp only [cond_true];rw [Q3 x (hb.2 x (List.mem_of_getElem? hx)),aJ (by omega)];dsimp only [Option.bind_some];cases vT x with
  | false=>rfl
  | true =>
    by_cases h0:0 < i
    . rw [aF (show (0:Int) < i by omega),aS (by omega) (by omega),iO hx h0];dsimp only [cond_true,cond_false,Bool.not_true];rw [ux];have e:gt d95 xs ((i:Int) - 1)=gt ([],0,0,()) xs ((i:Int) - 1):=rfl;rw [e];cases kj (gt ([],0,0,()) xs ((i:Int) - 1)).1 x.1 <;> rfl
    . rw [ax (show ¬ (0:Int) < i by omega)]; rfl) (fun a=>by
  show p8 xs xs (ae xs) (xs.length:Int)=_;unfold p8;rw [aw rfl]; rfl)
 rw [cN] at h;have h':Jx xs xs (ae xs) 0=_:=h;rw [h'];unfold oT;cases allI (jx xs) 0 xs <;> rfl
def eR (dbl:Bool) (x:UInt8):Int:=cond dbl (cond (au 9 (2 * ((x.toNat:Int) - 48))) (2 * ((x.toNat:Int) - 48) - 9) (2 * ((x.toNat:Int) - 48))) ((x.toNat:Int) - 48)
theorem uy (b:Bool) {x:UInt8} (h:fK x=true):0<=eR b x/\eR b x<=9:=by
 obtain ⟨h1,h2⟩:=fQ.1 h;unfold eR au;cases b
 . dsimp only [cond_false]; omega
 . dsimp only [cond_true];by_cases h9:9 < 2 * ((x.toNat:Int) - 48)
   . rw [decide_eq_true h9]; dsimp only [cond_true]; omega
   . rw [decide_eq_false h9]; dsimp only [cond_false]; omega
def zF (xs:List UInt8) (a:Int×Bool):Int×Bool:=xs.foldl (fun a x=>(a.1 + eR a.2 x,!a.2)) a
def KN (xs:List UInt8) (a:Int×Bool):Int×Bool:=xs.foldl (fun a x=>((a.1 + eR a.2 x) % 10,!a.2)) a
theorem Ek:∀ (xs:List UInt8) (a:Int) (b:Bool),KN xs (a % 10,b)=((zF xs (a,b)).1 % 10,(zF xs (a,b)).2)
 | [],a,b=>rfl
 | x :: r,a,b=>by
   have e:(a % 10 + eR b x) % 10=(a + eR b x) % 10:=by omega
   show KN r ((a % 10 + eR b x) % 10,!b)=((zF r (a + eR b x,!b)).1 % 10,(zF r (a + eR b x,!b)).2);rw [e];exact Ek r _ _
def AM (s:List UInt8):Int:=cond (aY s) ((10 - (zF s.reverse (0,true)).1 % 10) % 10) (-1)
theorem mS {s:List UInt8} (h:aY s=true):∀ x∈s,fK x=true:=by
 unfold aY at h;cases hs:s.all fK with
 | true=>exact fun x hx=>List.all_eq_true.1 hs x hx
 | false=>rw [hs] at h; simp at h
theorem Ag {s:List UInt8} {i:Nat} {x:UInt8} (h:s.reverse[i]? = some x):i < s.length/\s[s.length - 1 - i]? = some x:=by
 have hl:i < s.length:=by simpa using ai h
 refine ⟨hl,?_⟩;rwa [List.getElem?_reverse hl] at h
theorem Ot {x:UInt8} (h:fK x=true):aM .i64 (bG .i64 (x.toNat:Int)) 48=(x.toNat:Int) - 48:=by obtain ⟨h1,h2⟩:=fQ.1 h;have e:bG .i64 (x.toNat:Int)=(x.toNat:Int):=IntWalk.i64_in _ (by omega);rw [e]; exact aS (by omega) (by omega)
theorem OD {x:UInt8} (h:fK x=true):bG .i64 (aM .u8 (x.toNat:Int) 48)=(x.toNat:Int) - 48:=by obtain ⟨h1,h2⟩:=fQ.1 h;have e:aM .u8 (x.toNat:Int) 48=(x.toNat:Int) - 48:=IntWalk.u8_in _ (by omega);rw [e]; exact IntWalk.i64_in _ (by omega)
theorem Fg {a b:Int} (h1 : -4611686018427387904<=a * b) (h2:a * b<=4611686018427387904):j5 .i64 a b=a * b:=by unfold j5; rw [IntWalk.i64_in _ (by omega)]
theorem nz {a:Int} (h:0<=a):fz a 10=a % 10:=by unfold fz; exact Int.tmod_eq_emod_of_nonneg h
theorem So (s:List UInt8) (hs:s.length<=aT):LI s=some ((),((AM s,()),())):=by
 have hbig:aT=140737488355328:=rfl;unfold LI AM;rw [fN s hs];dsimp only [Option.bind_some];cases hd:aY s with
 | false=>rfl
 | true =>
 have hall:=mS hd
 have h:=aH (step:=cV sH) s.reverse (fun i (a:Int×Bool)=>(s,a.1,a.2,(s.length:Int) - 1 - ((i:Nat):Int),())) (fun _ x a=>Sum.inl ((a.1 + eR a.2 x) % 10,!a.2)) (fun a=> .inl (s,a.1,a.2,(-1:Int),()))
  (fun _ a=>0<=a.1/\a.1 < 10) (a0:=(0,true)) ⟨by decide,by decide⟩ (fun i x a hx ha=>by
    obtain ⟨hlt,hx'⟩:=Ag hx;have hdx:=hall x (List.mem_of_getElem? hx');have hbd:=uy a.2 hdx;have hdd:=fQ.1 hdx;have e:(s.length:Int) - 1 - (i:Int)=((s.length - 1 - i:Nat):Int):=by omega
    have e':(s.length:Int) - 1 - ((i + 1:Nat):Int)=((s.length - 1 - i:Nat):Int) - 1:=by omega
    obtain ⟨a1,a2⟩:=a;show sH s a1 a2 ((s.length:Int) - 1 - (i:Int))=some (.inl (s,(a1 + eR a2 x) % 10,!a2,(s.length:Int) - 1 - ((i + 1:Nat):Int),()));rw [e,e'];have hle:bH 0 ((s.length - 1 - i:Nat):Int)=true:=decide_eq_true (by omega);have ha:0<=a1/\a1 < 10:=ha;unfold sH;rw [hle,az hx',eI hx',Ot hdx,aS (a:=((s.length - 1 - i:Nat):Int)) (b:=1) (by omega) (by omega)];have hb:(0<=eR a2 x/\eR a2 x<=9):=hbd;cases a2 with
    | false => have hv:eR false x=(x.toNat:Int) - 48:=rfl;dsimp only [cond_true,cond_false,Bool.not_false];rw [ay (by omega) (by omega),nz (by omega),hv]
    | true =>
      dsimp only [cond_true,cond_false,Bool.not_false,Bool.not_true];rw [Fg (by omega) (by omega)];by_cases h9:9 < 2 * ((x.toNat:Int) - 48)
      . have hv:eR true x=2 * ((x.toNat:Int) - 48) - 9:=by unfold eR; rw [aF h9]; rfl
        rw [aF h9]; dsimp only [cond_true,cond_false,Bool.not_false]; rw [aS (by omega) (by omega),ay (by omega) (by omega),nz (by omega),hv]
      . have hv:eR true x=2 * ((x.toNat:Int) - 48):=by unfold eR; rw [ax h9]; rfl
        rw [ax h9]; dsimp only [cond_true,cond_false,Bool.not_false]; rw [ay (by omega) (by omega),nz (by omega),hv]) (fun i x a a' hx ha hf=>by
    simp only [Sum.inl.injEq] at hf;subst hf;show 0<=(a.1 + eR a.2 x) % 10/\(a.1 + eR a.2 x) % 10 < 10;omega) (fun a ha=>by
    have e:(s.length:Int) - 1 - ((s.reverse.length:Nat):Int) = -1:=by simp; omega
    show sH s a.1 a.2 ((s.length:Int) - 1 - ((s.reverse.length:Nat):Int))=_;rw [e];rfl)
 rw [bZ (fun x a=>((a.1 + eR a.2 x) % 10,!a.2))] at h;have h':IJ s 0 true ((s.length:Int) - 1 - ((0:Nat):Int))=some (.inl (s,(KN s.reverse (0,true)).1,(KN s.reverse (0,true)).2,(-1:Int),())):=h;have e0:(s.length:Int) - 1 - ((0:Nat):Int)=aM .i64 (ae s) 1:=by rw [aS (by unfold ae; omega) (by unfold ae; omega)]; unfold ae; omega
 have eT:(KN s.reverse (0,true)).1=(zF s.reverse (0,true)).1 % 10:=by have:=Ek s.reverse 0 true;rw [show (0:Int) % 10=0 from rfl] at this;rw [this]
 rw [e0] at h';rw [h',eT];dsimp only [Option.bind_some,Sum.elim_inl,cond_true,cond_false,Bool.not_true];rw [aS (by omega) (by omega),nz (by omega)]; rfl
theorem RB (s:List UInt8) (hs:s.length<=aT):NI s=some ((),((AM s,()),())):=by
 have hbig:aT=140737488355328:=rfl;unfold NI AM;rw [gP s hs];dsimp only [Option.bind_some];cases hd:aY s with
 | false=>rfl
 | true =>
 have hall:=mS hd
 have h:=aH (step:=cV rY) s.reverse (fun i (a:Int×Bool)=>(s,a.1,a.2,(s.length:Int) - 1 - ((i:Nat):Int),())) (fun _ x a=>Sum.inl (a.1 + eR a.2 x,!a.2)) (fun a=> .inl (s,a.1,a.2,(-1:Int),()))
  (fun i a=>0<=a.1/\a.1<=9 * i) (a0:=(0,true)) ⟨by decide,by decide⟩ (fun i x a hx ha=>by
    obtain ⟨hlt,hx'⟩:=Ag hx;have hdx:=hall x (List.mem_of_getElem? hx');have hbd:=uy a.2 hdx;have hdd:=fQ.1 hdx;have e:(s.length:Int) - 1 - (i:Int)=((s.length - 1 - i:Nat):Int):=by omega
    have e':(s.length:Int) - 1 - ((i + 1:Nat):Int)=((s.length - 1 - i:Nat):Int) - 1:=by omega
    obtain ⟨a1,a2⟩:=a;show rY s a1 a2 ((s.length:Int) - 1 - (i:Int))=some (.inl (s,a1 + eR a2 x,!a2,(s.length:Int) - 1 - ((i + 1:Nat):Int),()));rw [e,e'];have hle:bH 0 ((s.length - 1 - i:Nat):Int)=true:=decide_eq_true (by omega);have ha:0<=a1/\a1<=9 * i:=ha;unfold rY;rw [hle,az hx',eI hx',OD hdx,aS (a:=((s.length - 1 - i:Nat):Int)) (b:=1) (by omega) (by omega)];have hb:(0<=eR a2 x/\eR a2 x<=9):=hbd;cases a2 with
    | false => have hv:eR false x=(x.toNat:Int) - 48:=rfl;dsimp only [cond_true,cond_false,Bool.not_false];rw [ay (by omega) (by omega),hv]
    | true =>
      dsimp only [cond_true,cond_false,Bool.not_false,Bool.not_true];have em:j5 .i64 ((x.toNat:Int) - 48) 2=2 * ((x.toNat:Int) - 48):=by rw [Fg (by omega) (by omega)]; omega
      rw [em];by_cases h9:9 < 2 * ((x.toNat:Int) - 48)
      . have hv:eR true x=2 * ((x.toNat:Int) - 48) - 9:=by unfold eR; rw [aF h9]; rfl
        rw [aF h9]; dsimp only [cond_true,cond_false,Bool.not_false]; rw [aS (by omega) (by omega),ay (by omega) (by omega),hv]
      . have hv:eR true x=2 * ((x.toNat:Int) - 48):=by unfold eR; rw [ax h9]; rfl
        rw [ax h9]; dsimp only [cond_true,cond_false,Bool.not_false]; rw [ay (by omega) (by omega),hv]) (fun i x a a' hx ha hf=>by
    have hbd:=uy a.2 (hall x (List.mem_of_getElem? (Ag hx).2));simp only [Sum.inl.injEq] at hf;subst hf;show 0<=a.1 + eR a.2 x/\a.1 + eR a.2 x<=9 * ((i + 1:Nat):Int);omega) (fun a ha=>by
    have e:(s.length:Int) - 1 - ((s.reverse.length:Nat):Int) = -1:=by simp; omega
    show rY s a.1 a.2 ((s.length:Int) - 1 - ((s.reverse.length:Nat):Int))=_;rw [e];rfl)
 rw [bZ (fun x a=>(a.1 + eR a.2 x,!a.2))] at h;have h':Ig s 0 true ((s.length:Int) - 1 - ((0:Nat):Int))=some (.inl (s,(zF s.reverse (0,true)).1,(zF s.reverse (0,true)).2,(-1:Int),())):=h;have e0:(s.length:Int) - 1 - ((0:Nat):Int)=aM .i64 (ae s) 1:=by rw [aS (by unfold ae; omega) (by unfold ae; omega)]; unfold ae; omega
 have hS:∀ (xs:List UInt8) (a:Int×Bool),(∀ x∈xs,fK x=true)->0<=a.1->0<=(zF xs a).1:=by
  intro xs;induction xs with
  | nil=>intro a _ h; exact h
  | cons x r ih => intro a hx h;have:=uy a.2 (hx x (List.mem_cons_self ..));exact ih (a.1 + eR a.2 x,!a.2) (fun y hy=>hx y (List.mem_cons_of_mem _ hy)) (by show 0<=a.1 + eR a.2 x; omega)
 have h0:=hS s.reverse (0,true) (fun x hx=>hall x (List.mem_reverse.1 hx)) (by decide);rw [e0] at h';rw [h'];dsimp only [Option.bind_some,Sum.elim_inl,cond_true,cond_false,Bool.not_true];rw [nz h0,aS (by omega) (by omega),nz (by omega)]; rfl
def qL (s:List UInt8):Bool:=cond (aY s) (cond (bH 2 (ae s)) (aq (AM (sub s 0 (ae s - 1))) (dx s (ae s - 1) - 48)) false) false
theorem OA {s:List UInt8} (hd:aY s=true) (h:2<=s.length):∃ x,fK x=true/\aR (ae s - 1) s=true/\dx s (ae s - 1)=(x.toNat:Int)/\dP 0 (ae s - 1) s=true/\(sub s 0 (ae s - 1)).length<=s.length:=by
 have e:ae s - 1=((s.length - 1:Nat):Int):=by unfold ae; omega
 obtain ⟨x,hx⟩:∃ x,s[s.length - 1]? = some x:=⟨s[s.length - 1]'(by omega),by simp⟩;refine ⟨x,mS hd x (List.mem_of_getElem? hx),?_,?_,?_,?_⟩
 . rw [e]; exact az hx
 . rw [e]; exact eI hx
 . rw [e]; unfold dP fR bH;rw [decide_eq_true (by decide),decide_eq_true (by omega),decide_eq_true (by omega)]; rfl
 . rw [e]; unfold sub; simp
theorem Kr (s:List UInt8) (hs:s.length<=aT):MV s=some ((),((qL s,()),())):=by
 have hbig:aT=140737488355328:=rfl;unfold MV qL;rw [fN s hs];dsimp only [Option.bind_some];cases hd:aY s with
 | false=>rfl
 | true =>
   by_cases h2:2<=s.length
   . obtain ⟨x,h3,h4,h5,h6,h7⟩:=OA hd h2;have e1:bH 2 (ae s)=true:=decide_eq_true (by unfold ae; omega);have e2:aM .i64 (ae s) 1=ae s - 1:=aS (by unfold ae; omega) (by unfold ae; omega);rw [ax (show ¬ ae s < 2 by unfold ae; omega),e1,e2];dsimp only [cond_true,cond_false,Bool.not_true];rw [h6,h4,So _ (Nat.le_trans h7 hs),h5,Ot h3]; rfl
   . have e1:bH 2 (ae s)=false:=decide_eq_false (by unfold ae; omega);rw [aF (show ae s < 2 by unfold ae; omega),e1]; rfl
theorem IF (s:List UInt8) (hs:s.length<=aT):Nk s=some ((),((qL s,()),())):=by
 have hbig:aT=140737488355328:=rfl;unfold Nk qL;have e2:aM .i64 (ae s) 1=ae s - 1:=aS (by unfold ae; omega) (by unfold ae; omega);dsimp only;rw [gP s hs,e2];dsimp only [Option.bind_some];by_cases h2:2<=s.length
 . have e1:bH 2 (ae s)=true:=decide_eq_true (by unfold ae; omega);have e3:bH 1 (ae s - 1)=true:=decide_eq_true (by unfold ae; omega);rw [e1,e3];cases hd:aY s with
   | false=>rfl
   | true => obtain ⟨x,h3,h4,h5,h6,h7⟩:=OA hd h2;dsimp only [cond_true,cond_false,Bool.not_true];rw [h6,h4,RB _ (Nat.le_trans h7 hs),h5,OD h3]; rfl
 . have e1:bH 2 (ae s)=false:=decide_eq_false (by unfold ae; omega);have e3:bH 1 (ae s - 1)=false:=decide_eq_false (by unfold ae; omega);rw [e1,e3];cases aY s <;> rfl
def fy (s:List UInt8):Bool:=cond (bH (ae s) 19) (qL s) false
theorem uO (s:List UInt8) (hs:s.length<=aT):sS s=some ((),((fy s,()),())):=by unfold sS fy;rw [Kr s hs];cases bH (ae s) 19 <;> rfl
theorem xi (s:List UInt8) (hs:s.length<=aT):si s=some ((),((fy s,()),())):=by unfold si fy;rw [IF s hs];cases bH (ae s) 19 <;> rfl
def gy (a:Int):Int:=if a < 0 then 0 else if 4611686018427387904 < a then 4611686018427387904 else a
theorem nA (a:Int):0<=gy a/\gy a<=4611686018427387904:=by
 unfold gy;split
 . omega
 . split <;> omega
def xX (a b:Int):Int:=if 4611686018427387904 - gy b < gy a then 4611686018427387904 else gy a + gy b
theorem Fk (a:Int):K4 a 0 4611686018427387904=some ((),((gy a,()),())):=by
 unfold K4 gy;by_cases h:a < 0
 . rw [aF h,if_pos h]; rfl
 . by_cases h2:4611686018427387904 < a
   . rw [ax h,if_neg h,aF h2,if_pos h2]; rfl
   . rw [ax h,if_neg h,ax h2,if_neg h2]; rfl
theorem vg {a:Int} (h:0<=a/\a<=4611686018427387904):cO a=true:=gM.2 h
theorem PF (a b:Int):JD a b=some ((),((xX a b,()),())):=by
 unfold JD QP xX;have h1:=nA a;have h2:=nA b;rw [Fk,Fk];dsimp only [Option.bind_some];rw [qm,qm,vg h1,vg h2,aS (by omega) (by omega)];dsimp only [Option.bind_some,Bool.not_true,cond_false];by_cases h:4611686018427387904 - gy b < gy a
 . rw [aF h,if_pos h]; rfl
 . rw [ax h,if_neg h,ay (by omega) (by omega)]; rfl
theorem Oz (a b:Int):Kn a b=some ((),((xX a b,()),())):=by
 have e:∀ x:Int,Fz 0 (Hj x 4611686018427387904)=gy x:=fun x=>by unfold Fz Hj gy;split <;> split <;> (try split) <;> omega
 have h1:=nA a;have h2:=nA b;unfold Kn xX;dsimp only;rw [e,e,aS (by omega) (by omega)];by_cases h:4611686018427387904 - gy b < gy a
 . rw [aF h,if_pos h]; rfl
 . rw [ax h,if_neg h,ay (by omega) (by omega)]; rfl
def zW (xs:List jP):Int:=xs.foldl (fun a h=>xX a h.2.1) 0
theorem Ij (xs:List jP) (hs:xs.length<=aT):NH xs=some ((),((zW xs,()),())):=by
 unfold NH;have h:=aI (step:=cV pN) xs (fun i (a:Int)=>(a,xs,ae xs,((i:Nat):Int),())) (fun _ x a=>Sum.inl (xX a x.2.1)) (fun a=> .inl (a,xs,ae xs,(xs.length:Int),())) (a0:=0) (fun i x a hx=>by
  have hlt:=ai hx;show pN a xs (ae xs) (i:Int)=_;unfold pN;rw [aD hx,az hx,aV _ hx,aJ (by omega),PF]; rfl) (fun a=>by
  show pN a xs (ae xs) (xs.length:Int)=_;unfold pN;rw [aw rfl]; rfl)
 rw [bZ (fun (x:jP) a=>xX a x.2.1)] at h;have h':IK 0 xs (ae xs) 0=_:=h;rw [h']; rfl
theorem K0 (xs:List jP) (hs:xs.length<=aT):Nh xs=some ((),((zW xs,()),())):=by
 unfold Nh;have h:=aI (step:=cV oS) xs (fun i (a:Int)=>(a,xs,ae xs,((i:Nat):Int),())) (fun _ x a=>Sum.inl (xX a x.2.1)) (fun a=> .inl (a,xs,ae xs,(xs.length:Int),())) (a0:=0) (fun i x a hx=>by
  have hlt:=ai hx;show oS a xs (ae xs) (i:Int)=_;unfold oS;rw [aD hx,az hx,aV _ hx,aJ (by omega),Oz]; rfl) (fun a=>by
  show oS a xs (ae xs) (xs.length:Int)=_;unfold oS;rw [aw rfl]; rfl)
 rw [bZ (fun (x:jP) a=>xX a x.2.1)] at h;have h':Jh 0 xs (ae xs) 0=_:=h;rw [h']; rfl
def vn (r:vw):Bool:=cond (dR r.1 1 1000) (cond (dR (ae r.2.2.1) 1 8) (cond (aq (ae r.2.2.2.1) (ae r.2.2.1)) (cond (dv r.2.1) (r.2.2.1.all (fun x=>cO x.1) && r.2.2.2.1.all (fun x=>cO x.1)) false) false) false) false
def Bl (r:vw):Prop:=r.2.2.1.length<=1048576/\r.2.2.2.1.length<=1048576
theorem fZ {a b:Int}:aq a b=true↔a=b:=by simp [aq]
theorem QB (r:vw) (hb:Bl r):J0 r=some ((),((vn r,()),())):=by
 have hbig:aT=140737488355328:=rfl;obtain ⟨hb1,hb2⟩:=hb;unfold J0 vn;dsimp only;rw [lX,lX,lu];dsimp only [Option.bind_some];cases dR r.1 1 1000 with
 | false=>rfl
 | true =>
 cases dR (ae r.2.2.1) 1 8 with
 | false=>rfl
 | true =>
 cases he:aq (ae r.2.2.2.1) (ae r.2.2.1) with
 | false=>rfl
 | true =>
 cases dv r.2.1 with
 | false=>rfl
 | true =>
 have hlen:r.2.2.2.1.length=r.2.2.1.length:=by have:=fZ.1 he;unfold ae at this; omega
 dsimp only [cond_true,cond_false,Bool.not_true];have h:=aI (step:=dn pP) (r.2.2.1.zip r.2.2.2.1) (fun i (_:Unit)=>(ae r.2.2.1,((i:Nat):Int),r,())) (fun _ x _=>bif cO x.1.1 && cO x.2.1 then Sum.inl () else .inr (.inr (false,()))) (fun _=> .inl (ae r.2.2.1,(r.2.2.1.length:Int),r,())) (a0:=()) (fun i x a hx=>by
  have hx':=List.getElem?_zip_eq_some.1 hx;have hlt:=ai hx'.1;show pP (ae r.2.2.1) (i:Int) r=_;unfold pP;rw [aD hx'.1,az hx'.1,az hx'.2,aV _ hx'.1,aV _ hx'.2,qm,qm,aJ (by omega)];dsimp only [cond_true,Option.bind_some];cases cO x.1.1 <;> cases cO x.2.1 <;> rfl) (fun a=>by
  have e:(r.2.2.1.zip r.2.2.2.1).length=r.2.2.1.length:=by rw [List.length_zip,hlen,Nat.min_self]
  rw [e];show pP (ae r.2.2.1) (r.2.2.1.length:Int) r=_;unfold pP;rw [aw rfl]; rfl)
 rw [fU (fun (x:(Int×Unit)×(Int×Unit))=>cO x.1.1 && cO x.2.1)] at h;have h':Iz (ae r.2.2.1) 0 r=_:=h;rw [h'];have hz:∀ (a b:List (Int×Unit)),b.length=a.length->(a.zip b).all (fun x=>cO x.1.1 && cO x.2.1)=(a.all (fun x=>cO x.1) && b.all (fun x=>cO x.1)):=by
  intro a;induction a with
  | nil=>intro b hb; cases b with | nil=>rfl | cons _ _=>simp at hb
  | cons x a ih =>
    intro b hb;cases b with
    | nil=>simp at hb
    | cons y b => simp only [List.zip_cons_cons,List.all_cons];rw [ih b (by simpa using hb)];cases cO x.1 <;> cases cO y.1 <;> simp
 rw [hz _ _ hlen];cases r.2.2.1.all (fun x=>cO x.1) && r.2.2.2.1.all (fun x=>cO x.1) <;> rfl
theorem J2 (a b:List (Int×Unit)) (ha:a.length<=1048576) (hb:b.length<=1048576):Mg [(a,()),(b,())]=some ((),((a ++ b,()),())):=by
 have hbig:aT=140737488355328:=rfl;unfold Mg;have hlen:((a.length + b.length:Nat):Int)=(a.length:Int) + b.length:=by omega
 have h:DV [(a,()),(b,())] 0 [(a,()),(b,())] 2 0=some (.inl ([(a,()),(b,())],(a.length:Int) + b.length,[(a,()),(b,())],2,2,())):=by
  refine aU _ (x':=([(a,()),(b,())],(a.length:Int),[(a,()),(b,())],2,1,())) ?_ (aU _ (x':=([(a,()),(b,())],(a.length:Int) + b.length,[(a,()),(b,())],2,2,())) ?_ (aK _ ?_))
  . show sv [(a,()),(b,())] 0 [(a,()),(b,())] 2 0=_;unfold sv;have e:aj .i64 0 (ae (gt d54 [(a,()),(b,())] 0).1)=(a.length:Int):=by
     show aj .i64 0 (ae a)=_;rw [ay (by unfold ae; omega) (by unfold ae; omega)]; unfold ae; omega
    dsimp only;rw [e,ax (a:=(a.length:Int)) (b:=0) (by omega)]; rfl
  . show sv [(a,()),(b,())] (a.length:Int) [(a,()),(b,())] 2 1=_;unfold sv;have e:aj .i64 (a.length:Int) (ae (gt d54 [(a,()),(b,())] 1).1)=(a.length:Int) + b.length:=by
     show aj .i64 (a.length:Int) (ae b)=_;rw [ay (by unfold ae; omega) (by unfold ae; omega)]; unfold ae; omega
    dsimp only;rw [e,ax (a:=(a.length:Int) + b.length) (b:=0) (by omega)]; rfl
  . rfl
 have h1:DV [(a,()),(b,())] 0 [(a,()),(b,())] (ae [(a,()),(b,())]) 0=_:=h;have hg:Nj ((a.length:Int) + b.length)=some ((),(([],()),())):=by
  unfold Nj;dsimp only;rw [ax (by omega),aS (a:=0) (b:=0) (by decide) (by decide),aS (by omega) (by omega)];by_cases h0:(0:Int) < (a.length:Int) + b.length - (0 - 0)
  . have e2:Yf 8 ((a.length:Int) + b.length - (0 - 0))=true:=by
     unfold Yf bH;rw [decide_eq_true (by omega),decide_eq_true (by rw [hbig]; omega)]; rfl
    have e3:dP 0 0 (wM d3 ((a.length:Int) + b.length - (0 - 0)))=true:=by unfold dP fR bH;rw [decide_eq_true (by decide),decide_eq_true (by omega)]; rfl
    rw [aF h0,e2,e3];rfl
  . rw [ax h0]; rfl
 have h2:CW [] [(a,()),(b,())] 2 0=some (.inl (a ++ b,[(a,()),(b,())],2,2,())):=by
  refine aU _ (x':=(a,[(a,()),(b,())],2,1,())) ?_ (aU _ (x':=(a ++ b,[(a,()),(b,())],2,2,())) ?_ (aK _ ?_))
  . show sx [] [(a,()),(b,())] 2 0=_;unfold sx;have e:bY 8 ([]:List (Int×Unit)) (gt d54 [(a,()),(b,())] 0).1=true:=Nat.ble_eq_true_of_le (by show (0 + a.length) * 8<=aT; omega);rw [e]; rfl
  . show sx a [(a,()),(b,())] 2 1=_;unfold sx;have e:bY 8 a (gt d54 [(a,()),(b,())] 1).1=true:=Nat.ble_eq_true_of_le (by show (a.length + b.length) * 8<=aT; omega);rw [e]; rfl
  . rfl
 have h2':CW [] [(a,()),(b,())] (ae [(a,()),(b,())]) 0=_:=h2;rw [h1];dsimp only [Option.bind_some,Sum.elim_inl];rw [hg];dsimp only [Option.bind_some,Sum.elim_inl];rw [h2']; rfl
theorem Ss (r:vw) (hb:Bl r):Kd r=some ((),((vn r,()),())):=by
 have hbig:aT=140737488355328:=rfl;obtain ⟨hb1,hb2⟩:=hb;unfold Kd;rw [J2 _ _ hb1 hb2];dsimp only [Option.bind_some];have h:=aI (step:=ff oQ) (r.2.2.1 ++ r.2.2.2.1) (fun i (_:Unit)=>(ae r.2.2.1,r.2.2.1 ++ r.2.2.2.1,ae (r.2.2.1 ++ r.2.2.2.1),((i:Nat):Int),r,())) (fun _ x _=>bif cO x.1 then Sum.inl () else .inr (.inr (false,()))) (fun _=> .inl (ae r.2.2.1,r.2.2.1 ++ r.2.2.2.1,ae (r.2.2.1 ++ r.2.2.2.1),((r.2.2.1 ++ r.2.2.2.1).length:Int),r,())) (a0:=()) (fun i x a hx=>by
  have hlt:=ai hx;rw [List.length_append] at hlt;show oQ (ae r.2.2.1) (r.2.2.1 ++ r.2.2.2.1) (ae (r.2.2.1 ++ r.2.2.2.1)) (i:Int) r=_;unfold oQ;rw [aD hx,az hx,aV _ hx,Fb,aJ (by omega)];dsimp only [cond_true,Option.bind_some];cases cO x.1 <;> rfl) (fun a=>by
  show oQ (ae r.2.2.1) (r.2.2.1 ++ r.2.2.2.1) (ae (r.2.2.1 ++ r.2.2.2.1)) ((r.2.2.1 ++ r.2.2.2.1).length:Int) r=_;unfold oQ;rw [aw rfl]; rfl)
 rw [fU (fun (x:Int×Unit)=>cO x.1)] at h;have h':Ke (ae r.2.2.1) (r.2.2.1 ++ r.2.2.2.1) (ae (r.2.2.1 ++ r.2.2.2.1)) 0 r=_:=h;rw [h',List.all_append];unfold vn;cases r.2.2.1.all (fun x=>cO x.1) && r.2.2.2.1.all (fun x=>cO x.1) with
 | false => cases dR r.1 1 1000 <;> cases dR (ae r.2.2.1) 1 8 <;> cases aq (ae r.2.2.2.1) (ae r.2.2.1) <;> cases dv r.2.1 <;> rfl
 | true => dsimp only [cond_true,Option.bind_some,Sum.elim_inl];rw [jY,jY,lU];dsimp only [Option.bind_some];cases dR r.1 1 1000 <;> cases dR (ae r.2.2.1) 1 8 <;> cases aq (ae r.2.2.2.1) (ae r.2.2.1) <;> cases dv r.2.1 <;> rfl
def wX (s:eJ):Bool:=cond (cond (aY s.1) (aq (ae s.1) 6) false) (cond (cond (aY s.2.1) (aq (ae s.2.1) 4) false) (dR (ae s.2.2.1) 1 200) false) false
def ID (s:eJ):Prop:=s.1.length<=aT/\s.2.1.length<=aT
theorem Sn (s:eJ) (hb:ID s):Nb s=some ((),((wX s,()),())):=by unfold Nb wX;rw [fN _ hb.1,fN _ hb.2];dsimp only [Option.bind_some];rw [lX];cases cond (aY s.1) (aq (ae s.1) 6) false <;> cases cond (aY s.2.1) (aq (ae s.2.1) 4) false <;> rfl
theorem QH (s:eJ) (hb:ID s):M7 s=some ((),((wX s,()),())):=by unfold M7 wY wX;rw [gP _ hb.1,gP _ hb.2];dsimp only [Option.bind_some];rw [jY];cases cond (aY s.1) (aq (ae s.1) 6) false <;> cases cond (aY s.2.1) (aq (ae s.2.1) 4) false <;> rfl
def iM (a b:eJ):Bool:=cond (cr a.1 b.1) (cr a.2.1 b.2.1) false
def jL (xs:List eJ) (i:Nat) (x:eJ):Bool:=cond (wX x) ((xs.take i).all (fun y=> !iM y x)) false
def qg (xs:List eJ):Bool:=cond (allI (jL xs) 0 xs) (bH (ae xs) 6) false
def DI (xs:List eJ):Prop:=xs.length<=1048576/\∀ y∈xs,ID y
theorem qG {α:Type} (xs:List α) (i:Nat):sub xs 0 (i:Int)=xs.take i:=by unfold sub; simp
theorem jq {α:Type} {xs:List α} {i:Nat} (h:i<=xs.length):dP 0 (i:Int) xs=true:=by unfold dP fR bH;rw [decide_eq_true (by decide),decide_eq_true (by omega),decide_eq_true (by omega)]; rfl
theorem NQ (xs:List eJ) (hb:DI xs):NU xs=some ((),((qg xs,()),())):=by
 have hbig:aT=140737488355328:=rfl;have hb1:=hb.1;unfold NU;have inner:∀ (i:Nat) (x:eJ),i<=xs.length->Kx xs xs (ae xs) (i:Int) (xs.take i) (ae (xs.take i)) 0 x=some (bif (xs.take i).all (fun y=> !iM y x) then .inl (xs,xs,ae xs,(i:Int),xs.take i,ae (xs.take i),((xs.take i).length:Int),x,()) else .inr (false,())):=fun i x hi=>by
  have hti:(xs.take i).length<=xs.length:=by rw [List.length_take]; exact Nat.min_le_right _ _
  have h:=aI (step:=yV oe) (xs.take i) (fun j (_:Unit)=>(xs,xs,ae xs,(i:Int),xs.take i,ae (xs.take i),((j:Nat):Int),x,())) (fun _ y _=>bif !iM y x then Sum.inl () else .inr (.inr (false,()))) (fun _=> .inl (xs,xs,ae xs,(i:Int),xs.take i,ae (xs.take i),((xs.take i).length:Int),x,())) (a0:=()) (fun j y a hy=>by
   have hlt:=ai hy;show oe xs xs (ae xs) (i:Int) (xs.take i) (ae (xs.take i)) (j:Int) x=_;unfold oe iM;rw [aD hy,az hy,aV _ hy,aJ (by omega)];dsimp only [cond_true];cases cond (cr y.1 x.1) (cr y.2.1 x.2.1) false <;> rfl) (fun a=>by
   show oe xs xs (ae xs) (i:Int) (xs.take i) (ae (xs.take i)) ((xs.take i).length:Int) x=_;unfold oe;rw [aw rfl]; rfl)
  rw [fU (fun y=> !iM y x)] at h;exact h
 have h:=aI (step:=cV pV) xs (fun i (_:Unit)=>(xs,xs,ae xs,((i:Nat):Int),())) (fun i x _=>bif jL xs i x then Sum.inl () else .inr (.inr (false,()))) (fun _=> .inl (xs,xs,ae xs,(xs.length:Int),())) (a0:=()) (fun i x a hx=>by
  have hlt:=ai hx;show pV xs xs (ae xs) (i:Int)=_;unfold pV jL;rw [aD hx,az hx,aV _ hx];dsimp only [cond_true];rw [Sn x (hb.2 x (List.mem_of_getElem? hx)),jq (Nat.le_of_lt hlt),qG];dsimp only [cond_true,Option.bind_some];rw [inner i x (Nat.le_of_lt hlt)];cases wX x with
  | false=>rfl
  | true =>
    cases (xs.take i).all (fun y=> !iM y x) with
    | false=>rfl
    | true =>
      dsimp only [cond_true,cond_false,Bool.not_true,Option.bind_some,Sum.elim_inl];rw [aJ (by omega)]; rfl) (fun a=>by
  show pV xs xs (ae xs) (xs.length:Int)=_;unfold pV;rw [aw rfl]; rfl)
 rw [cN] at h;have h':JV xs xs (ae xs) 0=_:=h;rw [h'];unfold qg;cases allI (jL xs) 0 xs <;> rfl
def gz {α:Type} (p:α->Bool):Nat->List α->Int
 | _,[] => -1
 | i,x :: r=>bif p x then (i:Int) else gz p (i + 1) r
theorem mZ {α Y:Type} (p:α->Bool) (y:Int->Y) (z:Y) (out:Y->Int) (hy:∀ n,out (y n)=n) (hz:out z = -1):∀ (xs:List α) (i:Nat),out (jX (fun i x _=>bif p x then Sum.inr (y (i:Int)) else .inl ()) (fun _=>z) i xs ())=gz p i xs
 | [],_=>hz
 | x :: r,i=>by
   rw [jX,gz];cases hp:p x with
   | true=>exact hy _
   | false=>exact mZ p y z out hy hz r (i + 1)
theorem xR {α:Type} (p:α->Bool):∀ (xs:List α) (i:Nat),gz p i xs = -1∨((i:Int)<=gz p i xs/\gz p i xs < i + xs.length)
 | [],_=> .inl rfl
 | x :: r,i=>by
   rw [gz];cases p x with
   | true=>right; simp only [cond_true,List.length_cons]; omega
   | false =>
     rcases xR p r (i + 1) with h | h
     . exact .inl h
     . right; simp only [cond_false,List.length_cons]; omega
theorem BZ {α:Type} (p:α->Bool):∀ {xs:List α} {i:Nat} {x:α} (k:Nat),xs[i]? = some x->p x=true->(gz p k xs=((k + i:Nat):Int)↔(xs.take i).all (fun y=> !p y)=true)
 | [],i,x,k,h,_=>by simp at h
 | y :: r,0,x,k,h,hp=>by simp only [List.getElem?_cons_zero,Option.some.injEq] at h;subst h;rw [gz,hp]; simp
 | y :: r,i + 1,x,k,h,hp=>by
   have ih:=BZ p (xs:=r) (i:=i) (x:=x) (k + 1) (by simpa using h) hp;rw [gz,List.take_succ_cons,List.all_cons];cases hy:p y with
   | true => simp only [cond_true,Bool.not_true,Bool.false_and,Bool.false_eq_true,iff_false];omega
   | false => simp only [cond_false,Bool.not_false,Bool.true_and];rw [<- ih,show k + 1 + i=k + (i + 1) by omega]
theorem K2 (xs:List eJ) (a b:List UInt8) (hs:xs.length<=1048576):NX xs a b=some ((),((gz (fun y=>cond (cr y.1 a) (cr y.2.1 b) false) 0 xs,()),())):=by
 have hbig:aT=140737488355328:=rfl;unfold NX RA;have h:=aI (step:=cV pI) xs (fun i (_:Unit)=>(xs,((a,()),(b,()),()),ae xs,((i:Nat):Int),())) (fun i y _=>bif cond (cr y.1 a) (cr y.2.1 b) false then Sum.inr (.inr ((i:Int),())) else Sum.inl ()) (fun _=> .inl (xs,((a,()),(b,()),()),ae xs,(xs.length:Int),())) (a0:=()) (fun i y u hy=>by
  have hlt:=ai hy;show pI xs ((a,()),(b,()),()) (ae xs) (i:Int)=_;unfold pI Rp;rw [aD hy,az hy,aV _ hy,aJ (by omega)];dsimp only [cond_true,Option.bind_some];cases cond (cr y.1 a) (cr y.2.1 b) false <;> rfl) (fun u=>by
  show pI xs ((a,()),(b,()),()) (ae xs) (xs.length:Int)=_;unfold pI;rw [aw rfl]; rfl)
 have h':Lc xs ((a,()),(b,()),()) (ae xs) 0=_:=h;rw [h'];have hf:=mZ (Y:=Sum ((List eJ)×(((List UInt8)×Unit)×((List UInt8)×Unit)×Unit)×Int×Int×Unit) (Int×Unit)) (fun (y:eJ)=>cond (cr y.1 a) (cr y.2.1 b) false) (fun n=> .inr (n,())) (.inl (xs,((a,()),(b,()),()),ae xs,(xs.length:Int),())) (fun y=>match y with | .inl _ => -1 | .inr z=>z.1) (fun _=>rfl) rfl xs 0;rw [<- hf];dsimp only [Option.bind_some];cases jX _ _ 0 xs () <;> rfl
theorem L9 (xs:List eJ) (hb:DI xs):MM xs=some ((),((qg xs,()),())):=by
 have hbig:aT=140737488355328:=rfl;have hb1:=hb.1;unfold MM;have h:=aI (step:=cV o7) xs (fun i (_:Unit)=>(xs,xs,ae xs,((i:Nat):Int),())) (fun i x _=>bif jL xs i x then Sum.inl () else .inr (.inr (false,()))) (fun _=> .inl (xs,xs,ae xs,(xs.length:Int),())) (a0:=()) (fun i x a hx=>by
  have hlt:=ai hx;show o7 xs xs (ae xs) (i:Int)=_;unfold o7 jL;rw [aD hx,az hx,aV _ hx];dsimp only [cond_true];rw [QH x (hb.2 x (List.mem_of_getElem? hx))];dsimp only [cond_true,Option.bind_some];rw [K2 xs _ _ hb1,aJ (by omega)];have hp:cond (cr x.1 x.1) (cr x.2.1 x.2.1) false=true:=by rw [cU,cU]; rfl
  have hk:=BZ (fun (y:eJ)=>cond (cr y.1 x.1) (cr y.2.1 x.2.1) false) 0 hx hp;rw [Nat.zero_add,<- fZ] at hk;have hk':aq (gz (fun (y:eJ)=>cond (cr y.1 x.1) (cr y.2.1 x.2.1) false) 0 xs) (i:Int)=(xs.take i).all (fun y=> !iM y x):=by rw [Bool.eq_iff_iff]; exact hk
  cases wX x with
  | false=>rfl
  | true =>
    dsimp only [cond_true,cond_false,Bool.not_true,Option.bind_some];rw [hk'];cases (xs.take i).all (fun y=> !iM y x) <;> rfl) (fun a=>by
  show o7 xs xs (ae xs) (xs.length:Int)=_;unfold o7;rw [aw rfl]; rfl)
 rw [cN] at h;have h':K1 xs xs (ae xs) 0=_:=h;rw [h'];unfold qg;cases allI (jL xs) 0 xs <;> rfl
abbrev aO:=List UInt8×Int×Int×Int×Int×List jP×Int×Int×List (Int×Unit)×List (Int×Unit)×List eJ×Unit
def ye (a:aO):vw:=(a.2.2.2.2.2.2.1,a.2.2.2.2.2.2.2.1,a.2.2.2.2.2.2.2.2.1,a.2.2.2.2.2.2.2.2.2.1,())
def iX (a:aO):Prop:=a.1.length<=1048576/\(a.2.2.2.2.2.1.length<=1048576/\∀ y∈a.2.2.2.2.2.1,y.1.length<=1048576)/\Bl (ye a)/\a.2.2.2.2.2.2.2.2.2.2.1.length<=1048576/\∀ y∈a.2.2.2.2.2.2.2.2.2.2.1,y.1.length<=1048576/\y.2.1.length<=1048576/\y.2.2.1.length<=1048576
theorem cD {n:Nat} (h:n<=1048576):n<=aT:=Nat.le_trans h (by decide)
theorem iX.hs {a:aO} (h:iX a):DK a.2.2.2.2.2.1:=⟨cD h.2.1.1,fun y hy=>cD (h.2.1.2 y hy)⟩
theorem iX.ss {a:aO} (h:iX a):DI a.2.2.2.2.2.2.2.2.2.2.1:=⟨h.2.2.2.1,fun y hy=>⟨cD (h.2.2.2.2 y hy).1,cD (h.2.2.2.2 y hy).2.1⟩⟩
def wE (a:aO):Bool:=cond (fy a.1) (cond (dR a.2.1 0 9007199254740992) (cond (dR a.2.2.2.1 0 1000) (cond (dR a.2.2.2.2.1 0 9007199254740992) (cond (cO a.2.2.1) (cond (oT a.2.2.2.2.2.1) (cond (vn (ye a)) (cond (qg a.2.2.2.2.2.2.2.2.2.2.1) (bH (xX a.2.2.1 (zW a.2.2.2.2.2.1)) a.2.1) false) false) false) false) false) false) false) false
theorem QQ (a:aO) (hb:iX a):Xa a=some ((),((wE a,()),())):=by
 have h1:=uO a.1 (cD hb.1);have h2:=Na _ hb.hs;have h3:J0 (a.2.2.2.2.2.2.1,a.2.2.2.2.2.2.2.1,a.2.2.2.2.2.2.2.2.1,a.2.2.2.2.2.2.2.2.2.1,())=_:=QB (ye a) hb.2.2.1;have h4:=NQ _ hb.ss;have h5:=Ij _ hb.hs.1;unfold Xa wE;rw [h1,h2,h3,h4,h5,lX,lX,lX,qm];dsimp only [Option.bind_some];rw [PF];dsimp only [Option.bind_some];cases fy a.1 <;> first | rfl | skip
 cases dR a.2.1 0 9007199254740992 <;> first | rfl | skip
 cases dR a.2.2.2.1 0 1000 <;> first | rfl | skip
 cases dR a.2.2.2.2.1 0 9007199254740992 <;> first | rfl | skip
 cases cO a.2.2.1 <;> first | rfl | skip
 cases oT a.2.2.2.2.2.1 <;> first | rfl | skip
 cases vn (ye a) <;> first | rfl | skip
 cases qg a.2.2.2.2.2.2.2.2.2.2.1 <;> rfl
theorem Rs (a:aO) (hb:iX a):XF a=some ((),((wE a,()),())):=by
 have h1:=xi a.1 (cD hb.1);have h2:=LX _ hb.hs;have h3:Kd (a.2.2.2.2.2.2.1,a.2.2.2.2.2.2.2.1,a.2.2.2.2.2.2.2.2.1,a.2.2.2.2.2.2.2.2.2.1,())=_:=Ss (ye a) hb.2.2.1;have h4:=L9 _ hb.ss;have h5:=K0 _ hb.hs.1;unfold XF wE;rw [h1,h2,h3,h4,h5,jY,jY,jY,Fb];dsimp only [Option.bind_some];rw [Oz];dsimp only [Option.bind_some];cases fy a.1 <;> first | rfl | skip
 cases dR a.2.1 0 9007199254740992 <;> first | rfl | skip
 cases dR a.2.2.2.1 0 1000 <;> first | rfl | skip
 cases dR a.2.2.2.2.1 0 9007199254740992 <;> first | rfl | skip
 cases cO a.2.2.1 <;> first | rfl | skip
 cases oT a.2.2.2.2.2.1 <;> first | rfl | skip
 cases vn (ye a) <;> first | rfl | skip
 cases qg a.2.2.2.2.2.2.2.2.2.2.1 <;> rfl
theorem df {α:Type} {b:Nat} {xs:List α} (h:xs.length * b<=aT):bY b ([]:List α) xs=true:=Nat.ble_eq_true_of_le (by simpa using h)
theorem HH (r:vw) (hb:Bl r):Ic r=some ((),(r,())):=by have hbig:aT=140737488355328:=rfl;obtain ⟨h1,h2⟩:=hb;unfold Ic;rw [df (by omega),df (by omega)]; rfl
theorem Ih (r:vw) (hb:Bl r):Ki r=some ((),(r,())):=by have hbig:aT=140737488355328:=rfl;obtain ⟨h1,h2⟩:=hb;unfold Ki BQ;rw [df (by omega),df (by omega)]; rfl
theorem GH (xs:List eJ) (hs:xs.length<=1048576) (hb:∀ y∈xs,y.2.2.1.length<=1048576):MQ xs=some ((),((xs,()),())):=by
 have hbig:aT=140737488355328:=rfl;unfold MQ;have h:=aH (step:=cV pj) xs (fun i (a:List eJ)=>(a,xs,ae xs,((i:Nat):Int),())) (fun _ x a=>Sum.inl (a ++ [x])) (fun a=> .inl (a,xs,ae xs,(xs.length:Int),())) (fun i a=>a.length=i) (a0:=[]) rfl (fun i x a hx ha=>by
  have hlt:=ai hx;have hm:=hb x (List.mem_of_getElem? hx);show pj a xs (ae xs) (i:Int)=_;unfold pj;have e:∀ y:eJ,bY 56 a [y]=true:=fun y=>Nat.ble_eq_true_of_le (by simp; omega)
  rw [aD hx,az hx,aV _ hx];dsimp only [cond_true];rw [df (by omega),e,aJ (by omega)];rfl) (fun i x a a' hx ha hf=>by
  simp only [Sum.inl.injEq] at hf;rw [<- hf,List.length_append,ha]; rfl) (fun a ha=>by
  show pj a xs (ae xs) (xs.length:Int)=_;unfold pj;rw [aw rfl]; rfl)
 rw [fH] at h;have h':JB [] xs (ae xs) 0=_:=h;rw [h']; rfl
theorem FN (xs:List eJ) (hs:xs.length<=1048576) (hb:∀ y∈xs,y.2.2.1.length<=1048576):Og xs=some ((),((xs,()),())):=by
 have hbig:aT=140737488355328:=rfl;unfold Og;have h:=aH (step:=cV pv) xs (fun i (a:List eJ)=>(a,xs,ae xs,((i:Nat):Int),())) (fun _ x a=>Sum.inl (a ++ [x])) (fun a=> .inl (a,xs,ae xs,(xs.length:Int),())) (fun i a=>a.length=i) (a0:=[]) rfl (fun i x a hx ha=>by
  have hlt:=ai hx;have hm:=hb x (List.mem_of_getElem? hx);show pv a xs (ae xs) (i:Int)=_;unfold pv Lt;have e:∀ y:eJ,bY 56 a [y]=true:=fun y=>Nat.ble_eq_true_of_le (by simp; omega)
  rw [aD hx,az hx,aV _ hx];dsimp only [cond_true];rw [df (by omega),aJ (by omega)];dsimp only [cond_true,Option.bind_some];rw [e];rfl) (fun i x a a' hx ha hf=>by
  simp only [Sum.inl.injEq] at hf;rw [<- hf,List.length_append,ha]; rfl) (fun a ha=>by
  show pv a xs (ae xs) (xs.length:Int)=_;unfold pv;rw [aw rfl]; rfl)
 rw [fH] at h;have h':Km [] xs (ae xs) 0=_:=h;rw [h']; rfl
theorem Ch (a:aO) (hb:iX a):Ug a=some ((),(a,())):=by have hbig:aT=140737488355328:=rfl;have h1:=hb.2.1.1;have h2:Ic (a.2.2.2.2.2.2.1,a.2.2.2.2.2.2.2.1,a.2.2.2.2.2.2.2.2.1,a.2.2.2.2.2.2.2.2.2.1,())=_:=HH (ye a) hb.2.2.1;have h3:=GH _ hb.2.2.2.1 (fun y hy=>(hb.2.2.2.2 y hy).2.2);unfold Ug;rw [df (by omega),h2,h3]; rfl
theorem HB (a:aO) (hb:iX a):MW a=some ((),(a,())):=by have hbig:aT=140737488355328:=rfl;have h1:=hb.2.1.1;have h2:Ki (a.2.2.2.2.2.2.1,a.2.2.2.2.2.2.2.1,a.2.2.2.2.2.2.2.2.1,a.2.2.2.2.2.2.2.2.2.1,())=_:=Ih (ye a) hb.2.2.1;have h3:=FN _ hb.2.2.2.1 (fun y hy=>(hb.2.2.2.2 y hy).2.2);unfold MW JH;rw [df (by omega),h2,h3]; rfl
def gU (h:Nat) (c:UInt8):Nat:=((h ^^^ c.toNat) * 16777619) % 4294967296
def CV (s:List UInt8):Nat:=s.foldl gU 2166136261
theorem C4 (h:Nat) (c:UInt8):gU h c < 4294967296:=Nat.mod_lt _ (by decide)
theorem JL {a c:Nat} (ha:a < 4294967296) (hc:c < 256):a ^^^ c < 4294967296:=by have:=Nat.xor_lt_two_pow (x:=a) (y:=c) (n:=32) (by omega) (by omega);omega
theorem jj (n a:Nat):BitVec.ofInt n (a:Int)=BitVec.ofNat n a:=by simp
theorem DB {a:Nat} (c:UInt8) (ha:a < 4294967296):zK .i64 (j5 .i64 (AW .i64 (a:Int) (bG .i64 (c.toNat:Int))) 16777619) 4294967295=((gU a c:Nat):Int):=by
 have hc:c.toNat < 256:=c.toNat_lt;have hx:=JL ha hc;have e1:bG .i64 (c.toNat:Int)=(c.toNat:Int):=IntWalk.i64_in _ (by omega);have e2:AW .i64 (a:Int) (c.toNat:Int)=((a ^^^ c.toNat:Nat):Int):=by
  unfold AW;have:(BitVec.ofInt IntKind.i64.bits (a:Int) ^^^ BitVec.ofInt IntKind.i64.bits (c.toNat:Int)).toNat=a ^^^ c.toNat:=by
   rw [jj,jj,BitVec.toNat_xor,BitVec.toNat_ofNat,BitVec.toNat_ofNat];have h64:2 ^ IntKind.i64.bits=18446744073709551616:=by decide
   rw [h64,Nat.mod_eq_of_lt (by omega),Nat.mod_eq_of_lt (by omega)]
  rw [this];exact IntWalk.i64_in _ (by omega)
 have e3:j5 .i64 ((a ^^^ c.toNat:Nat):Int) 16777619=(((a ^^^ c.toNat) * 16777619:Nat):Int):=by unfold j5;rw [IntWalk.i64_in _ (by omega)];omega
 rw [e1,e2,e3];unfold zK gU;have:(BitVec.ofInt IntKind.i64.bits (((a ^^^ c.toNat) * 16777619:Nat):Int) &&& BitVec.ofInt IntKind.i64.bits (4294967295:Int)).toNat=((a ^^^ c.toNat) * 16777619) % 4294967296:=by
  have h32:(4294967295:Int)=((4294967295:Nat):Int):=rfl;rw [h32,jj,jj,BitVec.toNat_and,BitVec.toNat_ofNat,BitVec.toNat_ofNat];have h64:2 ^ IntKind.i64.bits=18446744073709551616:=by decide
  rw [h64,Nat.mod_eq_of_lt (by omega:(a ^^^ c.toNat) * 16777619 < 18446744073709551616),Nat.mod_eq_of_lt (by omega:4294967295 < 18446744073709551616)];exact Nat.and_two_pow_sub_one_eq_mod _ 32
 rw [this];have:=Nat.mod_lt ((a ^^^ c.toNat) * 16777619) (show 0 < 4294967296 by decide);exact IntWalk.i64_in _ (by omega)
theorem D0 {a:Nat} (c:UInt8) (ha:a < 4294967296):j5 .u32 (AW .u32 (a:Int) (bG .u32 (c.toNat:Int))) 16777619=((gU a c:Nat):Int):=by
 have hc:c.toNat < 256:=c.toNat_lt;have hx:=JL ha hc;have e1:bG .u32 (c.toNat:Int)=(c.toNat:Int):=IntWalk.u32_in _ (by omega);have e2:AW .u32 (a:Int) (c.toNat:Int)=((a ^^^ c.toNat:Nat):Int):=by
  unfold AW;have:(BitVec.ofInt IntKind.u32.bits (a:Int) ^^^ BitVec.ofInt IntKind.u32.bits (c.toNat:Int)).toNat=a ^^^ c.toNat:=by
   rw [jj,jj,BitVec.toNat_xor,BitVec.toNat_ofNat,BitVec.toNat_ofNat];have h32:2 ^ IntKind.u32.bits=4294967296:=by decide
   rw [h32,Nat.mod_eq_of_lt ha,Nat.mod_eq_of_lt (by omega)]
  rw [this];exact IntWalk.u32_in _ (by omega)
 rw [e1,e2];unfold j5 gU;rw [IntKind.wrap_u32];omega
theorem V6 (s:List UInt8) (hb:s.length<=aT):LD s=some ((),((((CV s:Nat):Int),()),())):=by
 have hbig:aT=140737488355328:=rfl;unfold LD;have h:=aH (step:=dn oI) s (fun i (a:Nat)=>(s,((a:Nat):Int),((i:Nat):Int),())) (fun _ x a=>Sum.inl (gU a x)) (fun a=> .inl (s,((a:Nat):Int),(s.length:Int),())) (fun _ a=>a < 4294967296) (a0:=2166136261) (by decide) (fun i x a hx ha=>by
  have hlt:=ai hx;show oI s (a:Int) (i:Int)=_;unfold oI;rw [aD hx,az hx,eI hx,aJ (by omega),DB x ha]; rfl) (fun i x a a' hx ha hf=>by
  simp only [Sum.inl.injEq] at hf;rw [<- hf]; exact C4 a x) (fun a ha=>by
  show oI s (a:Int) (s.length:Int)=_;unfold oI;rw [aw rfl]; rfl)
 rw [bZ (fun x a=>gU a x)] at h;have h':Kg s 2166136261 0=_:=h;rw [h']; rfl
theorem Md (s:List UInt8):CV s < 4294967296:=by
 have:∀ (s:List UInt8) (a:Nat),a < 4294967296->s.foldl gU a < 4294967296:=fun s=>by
  induction s with
  | nil=>exact fun a h=>h
  | cons c r ih=>exact fun a _=>ih _ (C4 a c)
 exact this s _ (by decide)
theorem V2 (s:List UInt8) (hb:s.length<=aT):LY s=some ((),((((CV s:Nat):Int),()),())):=by
 have hbig:aT=140737488355328:=rfl;unfold LY;have h:=aH (step:=cV qf) s (fun i (a:Nat)=>(s,((a:Nat):Int),ae s,((i:Nat):Int),())) (fun _ x a=>Sum.inl (gU a x)) (fun a=> .inl (s,((a:Nat):Int),ae s,(s.length:Int),())) (fun _ a=>a < 4294967296) (a0:=2166136261) (by decide) (fun i x a hx ha=>by
  have hlt:=ai hx;show qf s (a:Int) (ae s) (i:Int)=_;unfold qf;rw [aD hx,az hx,eI hx,aJ (by omega),D0 x ha]; rfl) (fun i x a a' hx ha hf=>by
  simp only [Sum.inl.injEq] at hf;rw [<- hf]; exact C4 a x) (fun a ha=>by
  show qf s (a:Int) (ae s) (s.length:Int)=_;unfold qf;rw [aw rfl]; rfl)
 rw [bZ (fun x a=>gU a x)] at h;have h':KD s 2166136261 (ae s) 0=_:=h;rw [h'];have:=Md s;have e:bG .i64 ((CV s:Nat):Int)=((CV s:Nat):Int):=IntWalk.i64_in _ (by omega);show some ((),((bG .i64 ((CV s:Nat):Int),()),()))=_;rw [e]
def aG (s:List UInt8) (n:Int):Int:=cond (au n 1) 0 (fz ((CV s:Nat):Int) n)
theorem qC (s:List UInt8) (n:Int) (hb:s.length<=aT):B5 s n=some ((),((aG s n,()),())):=by
 unfold B5 aG;rw [V6 s hb];by_cases h:n < 1
 . rw [aF h]; rfl
 . rw [ax h];have:aq n 0=false:=by
    rw [Bool.eq_false_iff]; intro hh; rw [fZ] at hh; omega
   dsimp only [cond_false,Option.bind_some];rw [this]; rfl
theorem Cs (s:List UInt8) (n:Int) (hb:s.length<=aT):Kh s n=some ((),((aG s n,()),())):=by
 unfold Kh aG;rw [V2 s hb];by_cases h:n < 1
 . rw [aF h]; rfl
 . rw [ax h];have:aq n 0=false:=by
    rw [Bool.eq_false_iff]; intro hh; rw [fZ] at hh; omega
   dsimp only [cond_false,Option.bind_some];rw [this]; rfl
def jE (xs:List aO) (i:Nat) (x:aO):Bool:=cond (wE x) (cond (decide (0 < i)) (kj (gt ([],0,0,0,0,[],0,0,[],[],[],()) xs ((i:Int) - 1)).1 x.1) true) false
def Bn (b:List aO):Bool:=cond (allI (jE b) 0 b) (bH (ae b) 6) false
def Ez (b:List aO):Prop:=b.length<=1048576/\∀ a∈b,iX a
theorem Sk (b:List aO) (hb:Ez b):Ip (b,())=some ((),((Bn b,()),())):=by
 have hbig:aT=140737488355328:=rfl;have hl:=hb.1;unfold Ip;have h:=aI (step:=cV pO) b (fun i (_:Unit)=>(b,ae b,((i:Nat):Int),(b,()),())) (fun i x _=>bif jE b i x then Sum.inl () else .inr (.inr (false,()))) (fun _=> .inl (b,ae b,(b.length:Int),(b,()),())) (a0:=()) (fun i x a hx=>by
  have hlt:=ai hx;show pO b (ae b) (i:Int) (b,())=_;unfold pO jE;rw [aD hx,az hx,aV _ hx];dsimp only [cond_true];rw [QQ x (hb.2 x (List.mem_of_getElem? hx)),aJ (by omega)];dsimp only [Option.bind_some];cases wE x with
  | false=>rfl
  | true =>
    by_cases h0:0 < i
    . rw [aF (show (0:Int) < i by omega),aS (by omega) (by omega),iO hx h0];dsimp only [cond_true,cond_false,Bool.not_true];have e:gt d59 b ((i:Int) - 1)=gt ([],0,0,0,0,[],0,0,[],[],[],()) b ((i:Int) - 1):=rfl;rw [e,decide_eq_true h0];cases kj (gt ([],0,0,0,0,[],0,0,[],[],[],()) b ((i:Int) - 1)).1 x.1 <;> rfl
    . rw [ax (show ¬ (0:Int) < i by omega),decide_eq_false h0]; rfl) (fun a=>by
  show pO b (ae b) (b.length:Int) (b,())=_;unfold pO;rw [aw rfl]; rfl)
 rw [cN] at h;have h':Lq b (ae b) 0 (b,())=_:=h;dsimp only;rw [h'];unfold Bn;cases allI (jE b) 0 b <;> rfl
theorem QX (b:List aO) (hb:Ez b):HO (b,())=some ((),((Bn b,()),())):=by
 have hbig:aT=140737488355328:=rfl;have hl:=hb.1;unfold HO;have h:=aI (step:=cV pE) b (fun i (_:Unit)=>(b,ae b,((i:Nat):Int),(b,()),())) (fun i x _=>bif jE b i x then Sum.inl () else .inr (.inr (false,()))) (fun _=> .inl (b,ae b,(b.length:Int),(b,()),())) (a0:=()) (fun i x a hx=>by
  have hlt:=ai hx;show pE b (ae b) (i:Int) (b,())=_;unfold pE jE;rw [aD hx,az hx,aV _ hx];dsimp only [cond_true];rw [Rs x (hb.2 x (List.mem_of_getElem? hx)),aJ (by omega)];dsimp only [Option.bind_some];cases wE x with
  | false=>rfl
  | true =>
    by_cases h0:0 < i
    . rw [aF (show (0:Int) < i by omega),aS (by omega) (by omega),iO hx h0];dsimp only [cond_true,cond_false,Bool.not_true];rw [ux];have e:gt d59 b ((i:Int) - 1)=gt ([],0,0,0,0,[],0,0,[],[],[],()) b ((i:Int) - 1):=rfl;rw [e,decide_eq_true h0];cases kj (gt ([],0,0,0,0,[],0,0,[],[],[],()) b ((i:Int) - 1)).1 x.1 <;> rfl
    . rw [ax (show ¬ (0:Int) < i by omega),decide_eq_false h0]; rfl) (fun a=>by
  show pE b (ae b) (b.length:Int) (b,())=_;unfold pE;rw [aw rfl]; rfl)
 rw [cN] at h;have h':IB b (ae b) 0 (b,())=_:=h;dsimp only;rw [h'];unfold Bn;cases allI (jE b) 0 b <;> rfl
abbrev dD (a b:aO):Bool:=kj a.1 b.1
theorem fw:Lu dD:=NR (fun (a:aO)=>a.1)
abbrev bQ:Nat:=1099511627776
theorem Mf (a b:aO):∃ v,CO a b=some ((),((v,()),()))/\au v 0=dD a b:=by
 unfold CO;cases h:kj a.1 b.1 with
 | true=>exact ⟨_,rfl,by show _=kj a.1 b.1; rw [h]; rfl⟩
 | false =>
   cases !(R7 a.1 b.1) with
   | true=>exact ⟨_,rfl,by show _=kj a.1 b.1; rw [h]; rfl⟩
   | false=>exact ⟨_,rfl,by show _=kj a.1 b.1; rw [h]; rfl⟩
theorem Ra (P S:List aO) (x:aO) (b i:Int):∀ (n:Nat) (A1 A2:List aO),A1.length=n->(P ++ (A1 ++ x :: A2) ++ S).length<=bQ ->
 ∃ B1 B2 j',A1=B1 ++ B2/\(∀ y∈B2,dD x y=true)/\(∀ C y,B1=C ++ [y]->dD x y=false) /\
  AE (P ++ (A1 ++ x :: A2) ++ S) (P.length:Int) b () i ((P.length + A1.length:Nat):Int)=some (.inl (P ++ (B1 ++ x :: (B2 ++ A2)) ++ S,(P.length:Int),b,(),i,j',())):=by
 intro n;induction n with
 | zero => intro A1 A2 hn hl;have:A1=[]:=List.length_eq_zero_iff.1 hn;subst this;refine ⟨[],[],((P.length + 0:Nat):Int),rfl,fun y hy=>by simp at hy,fun C y h=>by simp at h,aK _ ?_⟩;show oJ (P ++ ([] ++ x :: A2) ++ S) (P.length:Int) b () i ((P.length + 0:Nat):Int)=_;unfold oJ;rw [ax (by omega)];rfl
 | succ n ih =>
   intro A1 A2 hn hl;obtain ⟨B,y,rfl⟩:=ui (a:=A1) (fun h=>by subst h; simp at hn);have hB:B.length=n:=by simpa using hn
   simp only [bQ,List.length_append,List.length_cons,List.length_nil] at hl;have e0:P ++ (B ++ [y] ++ x :: A2) ++ S=(P ++ B) ++ y :: x :: (A2 ++ S):=by simp
   have e1:P ++ (B ++ [y] ++ x :: A2) ++ S=(P ++ B ++ [y]) ++ x :: (A2 ++ S):=by simp
   have hj:((P.length + (B ++ [y]).length:Nat):Int)=((P ++ B ++ [y]).length:Int):=by simp <;> omega
   have hj1:aM .i64 ((P.length + (B ++ [y]).length:Nat):Int) 1=((P ++ B).length:Int):=by rw [aS (by simp <;> omega) (by simp <;> omega)]; simp <;> omega
   obtain ⟨v,hv1,hv2⟩:=Mf x y
   have hstep:oJ (P ++ (B ++ [y] ++ x :: A2) ++ S) (P.length:Int) b () i ((P.length + (B ++ [y]).length:Nat):Int) =
    cond (dD x y) (some (.inl (P ++ (B ++ x :: (y :: A2)) ++ S,(P.length:Int),b,(),i,((P.length + B.length:Nat):Int),()))) (some (.inr (.inl (P ++ (B ++ [y] ++ x :: A2) ++ S,(P.length:Int),b,(),i,((P.length + (B ++ [y]).length:Nat):Int),())))):=by
    unfold oJ;have i1:aR ((P.length + (B ++ [y]).length:Nat):Int) (P ++ (B ++ [y] ++ x :: A2) ++ S)=true:=by rw [e1]; exact im _ _ _ hj
    have i2:aR ((P ++ B).length:Int) (P ++ (B ++ [y] ++ x :: A2) ++ S)=true:=by rw [e0]; exact im _ _ _ rfl
    have a1:AF ((P.length + (B ++ [y]).length:Nat):Int) (P ++ (B ++ [y] ++ x :: A2) ++ S) ((P.length + (B ++ [y]).length:Nat):Int)=true:=by rw [e1]; exact j9 _ _ _ hj
    have a2:AF ((P ++ B).length:Int) (P ++ (B ++ [y] ++ x :: A2) ++ S) ((P ++ B).length:Int)=true:=by rw [e0]; exact j9 _ _ _ rfl
    have t1:gt d59 (P ++ (B ++ [y] ++ x :: A2) ++ S) ((P.length + (B ++ [y]).length:Nat):Int)=x:=by rw [e1]; exact wC _ _ _ _ hj
    have t2:gt d59 (P ++ (B ++ [y] ++ x :: A2) ++ S) ((P ++ B).length:Int)=y:=by rw [e0]; exact wC _ _ _ _ rfl
    rw [aF (by simp <;> omega)];dsimp only [cond_true];rw [hj1,i1,i2,t1,t2,a1,a2,hv1];dsimp only [cond_true,Option.bind_some];rw [hv2];cases dD x y with
    | false=>rfl
    | true =>
      have sw:Hy d59 (P ++ (B ++ [y] ++ x :: A2) ++ S) ((P.length + (B ++ [y]).length:Nat):Int) ((P ++ B).length:Int)=P ++ (B ++ x :: (y :: A2)) ++ S:=by
       rw [e0];unfold Hy;have:=yR d59 (P ++ B) y x (A2 ++ S);have k1:((P.length + (B ++ [y]).length:Nat):Int).toNat=(P ++ B).length + 1:=by simp <;> omega
       rw [k1,Int.toNat_natCast,this];simp
      rw [sw];have k2:((P ++ B).length:Int)=((P.length + B.length:Nat):Int):=by simp
      rw [k2]
   cases hc:dD x y with
   | false => rw [hc] at hstep;refine ⟨B ++ [y],[],((P.length + (B ++ [y]).length:Nat):Int),by simp,fun y hy=>by simp at hy,fun C z h => ?_,aK _ hstep⟩;have:=List.append_inj' h rfl;have h2:=this.2;simp only [List.cons.injEq,and_true] at h2;rw [<- h2]; exact hc
   | true =>
     rw [hc] at hstep;obtain ⟨B1,B2,j',q1,q2,q3,q4⟩:=ih B (y :: A2) hB (by simp [bQ]; omega);refine ⟨B1,B2 ++ [y],j',by rw [q1]; simp,fun z hz => ?_,q3,aU _ hstep ?_⟩
     . rcases List.mem_append.1 hz with hz | hz
       . exact q2 z hz
       . simp only [List.mem_singleton] at hz; subst hz; exact hc
     . have:B2 ++ [y] ++ A2=B2 ++ y :: A2:=by simp
       rw [this];exact q4
theorem MP (P S:List aO) (b:Int):∀ (n:Nat) (A R:List aO),R.length=n->lL dD A->b=((P.length + A.length + R.length:Nat):Int)->(P ++ (A ++ R) ++ S).length<=bQ ->
 ∃ M,lL dD M/\ez dD (A ++ R) M/\pf (P ++ (A ++ R) ++ S) (P.length:Int) b () ((P.length + A.length:Nat):Int)=some (.inl (P ++ M ++ S,(P.length:Int),b,(),b,())):=by
 intro n;induction n with
 | zero =>
   intro A R hn hA hb hl;have:R=[]:=List.length_eq_zero_iff.1 hn;subst this;have hb':b=((P.length + A.length:Nat):Int):=by simpa using hb
   refine ⟨A,hA,by rw [List.append_nil]; exact ez.refl _,aK _ ?_⟩;show lW (P ++ (A ++ []) ++ S) (P.length:Int) b () ((P.length + A.length:Nat):Int)=_;unfold lW;rw [ax (by omega),List.append_nil,<- hb'];rfl
 | succ n ih =>
   intro A R hn hA hb hl;cases R with
   | nil=>simp at hn
   | cons x R =>
     have hR:R.length=n:=by simpa using hn
     have hl':=hl;simp only [bQ,List.length_append,List.length_cons] at hl';have e0:P ++ (A ++ x :: R) ++ S=P ++ (A ++ x :: []) ++ (R ++ S):=by simp
     obtain ⟨B1,B2,j',q1,q2,q3,q4⟩:=Ra P (R ++ S) x b ((P.length + A.length:Nat):Int) A.length A [] rfl (by rw [<- e0]; exact hl);rw [List.append_nil,<- e0] at q4;subst q1;have hs:=cF.1 hA;have hlast:∀ y∈B1,dD x y=false:=fun y hy=>by
      obtain ⟨C,z,rfl⟩:=ui (a:=B1) (fun h=>by subst h; simp at hy);have hz:=q3 C z rfl;rcases List.mem_append.1 hy with hy | hy
      . exact fw.le_trans ((cF.1 hs.1).2.2 y hy z (by simp)) hz
      . simp only [List.mem_singleton] at hy; subst hy; exact hz
     have hsrt:lL dD (B1 ++ x :: B2):=by
      refine cF.2 ⟨hs.1,List.pairwise_cons.2 ⟨fun y hy => ?_,hs.2.1⟩,fun y hy z hz => ?_⟩
      . cases h:dD y x with
        | false=>rfl
        | true => have:=fw.trans _ _ _ h (q2 y hy);rw [fw.irr] at this;simp at this
      . rcases List.mem_cons.1 hz with rfl | hz
        . exact hlast y hy
        . exact hs.2.2 y hy z hz
     have hstb:ez dD (B1 ++ B2 ++ x :: R) (B1 ++ x :: B2 ++ R):=by
      have h1:ez dD (B2 ++ [x]) ([x] ++ B2):=ez.swap fw fun y hy z hz=>by simp only [List.mem_singleton] at hz; subst hz; exact q2 y hy
      have h2:=((ez.refl B1).append h1).append (ez.refl R);simpa using h2
     obtain ⟨M,m1,m2,m3⟩:=ih (B1 ++ x :: B2) R hR hsrt (by rw [hb]; simp only [List.length_append,List.length_cons]; omega) (by simp only [bQ,List.length_append,List.length_cons] at hl' ⊢; omega);refine ⟨M,m1,hstb.trans m2,aU _ (x':=(P ++ (B1 ++ x :: B2 ++ R) ++ S,(P.length:Int),b,(),((P.length + (B1 ++ x :: B2).length:Nat):Int),())) ?_ m3⟩;show lW (P ++ (B1 ++ B2 ++ x :: R) ++ S) (P.length:Int) b () ((P.length + (B1 ++ B2).length:Nat):Int)=_;unfold lW;rw [aF (by rw [hb]; simp only [List.length_append,List.length_cons]; omega),q4];dsimp only [cond_true,Option.bind_some,Sum.elim_inl];have k1:aj .i64 ((P.length + (B1 ++ B2).length:Nat):Int) 1=((P.length + (B1 ++ x :: B2).length:Nat):Int):=by rw [ay (by omega) (by simp only [List.length_append] at *; omega)];simp only [List.length_append,List.length_cons]; omega
     rw [k1];simp
theorem Oy (P L S:List aO) (hl:(P ++ L ++ S).length<=bQ):∃ M,lL dD M/\ez dD L M/\Hu (P ++ L ++ S) (P.length:Int) ((P.length + L.length:Nat):Int)=some (((P ++ M ++ S,()),()),()):=by
 have hl':=hl;simp only [bQ,List.length_append] at hl';unfold Hu;have k0:aj .i64 (P.length:Int) 1=((P.length + 1:Nat):Int):=by rw [ay (by omega) (by omega)]; omega
 rw [k0];cases L with
 | nil => refine ⟨[],ES,ez.refl _,?_⟩;have:pf (P ++ [] ++ S) (P.length:Int) ((P.length + 0:Nat):Int) () ((P.length + 1:Nat):Int)=some (.inl (P ++ [] ++ S,(P.length:Int),((P.length + 0:Nat):Int),(),((P.length + 1:Nat):Int),())):=aK _ (by show lW (P ++ [] ++ S) (P.length:Int) ((P.length + 0:Nat):Int) () ((P.length + 1:Nat):Int)=_;unfold lW;rw [ax (by omega)]; rfl);show Option.bind (pf (P ++ [] ++ S) (P.length:Int) ((P.length + 0:Nat):Int) () ((P.length + 1:Nat):Int)) _=_;rw [this];rfl
 | cons x L => obtain ⟨M,m1,m2,m3⟩:=MP P S ((P.length + (x :: L).length:Nat):Int) L.length [x] L rfl (LV x) (by simp only [List.length_cons,List.length_nil]; omega) (by simpa using hl);refine ⟨M,m1,m2,?_⟩;have m3':pf (P ++ x :: L ++ S) (P.length:Int) ((P.length + (x :: L).length:Nat):Int) () ((P.length + 1:Nat):Int)=_:=m3;rw [m3'];rfl
theorem K8 {α:Type} (d:α) (u:List α) (p:α) (v:List α) (q:α) (w:List α):kF d (u ++ p :: (v ++ q :: w)) u.length (u.length + (1 + v.length))=u ++ q :: (v ++ p :: w):=by
 unfold kF;have h1:(u ++ p :: (v ++ q :: w)).getD u.length d=p:=by simp [List.getD]
 have h2:(u ++ p :: (v ++ q :: w)).getD (u.length + (1 + v.length)) d=q:=by rw [List.getD,List.getElem?_append_right (by omega),show u.length + (1 + v.length) - u.length=v.length + 1 by omega,List.getElem?_cons_succ,List.getElem?_append_right (by omega),Nat.sub_self];rfl
 rw [h1,h2,List.set_append,if_neg (by omega),Nat.sub_self,List.set_append,if_neg (by omega),show u.length + (1 + v.length) - u.length=v.length + 1 by omega];show u ++ (q :: (v ++ q :: w)).set (v.length + 1) p=_;rw [List.set_cons_succ,List.set_append,if_neg (by omega),Nat.sub_self];rfl
theorem Lj (P Y S:List aO):∀ (n:Nat) (Z1 X2 X1 Z2:List aO),X2.length=n->Z2.length=n->X1.length=Z1.length->(P ++ (Z1 ++ X2) ++ Y ++ (X1 ++ Z2) ++ S).length<=bQ ->
 xo (P ++ (Z1 ++ X2) ++ Y ++ (X1 ++ Z2) ++ S) (P.length:Int) ((P.length + (Z1.length + n) + Y.length:Nat):Int) ((Z1.length + n:Nat):Int) (Z1.length:Int) =
  some (.inl (P ++ (Z1 ++ Z2) ++ Y ++ (X1 ++ X2) ++ S,(P.length:Int),((P.length + (Z1.length + n) + Y.length:Nat):Int),((Z1.length + n:Nat):Int),((Z1.length + n:Nat):Int),())):=by
 intro n;induction n with
 | zero => intro Z1 X2 X1 Z2 h1 h2 h3 hl;have e1:X2=[]:=List.length_eq_zero_iff.1 h1;have e2:Z2=[]:=List.length_eq_zero_iff.1 h2;subst e1; subst e2;refine aK _ ?_;show pJ (P ++ (Z1 ++ []) ++ Y ++ (X1 ++ []) ++ S) (P.length:Int) ((P.length + (Z1.length + 0) + Y.length:Nat):Int) ((Z1.length + 0:Nat):Int) (Z1.length:Int)=_;unfold pJ;rw [ax (by omega)];rfl
 | succ n ih =>
   intro Z1 X2 X1 Z2 h1 h2 h3 hl;cases X2 with
   | nil=>simp at h1
   | cons x X2 =>
   cases Z2 with
   | nil=>simp at h2
   | cons z Z2 =>
   have hx:X2.length=n:=by simpa using h1
   have hz:Z2.length=n:=by simpa using h2
   have hl':=hl;simp only [bQ,List.length_append,List.length_cons] at hl';have ih':=ih (Z1 ++ [z]) X2 (X1 ++ [x]) Z2 hx hz (by simp [h3]) (by simp only [bQ,List.length_append,List.length_cons,List.length_nil]; omega);have e1:((P.length + ((Z1 ++ [z]).length + n) + Y.length:Nat):Int)=((P.length + (Z1.length + (n + 1)) + Y.length:Nat):Int):=by simp only [List.length_append,List.length_cons,List.length_nil]; omega
   have e2:(((Z1 ++ [z]).length + n:Nat):Int)=((Z1.length + (n + 1):Nat):Int):=by simp only [List.length_append,List.length_cons,List.length_nil]; omega
   have e3:(((Z1 ++ [z]).length:Nat):Int)=aj .i64 (Z1.length:Int) 1:=by rw [ay (by omega) (by omega)]; simp
   rw [e1,e2,e3] at ih';have ef:P ++ (Z1 ++ [z] ++ Z2) ++ Y ++ (X1 ++ [x] ++ X2) ++ S=P ++ (Z1 ++ z :: Z2) ++ Y ++ (X1 ++ x :: X2) ++ S:=by simp
   rw [ef] at ih';refine aU _ ?_ ih';show pJ (P ++ (Z1 ++ x :: X2) ++ Y ++ (X1 ++ z :: Z2) ++ S) (P.length:Int) ((P.length + (Z1.length + (n + 1)) + Y.length:Nat):Int) ((Z1.length + (n + 1):Nat):Int) (Z1.length:Int)=_;have d1:P ++ (Z1 ++ x :: X2) ++ Y ++ (X1 ++ z :: Z2) ++ S=(P ++ Z1) ++ x :: ((X2 ++ Y ++ X1) ++ z :: (Z2 ++ S)):=by simp
   have d2:P ++ (Z1 ++ x :: X2) ++ Y ++ (X1 ++ z :: Z2) ++ S=(P ++ Z1 ++ x :: (X2 ++ Y ++ X1)) ++ z :: (Z2 ++ S):=by simp
   have k1:aj .i64 ((P.length + (Z1.length + (n + 1)) + Y.length:Nat):Int) (Z1.length:Int)=((P ++ Z1 ++ x :: (X2 ++ Y ++ X1)).length:Int):=by rw [ay (by omega) (by omega)];simp only [List.length_append,List.length_cons]; omega
   have k2:aj .i64 (P.length:Int) (Z1.length:Int)=((P ++ Z1).length:Int):=by rw [ay (by omega) (by omega)];simp only [List.length_append]; omega
   unfold pJ;rw [aF (by omega),k1,k2];dsimp only [cond_true];have i1:aR ((P ++ Z1 ++ x :: (X2 ++ Y ++ X1)).length:Int) (P ++ (Z1 ++ x :: X2) ++ Y ++ (X1 ++ z :: Z2) ++ S)=true:=by rw [d2]; exact im _ _ _ rfl
   have i2:aR ((P ++ Z1).length:Int) (P ++ (Z1 ++ x :: X2) ++ Y ++ (X1 ++ z :: Z2) ++ S)=true:=by rw [d1]; exact im _ _ _ rfl
   have a1:AF ((P ++ Z1 ++ x :: (X2 ++ Y ++ X1)).length:Int) (P ++ (Z1 ++ x :: X2) ++ Y ++ (X1 ++ z :: Z2) ++ S) ((P ++ Z1 ++ x :: (X2 ++ Y ++ X1)).length:Int)=true:=by rw [d2]; exact j9 _ _ _ rfl
   have a2:AF ((P ++ Z1).length:Int) (P ++ (Z1 ++ x :: X2) ++ Y ++ (X1 ++ z :: Z2) ++ S) ((P ++ Z1).length:Int)=true:=by rw [d1]; exact j9 _ _ _ rfl
   rw [i1,i2,a1,a2];dsimp only [cond_true];have sw:Hy d59 (P ++ (Z1 ++ x :: X2) ++ Y ++ (X1 ++ z :: Z2) ++ S) ((P ++ Z1).length:Int) ((P ++ Z1 ++ x :: (X2 ++ Y ++ X1)).length:Int)=P ++ (Z1 ++ [z] ++ X2) ++ Y ++ (X1 ++ [x] ++ Z2) ++ S:=by
    unfold Hy;rw [Int.toNat_natCast,Int.toNat_natCast,d1];have k3:(P ++ Z1 ++ x :: (X2 ++ Y ++ X1)).length=(P ++ Z1).length + (1 + (X2 ++ Y ++ X1).length):=by simp only [List.length_append,List.length_cons]; omega
    rw [k3,K8];simp
   rw [sw]
theorem IM (P X Y Z S:List aO) (hx:X.length=Z.length) (hl:(P ++ X ++ Y ++ Z ++ S).length<=bQ):zJ (P ++ X ++ Y ++ Z ++ S) (P.length:Int) ((P.length + X.length + Y.length:Nat):Int) (X.length:Int)=some (((P ++ Z ++ Y ++ X ++ S,()),()),()):=by unfold zJ;have h:=Lj P Y S X.length [] X [] Z rfl hx.symm rfl hl;simp only [List.nil_append,List.length_nil,Nat.zero_add] at h;have h':xo (P ++ X ++ Y ++ Z ++ S) (P.length:Int) ((P.length + X.length + Y.length:Nat):Int) (X.length:Int) 0=_:=h;rw [h'];rfl
theorem Jf:∀ (n:Nat) (P X Y S:List aO) (m:Nat),X.length + Y.length=n->0 < X.length->0 < Y.length->m=P.length + X.length->(P ++ X ++ Y ++ S).length<=bQ ->
 ∃ (t:List aO) (i:Nat),i<=m/\i<=n/\I8 (P ++ X ++ Y ++ S) (m:Int) () (X.length:Int) (Y.length:Int)=some (.inl (t,(m:Int),(),(i:Int),(i:Int),())) /\
  zJ t ((m - i:Nat):Int) (m:Int) (i:Int)=some (((P ++ Y ++ X ++ S,()),()),()):=by
 intro n;induction n using Nat.strongRecOn with
 | _ n ih =>
 intro P X Y S m hn hX hY hm hl;subst hm;have hl':=hl;simp only [bQ,List.length_append] at hl';rcases Nat.lt_trichotomy X.length Y.length with h | h | h
 . -- the second is longer: its end comes ahead
   obtain ⟨Y1,Y2,rfl,hY2⟩:∃ Y1 Y2,Y=Y1 ++ Y2/\Y2.length=X.length:=⟨Y.take (Y.length - X.length),Y.drop (Y.length - X.length),(List.take_append_drop _ _).symm,by rw [List.length_drop]; omega⟩;simp only [List.length_append] at h hn hl' hY;obtain ⟨t,i,i1,i2,q1,q2⟩:=ih (Y2.length + Y1.length) (by omega) P Y2 Y1 (X ++ S) (P.length + X.length) rfl (by omega) (by omega) (by omega) (by simp only [bQ,List.length_append]; omega);refine ⟨t,i,i1,by omega,aU _ ?_ q1,by rw [q2]; simp⟩;show ml (P ++ X ++ (Y1 ++ Y2) ++ S) ((P.length + X.length:Nat):Int) () (X.length:Int) ((Y1 ++ Y2).length:Int)=_;have hs:=IM P X Y1 Y2 S (by omega) (by simp only [bQ,List.length_append]; omega);have e0:P ++ X ++ (Y1 ++ Y2) ++ S=P ++ X ++ Y1 ++ Y2 ++ S:=by simp
   have k0:aq (X.length:Int) ((Y1 ++ Y2).length:Int)=false:=by rw [Bool.eq_false_iff]; intro hh; rw [fZ] at hh; simp only [List.length_append] at hh; omega
   have k1:aM .i64 ((P.length + X.length:Nat):Int) (X.length:Int)=(P.length:Int):=by rw [aS (by omega) (by omega)]; omega
   have k2:aj .i64 ((P.length + X.length:Nat):Int) ((Y1 ++ Y2).length:Int)=((P.length + X.length + (Y1 ++ Y2).length:Nat):Int):=by rw [ay (by omega) (by simp only [List.length_append]; omega)]; omega
   have k3:aM .i64 ((P.length + X.length + (Y1 ++ Y2).length:Nat):Int) (X.length:Int)=((P.length + X.length + Y1.length:Nat):Int):=by rw [aS (by omega) (by simp only [List.length_append]; omega)]; simp only [List.length_append]; omega
   have k4:aM .i64 ((Y1 ++ Y2).length:Int) (X.length:Int)=(Y1.length:Int):=by rw [aS (by omega) (by simp only [List.length_append]; omega)]; simp only [List.length_append]; omega
   unfold ml;rw [k0,ax (by simp only [List.length_append]; omega)];dsimp only [cond_true,cond_false,Bool.not_false];rw [k1,k2,k3,k4,e0,hs];dsimp only [Option.bind_some];rw [hY2];simp
 . -- alike
   refine ⟨P ++ X ++ Y ++ S,X.length,by omega,by omega,aK _ ?_,?_⟩
   . show ml (P ++ X ++ Y ++ S) ((P.length + X.length:Nat):Int) () (X.length:Int) (Y.length:Int)=_;unfold ml;rw [<- h,bg];rfl
   . have hs:=IM P X [] Y S h (by simp only [bQ,List.length_append,List.length_nil]; omega);rw [List.append_nil,List.append_nil,List.length_nil,Nat.add_zero] at hs;rw [show P.length + X.length - X.length=P.length by omega];exact hs
 . -- the first is longer: its begin goes behind
   obtain ⟨X1,X2,rfl,hX1⟩:∃ X1 X2,X=X1 ++ X2/\X1.length=Y.length:=⟨X.take Y.length,X.drop Y.length,(List.take_append_drop _ _).symm,by rw [List.length_take]; omega⟩;simp only [List.length_append] at h hn hl' hX;obtain ⟨t,i,i1,i2,q1,q2⟩:=ih (X2.length + X1.length) (by omega) (P ++ Y) X2 X1 S (P.length + (X1 ++ X2).length) rfl (by omega) (by omega) (by simp only [List.length_append]; omega) (by simp only [bQ,List.length_append]; omega);refine ⟨t,i,i1,by omega,aU _ ?_ q1,by rw [q2]; simp⟩;show ml (P ++ (X1 ++ X2) ++ Y ++ S) ((P.length + (X1 ++ X2).length:Nat):Int) () ((X1 ++ X2).length:Int) (Y.length:Int)=_;have hs:=IM P X1 X2 Y S hX1 (by simp only [bQ,List.length_append]; omega);have e0:P ++ (X1 ++ X2) ++ Y ++ S=P ++ X1 ++ X2 ++ Y ++ S:=by simp
   have k0:aq ((X1 ++ X2).length:Int) (Y.length:Int)=false:=by rw [Bool.eq_false_iff]; intro hh; rw [fZ] at hh; simp only [List.length_append] at hh; omega
   have k1:aM .i64 ((P.length + (X1 ++ X2).length:Nat):Int) ((X1 ++ X2).length:Int)=(P.length:Int):=by rw [aS (by omega) (by simp only [List.length_append]; omega)]; omega
   have k3:((P.length + (X1 ++ X2).length:Nat):Int)=((P.length + X1.length + X2.length:Nat):Int):=by simp only [List.length_append]; omega
   have k4:aM .i64 ((X1 ++ X2).length:Int) (Y.length:Int)=(X2.length:Int):=by rw [aS (by omega) (by simp only [List.length_append]; omega)]; simp only [List.length_append]; omega
   unfold ml;rw [k0,aF (by simp only [List.length_append]; omega)];dsimp only [cond_true,cond_false,Bool.not_false];rw [k1,k4,e0,<- hX1];have hs':zJ (P ++ X1 ++ X2 ++ Y ++ S) (P.length:Int) ((P.length + (X1 ++ X2).length:Nat):Int) (X1.length:Int)=some (((P ++ Y ++ X2 ++ X1 ++ S,()),()),()):=by rw [k3]; exact hs
   rw [hs'];dsimp only [Option.bind_some];simp
theorem WI (P X Y S:List aO) (hX:0 < X.length) (hY:0 < Y.length) (hl:(P ++ X ++ Y ++ S).length<=bQ) :
 Ae (P ++ X ++ Y ++ S) (P.length:Int) ((P.length + X.length:Nat):Int) ((P.length + X.length + Y.length:Nat):Int)=some (((P ++ Y ++ X ++ S,()),()),()):=by
 have hl':=hl;simp only [bQ,List.length_append] at hl';obtain ⟨t,i,i1,i2,q1,q2⟩:=Jf (X.length + Y.length) P X Y S (P.length + X.length) rfl hX hY rfl hl;unfold Ae;have k1:aM .i64 ((P.length + X.length:Nat):Int) (P.length:Int)=(X.length:Int):=by rw [aS (by omega) (by omega)]; omega
 have k2:aM .i64 ((P.length + X.length + Y.length:Nat):Int) ((P.length + X.length:Nat):Int)=(Y.length:Int):=by rw [aS (by omega) (by omega)]; omega
 rw [k1,k2,q1];dsimp only [Option.bind_some,Sum.elim_inl];have k3:aM .i64 ((P.length + X.length:Nat):Int) (i:Int)=((P.length + X.length - i:Nat):Int):=by rw [aS (by omega) (by omega)]; omega
 rw [k3,q2];rfl
theorem Jn (P S:List aO) (x:aO) (i:Nat):∀ (n:Nat) (D U:List aO),U.length=n->i=P.length + D.length + U.length + 1->(P ++ (D ++ x :: U) ++ S).length<=bQ ->
 ∃ k',xp (P ++ (D ++ x :: U) ++ S) (i:Int) ((P.length + D.length:Nat):Int)=some (.inl (P ++ (D ++ U ++ [x]) ++ S,(i:Int),k',())):=by
 intro n;induction n with
 | zero =>
   intro D U hn hi hl;have:U=[]:=List.length_eq_zero_iff.1 hn;subst this;simp only [List.length_nil] at hi;simp only [bQ,List.length_append,List.length_cons] at hl;refine ⟨((P.length + D.length:Nat):Int),aK _ ?_⟩;show oK (P ++ (D ++ [x]) ++ S) (i:Int) ((P.length + D.length:Nat):Int)=_;unfold oK;have k1:aM .i64 (i:Int) 1=((P.length + D.length:Nat):Int):=by rw [aS (by omega) (by omega)]; omega
   rw [k1,ax (by omega),List.append_nil];rfl
 | succ n ih =>
   intro D U hn hi hl;cases U with
   | nil=>simp at hn
   | cons u U =>
     have hU:U.length=n:=by simpa using hn
     simp only [List.length_cons] at hi;have hl':=hl;simp only [bQ,List.length_append,List.length_cons] at hl';obtain ⟨k',hk⟩:=ih (D ++ [u]) U hU (by simp only [List.length_append,List.length_cons,List.length_nil]; omega) (by simp only [bQ,List.length_append,List.length_cons,List.length_nil]; omega);refine ⟨k',?_⟩;have ef:P ++ (D ++ [u] ++ U ++ [x]) ++ S=P ++ (D ++ u :: U ++ [x]) ++ S:=by simp
     rw [ef] at hk;refine aU _ ?_ hk;show oK (P ++ (D ++ x :: u :: U) ++ S) (i:Int) ((P.length + D.length:Nat):Int)=_;have d1:P ++ (D ++ x :: u :: U) ++ S=(P ++ D) ++ x :: u :: (U ++ S):=by simp
     have d2:P ++ (D ++ x :: u :: U) ++ S=(P ++ D ++ [x]) ++ u :: (U ++ S):=by simp
     have k1:aM .i64 (i:Int) 1=((P.length + D.length + U.length + 1:Nat):Int):=by rw [aS (by omega) (by omega)]; omega
     have k2:((P.length + D.length:Nat):Int)=((P ++ D).length:Int):=by simp
     have k3:aj .i64 ((P ++ D).length:Int) 1=((P ++ D ++ [x]).length:Int):=by rw [ay (by omega) (by simp only [List.length_append]; omega)]; simp only [List.length_append,List.length_cons,List.length_nil]; omega
     unfold oK;rw [k1,aF (by omega),k2,k3];dsimp only [cond_true];have i1:aR ((P ++ D ++ [x]).length:Int) (P ++ (D ++ x :: u :: U) ++ S)=true:=by rw [d2]; exact im _ _ _ rfl
     have i2:aR ((P ++ D).length:Int) (P ++ (D ++ x :: u :: U) ++ S)=true:=by rw [d1]; exact im _ _ _ rfl
     have a1:AF ((P ++ D ++ [x]).length:Int) (P ++ (D ++ x :: u :: U) ++ S) ((P ++ D ++ [x]).length:Int)=true:=by rw [d2]; exact j9 _ _ _ rfl
     have a2:AF ((P ++ D).length:Int) (P ++ (D ++ x :: u :: U) ++ S) ((P ++ D).length:Int)=true:=by rw [d1]; exact j9 _ _ _ rfl
     rw [i1,i2,a1,a2];dsimp only [cond_true];have sw:Hy d59 (P ++ (D ++ x :: u :: U) ++ S) ((P ++ D).length:Int) ((P ++ D ++ [x]).length:Int)=P ++ (D ++ [u] ++ x :: U) ++ S:=by
      unfold Hy;have e1:(P ++ D ++ [x]).length=(P ++ D).length + 1:=by simp only [List.length_append,List.length_cons,List.length_nil]
      rw [Int.toNat_natCast,Int.toNat_natCast,e1,d1,CX];simp
     rw [sw];have k4:((P ++ D ++ [x]).length:Int)=((P.length + (D ++ [u]).length:Nat):Int):=by simp only [List.length_append,List.length_cons,List.length_nil]; omega
     rw [k4]
theorem JA (P S:List aO) (y:aO):∀ (n:Nat) (D U:List aO),D.length=n->(P ++ (D ++ y :: U) ++ S).length<=bQ ->
 ∃ k',wh (P ++ (D ++ y :: U) ++ S) (P.length:Int) ((P.length + D.length:Nat):Int)=some (.inl (P ++ (y :: (D ++ U)) ++ S,(P.length:Int),k',())):=by
 intro n;induction n with
 | zero => intro D U hn hl;have:D=[]:=List.length_eq_zero_iff.1 hn;subst this;refine ⟨((P.length + 0:Nat):Int),aK _ ?_⟩;show qc (P ++ ([] ++ y :: U) ++ S) (P.length:Int) ((P.length + 0:Nat):Int)=_;unfold qc;rw [ax (by omega)];rfl
 | succ n ih =>
   intro D U hn hl;obtain ⟨B,u,rfl⟩:=ui (a:=D) (fun h=>by subst h; simp at hn);have hB:B.length=n:=by simpa using hn
   have hl':=hl;simp only [bQ,List.length_append,List.length_cons,List.length_nil] at hl';obtain ⟨k',hk⟩:=ih B (u :: U) hB (by simp only [bQ,List.length_append,List.length_cons]; omega);refine ⟨k',?_⟩;have ef:P ++ (y :: (B ++ u :: U)) ++ S=P ++ (y :: (B ++ [u] ++ U)) ++ S:=by simp
   rw [ef] at hk;refine aU _ ?_ hk;show qc (P ++ (B ++ [u] ++ y :: U) ++ S) (P.length:Int) ((P.length + (B ++ [u]).length:Nat):Int)=_;have d1:P ++ (B ++ [u] ++ y :: U) ++ S=(P ++ B) ++ u :: y :: (U ++ S):=by simp
   have d2:P ++ (B ++ [u] ++ y :: U) ++ S=(P ++ B ++ [u]) ++ y :: (U ++ S):=by simp
   have k1:aM .i64 ((P.length + (B ++ [u]).length:Nat):Int) 1=((P ++ B).length:Int):=by rw [aS (by simp only [List.length_append,List.length_cons,List.length_nil]; omega) (by simp only [List.length_append,List.length_cons,List.length_nil]; omega)];simp only [List.length_append,List.length_cons,List.length_nil]; omega
   have k2:((P.length + (B ++ [u]).length:Nat):Int)=((P ++ B ++ [u]).length:Int):=by simp only [List.length_append,List.length_cons,List.length_nil]; omega
   unfold qc;rw [k1,aF (by simp only [List.length_append,List.length_cons,List.length_nil]; omega),k2];dsimp only [cond_true];have i1:aR ((P ++ B ++ [u]).length:Int) (P ++ (B ++ [u] ++ y :: U) ++ S)=true:=by rw [d2]; exact im _ _ _ rfl
   have i2:aR ((P ++ B).length:Int) (P ++ (B ++ [u] ++ y :: U) ++ S)=true:=by rw [d1]; exact im _ _ _ rfl
   have a1:AF ((P ++ B ++ [u]).length:Int) (P ++ (B ++ [u] ++ y :: U) ++ S) ((P ++ B ++ [u]).length:Int)=true:=by rw [d2]; exact j9 _ _ _ rfl
   have a2:AF ((P ++ B).length:Int) (P ++ (B ++ [u] ++ y :: U) ++ S) ((P ++ B).length:Int)=true:=by rw [d1]; exact j9 _ _ _ rfl
   rw [i1,i2,a1,a2];dsimp only [cond_true];have sw:Hy d59 (P ++ (B ++ [u] ++ y :: U) ++ S) ((P ++ B ++ [u]).length:Int) ((P ++ B).length:Int)=P ++ (B ++ y :: u :: U) ++ S:=by
    unfold Hy;have e1:(P ++ B ++ [u]).length=(P ++ B).length + 1:=by simp only [List.length_append,List.length_cons,List.length_nil]
    rw [Int.toNat_natCast,Int.toNat_natCast,e1,d1,yR];simp
   rw [sw];have k4:((P ++ B).length:Int)=((P.length + B.length:Nat):Int):=by simp
   rw [k4]
theorem VL (P S:List aO) (x:aO) (R:List aO) (hR:lL dD R) (hl:(P ++ x :: R ++ S).length<=bQ):∃ n,n<=R.length/\(∀ y∈R.take n,dD y x=true)/\(∀ y∈R.drop n,dD y x=false) /\
 xl (P ++ x :: R ++ S) (P.length:Int) () ((P.length + 1:Nat):Int) ((P.length + 1 + R.length:Nat):Int)=some (.inl (P ++ x :: R ++ S,(P.length:Int),(),((P.length + 1 + n:Nat):Int),((P.length + 1 + n:Nat):Int),())):=by
 have hl':=hl;simp only [bQ,List.length_append,List.length_cons] at hl';have e0:P ++ x :: R ++ S=(P ++ [x]) ++ R ++ S:=by simp
 have hpl:(P ++ [x]).length=P.length + 1:=by simp
 have hg:∀ q,q < R.length->(P ++ x :: R ++ S).getD (P.length + 1 + q) d59=R.getD q d59:=fun q hq=>by rw [e0,<- hpl]; exact qy _ _ _ _ hq
 have h:=bsearch (fun (z:(List aO)×Int×Unit×Int×Int×Unit)=>mM z.1 z.2.1 z.2.2.1 z.2.2.2.1 z.2.2.2.2.1) (fun lo hi=>(P ++ x :: R ++ S,(P.length:Int),(),(lo:Int),(hi:Int),())) (fun k=> .inl (P ++ x :: R ++ S,(P.length:Int),(),(k:Int),(k:Int),()))
  (fun h=>dD ((P ++ x :: R ++ S).getD h d59) x) (P.length + 1) (P.length + 1 + R.length) (fun h h' h1 h2 h3 hf=>by
    obtain ⟨q,rfl⟩:∃ q,h=P.length + 1 + q:=⟨h - (P.length + 1),by omega⟩;obtain ⟨q',rfl⟩:∃ q',h'=P.length + 1 + q':=⟨h' - (P.length + 1),by omega⟩;rw [hg q (by omega)] at hf;rw [hg q' (by omega)];rcases fw.neg _ (R.getD q' d59) _ hf with h4 | h4
    . rw [iz fw _ hR (by omega) (by omega)] at h4; simp at h4
    . exact h4) (fun lo hi h1 h2 h3=>by
    show mM (P ++ x :: R ++ S) (P.length:Int) () (lo:Int) (hi:Int)=_;unfold mM;obtain ⟨v,hv1,hv2⟩:=Mf ((P ++ x :: R ++ S).getD ((lo + hi) / 2) d59) x;have hx:gt d59 (P ++ x :: R ++ S) (P.length:Int)=x:=by
     have:P ++ x :: R ++ S=P ++ x :: (R ++ S):=by simp
     rw [this]; exact wC _ _ _ _ rfl
    rw [aF (by omega),uz (by omega)];dsimp only [cond_true];rw [nw (by simp only [List.length_append,List.length_cons]; omega),nw (by simp only [List.length_append,List.length_cons]; omega),zm,hx,hv1];dsimp only [cond_true,Option.bind_some];rw [hv2,aJ (by have:aT=140737488355328:=rfl; omega)];cases dD ((P ++ x :: R ++ S).getD ((lo + hi) / 2) d59) x <;> rfl) (fun k h1 h2=>by
    show mM (P ++ x :: R ++ S) (P.length:Int) () (k:Int) (k:Int)=_;unfold mM;rw [ax (by omega)]; rfl)
  _ (P.length + 1) (P.length + 1 + R.length) rfl (Nat.le_refl _) (by omega) (Nat.le_refl _) (fun h h1 h2=>by omega) (fun h h1 h2=>by omega)
 obtain ⟨k,k1,k2,k3,k4,k5⟩:=h;obtain ⟨n,rfl⟩:∃ n,k=P.length + 1 + n:=⟨k - (P.length + 1),by omega⟩;refine ⟨n,by omega,fun y hy => ?_,fun y hy => ?_,k5⟩
 . obtain ⟨q,q1,q2,rfl⟩:=ny d59 hy;rw [<- hg q q2]; exact k3 _ (by omega) (by omega)
 . obtain ⟨q,q1,q2,rfl⟩:=nh d59 hy;rw [<- hg q q2]; exact k4 _ (by omega) (by omega)
theorem TN (P S:List aO) (y:aO) (L:List aO) (hL:lL dD L) (hl:(P ++ L ++ y :: S).length<=bQ):∃ n,n<=L.length/\(∀ x∈L.take n,dD y x=false)/\(∀ x∈L.drop n,dD y x=true) /\
 xN (P ++ L ++ y :: S) ((P.length + L.length:Nat):Int) () (P.length:Int) ((P.length + L.length:Nat):Int)=some (.inl (P ++ L ++ y :: S,((P.length + L.length:Nat):Int),(),((P.length + n:Nat):Int),((P.length + n:Nat):Int),())):=by
 have hl':=hl;simp only [bQ,List.length_append,List.length_cons] at hl';have hg:∀ q,q < L.length->(P ++ L ++ y :: S).getD (P.length + q) d59=L.getD q d59:=fun q hq=>qy _ _ _ _ hq
 have h:=bsearch (fun (z:(List aO)×Int×Unit×Int×Int×Unit)=>mL z.1 z.2.1 z.2.2.1 z.2.2.2.1 z.2.2.2.2.1) (fun lo hi=>(P ++ L ++ y :: S,((P.length + L.length:Nat):Int),(),(lo:Int),(hi:Int),())) (fun k=> .inl (P ++ L ++ y :: S,((P.length + L.length:Nat):Int),(),(k:Int),(k:Int),()))
  (fun h=> !dD y ((P ++ L ++ y :: S).getD h d59)) P.length (P.length + L.length) (fun h h' h1 h2 h3 hf=>by
    obtain ⟨q,rfl⟩:∃ q,h=P.length + q:=⟨h - P.length,by omega⟩;obtain ⟨q',rfl⟩:∃ q',h'=P.length + q':=⟨h' - P.length,by omega⟩;rw [hg q (by omega),Bool.not_eq_true'] at hf;rw [hg q' (by omega),Bool.not_eq_true'];exact fw.le_trans (iz fw _ hL (by omega) (by omega)) hf) (fun lo hi h1 h2 h3=>by
    show mL (P ++ L ++ y :: S) ((P.length + L.length:Nat):Int) () (lo:Int) (hi:Int)=_;unfold mL;obtain ⟨v,hv1,hv2⟩:=Mf y ((P ++ L ++ y :: S).getD ((lo + hi) / 2) d59);have hy:gt d59 (P ++ L ++ y :: S) ((P.length + L.length:Nat):Int)=y:=wC _ (P ++ L) _ _ (by simp);rw [aF (by omega),uz (by omega)];dsimp only [cond_true];rw [nw (by simp only [List.length_append,List.length_cons]; omega),nw (by simp only [List.length_append,List.length_cons]; omega),zm d59 _ ((lo + hi) / 2),hy,hv1];dsimp only [cond_true,Option.bind_some];rw [hv2,aJ (by have:aT=140737488355328:=rfl; omega)];cases dD y ((P ++ L ++ y :: S).getD ((lo + hi) / 2) d59) <;> rfl) (fun k h1 h2=>by
    show mL (P ++ L ++ y :: S) ((P.length + L.length:Nat):Int) () (k:Int) (k:Int)=_;unfold mL;rw [ax (by omega)]; rfl)
  _ P.length (P.length + L.length) rfl (Nat.le_refl _) (by omega) (Nat.le_refl _) (fun h h1 h2=>by omega) (fun h h1 h2=>by omega)
 obtain ⟨k,k1,k2,k3,k4,k5⟩:=h;obtain ⟨n,rfl⟩:∃ n,k=P.length + n:=⟨k - P.length,by omega⟩;refine ⟨n,by omega,fun x hx => ?_,fun x hx => ?_,k5⟩
 . obtain ⟨q,q1,q2,rfl⟩:=ny d59 hx;have:=k3 (P.length + q) (by omega) (by omega);rw [hg q q2,Bool.not_eq_true'] at this;exact this
 . obtain ⟨q,q1,q2,rfl⟩:=nh d59 hx;have:=k4 (P.length + q) (by omega) (by omega);rw [hg q q2,Bool.not_eq_false'] at this;exact this
theorem T3 (P L R S:List aO) (hL:lL dD L) (hR:lL dD R) (mid lo0 hi0:Nat) (c1:P.length<=lo0) (c2:lo0<=hi0) (c3:hi0<=P.length + L.length) (c4:hi0<=mid) (c5:mid<=lo0 + R.length) (hm:mid<=bQ) (b:Int) (hl:(P ++ L ++ R ++ S).length<=bQ) :
 ∃ k,lo0<=k/\k<=hi0/\(∀ c,lo0<=c->c < k->dD (R.getD (mid - 1 - c) d59) (L.getD (c - P.length) d59)=false)/\(∀ c,k<=c->c < hi0->dD (R.getD (mid - 1 - c) d59) (L.getD (c - P.length) d59)=true) /\
 lT (P ++ L ++ R ++ S) (P.length:Int) ((P.length + L.length:Nat):Int) b () (mid:Int) ((mid + (P.length + L.length):Nat):Int) (lo0:Int) (hi0:Int) ((mid + (P.length + L.length):Nat) - 1:Int) =
  some (.inl (P ++ L ++ R ++ S,(P.length:Int),((P.length + L.length:Nat):Int),b,(),(mid:Int),((mid + (P.length + L.length):Nat):Int),(k:Int),(k:Int),((mid + (P.length + L.length):Nat) - 1:Int),())):=by
 have hl':=hl;simp only [bQ,List.length_append] at hl' hm;have hgL:∀ c,P.length<=c->c < P.length + L.length->(P ++ L ++ R ++ S).getD c d59=L.getD (c - P.length) d59:=fun c h1 h2=>by have:=qy d59 P L (R ++ S) (q:=c - P.length) (by omega);rw [show P.length + (c - P.length)=c by omega] at this;rw [List.append_assoc (P ++ L)];exact this
 have hgR:∀ q,q < R.length->(P ++ L ++ R ++ S).getD (P.length + L.length + q) d59=R.getD q d59:=fun q hq=>by have:=qy d59 (P ++ L) R S hq;rw [List.length_append] at this;exact this
 have h:=bsearch (fun (z:(List aO)×Int×Int×Int×Unit×Int×Int×Int×Int×Int×Unit)=>mH z.1 z.2.1 z.2.2.1 z.2.2.2.1 z.2.2.2.2.1 z.2.2.2.2.2.1 z.2.2.2.2.2.2.1 z.2.2.2.2.2.2.2.1 z.2.2.2.2.2.2.2.2.1 z.2.2.2.2.2.2.2.2.2.1)
  (fun lo hi=>(P ++ L ++ R ++ S,(P.length:Int),((P.length + L.length:Nat):Int),b,(),(mid:Int),((mid + (P.length + L.length):Nat):Int),(lo:Int),(hi:Int),((mid + (P.length + L.length):Nat) - 1:Int),())) (fun k=> .inl (P ++ L ++ R ++ S,(P.length:Int),((P.length + L.length:Nat):Int),b,(),(mid:Int),((mid + (P.length + L.length):Nat):Int),(k:Int),(k:Int),((mid + (P.length + L.length):Nat) - 1:Int),()))
  (fun c=> !dD (R.getD (mid - 1 - c) d59) (L.getD (c - P.length) d59)) lo0 hi0 (fun h h' h1 h2 h3 hf=>by
    rw [Bool.not_eq_true'] at hf ⊢;refine fw.le_trans (b:=R.getD (mid - 1 - h) d59) (fw.le_trans (iz fw _ hL (by omega) (by omega)) hf) (iz fw _ hR (by omega) (by omega))) (fun lo hi h1 h2 h3=>by
    show mH (P ++ L ++ R ++ S) (P.length:Int) ((P.length + L.length:Nat):Int) b () (mid:Int) ((mid + (P.length + L.length):Nat):Int) (lo:Int) (hi:Int) ((mid + (P.length + L.length):Nat) - 1:Int)=_;unfold mH;have hc1:lo<=(lo + hi) / 2:=by omega
    have hc2:(lo + hi) / 2 < hi:=by omega
    rw [uz (by omega)];generalize (lo + hi) / 2=c at hc1 hc2;obtain ⟨v,hv1,hv2⟩:=Mf (R.getD (mid - 1 - c) d59) (L.getD (c - P.length) d59);have k1:aM .i64 ((mid + (P.length + L.length):Nat) - 1:Int) (c:Int)=((P.length + L.length + (mid - 1 - c):Nat):Int):=by rw [aS (by omega) (by omega)]; omega
    rw [aF (by omega)];dsimp only [cond_true];rw [k1,nw (by simp only [List.length_append]; omega),nw (by simp only [List.length_append]; omega),zm,zm,hgR _ (by omega),hgL _ (by omega) (by omega),hv1];dsimp only [cond_true,Option.bind_some];rw [hv2,aJ (by have:aT=140737488355328:=rfl; omega)];cases dD (R.getD (mid - 1 - c) d59) (L.getD (c - P.length) d59) <;> rfl) (fun k h1 h2=>by
    show mH (P ++ L ++ R ++ S) (P.length:Int) ((P.length + L.length:Nat):Int) b () (mid:Int) ((mid + (P.length + L.length):Nat):Int) (k:Int) (k:Int) ((mid + (P.length + L.length):Nat) - 1:Int)=_;unfold mH;rw [ax (by omega)]; rfl)
  _ lo0 hi0 rfl (Nat.le_refl _) c2 (Nat.le_refl _) (fun h h1 h2=>by omega) (fun h h1 h2=>by omega)
 obtain ⟨k,k1,k2,k3,k4,k5⟩:=h;refine ⟨k,k1,k2,fun c h1 h2 => ?_,fun c h1 h2 => ?_,k5⟩
 . have:=k3 c h1 h2;rwa [Bool.not_eq_true'] at this
 . have:=k4 c h1 h2;rwa [Bool.not_eq_false'] at this
noncomputable def zN (n:Nat) (t:List aO) (a m b mid k e:Int):Option ((((List aO)×Unit)×Unit)×Unit) :=
 Option.bind (cond (cond (au k m) (au m e) false) (Ae t k m e) (some (((t,()),()),()))) fun y2 =>
 Option.bind (cond (cond (au a k) (au k mid) false) (ft n y2.1.1.1 a k mid) (some (((y2.1.1.1,()),()),()))) fun y3 =>
 Option.bind (cond (cond (au mid e) (au e b) false) (ft n y3.1.1.1 mid e b) (some (((y3.1.1.1,()),()),()))) fun y4=>some ((y4.1.1,()),())
theorem Hc (n:Nat) (t:List aO) (a m b:Int) (h1:aq (aM .i64 m a) 1=false) (h2:aq (aM .i64 b m) 1=false) (mid nn lo hi k:Int) (hmid:bG .i64 (iQ .u64 (bG .u64 (aj .i64 a b)) 1)=mid) (hnn:aj .i64 mid m=nn) (hlo:lo=cond (au mid m) (aM .i64 nn b) a) (hhi:hi=cond (au mid m) mid m)
 (hs:lT t a m b () mid nn lo hi (aM .i64 nn 1)=some (.inl (t,a,m,b,(),mid,nn,k,k,aM .i64 nn 1,()))) :
 ft (n + 1) t a m b=zN n t a m b mid k (aM .i64 nn k):=by
 rw [o8,h1,h2,hmid];dsimp only [cond_false];rw [hnn];unfold zN;cases hm:au mid m with
 | true =>
   rw [hm] at hlo hhi;dsimp only [cond_true] at hlo hhi ⊢;rw [<- hlo,<- hhi]
   conv=>lhs; rw [show lT t a m b () hi nn lo hi (aM .i64 nn 1)=some (.inl (t,a,m,b,(),hi,nn,k,k,aM .i64 nn 1,())) by rw [hhi] at hs ⊢; exact hs]
   dsimp only [Option.bind_some,Sum.elim_inl];rw [hhi];cases (cond (au k m) (au m (aM .i64 nn k)) false) <;> cases (cond (au a k) (au k mid) false) <;> cases (cond (au mid (aM .i64 nn k)) (au (aM .i64 nn k) b) false) <;> rfl
 | false => rw [hm] at hlo hhi;dsimp only [cond_false] at hlo hhi ⊢;subst hlo; subst hhi;rw [hs];dsimp only [Option.bind_some,Sum.elim_inl];cases (cond (au k hi) (au hi (aM .i64 nn k)) false) <;> cases (cond (au lo k) (au k mid) false) <;> cases (cond (au mid (aM .i64 nn k)) (au (aM .i64 nn k) b) false) <;> rfl
theorem Es {a b:aO} (h:dD a b=true):dD b a=false:=by
 cases hb:dD b a with
 | false=>rfl
 | true => have:=fw.trans _ _ _ h hb;rw [fw.irr] at this;simp at this
theorem O4:∀ (n:Nat) (P L R S:List aO),L.length + R.length<=n->0 < L.length->0 < R.length->lL dD L->lL dD R->(P ++ L ++ R ++ S).length<=bQ ->
 ∃ M,lL dD M/\ez dD (L ++ R) M/\ft n (P ++ L ++ R ++ S) (P.length:Int) ((P.length + L.length:Nat):Int) ((P.length + L.length + R.length:Nat):Int)=some (((P ++ M ++ S,()),()),()):=by
 intro n;induction n with
 | zero=>intro P L R S h1 h2 h3; omega
 | succ n ih =>
 intro P L R S hn hL0 hR0 hL hR hl;have hl':=hl;simp only [bQ,List.length_append] at hl';have km:aM .i64 ((P.length + L.length:Nat):Int) (P.length:Int)=(L.length:Int):=by rw [aS (by omega) (by omega)]; omega
 have kb:aM .i64 ((P.length + L.length + R.length:Nat):Int) ((P.length + L.length:Nat):Int)=(R.length:Int):=by rw [aS (by omega) (by omega)]; omega
 by_cases hA:L.length=1
 . obtain ⟨x,rfl⟩:∃ x,L=[x]:=List.length_eq_one_iff.1 hA;have e0:P ++ [x] ++ R ++ S=P ++ x :: R ++ S:=by simp
   obtain ⟨k,k1,k2,k3,k4⟩:=VL P S x R hR (by rw [<- e0]; exact hl);have hs:=hR;rw [<- List.take_append_drop k R] at hs;have hs:=cF.1 hs;obtain ⟨kk,hk⟩:=Jn P (R.drop k ++ S) x (P.length + 1 + k) (R.take k).length [] (R.take k) rfl (by rw [List.length_take]; simp only [List.length_nil]; omega) (by simp only [bQ,List.length_append,List.length_cons,List.length_take,List.length_drop,List.length_nil] at hl' ⊢; omega);have e1:P ++ ([] ++ x :: R.take k) ++ (R.drop k ++ S)=P ++ x :: R ++ S:=by have:R.take k ++ R.drop k=R:=List.take_append_drop k R;simp only [List.nil_append,List.append_assoc,List.cons_append];rw [<- List.append_assoc (R.take k),this]
   rw [e1] at hk;refine ⟨R.take k ++ [x] ++ R.drop k,?_,?_,?_⟩
   . rw [List.append_assoc];refine cF.2 ⟨hs.1,List.pairwise_cons.2 ⟨fun y hy=>k3 y hy,hs.2.1⟩,fun y hy z hz => ?_⟩;rcases List.mem_cons.1 hz with rfl | hz
     . exact Es (k2 y hy)
     . exact hs.2.2 y hy z hz
   . have h1:ez dD ([x] ++ R.take k) (R.take k ++ [x]):=ez.swap fw fun z hz y hy=>by
      simp only [List.mem_singleton] at hz; subst hz; exact k2 y hy
     have h2:=h1.append (ez.refl (R.drop k));rw [List.append_assoc,List.take_append_drop] at h2;exact h2
   . rw [o8,km,hA];have:aq ((1:Nat):Int) 1=true:=rfl;rw [this];dsimp only [cond_true];rw [e0,k4];dsimp only [Option.bind_some,Sum.elim_inl];simp only [List.length_nil,Nat.add_zero] at hk;rw [hk];dsimp only [Option.bind_some,Sum.elim_inl];simp
 by_cases hB:R.length=1
 . obtain ⟨y,rfl⟩:∃ y,R=[y]:=List.length_eq_one_iff.1 hB;have e0:P ++ L ++ [y] ++ S=P ++ L ++ y :: S:=by simp
   obtain ⟨k,k1,k2,k3,k4⟩:=TN P S y L hL (by rw [<- e0]; exact hl);have hs:=hL;rw [<- List.take_append_drop k L] at hs;have hs:=cF.1 hs;obtain ⟨kk,hk⟩:=JA (P ++ L.take k) S y (L.drop k).length (L.drop k) [] rfl (by simp only [bQ,List.length_append,List.length_cons,List.length_take,List.length_drop,List.length_nil] at hl' ⊢; omega);have e1:P ++ L.take k ++ (L.drop k ++ [y]) ++ S=P ++ L ++ y :: S:=by have:L.take k ++ L.drop k=L:=List.take_append_drop k L;simp only [List.append_assoc,List.cons_append,List.nil_append];rw [<- List.append_assoc (L.take k),this]
   have e2:(((P ++ L.take k).length:Nat):Int)=((P.length + k:Nat):Int):=by simp only [List.length_append,List.length_take]; omega
   have e3:(((P ++ L.take k).length + (L.drop k).length:Nat):Int)=((P.length + L.length:Nat):Int):=by simp only [List.length_append,List.length_take,List.length_drop]; omega
   rw [e1,e2,e3] at hk;refine ⟨L.take k ++ (y :: L.drop k),?_,?_,?_⟩
   . refine cF.2 ⟨hs.1,List.pairwise_cons.2 ⟨fun x hx=>Es (k3 x hx),hs.2.1⟩,fun x hx z hz => ?_⟩;rcases List.mem_cons.1 hz with rfl | hz
     . exact k2 x hx
     . exact hs.2.2 x hx z hz
   . have h1:ez dD (L.drop k ++ [y]) ([y] ++ L.drop k):=ez.swap fw fun z hz x hx=>by
      simp only [List.mem_singleton] at hx; subst hx; exact k3 z hz
     have h2:=(ez.refl (L.take k)).append h1;rw [<- List.append_assoc,List.take_append_drop] at h2;exact h2
   . have hA':aq (L.length:Int) 1=false:=by
      rw [Bool.eq_false_iff]; intro hh; rw [fZ] at hh; omega
     rw [o8,km,kb,hA',hB];have:aq ((1:Nat):Int) 1=true:=rfl;rw [this];dsimp only [cond_true,cond_false];rw [e0,k4];dsimp only [Option.bind_some,Sum.elim_inl];rw [hk];dsimp only [Option.bind_some,Sum.elim_inl];simp
 -- the long case
 obtain ⟨mid,hmidN⟩:∃ mid,mid=(P.length + (P.length + L.length + R.length)) / 2:=⟨_,rfl⟩;obtain ⟨lo0,hlo0⟩:∃ lo0,lo0=if mid < P.length + L.length then mid - R.length else P.length:=⟨_,rfl⟩
 obtain ⟨hi0,hhi0⟩:∃ hi0,hi0=if mid < P.length + L.length then mid else P.length + L.length:=⟨_,rfl⟩
 have c1:P.length<=lo0:=by rw [hlo0]; split <;> omega
 have c2:lo0<=hi0:=by rw [hlo0,hhi0]; split <;> omega
 have c3:hi0<=P.length + L.length:=by rw [hhi0]; split <;> omega
 have c4:hi0<=mid:=by rw [hhi0]; split <;> omega
 have c5:mid<=lo0 + R.length:=by rw [hlo0]; split <;> omega
 obtain ⟨k,k1,k2,k3,k4,k5⟩:=T3 P L R S hL hR mid lo0 hi0 c1 c2 c3 c4 c5 (by show mid<=1099511627776; omega) ((P.length + L.length + R.length:Nat):Int) hl;have hmid:=uz (i:=P.length) (j:=P.length + L.length + R.length) (by omega);rw [<- hmidN] at hmid;have hnn:aj .i64 (mid:Int) ((P.length + L.length:Nat):Int)=((mid + (P.length + L.length):Nat):Int):=by rw [ay (by omega) (by omega)]; omega
 have hsub1:aM .i64 ((mid + (P.length + L.length):Nat):Int) 1=((mid + (P.length + L.length):Nat) - 1:Int):=by rw [aS (by omega) (by omega)]
 have hA':aq (aM .i64 ((P.length + L.length:Nat):Int) (P.length:Int)) 1=false:=by rw [km,Bool.eq_false_iff]; intro hh; rw [fZ] at hh; omega
 have hB':aq (aM .i64 ((P.length + L.length + R.length:Nat):Int) ((P.length + L.length:Nat):Int)) 1=false:=by rw [kb,Bool.eq_false_iff]; intro hh; rw [fZ] at hh; omega
 have hlo:(lo0:Int)=cond (au (mid:Int) ((P.length + L.length:Nat):Int)) (aM .i64 ((mid + (P.length + L.length):Nat):Int) ((P.length + L.length + R.length:Nat):Int)) (P.length:Int):=by
  rw [hlo0];by_cases hm:mid < P.length + L.length
  . rw [if_pos hm,aF (by omega),cond_true,aS (by omega) (by omega)]; omega
  . rw [if_neg hm,ax (by omega),cond_false]
 have hhi:(hi0:Int)=cond (au (mid:Int) ((P.length + L.length:Nat):Int)) (mid:Int) ((P.length + L.length:Nat):Int):=by
  rw [hhi0];by_cases hm:mid < P.length + L.length
  . rw [if_pos hm,aF (by omega),cond_true]
  . rw [if_neg hm,ax (by omega),cond_false]
 have hsp:=Hc n (P ++ L ++ R ++ S) (P.length:Int) ((P.length + L.length:Nat):Int) ((P.length + L.length + R.length:Nat):Int) hA' hB' (mid:Int) ((mid + (P.length + L.length):Nat):Int) (lo0:Int) (hi0:Int) (k:Int) hmid hnn hlo hhi (by rw [hsub1]; exact k5);have he:aM .i64 ((mid + (P.length + L.length):Nat):Int) (k:Int)=((P.length + L.length + (mid - k):Nat):Int):=by rw [aS (by omega) (by omega)]; omega
 rw [he] at hsp
 -- the parts
 obtain ⟨L1,L2,hLe,hL1,hL2⟩:∃ L1 L2,L=L1 ++ L2/\L1=L.take (k - P.length)/\L2=L.drop (k - P.length):=⟨_,_,(List.take_append_drop _ _).symm,rfl,rfl⟩;obtain ⟨R1,R2,hRe,hR1,hR2⟩:∃ R1 R2,R=R1 ++ R2/\R1=R.take (mid - k)/\R2=R.drop (mid - k):=⟨_,_,(List.take_append_drop _ _).symm,rfl,rfl⟩;have n1:L1.length=k - P.length:=by rw [hL1,List.length_take]; omega
 have n2:L2.length=P.length + L.length - k:=by rw [hL2,List.length_drop]; omega
 have n3:R1.length=mid - k:=by rw [hR1,List.length_take]; omega
 have n4:R2.length=R.length - (mid - k):=by rw [hR2,List.length_drop]
 have sL:=hL;rw [hLe] at sL;have sL:=cF.1 sL;have sR:=hR;rw [hRe] at sR;have sR:=cF.1 sR;have xRL:∀ x∈R1,∀ y∈L2,dD x y=true:=fun x hx y hy=>by
  rw [hR1] at hx;rw [hL2] at hy;obtain ⟨q,q1,q2,rfl⟩:=ny d59 hx;obtain ⟨q',p1,p2,rfl⟩:=nh d59 hy;have hk:k < hi0:=by
   rcases Nat.lt_or_ge k hi0 with hh | hh
   . exact hh
   . exfalso;rw [hhi0] at hh;split at hh <;> omega
  have h0:=k4 k (Nat.le_refl _) hk;have h1:=iz fw d59 hR (q':=q) (q:=mid - 1 - k) (by omega) (by omega);have h2:=iz fw d59 hL (q':=k - P.length) (q:=q') (by omega) (by omega);rcases fw.neg _ (R.getD q d59) _ h0 with h3 | h3
  . rw [h1] at h3; simp at h3
  . rcases fw.neg _ (L.getD q' d59) _ h3 with h4 | h4
    . exact h4
    . rw [h2] at h4; simp at h4
 have xLR:∀ x∈L1,∀ y∈R2,dD y x=false:=fun x hx y hy=>by
  rw [hL1] at hx;rw [hR2] at hy;obtain ⟨q,q1,q2,rfl⟩:=ny d59 hx;obtain ⟨q',p1,p2,rfl⟩:=nh d59 hy;have hk:lo0 < k:=by
   rcases Nat.lt_or_ge lo0 k with hh | hh
   . exact hh
   . exfalso;rw [hlo0] at hh k1;split at hh <;> omega
  have h0:=k3 (k - 1) (by omega) (by omega);rw [show mid - 1 - (k - 1)=mid - k by omega,show k - 1 - P.length=k - P.length - 1 by omega] at h0;have h1:=iz fw d59 hL (q':=q) (q:=k - P.length - 1) (by omega) (by omega);have h2:=iz fw d59 hR (q':=mid - k) (q:=q') (by omega) (by omega);exact fw.le_trans (fw.le_trans h1 h0) h2
 -- the rotation
 have st1:cond (cond (au (k:Int) ((P.length + L.length:Nat):Int)) (au ((P.length + L.length:Nat):Int) ((P.length + L.length + (mid - k):Nat):Int)) false) (Ae (P ++ L ++ R ++ S) (k:Int) ((P.length + L.length:Nat):Int) ((P.length + L.length + (mid - k):Nat):Int)) (some (((P ++ L ++ R ++ S,()),()),()))=some (((P ++ L1 ++ R1 ++ (L2 ++ R2 ++ S),()),()),()):=by
  by_cases z1:k < P.length + L.length
  . by_cases z2:0 < mid - k
    . rw [aF (by omega),aF (by omega)];dsimp only [cond_true];have h:=WI (P ++ L1) L2 R1 (R2 ++ S) (by omega) (by omega) (by simp only [bQ,List.length_append]; omega);have e1:P ++ L1 ++ L2 ++ R1 ++ (R2 ++ S)=P ++ L ++ R ++ S:=by rw [hLe,hRe]; simp
      have e2:(((P ++ L1).length:Nat):Int)=(k:Int):=by simp only [List.length_append]; omega
      have e3:(((P ++ L1).length + L2.length:Nat):Int)=((P.length + L.length:Nat):Int):=by simp only [List.length_append]; omega
      have e4:(((P ++ L1).length + L2.length + R1.length:Nat):Int)=((P.length + L.length + (mid - k):Nat):Int):=by simp only [List.length_append]; omega
      rw [e1,e2,e3,e4] at h;rw [h];simp
    . have hz:R1=[]:=List.length_eq_zero_iff.1 (by omega);rw [aF (by omega),ax (by omega)];dsimp only [cond_true,cond_false];rw [hLe,hRe,hz];simp
  . have hz:L2=[]:=List.length_eq_zero_iff.1 (by omega);rw [ax (by omega)];dsimp only [cond_false];rw [hLe,hRe,hz];simp
 -- the left half
 obtain ⟨M1,s1,t1,u1⟩:∃ M1,lL dD M1/\ez dD (L1 ++ R1) M1/\cond (cond (au (P.length:Int) (k:Int)) (au (k:Int) (mid:Int)) false) (ft n (P ++ L1 ++ R1 ++ (L2 ++ R2 ++ S)) (P.length:Int) (k:Int) (mid:Int)) (some (((P ++ L1 ++ R1 ++ (L2 ++ R2 ++ S),()),()),()))=some (((P ++ M1 ++ (L2 ++ R2 ++ S),()),()),()):=by
  by_cases z1:P.length < k
  . by_cases z2:k < mid
    . obtain ⟨M,m1,m2,m3⟩:=ih P L1 R1 (L2 ++ R2 ++ S) (by omega) (by omega) (by omega) sL.1 sR.1 (by simp only [bQ,List.length_append]; omega);refine ⟨M,m1,m2,?_⟩;rw [aF (by omega),aF (by omega)];dsimp only [cond_true];rw [show ((P.length + L1.length:Nat):Int)=(k:Int) by omega,show ((P.length + L1.length + R1.length:Nat):Int)=(mid:Int) by omega] at m3;exact m3
    . have hz:R1=[]:=List.length_eq_zero_iff.1 (by omega);refine ⟨L1,sL.1,by rw [hz,List.append_nil]; exact ez.refl _,?_⟩;rw [aF (by omega),ax (by omega),hz];simp
  . have hz:L1=[]:=List.length_eq_zero_iff.1 (by omega);refine ⟨R1,sR.1,by rw [hz]; exact ez.refl _,?_⟩;rw [ax (by omega),hz];simp
 have nM1:M1.length=L1.length + R1.length:=by have:=t1.1; rw [List.length_append] at this; omega
 -- the right half
 obtain ⟨M2,s2,t2,u2⟩:∃ M2,lL dD M2/\ez dD (L2 ++ R2) M2/\cond (cond (au (mid:Int) ((P.length + L.length + (mid - k):Nat):Int)) (au ((P.length + L.length + (mid - k):Nat):Int) ((P.length + L.length + R.length:Nat):Int)) false) (ft n (P ++ M1 ++ (L2 ++ R2 ++ S)) (mid:Int) ((P.length + L.length + (mid - k):Nat):Int) ((P.length + L.length + R.length:Nat):Int)) (some (((P ++ M1 ++ (L2 ++ R2 ++ S),()),()),()))=some (((P ++ (M1 ++ M2) ++ S,()),()),()):=by
  by_cases z1:0 < L2.length
  . by_cases z2:0 < R2.length
    . obtain ⟨M,m1,m2,m3⟩:=ih (P ++ M1) L2 R2 S (by omega) z1 z2 sL.2.1 sR.2.1 (by simp only [bQ,List.length_append]; omega);refine ⟨M,m1,m2,?_⟩;rw [aF (by omega),aF (by omega)];dsimp only [cond_true];rw [show (((P ++ M1).length:Nat):Int)=(mid:Int) by simp only [List.length_append]; omega,show (((P ++ M1).length + L2.length:Nat):Int)=((P.length + L.length + (mid - k):Nat):Int) by simp only [List.length_append]; omega,show (((P ++ M1).length + L2.length + R2.length:Nat):Int)=((P.length + L.length + R.length:Nat):Int) by simp only [List.length_append]; omega] at m3;have e1:P ++ M1 ++ L2 ++ R2 ++ S=P ++ M1 ++ (L2 ++ R2 ++ S):=by simp
      rw [e1] at m3;rw [m3];simp
    . have hz:R2=[]:=List.length_eq_zero_iff.1 (by omega);refine ⟨L2,sL.2.1,by rw [hz,List.append_nil]; exact ez.refl _,?_⟩;rw [ax (a:=((P.length + L.length + (mid - k):Nat):Int)) (by omega),hz];cases au (mid:Int) ((P.length + L.length + (mid - k):Nat):Int) <;> simp
  . have hz:L2=[]:=List.length_eq_zero_iff.1 (by omega);refine ⟨R2,sR.2.1,by rw [hz]; exact ez.refl _,?_⟩;rw [ax (a:=(mid:Int)) (by omega),hz];simp
 refine ⟨M1 ++ M2,cF.2 ⟨s1,s2,fun x hx y hy => ?_⟩,?_,?_⟩
 . rcases List.mem_append.1 ((t1.mem fw).2 hx) with hx | hx
   . rcases List.mem_append.1 ((t2.mem fw).2 hy) with hy | hy
     . exact sL.2.2 x hx y hy
     . exact xLR x hx y hy
   . rcases List.mem_append.1 ((t2.mem fw).2 hy) with hy | hy
     . exact Es (xRL x hx y hy)
     . exact sR.2.2 x hx y hy
 . have h1:ez dD (L2 ++ R1) (R1 ++ L2):=ez.swap fw fun y hy x hx=>xRL x hx y hy
   have h2:=((ez.refl L1).append h1).append (ez.refl R2);have h3:=t1.append t2;have e1:L ++ R=L1 ++ (L2 ++ R1) ++ R2:=by rw [hLe,hRe]; simp
   have e2:L1 ++ (R1 ++ L2) ++ R2=L1 ++ R1 ++ (L2 ++ R2):=by simp
   rw [e1];rw [e2] at h2;exact h2.trans h3
 . rw [hsp];unfold zN;rw [st1];dsimp only [Option.bind_some];rw [u1];dsimp only [Option.bind_some];rw [u2];rfl
theorem EO (P L R S:List aO) (h2:0 < L.length) (h3:0 < R.length) (hL:lL dD L) (hR:lL dD R) (hl:(P ++ L ++ R ++ S).length<=bQ) :
 ∃ M,lL dD M/\ez dD (L ++ R) M/\mm (P ++ L ++ R ++ S) (P.length:Int) ((P.length + L.length:Nat):Int) ((P.length + L.length + R.length:Nat):Int)=some (((P ++ M ++ S,()),()),()):=by
 obtain ⟨M,m1,m2,m3⟩:=O4 (L.length + R.length) P L R S (Nat.le_refl _) h2 h3 hL hR hl;refine ⟨M,m1,m2,LG (n:=L.length + R.length) fun m hm => ?_⟩;obtain ⟨M',p1,p2,p3⟩:=O4 m P L R S hm h2 h3 hL hR hl;rw [p3,qZ fw p1 m1 (p2.symm.trans m2)]
def MO (k:Nat) (cs:List (List aO)):Prop:=∀ c∈cs,c.length=k/\lL dD c
theorem zB {k:Nat}:∀ {cs:List (List aO)},MO k cs->cs.flatten.length=cs.length * k
 | [],_=>by simp
 | c :: cs,h=>by
   have h1:=(h c (List.mem_cons_self ..)).1;have h2:=zB (cs:=cs) fun x hx=>h x (List.mem_cons_of_mem _ hx)
   rw [List.flatten_cons,List.length_append,h1,h2,List.length_cons,Nat.add_mul,Nat.one_mul,Nat.add_comm]
theorem Hm (N:Nat):∀ (n:Nat) (P R:List aO),R.length=n->(P ++ R).length=N->N<=4194304 ->
 ∃ (cs:List (List aO)) (T:List aO),MO 20 cs/\T.length < 20/\ez dD R (cs.flatten ++ T) /\
  Dg (P ++ R) (N:Int) () 20 (P.length:Int) ((P.length + 20:Nat):Int)=some (.inl (P ++ cs.flatten ++ T,(N:Int),(),20,((N - T.length:Nat):Int),((N - T.length + 20:Nat):Int),())):=by
 intro n;induction n using Nat.strongRecOn with
 | _ n ih =>
 intro P R hn hN hB;have hN':=hN;rw [List.length_append] at hN';by_cases h:R.length < 20
 . refine ⟨[],R,fun c hc=>by simp at hc,h,ez.refl _,aK _ ?_⟩;show sD (P ++ R) (N:Int) () 20 (P.length:Int) ((P.length + 20:Nat):Int)=_;unfold sD;have:bH ((P.length + 20:Nat):Int) (N:Int)=false:=decide_eq_false (by omega);rw [this];have e:N - R.length=P.length:=by omega
   rw [e];simp
 . obtain ⟨L,S,rfl,hL⟩:∃ L S,R=L ++ S/\L.length=20:=⟨R.take 20,R.drop 20,(List.take_append_drop _ _).symm,by rw [List.length_take]; omega⟩;simp only [List.length_append] at hN' hn h;obtain ⟨M,m1,m2,m3⟩:=Oy P L S (by simp only [bQ,List.length_append]; omega);have hM:M.length=20:=by rw [<- m2.1]; exact hL
   obtain ⟨cs,T,q1,q2,q3,q4⟩:=ih S.length (by omega) (P ++ M) S rfl (by simp only [List.length_append]; omega) hB;refine ⟨M :: cs,T,fun c hc => ?_,q2,?_,?_⟩
   . rcases List.mem_cons.1 hc with rfl | hc
     . exact ⟨hM,m1⟩
     . exact q1 c hc
   . have:=m2.append q3;rw [List.flatten_cons,List.append_assoc];exact this
   . have e1:P ++ M ++ cs.flatten ++ T=P ++ (M :: cs).flatten ++ T:=by simp
     rw [e1] at q4;refine aU _ ?_ q4;show sD (P ++ (L ++ S)) (N:Int) () 20 (P.length:Int) ((P.length + 20:Nat):Int)=_;unfold sD;have k1:bH ((P.length + 20:Nat):Int) (N:Int)=true:=decide_eq_true (by omega);have e2:P ++ (L ++ S)=P ++ L ++ S:=by simp
     rw [hL] at m3;rw [k1,e2,m3];dsimp only [cond_true,Option.bind_some];have k2:aj .i64 ((P.length + 20:Nat):Int) 20=(((P ++ M).length + 20:Nat):Int):=by rw [ay (by omega) (by omega)]; simp only [List.length_append]; omega
     have k3:((P.length + 20:Nat):Int)=((P ++ M).length:Int):=by simp only [List.length_append]; omega
     rw [k2,k3]
theorem Qy {k:Nat} (h:k<=1073741824):j5 .i64 2 (k:Int)=((2 * k:Nat):Int)/\j5 .i64 (k:Int) 2=((2 * k:Nat):Int):=by unfold j5;rw [IntWalk.i64_in _ (by omega),IntWalk.i64_in _ (by omega)];omega
theorem Gp (N k:Nat) (hk:0 < k) (hkB:k<=1073741824) (hB:N<=4194304) (T:List aO) (hT:T.length < k):∀ (n:Nat) (cs:List (List aO)) (P:List aO),cs.length=n->MO k cs->(P ++ cs.flatten ++ T).length=N ->
 ∃ (ds c2:List (List aO)) (b':Int),MO (2 * k) ds/\MO k c2/\c2.length<=1/\ez dD cs.flatten (ds.flatten ++ c2.flatten) /\
  zg (P ++ cs.flatten ++ T) (N:Int) () (k:Int) (P.length:Int) ((P.length + 2 * k:Nat):Int)=some (.inl (P ++ ds.flatten ++ c2.flatten ++ T,(N:Int),(),(k:Int),((P ++ ds.flatten).length:Int),b',())):=by
 intro n;induction n using Nat.strongRecOn with
 | _ n ih =>
 intro cs P hn hc hN;have hN':=hN;simp only [List.length_append] at hN'
 have stop:cs.length<=1->∃ (ds c2:List (List aO)) (b':Int),MO (2 * k) ds/\MO k c2/\c2.length<=1/\ez dD cs.flatten (ds.flatten ++ c2.flatten) /\
  zg (P ++ cs.flatten ++ T) (N:Int) () (k:Int) (P.length:Int) ((P.length + 2 * k:Nat):Int)=some (.inl (P ++ ds.flatten ++ c2.flatten ++ T,(N:Int),(),(k:Int),((P ++ ds.flatten).length:Int),b',())):=fun h1=>by
  refine ⟨[],cs,((P.length + 2 * k:Nat):Int),fun c hc=>by simp at hc,hc,h1,by simpa using ez.refl _,aK _ ?_⟩;show sK (P ++ cs.flatten ++ T) (N:Int) () (k:Int) (P.length:Int) ((P.length + 2 * k:Nat):Int)=_;unfold sK;have hf:=zB hc;have:cs.length * k<=k:=by have:=Nat.mul_le_mul_right k h1;omega
  have:bH ((P.length + 2 * k:Nat):Int) (N:Int)=false:=decide_eq_false (by omega);rw [this];simp
 cases cs with
 | nil=>exact stop (by simp)
 | cons c1 cs =>
 cases cs with
 | nil=>exact stop (by simp)
 | cons c2 cs =>
   have h1:=hc c1 (by simp);have h2:=hc c2 (by simp);have h3:MO k cs:=fun c h=>hc c (by simp [h])
   simp only [List.flatten_cons,List.length_append] at hN';obtain ⟨M,m1,m2,m3⟩:=EO P c1 c2 (cs.flatten ++ T) (by omega) (by omega) h1.2 h2.2 (by simp only [bQ,List.length_append]; omega);have hM:M.length=2 * k:=by have:=m2.1; rw [List.length_append] at this; omega
   obtain ⟨ds,e2,b',q1,q2,q3,q4,q5⟩:=ih cs.length (by simp only [List.length_cons] at hn; omega) cs (P ++ M) rfl h3 (by simp only [List.length_append]; omega);refine ⟨M :: ds,e2,b',fun d hd => ?_,q2,q3,?_,?_⟩
   . rcases List.mem_cons.1 hd with rfl | hd
     . exact ⟨hM,m1⟩
     . exact q1 d hd
   . have:=m2.append q4;simpa using this
   . have e3:P ++ M ++ ds.flatten ++ e2.flatten ++ T=P ++ (M :: ds).flatten ++ e2.flatten ++ T:=by simp
     have e4:P ++ M ++ ds.flatten=P ++ (M :: ds).flatten:=by simp
     rw [e3,e4] at q5;refine aU _ ?_ q5;show sK (P ++ (c1 :: c2 :: cs).flatten ++ T) (N:Int) () (k:Int) (P.length:Int) ((P.length + 2 * k:Nat):Int)=_;unfold sK;have k1:bH ((P.length + 2 * k:Nat):Int) (N:Int)=true:=decide_eq_true (by omega);have e5:P ++ (c1 :: c2 :: cs).flatten ++ T=P ++ c1 ++ c2 ++ (cs.flatten ++ T):=by simp
     have k2:aj .i64 (P.length:Int) (k:Int)=((P.length + c1.length:Nat):Int):=by rw [ay (by omega) (by omega)]; omega
     have k3:((P.length + 2 * k:Nat):Int)=((P.length + c1.length + c2.length:Nat):Int):=by omega
     rw [k1,(Qy hkB).1,k2,k3,e5,m3];dsimp only [cond_true,Option.bind_some];have k4:aj .i64 ((P.length + c1.length + c2.length:Nat):Int) ((2 * k:Nat):Int)=(((P ++ M).length + 2 * k:Nat):Int):=by rw [ay (by omega) (by omega)]; simp only [List.length_append]; omega
     have k5:((P.length + c1.length + c2.length:Nat):Int)=((P ++ M).length:Int):=by simp only [List.length_append]; omega
     rw [k4,k5];simp
theorem Hd (N:Nat) (hB:N<=4194304):∀ (f k:Nat) (cs:List (List aO)) (T:List aO),N - k<=f->0 < k->k<=8388608->MO k cs->T.length < k->lL dD T->(cs.flatten ++ T).length=N ->
 ∃ (M:List aO) (k':Int),lL dD M/\ez dD (cs.flatten ++ T) M/\CU (cs.flatten ++ T) (N:Int) () (k:Int)=some (.inl (M,(N:Int),(),k',())):=by
 intro f;induction f using Nat.strongRecOn with
 | _ f ih =>
 intro k cs T hf hk hkB hc hT hTs hN;have hN':=hN;rw [List.length_append,zB hc] at hN';by_cases h:k < N
 . obtain ⟨ds,c2,b',q1,q2,q3,q4,q5⟩:=Gp N k hk (by omega) hB T hT cs.length cs [] rfl hc (by simpa using hN);simp only [List.nil_append,List.length_nil,Nat.zero_add] at q5;have q5':zg (cs.flatten ++ T) (N:Int) () (k:Int) 0 ((2 * k:Nat):Int)=_:=q5;have hlen:ds.flatten.length + c2.flatten.length + T.length=N:=by
    have:=q4.1;rw [List.length_append] at this;rw [List.length_append] at hN;omega
   -- the rest behind the pairs
   obtain ⟨T',t1,t2,t3,t4⟩:∃ T',T'.length < 2 * k/\lL dD T'/\ez dD (c2.flatten ++ T) T' /\
    rM (cs.flatten ++ T) (N:Int) () (k:Int)=some (.inl (ds.flatten ++ T',(N:Int),(),((2 * k:Nat):Int),())):=by
    unfold rM;rw [aF (by omega),(Qy (by omega)).1,q5'];dsimp only [cond_true,Option.bind_some,Sum.elim_inl];rw [(Qy (k:=k) (by omega)).2];have k2:aj .i64 ((ds.flatten.length:Nat):Int) (k:Int)=((ds.flatten.length + k:Nat):Int):=by rw [ay (by omega) (by omega)]; omega
    rw [k2];cases c2 with
    | nil => simp only [List.flatten_nil,List.length_nil,Nat.add_zero] at hlen;refine ⟨T,by omega,hTs,by simpa using ez.refl _,?_⟩;rw [ax (by omega)];simp
    | cons c c2 =>
      have:c2=[]:=List.length_eq_zero_iff.1 (by simp only [List.length_cons] at q3; omega);subst this;have hcc:=q2 c (by simp);simp only [List.flatten_cons,List.flatten_nil,List.append_nil] at hlen ⊢;by_cases hz:0 < T.length
      . obtain ⟨M,m1,m2,m3⟩:=EO ds.flatten c T [] (by omega) hz hcc.2 hTs (by simp only [bQ,List.length_append,List.length_nil]; omega);refine ⟨M,by have:=m2.1; rw [List.length_append] at this; omega,m1,m2,?_⟩;rw [hcc.1] at m3;rw [show ((ds.flatten.length + k + T.length:Nat):Int)=(N:Int) by omega,List.append_nil,List.append_nil] at m3;rw [aF (by omega),m3];simp
      . have:T=[]:=List.length_eq_zero_iff.1 (by omega);subst this;refine ⟨c,by omega,hcc.2,by simpa using ez.refl _,?_⟩;rw [ax (by simp only [List.length_nil] at hlen; omega)];simp
   obtain ⟨M,k',m1,m2,m3⟩:=ih (N - 2 * k) (by omega) (2 * k) ds T' (Nat.le_refl _) (by omega) (by omega) q1 t1 t2 (by have:=t3.1; rw [List.length_append] at this ⊢; omega);refine ⟨M,k',m1,?_,aU _ t4 m3⟩;have h1:=q4.append (ez.refl T);have h2:=(ez.refl ds.flatten).append t3;rw [List.append_assoc] at h1;exact (h1.trans h2).trans m2
 . refine ⟨cs.flatten ++ T,(k:Int),?_,ez.refl _,aK _ ?_⟩
   . cases cs with
     | nil=>simpa using hTs
     | cons c cs =>
       simp only [List.length_cons,Nat.add_mul,Nat.one_mul] at hN';have h0:T=[]:=List.length_eq_zero_iff.1 (by omega);have h1:cs=[]:=by
        cases cs with
        | nil=>rfl
        | cons d cs=>simp only [List.length_cons,Nat.add_mul,Nat.one_mul] at hN'; omega
       subst h0; subst h1;simpa using (hc c (by simp)).2
   . show rM (cs.flatten ++ T) (N:Int) () (k:Int)=_;unfold rM;rw [ax (by omega)];rfl
theorem RK (xs:List aO) (hB:xs.length<=4194304):∃ M,lL dD M/\ez dD xs M/\NS xs=some (((M,()),()),()):=by
 obtain ⟨cs,T,q1,q2,q3,q4⟩:=Hm xs.length xs.length [] xs rfl rfl hB;simp only [List.nil_append,List.length_nil,Nat.zero_add] at q4;have hlen:cs.flatten.length + T.length=xs.length:=by have:=q3.1; rw [List.length_append] at this; omega
 obtain ⟨T',t1,t2,t3⟩:=Oy cs.flatten T [] (by simp only [bQ,List.length_append,List.length_nil]; omega);rw [List.append_nil,List.append_nil] at t3;have hT':T'.length=T.length:=t2.1.symm;obtain ⟨M,k',m1,m2,m3⟩:=Hd xs.length hB (xs.length) 20 cs T' (by omega) (by decide) (by decide) q1 (by omega) t1 (by rw [List.length_append]; omega);refine ⟨M,m1,(q3.trans ((ez.refl _).append t2)).trans m2,?_⟩;have q4':Dg xs (ae xs) () 20 0 20=_:=q4;have e1:((cs.flatten.length + T.length:Nat):Int)=(xs.length:Int):=by omega
 have e2:((xs.length - T.length:Nat):Int)=(cs.flatten.length:Int):=by omega
 rw [e1] at t3;unfold NS Rq;rw [q4'];dsimp only [Option.bind_some,Sum.elim_inl];rw [e2,t3];dsimp only [Option.bind_some];have m3':CU (cs.flatten ++ T') (xs.length:Int) () 20=_:=m3;rw [m3'];rfl
theorem H2 (out:List aO) (x:aO) (hS:lL dD out) (hl:out.length<=4194304) (t11:List (ea)) (t12 t13:Int) (t18:List aO) (t19 t20:Int) (b2:List aO×Unit):∀ (n:Nat) (A B:List aO),out=A ++ B->A.length=n->(∀ y∈B,dD x y=true) ->
 ∃ A' B',out=A' ++ B'/\(∀ y∈B',dD x y=true)/\(∀ y∈A',dD x y=false)/\Cl out (A.length:Int) t11 t12 t13 t18 t19 t20 b2 x=some (.inl (out,(A'.length:Int),t11,t12,t13,t18,t19,t20,b2,x,())):=by
 have hbig:aT=140737488355328:=rfl;intro n;induction n with
 | zero => intro A B hAB hn hB;have:A=[]:=List.length_eq_zero_iff.1 hn;subst this;refine ⟨[],B,hAB,hB,fun y hy=>by simp at hy,aK _ ?_⟩;show vp out 0 t11 t12 t13 t18 t19 t20 b2 x=_;unfold vp;rfl
 | succ n ih =>
   intro A B hAB hn hB;obtain ⟨C,y,rfl⟩:=ui (a:=A) (fun h=>by subst h; simp at hn);have hC:C.length=n:=by simpa using hn
   have hlen:=congrArg List.length hAB;simp only [List.length_append,List.length_cons,List.length_nil] at hlen;have k1:aM .i64 ((C ++ [y]).length:Int) 1=(C.length:Int):=by rw [aS (by simp only [List.length_append,List.length_cons,List.length_nil]; omega) (by simp only [List.length_append,List.length_cons,List.length_nil]; omega)]; simp only [List.length_append,List.length_cons,List.length_nil]; omega
   have e0:out=C ++ y :: B:=by rw [hAB]; simp
   have i1:aR (C.length:Int) out=true:=by rw [e0]; exact im _ _ _ rfl
   have g1:gt d59 out (C.length:Int)=y:=by rw [e0]; exact wC _ _ _ _ rfl
   have hstep:vp out ((C ++ [y]).length:Int) t11 t12 t13 t18 t19 t20 b2 x=cond (dD x y) (some (.inl (out,(C.length:Int),t11,t12,t13,t18,t19,t20,b2,x,()))) (some (.inr (.inl (out,((C ++ [y]).length:Int),t11,t12,t13,t18,t19,t20,b2,x,())))):=by unfold vp;rw [aF (by simp only [List.length_append,List.length_cons,List.length_nil]; omega)];dsimp only [cond_true];rw [k1,i1,g1,ux];dsimp only [cond_true];rw [Bool.not_not]
   cases hc:dD x y with
   | true =>
     rw [hc] at hstep;obtain ⟨A',B',r1,r2,r3,r4⟩:=ih C (y :: B) e0 hC (fun z hz=>by
      rcases List.mem_cons.1 hz with rfl | hz
      . exact hc
      . exact hB z hz)
     exact ⟨A',B',r1,r2,r3,aU _ hstep r4⟩
   | false =>
     rw [hc] at hstep;refine ⟨C ++ [y],B,hAB,hB,fun z hz => ?_,aK _ hstep⟩;rcases List.mem_append.1 hz with hz | hz
     . rw [hAB] at hS;have:=(cF.1 (cF.1 hS).1).2.2 z hz y (by simp);exact fw.le_trans this hc
     . simp only [List.mem_singleton] at hz; subst hz; exact hc
abbrev er:=Int×List aO×Unit
def fD (l:List er):List aO:=(l.map fun s=>s.2.1).flatten
def sy (l:List er):Prop:=l.length<=1048576/\(fD l).length<=1048576/\∀ s∈l,∀ a∈s.2.1,iX a
theorem nv {l:List er} {i:Nat} {s:er} (h:l[i]? = some s):fD (l.take (i + 1))=fD (l.take i) ++ s.2.1:=by unfold fD;rw [List.take_add_one,h];simp
theorem ur (l:List er) (i:Nat):(fD (l.take i)).length<=(fD l).length:=by
 have:fD l=fD (l.take i) ++ fD (l.drop i):=by unfold fD;rw [<- List.flatten_append,<- List.map_append,List.take_append_drop]
 rw [this,List.length_append];omega
theorem Qd (base acc:List aO) (hb:∀ a∈acc,iX a) (hl:(base ++ acc).length<=1048576) (t11:List er) (t12 t13:Int) (b2:List aO×Unit) (out:List aO) (h1:lL dD out) (h2:ez dD base out) :
 ∃ M,(lL dD M/\ez dD (base ++ acc.take acc.length) M)/\EX out t11 t12 t13 acc (ae acc) 0 b2=some (.inl (M,t11,t12,t13,acc,ae acc,(acc.length:Int),b2,())):=by
 have hbig:aT=140737488355328:=rfl;rw [List.length_append] at hl;refine ni (step:=yV sX) acc (fun i (o:List aO)=>(o,t11,t12,t13,acc,ae acc,((i:Nat):Int),b2,())) (fun o=> .inl (o,t11,t12,t13,acc,ae acc,(acc.length:Int),b2,())) (fun i o=>lL dD o/\ez dD (base ++ acc.take i) o) (fun i x o hx ho => ?_) (fun o ho => ?_) acc.length 0 out (by omega) ⟨h1,by simpa using h2⟩
 . have hlt:=ai hx;have hxB:=hb x (List.mem_of_getElem? hx);have hol:o.length<=1048576:=by
    have:=ho.2.1;rw [List.length_append,List.length_take] at this;omega
   obtain ⟨A,B,r1,r2,r3,r4⟩:=H2 o x ho.1 (by omega) t11 t12 t13 acc (ae acc) (i:Int) b2 o.length o [] (by simp) rfl (fun y hy=>by simp at hy);have hAB:o.length=A.length + B.length:=by rw [r1,List.length_append]
   refine ⟨A ++ [x] ++ B,?_,?_,?_⟩
   . show sX o t11 t12 t13 acc (ae acc) (i:Int) b2=_;unfold sX;have r4':Cl o (ae o) t11 t12 t13 acc (ae acc) (i:Int) b2 x=_:=r4;have f1:dP 0 (A.length:Int) o=true:=by
      show (decide ((0:Int)<=0) && (decide ((0:Int)<=(A.length:Int)) && decide ((A.length:Int)<=(o.length:Int))))=true;rw [decide_eq_true (by omega),decide_eq_true (by omega),decide_eq_true (by omega)]; rfl
     have f2:Tb 160 [] o (A.length:Int)=true:=Nat.ble_eq_true_of_le (by simp only [List.length_nil,Int.toNat_natCast]; omega);have f3:P6 o (A.length:Int)=A:=by unfold P6; rw [Int.toNat_natCast,r1]; simp
     have f4:Y9 o (A.length:Int)=B:=by unfold Y9; rw [Int.toNat_natCast,r1]; simp
     have f5:SG (A.length:Int) (A.length:Int)=true:=by unfold SG preB bH;rw [decide_eq_true (by omega),Nat.beq_refl]; rfl
     have f6:bY 160 (jn [] A) [x]=true:=Nat.ble_eq_true_of_le (by show ((([]:List aO) ++ A).length + 1) * 160<=aT; simp only [List.nil_append]; omega);have f7:bY 160 (jn (jn [] A) [x]) B=true:=Nat.ble_eq_true_of_le (by show ((([]:List aO) ++ A ++ [x]).length + B.length) * 160<=aT; simp only [List.nil_append,List.length_append,List.length_cons,List.length_nil]; omega);rw [aD hx,az hx,aV _ hx,r4'];dsimp only [cond_true,Option.bind_some,Sum.elim_inl];rw [f1,f2,f3,f4,f5,Ch x hxB,aJ (by omega)];dsimp only [cond_true,Option.bind_some];rw [f6,f7];rfl
   . have hs:=ho.1;rw [r1] at hs;have hs:=cF.1 hs;rw [List.append_assoc];refine cF.2 ⟨hs.1,List.pairwise_cons.2 ⟨fun y hy=>Es (r2 y hy),hs.2.1⟩,fun y hy z hz => ?_⟩;rcases List.mem_cons.1 hz with rfl | hz
     . exact r3 y hy
     . exact hs.2.2 y hy z hz
   . have e1:base ++ acc.take (i + 1)=base ++ acc.take i ++ [x]:=by rw [List.take_add_one,hx]; simp
     rw [e1];have q1:=ho.2.append (ez.refl [x]);have q2:ez dD (B ++ [x]) ([x] ++ B):=ez.swap fw fun y hy z hz=>by simp only [List.mem_singleton] at hz; subst hz; exact r2 y hy
     have q3:=(ez.refl A).append q2;rw [r1] at q1;rw [List.append_assoc A] at q1;rw [List.append_assoc A];exact q1.trans q3
 . show sX o t11 t12 t13 acc (ae acc) (acc.length:Int) b2=_;unfold sX;rw [aw rfl]; rfl
theorem Bk (l:List er) (hB:sy l):∃ M,(lL dD M/\ez dD (fD l) M)/\Pm l=some ((),((M,()),())):=by
 have hbig:aT=140737488355328:=rfl;have hl:=hB.1;obtain ⟨M,⟨m1,m2⟩,m3⟩:=ni (step:=ff sT) l (fun j (o:List aO)=>(o,l,ae l,((j:Nat):Int),(([]:List aO),()),())) (fun o=> .inl (o,l,ae l,(l.length:Int),([],()),())) (fun j o=>lL dD o/\ez dD (fD (l.take j)) o) (fun j s o hx ho=>by
  have hlt:=ai hx;have hs:=hB.2.2 s (List.mem_of_getElem? hx);have e1:=nv hx;have e2:=ur l (j + 1);have e3:=hB.2.1;obtain ⟨M,⟨m1,m2⟩,m3⟩:=Qd (fD (l.take j)) s.2.1 hs (by rw [<- e1]; omega) l (ae l) (j:Int) ([],()) o ho.1 ho.2;rw [List.take_length,<- e1] at m2;refine ⟨M,?_,m1,m2⟩;show sT o l (ae l) (j:Int) ([],())=_;unfold sT;rw [aD hx,az hx,aV _ hx];dsimp only [cond_true];rw [m3];dsimp only [Option.bind_some,Sum.elim_inl];rw [aJ (by omega)]) (fun o ho=>by
  show sT o l (ae l) (l.length:Int) ([],())=_;unfold sT;rw [aw rfl]; rfl) l.length 0 [] (by omega) ⟨ES,ez.refl _⟩
 rw [List.take_length] at m2;refine ⟨M,⟨m1,m2⟩,?_⟩;unfold Pm;have m3':EC [] l (ae l) 0 ([],())=_:=m3;rw [m3'];rfl
theorem AS (acc:List aO) (hb:∀ a∈acc,iX a) (hl:acc.length<=1048576):HE (acc,())=some ((),((acc,()),())):=by
 have hbig:aT=140737488355328:=rfl;unfold HE RP;have h:=aH (step:=Ex pZ) acc (fun i (a:List aO)=>((),acc,ae acc,((i:Nat):Int),(([]:List aO),()),(a,()),())) (fun _ x a=>Sum.inl (a ++ [x])) (fun a=> .inl ((),acc,ae acc,(acc.length:Int),([],()),(a,()),())) (fun i a=>a.length=i) (a0:=[]) rfl (fun i x a hx ha=>by
  have hlt:=ai hx;show pZ () acc (ae acc) (i:Int) ([],()) (a,())=_;unfold pZ;have e:∀ y:aO,bY 160 a [y]=true:=fun y=>Nat.ble_eq_true_of_le (by simp; omega)
  rw [aD hx,az hx,aV _ hx,HB x (hb x (List.mem_of_getElem? hx)),aJ (by omega)];dsimp only [cond_true,Option.bind_some];rw [e];rfl) (fun i x a a' hx ha hf=>by
  simp only [Sum.inl.injEq] at hf;rw [<- hf,List.length_append,ha]; rfl) (fun a ha=>by
  show pZ () acc (ae acc) (acc.length:Int) ([],()) (a,())=_;unfold pZ;rw [aw rfl]; rfl)
 rw [fH] at h;have h':Jl () acc (ae acc) 0 ([],()) ([],())=_:=h;dsimp only;rw [h'];rfl
theorem Li (l:List er) (hB:sy l):∃ M,(lL dD M/\ez dD (fD l) M)/\Ri l=some ((),((M,()),())):=by
 have hbig:aT=140737488355328:=rfl;have hl:=hB.1;have hl2:=hB.2.1;obtain ⟨o,ho,hm⟩:=ni (step:=ff xr) l (fun j (o:List aO)=>(l,ae l,((j:Nat):Int),(([]:List aO),()),(o,()),())) (fun o=> .inl (l,ae l,(l.length:Int),([],()),(o,()),())) (fun j o=>o=fD (l.take j)) (fun j s o hx ho=>by
  have hlt:=ai hx;have hs:=hB.2.2 s (List.mem_of_getElem? hx);have e1:=nv hx;have e2:=ur l (j + 1);rw [e1,List.length_append] at e2;refine ⟨o ++ s.2.1,?_,by rw [ho,e1]⟩;show xr l (ae l) (j:Int) ([],()) (o,())=_;unfold xr;have e:bY 160 o s.2.1=true:=Nat.ble_eq_true_of_le (by rw [ho]; omega);rw [aD hx,az hx,aV _ hx];dsimp only [cond_true];rw [AS s.2.1 hs (by omega)];dsimp only [cond_true,Option.bind_some];rw [e,aJ (by omega)];rfl) (fun o ho=>by
  show xr l (ae l) (l.length:Int) ([],()) (o,())=_;unfold xr;rw [aw rfl]; rfl) l.length 0 [] (by omega) rfl
 rw [List.take_length] at ho;subst ho;obtain ⟨M,m1,m2,m3⟩:=RK (fD l) (by omega);refine ⟨M,⟨m1,m2⟩,?_⟩;unfold Ri;have hm':OM l (ae l) 0 ([],()) ([],())=_:=hm;rw [hm'];dsimp only [Option.bind_some,Sum.elim_inl];rw [m3];rfl
theorem Ho (l:List er) (hB:sy l):∃ M,M.length=(fD l).length/\(∀ x∈M,x∈fD l)/\ez dD (fD l) M/\Pm l=some ((),((M,()),()))/\Ri l=some ((),((M,()),())):=by obtain ⟨M,⟨m1,m2⟩,m3⟩:=Bk l hB;obtain ⟨M',⟨p1,p2⟩,p3⟩:=Li l hB;have e:=qZ fw p1 m1 (p2.symm.trans m2);subst e;exact ⟨M',p2.1.symm,fun x hx=>(p2.mem fw).2 hx,p2,m3,p3⟩
abbrev aW:=List (Int×Unit)
def yl (b:aW):Prop:=b.length<=1048576/\∀ x∈b,0<=x.1/\x.1<=255
def eK (b:aW) (a k:Nat):aW:=(b.drop a).take k
theorem I6 (b:aW) (a k:Nat):sub b (a:Int) ((a + k:Nat):Int)=eK b a k:=by unfold sub eK;rw [Int.toNat_natCast,Int.toNat_natCast,List.drop_take,Nat.add_sub_cancel_left]
theorem lY {b:aW} {a k:Nat} (h:a + k<=b.length):(eK b a k).length=k:=by unfold eK;rw [List.length_take,List.length_drop];omega
theorem J9 {b:aW} {a k i:Nat} {x:Int×Unit} (h:(eK b a k)[i]? = some x):i < k/\b[a + i]? = some x:=by
 unfold eK at h;rw [List.getElem?_take] at h;split at h
 . rw [List.getElem?_drop] at h;exact ⟨by assumption,h⟩
 . simp at h
theorem Sl {b:aW} {a k:Nat} {x:Int×Unit} (h:x∈eK b a k):x∈b:=List.mem_of_mem_drop (List.mem_of_mem_take h)
theorem E7 {b:aW} {a k:Nat} (h:a + k<=b.length):dP (a:Int) ((a + k:Nat):Int) b=true:=by show (decide ((0:Int)<=(a:Int)) && (decide ((a:Int)<=((a + k:Nat):Int)) && decide (((a + k:Nat):Int)<=(b.length:Int))))=true;rw [decide_eq_true (by omega),decide_eq_true (by omega),decide_eq_true (by omega)]; rfl
theorem Aq (b:aW) (a k:Nat) (hb:b.length<=1048576) (ha:a<=b.length) (hk:k<=1048576):As b a k=some ((),(if a + k<=b.length then ((eK b a k,()),(true,()),()) else (([],()),(false,()),()))):=by
 unfold As;have e:aM .i64 (ae b) (a:Int)=(b.length:Int) - a:=aS (by show -4611686018427387904<=(b.length:Int) - a; omega) (by show (b.length:Int) - a<=_; omega);have i1:dR (a:Int) 0 (ae b)=true:=gM.2 ⟨by omega,by show (a:Int)<=(b.length:Int); omega⟩;have e2:aj .i64 (a:Int) (k:Int)=((a + k:Nat):Int):=by rw [ay (by omega) (by omega)]; omega
 dsimp only;rw [jY,e,e2];dsimp only [Option.bind_some];rw [i1,ax (a:=(k:Int)) (b:=0) (by omega)];by_cases h:a + k<=b.length
 . rw [ax (by omega),if_pos h,E7 h,I6];rfl
 . rw [aF (by omega),if_neg h]; rfl
def dW (s:List UInt8):Bool:=s.all fun x=>cond (au (x.toNat:Int) 32) false (!(au 126 (x.toNat:Int)))
theorem D9 (s:List UInt8) (hs:s.length<=aT):Ad s=some ((),((dW s,()),())):=by
 unfold Ad;have h:=aI (step:=wI oH) s (fun i (_:Unit)=>(s,((i:Nat):Int),())) (fun _ x _=>bif cond (au (x.toNat:Int) 32) false (!(au 126 (x.toNat:Int))) then Sum.inl () else .inr (.inr (false,()))) (fun _=> .inl (s,(s.length:Int),())) (a0:=()) (fun i x a hx=>by
  have hlt:=ai hx;show oH s (i:Int)=_;unfold oH;rw [aD hx,az hx,eI hx,aJ (by omega)];dsimp only [cond_true];cases au (x.toNat:Int) 32 <;> cases au 126 (x.toNat:Int) <;> rfl) (fun a=>by
  show oH s (s.length:Int)=_;unfold oH;rw [aw rfl]; rfl)
 rw [fU] at h;have h':II s 0=_:=h;rw [h'];unfold dW;cases s.all _ <;> rfl
theorem Ms (s:List UInt8) (hs:s.length<=aT):FC s=some ((),((dW s,()),())):=by
 unfold FC;have h:=aI (step:=dn nT) s (fun i (_:Unit)=>(s,ae s,((i:Nat):Int),())) (fun _ x _=>bif cond (au (x.toNat:Int) 32) false (!(au 126 (x.toNat:Int))) then Sum.inl () else .inr (.inr (false,()))) (fun _=> .inl (s,ae s,(s.length:Int),())) (a0:=()) (fun i x a hx=>by
  have hlt:=ai hx;show nT s (ae s) (i:Int)=_;unfold nT;rw [aD hx,az hx,eI hx,aJ (by omega)];dsimp only [cond_true];cases au (x.toNat:Int) 32 <;> cases au 126 (x.toNat:Int) <;> rfl) (fun a=>by
  show nT s (ae s) (s.length:Int)=_;unfold nT;rw [aw rfl]; rfl)
 rw [fU] at h;have h':I1 s (ae s) 0=_:=h;rw [h'];unfold dW;cases s.all _ <;> rfl
def kL (acc:Nat) (s:List UInt8):Nat:=s.foldl (fun n x=>n * 10 + (x.toNat - 48)) acc
theorem Al:∀ (s:List UInt8) (acc k:Nat),s.all fK=true->acc < 10 ^ k->kL acc s < 10 ^ (k + s.length)
 | [],acc,k,_,h=>h
 | x :: s,acc,k,hd,h=>by simp only [List.all_cons,Bool.and_eq_true] at hd;have:=fQ.1 hd.1;have h2:=Al s (acc * 10 + (x.toNat - 48)) (k + 1) hd.2 (by rw [Nat.pow_succ]; omega);rw [List.length_cons,show k + (s.length + 1)=k + 1 + s.length by omega];exact h2
theorem Cb:∀ (s:List UInt8) (acc:Nat),s.all fK=true->kL acc s < 1844674407370955162->Lib.parseUint10 acc s= .ok (kL acc s)
 | [],acc,_,_=>rfl
 | x :: s,acc,hd,h=>by
   simp only [List.all_cons,Bool.and_eq_true] at hd;have hx:=fQ.1 hd.1;have hmono:∀ (s:List UInt8) (a:Nat),a<=kL a s:=fun s=>by
    induction s with
    | nil=>intro a; exact Nat.le_refl _
    | cons y s ih=>intro a; exact Nat.le_trans (by omega) (ih (a * 10 + (y.toNat - 48)))
   have h1:=hmono s (acc * 10 + (x.toNat - 48));have h:kL (acc * 10 + (x.toNat - 48)) s < 1844674407370955162:=h;have ih:=Cb s (acc * 10 + (x.toNat - 48)) hd.2 h;unfold Lib.parseUint10;rw [if_pos hx,if_neg (by omega),if_neg (by omega),ih];rfl
theorem dm {s:List UInt8}:aY s=true↔s.all fK=true/\s≠[]:=by
 unfold aY;cases s.all fK with
 | false=>simp
 | true=>cases s <;> simp [au,ae]
def xY (s:List UInt8):Option Nat:=if aY s=true/\s.length<=18 then some (kL 0 s) else none
def Nz (o:Option Nat):Option (Unit×((Int×Unit)×(Bool×Unit)×Unit)):=some ((),match o with | some n=>(((n:Int),()),(true,()),()) | none=>((0,()),(false,()),()))
theorem Ps (s:List UInt8) (hs:s.length<=aT):Db s=Nz (xY s):=by
 unfold Db uw xY;rw [gP s hs];dsimp only [Option.bind_some];cases hd:aY s with
 | false=>rfl
 | true =>
   by_cases h18:s.length<=18
   . rw [if_pos ⟨rfl,h18⟩,Nat.ble_eq_true_of_le h18];obtain ⟨h1,h2⟩:=dm.1 hd;have hb:=Al s 0 0 h1 (by decide);have hb2:kL 0 s < 1000000000000000000:=Nat.lt_of_lt_of_le hb (by rw [Nat.zero_add]; exact Nat.pow_le_pow_right (by decide) h18);have hu:=Cb s 0 h1 (by omega);have hv:Lib.atoiAll s= .ok (kL 0 s:Int):=by
      cases s with
      | nil=>exact absurd rfl h2
      | cons c r => have hc:=List.all_eq_true.1 h1 c (by simp);have hc:=fQ.1 hc;rw [Lib.atoiAll_plain c r (by omega) (by omega)];unfold Lib.parseMag;rw [if_neg (by simp),hu];show (if 9223372036854775808<=kL 0 (c :: r) then _ else _)=_;rw [if_neg (by omega)]
     rw [hv];rfl
   . rw [if_neg (fun h=>h18 h.2)];have:Nat.ble s.length 18=false:=by
      cases h:Nat.ble s.length 18 with
      | false=>rfl
      | true=>exact absurd (Nat.le_of_ble_eq_true h) h18
     rw [this];rfl
theorem Ed (s:List UInt8) (hs:s.length<=aT):ud s=Nz (xY s):=by
 have hbig:aT=140737488355328:=rfl;unfold ud xY;rw [fN s hs];dsimp only [Option.bind_some];cases hd:aY s with
 | false=>rfl
 | true =>
   by_cases h18:s.length<=18
   . rw [if_pos ⟨rfl,h18⟩,ax (by show ¬ (18:Int) < (s.length:Int); omega)];obtain ⟨h1,h2⟩:=dm.1 hd;have h:=aH (step:=dn pR) s (fun i (a:Nat)=>(s,(a:Int),((i:Nat):Int),())) (fun _ x a=>Sum.inl (a * 10 + (x.toNat - 48))) (fun a=> .inl (s,(a:Int),(s.length:Int),())) (fun i a=>a < 10 ^ i) (a0:=0) (by decide) (fun i x a hx ha=>by
      have hlt:=ai hx;have hc:=fQ.1 (List.all_eq_true.1 h1 x (List.mem_of_getElem? hx));have h17:a < 10 ^ 17:=Nat.lt_of_lt_of_le ha (Nat.pow_le_pow_right (by decide) (by omega));have h17':a < 100000000000000000:=h17;show pR s (a:Int) (i:Int)=_;unfold pR;have m:j5 .i64 (a:Int) 10=((a * 10:Nat):Int):=by unfold j5; rw [IntKind.wrap_i64]; omega
      have c:bG .i64 (x.toNat:Int)=(x.toNat:Int):=by unfold bG; rw [IntKind.wrap_i64]; omega
      rw [aD hx,az hx,eI hx,aJ (by omega),m,c,ay (by omega) (by omega),aS (by omega) (by omega)];dsimp only [cond_true];rw [show ((a * 10:Nat):Int) + (x.toNat:Int) - 48=((a * 10 + (x.toNat - 48):Nat):Int) by omega]) (fun i x a a' hx ha hf=>by
      have hc:=fQ.1 (List.all_eq_true.1 h1 x (List.mem_of_getElem? hx));simp only [Sum.inl.injEq] at hf;rw [<- hf,Nat.pow_succ];omega) (fun a ha=>by
      show pR s (a:Int) (s.length:Int)=_;unfold pR;rw [aw rfl]; rfl)
     rw [bZ] at h;have h':HJ s 0 0=_:=h;rw [h'];rfl
   . rw [if_neg (fun h=>h18 h.2),aF (by show (18:Int) < (s.length:Int); omega)];rfl
theorem JO {s t:List UInt8} (h:s.length + t.length<=aT):GG s t=true:=Nat.ble_eq_true_of_le h
def Lx (x:Int×Unit):List UInt8:=[UInt8.ofNat (48 + x.1.toNat / 16),UInt8.ofNat (48 + x.1.toNat % 16)]
def oO (l:aW):List UInt8:=(l.map Lx).flatten
theorem qB:∀ l:aW,(oO l).length=2 * l.length
 | []=>rfl
 | x :: r=>by have:=qB r;unfold oO at this ⊢;simp only [List.map_cons,List.flatten_cons,List.length_append,this,Lx,List.length_cons,List.length_nil];omega
def Ar:List UInt8->aW
 | []=>[]
 | x :: r=>((x.toNat:Int),()) :: Ar r
theorem rT:∀ q:List UInt8,strOf (Ar q)=q
 | []=>rfl
 | x :: r=>by show UInt8.ofNat (Int.toNat (x.toNat:Int)) :: strOf (Ar r)=_;rw [rT r,Int.toNat_natCast];simp
theorem uB:∀ q:List UInt8,(Ar q).length=q.length
 | []=>rfl
 | x :: r=>congrArg (· + 1) (uB r)
theorem EF:∀ q r:List UInt8,Ar (q ++ r)=Ar q ++ Ar r
 | [],r=>rfl
 | x :: q,r=>congrArg (((x.toNat:Int),()) :: ·) (EF q r)
theorem AT:∀ (n:Nat) (q:List UInt8),(Ar q).drop n=Ar (q.drop n)
 | 0,q=>by simp
 | n + 1,[]=>rfl
 | n + 1,x :: r=>AT n r
def jc (b:aW) (a n:Nat):Option (List UInt8) :=
 if 1<=n/\n<=38/\a + (n + 1) / 2<=b.length then
  (if (oO (eK b a ((n + 1) / 2))).all fK=true/\(n % 2=1->(oO (eK b a ((n + 1) / 2))).head? = some 48) then some ((oO (eK b a ((n + 1) / 2))).drop (n % 2)) else none)
 else none
def ya (o:Option (List UInt8)) (e:Int):Option (Unit×((List UInt8×Unit)×(Int×Unit)×(Bool×Unit)×Unit)):=some ((),match o with | some s=>((s,()),(e,()),(true,()),()) | none=>(([],()),(0,()),(false,()),()))
theorem zG {s:List UInt8}:s.head? = some 48↔∃ r,s=48 :: r:=by
 cases s with
 | nil=>simp
 | cons x r=>simp
theorem Lf (n:Nat) (h:n<=1048576):mg .i64 (aj .i64 (n:Int) 1) 2=(((n + 1) / 2:Nat):Int):=by rw [ay (by omega) (by omega)];unfold mg;rw [Int.tdiv_eq_ediv_of_nonneg (by omega),IntKind.wrap_i64];omega
theorem Pk (n:Nat):aq (fz (n:Int) 2) 1=decide (n % 2=1):=by
 unfold aq fz;rw [Int.tmod_eq_emod_of_nonneg (by omega)];by_cases h:n % 2=1
 . rw [decide_eq_true h]; exact beq_iff_eq.2 (by omega)
 . rw [decide_eq_false h]; exact beq_eq_false_iff_ne.2 (by omega)
theorem Ub (x:Int×Unit) (h:0<=x.1/\x.1<=255):strOf [((bG .u8 (aj .i64 48 (mg .i64 (bG .i64 x.1) 16))),()),((bG .u8 (aj .i64 48 (fz (bG .i64 x.1) 16))),())]=Lx x:=by
 obtain ⟨⟨n,hn⟩,hn2⟩:(∃ n:Nat,x.1=n)/\x.1<=255:=⟨⟨x.1.toNat,by omega⟩,h.2⟩;have c:bG .i64 x.1=(n:Int):=by unfold bG; rw [IntKind.wrap_i64]; omega
 have q:mg .i64 (n:Int) 16=((n / 16:Nat):Int):=by unfold mg; rw [Int.tdiv_eq_ediv_of_nonneg (by omega),IntKind.wrap_i64]; omega
 have r:fz (n:Int) 16=((n % 16:Nat):Int):=by unfold fz; rw [Int.tmod_eq_emod_of_nonneg (by omega)]; omega
 have u:∀ k:Nat,k<=16->bG .u8 (aj .i64 48 (k:Int))=((48 + k:Nat):Int):=fun k hk=>by rw [ay (by omega) (by omega)]; unfold bG; rw [IntKind.wrap_u8]; omega
 rw [c,q,r,u _ (by omega),u _ (by omega)];unfold strOf Lx;rw [hn];rfl
theorem Vf:∀ c:Fin 256,aj .u8 48 (iQ .u8 (c.val:Int) 4)=((48 + c.val / 16:Nat):Int)/\aj .u8 48 (zK .u8 (c.val:Int) 15)=((48 + c.val % 16:Nat):Int):=by decide +kernel
theorem GS {s:List UInt8} (h:∃ r,s=48 :: r):(s.drop 1).all fK=s.all fK:=by obtain ⟨r,rfl⟩:=h;rfl
theorem Kk {s:List UInt8} (hs:s≠[]):aq (dx s 0) 48=true↔∃ r,s=48 :: r:=by
 cases s with
 | nil=>exact absurd rfl hs
 | cons x r =>
   show ((x.toNat:Int) == 48)=true↔_;rw [beq_iff_eq];refine ⟨fun h=>⟨r,?_⟩,fun ⟨r',h⟩ => ?_⟩
   . have:x=48:=UInt8.toNat_inj.1 (by show x.toNat=48; omega);rw [this]
   . rw [(List.cons.inj h).1]; rfl
theorem mV {s:List UInt8} (hs:s≠[]):aY s=s.all fK:=by
 cases h:s.all fK with
 | true=>exact dm.2 ⟨h,hs⟩
 | false =>
   cases h2:aY s with
   | false=>rfl
   | true=>rw [(dm.1 h2).1] at h; simp at h
theorem LW {s:List UInt8} {n:Nat} (h:n < s.length):s.drop n≠[]:=fun e=>by have:=congrArg List.length e;rw [List.length_drop] at this;simp only [List.length_nil] at this;omega
theorem Ec (b:aW) (a n:Nat) (hb:yl b) (ha:a<=b.length) (hn:n<=1048576):vJ b a n=ya (jc b a n) ((a + (n + 1) / 2:Nat):Int):=by
 have hbig:aT=140737488355328:=rfl;have hl:=hb.1;unfold vJ jc;have e:aM .i64 (ae b) (a:Int)=(b.length:Int) - a:=aS (by show -4611686018427387904<=(b.length:Int) - a; omega) (by show (b.length:Int) - a<=_; omega);have hq:=Lf n hn;dsimp only;rw [e,hq,ax (a:=(a:Int)) (b:=0) (by omega),ax (a:=ae b) (b:=(a:Int)) (by show ¬ (b.length:Int) < a; omega)];by_cases h1:1<=n/\n<=38;rotate_left
 . rw [if_neg (fun h=>h1 ⟨h.1,h.2.1⟩)];by_cases h0:(n:Int) < 1
   . rw [aF h0]; rfl
   . rw [ax h0,aF (by omega)]; rfl
 rw [ax (a:=(n:Int)) (b:=1) (by omega),ax (a:=38) (b:=(n:Int)) (by omega)];dsimp only [cond_false,cond_true];by_cases h2:a + (n + 1) / 2<=b.length;rotate_left
 . rw [if_neg (fun h=>h2 h.2.2),aF (by omega)]; rfl
 rw [if_pos ⟨h1.1,h1.2,h2⟩,ax (by omega)];dsimp only [cond_false];have hpl:=lY h2;have h:=aH (step:=ff pT) (eK b a ((n + 1) / 2)) (fun i (o:List UInt8)=>(b,(a:Int),(n:Int),o,((a + i:Nat):Int),())) (fun _ x o=>Sum.inl (o ++ Lx x)) (fun o=> .inl (b,(a:Int),(n:Int),o,((a + (n + 1) / 2:Nat):Int),())) (fun i o=>o.length=2 * i) (a0:=[]) rfl (fun i x o hx ho=>by
  obtain ⟨hik,hg⟩:=J9 hx;have hlt:=ai hg;show pT b (a:Int) (n:Int) o ((a + i:Nat):Int)=_;unfold pT;rw [hq,ay (by omega) (by omega),aF (by omega),az hg,aV _ hg];dsimp only [cond_true];rw [Ub x (hb.2 x (List.mem_of_getElem? hg)),JO (by show o.length + 2<=aT; omega),aJ (by omega)];rfl) (fun i x o o' hx ho hf=>by
  simp only [Sum.inl.injEq] at hf;rw [<- hf,List.length_append,ho];show 2 * i + 2=_;omega) (fun o ho=>by
  show pT b (a:Int) (n:Int) o ((a + (eK b a ((n + 1) / 2)).length:Nat):Int)=_;unfold pT;rw [hq,ay (by omega) (by omega),hpl,ax (by omega)]; rfl)
 have hfold:∀ (l:aW) (o:List UInt8),l.foldl (fun o x=>o ++ Lx x) o=o ++ oO l:=fun l=>by
  induction l with
  | nil=>intro o; simp [oO]
  | cons x r ih=>intro o; rw [List.foldl_cons,ih]; simp [oO]
 rw [bZ,hfold,List.nil_append] at h;have h':Kj b (a:Int) (n:Int) [] (a:Int)=_:=h;rw [h'];generalize hs:oO (eK b a ((n + 1) / 2))=s;have hsl:s.length=2 * ((n + 1) / 2):=by rw [<- hs,qB,hpl]
 have hsne:s≠[]:=fun e=>by rw [e] at hsl; simp only [List.length_nil] at hsl; omega
 dsimp only [Option.bind_some,Sum.elim_inl];rw [Pk,hq,ay (by omega) (by omega),show (a:Int) + (((n + 1) / 2:Nat):Int)=((a + (n + 1) / 2:Nat):Int) by omega];by_cases hp:n % 2=1
 . rw [decide_eq_true hp,hp];have i0:aR 0 s=true:=ln (i:=0) (by omega);have c1:dP 1 (ae s) s=true:=by
    show (decide ((0:Int)<=1) && (decide ((1:Int)<=(s.length:Int)) && decide ((s.length:Int)<=(s.length:Int))))=true;rw [decide_eq_true (by omega),decide_eq_true (by omega),decide_eq_true (by omega)]; rfl
   have sb:sub s 1 (ae s)=s.drop 1:=by show (s.take (Int.toNat (s.length:Int))).drop 1=_;rw [Int.toNat_natCast,List.take_length]
   rw [i0];dsimp only [cond_true];by_cases h48:∃ r,s=48 :: r
   . rw [(Kk hsne).2 h48];rw [c1,sb,fN _ (by rw [List.length_drop]; omega),mV (LW (by omega)),GS h48];dsimp only [cond_true,Option.bind_some];cases hd:s.all fK with
     | false=>rw [if_neg (fun h=>by simp at h)]; rfl
     | true=>rw [if_pos ⟨rfl,fun _=>zG.2 h48⟩]; rfl
   . have:aq (dx s 0) 48=false:=by
      cases h:aq (dx s 0) 48 with
      | false=>rfl
      | true=>exact absurd ((Kk hsne).1 h) h48
     rw [this,if_neg (fun h=>h48 (zG.1 (h.2 rfl)))]; rfl
 . rw [decide_eq_false hp];have hp0:n % 2=0:=by omega
   rw [hp0];dsimp only [cond_false];rw [fN _ (by omega),mV hsne];dsimp only [Option.bind_some];cases hd:s.all fK with
   | false=>rw [if_neg (fun h=>by simp at h)]; rfl
   | true=>rw [if_pos ⟨rfl,fun h=>by simp at h⟩]; rfl
theorem HS (b:aW) (a n:Nat) (hb:yl b) (ha:a<=b.length) (hn:n<=1048576):zp b a n=ya (jc b a n) ((a + (n + 1) / 2:Nat):Int):=by
 have hbig:aT=140737488355328:=rfl;have hl:=hb.1;unfold zp jc;rw [jY,Lf n hn];dsimp only [Option.bind_some];by_cases h1:1<=n/\n<=38;rotate_left
 . rw [if_neg (fun h=>h1 ⟨h.1,h.2.1⟩)];have:dR (n:Int) 1 38=false:=by
    cases h:dR (n:Int) 1 38 with
    | false=>rfl
    | true=>have:=gM.1 h; omega
   rw [this]; rfl
 rw [gM.2 (by omega:(1:Int)<=n/\(n:Int)<=38),Aq b a _ hl ha (by omega)];have hloop:∀ (t9:aW) (t10:Bool) (p:aW),(∀ x∈p,0<=x.1/\x.1<=255)->p.length<=20->KG (a:Int) (n:Int) t9 t10 [] p (ae p) 0=some (.inl ((a:Int),(n:Int),t9,t10,Ar (oO p),p,ae p,(p.length:Int),())):=fun t9 t10 p hp hpl=>by
  have h:=aH (step:=yV oN) p (fun i (o:aW)=>((a:Int),(n:Int),t9,t10,o,p,ae p,((i:Nat):Int),())) (fun _ x o=>Sum.inl (o ++ Ar (Lx x))) (fun o=> .inl ((a:Int),(n:Int),t9,t10,o,p,ae p,(p.length:Int),())) (fun i o=>o.length=2 * i) (a0:=[]) rfl (fun i x o hx ho=>by
   have hlt:=ai hx;have hx2:=hp x (List.mem_of_getElem? hx);show oN (a:Int) (n:Int) t9 t10 o p (ae p) (i:Int)=_;unfold oN;rw [aD hx,az hx,aV _ hx,aJ (by omega)];obtain ⟨k,hk⟩:∃ k:Nat,x.1=k:=⟨x.1.toNat,by omega⟩;have hf:=Vf ⟨k,by omega⟩;dsimp only at hf;rw [hk,hf.1,hf.2];dsimp only [cond_true];have:∀ ys:aW,ys.length=2->bY 1 o ys=true:=fun ys hy=>Nat.ble_eq_true_of_le (by rw [hy]; omega)
   rw [this _ rfl];have e1:∀ m:Nat,m < 256->(UInt8.ofNat m).toNat=m:=fun m hm=>by simp [Nat.mod_eq_of_lt hm]
   show some (Sum.inl _)=some (Sum.inl _);unfold Lx;rw [hk];simp only [Int.toNat_natCast,Ar,jn,e1 (48 + k / 16) (by omega),e1 (48 + k % 16) (by omega)]) (fun i x o o' hx ho hf=>by
   simp only [Sum.inl.injEq] at hf;rw [<- hf,List.length_append,ho];show 2 * i + 2=_;omega) (fun o ho=>by
   show oN (a:Int) (n:Int) t9 t10 o p (ae p) (p.length:Int)=_;unfold oN;rw [aw rfl]; rfl)
  have hfold:∀ (l:aW) (o:aW),l.foldl (fun o x=>o ++ Ar (Lx x)) o=o ++ Ar (oO l):=fun l=>by
   induction l with
   | nil=>intro o; show o=o ++ []; rw [List.append_nil]
   | cons x r ih=>intro o; rw [List.foldl_cons,ih,show oO (x :: r)=Lx x ++ oO r from rfl,EF,List.append_assoc]
  rw [bZ,hfold,List.nil_append] at h;exact h
 by_cases h2:a + (n + 1) / 2<=b.length;rotate_left
 . rw [if_neg h2,if_neg (fun h=>h2 h.2.2)];exact (bn (hloop [] false [] (fun x hx=>by simp at hx) (by simp))).trans rfl
 rw [if_pos h2,if_pos ⟨h1.1,h1.2,h2⟩];have hpl:=lY h2;refine (bn (hloop _ true _ (fun x hx=>hb.2 x (Sl hx)) (by omega))).trans ?_;generalize hs:oO (eK b a ((n + 1) / 2))=s;have hsl:s.length=2 * ((n + 1) / 2):=by rw [<- hs,qB,hpl]
 have hsne:s≠[]:=fun e=>by rw [e] at hsl; simp only [List.length_nil] at hsl; omega
 show Option.bind (uf (strOf (Ar s))) _=_;rw [rT,gP _ (by omega),mV hsne];generalize hm:Ar s=m;have hlm:ae m=(s.length:Int):=by rw [<- hm]; show ((Ar s).length:Int)=_; rw [uB]
 have hcut:aM .i64 (s.length:Int) (n:Int)=((n % 2:Nat):Int):=by rw [aS (by omega) (by omega)]; omega
 have hpc:ae (eK b a ((n + 1) / 2))=(((n + 1) / 2:Nat):Int):=by show ((eK b a _).length:Int)=_; rw [hpl]
 have c1:dP ((n % 2:Nat):Int) (s.length:Int) m=true:=by show (decide ((0:Int)<=((n % 2:Nat):Int)) && (decide (((n % 2:Nat):Int)<=(s.length:Int)) && decide ((s.length:Int)<=(m.length:Int))))=true;rw [show (m.length:Int)=(s.length:Int) from hlm,decide_eq_true (by omega),decide_eq_true (by omega),decide_eq_true (by omega)]; rfl
 have sb:strOf (sub m ((n % 2:Nat):Int) (s.length:Int))=s.drop (n % 2):=by rw [<- hm];show strOf (((Ar s).take (Int.toNat (s.length:Int))).drop (Int.toNat ((n % 2:Nat):Int)))=_;rw [Int.toNat_natCast,Int.toNat_natCast,List.take_of_length_le (by rw [uB]; exact Nat.le_refl _)];exact (congrArg strOf (AT _ _)).trans (rT _)
 have hF:(cond (dP (aM .i64 (ae m) (n:Int)) (ae m) m) (some ((),((strOf (sub m (aM .i64 (ae m) (n:Int)) (ae m)),()),(aj .i64 (a:Int) (ae (eK b a ((n + 1) / 2))),()),(true,()),()))) none:Option (Unit×((List UInt8×Unit)×(Int×Unit)×(Bool×Unit)×Unit)))=ya (some (s.drop (n % 2))) ((a + (n + 1) / 2:Nat):Int):=by rw [hlm,hcut,hpc,ay (by omega) (by omega),c1,sb,show (a:Int) + (((n + 1) / 2:Nat):Int)=((a + (n + 1) / 2:Nat):Int) by omega];rfl
 show cond (!(s.all fK)) (some ((),(([],()),(0,()),(false,()),()))) (cond (aq (fz (n:Int) 2) 1) (cond (aR 0 m) (cond (!(aq (gt (0,()) m 0).1 48)) (some ((),(([],()),(0,()),(false,()),()))) (cond (dP (aM .i64 (ae m) (n:Int)) (ae m) m) (some ((),((strOf (sub m (aM .i64 (ae m) (n:Int)) (ae m)),()),(aj .i64 (a:Int) (ae (eK b a ((n + 1) / 2))),()),(true,()),()))) none)) none)
  (cond (dP (aM .i64 (ae m) (n:Int)) (ae m) m) (some ((),((strOf (sub m (aM .i64 (ae m) (n:Int)) (ae m)),()),(aj .i64 (a:Int) (ae (eK b a ((n + 1) / 2))),()),(true,()),()))) none))=_
 rw [hF,Pk];cases hd:s.all fK with
 | false=>rw [if_neg (fun h=>by simp at h)]; rfl
 | true =>
   by_cases hp:n % 2=1
   . rw [decide_eq_true hp];subst hm;have hm0:∃ x r,s=x :: r:=by
      cases s with
      | nil=>exact absurd rfl hsne
      | cons x r=>exact ⟨x,r,rfl⟩
     obtain ⟨x,r,rfl⟩:=hm0;have i0:aR 0 (Ar (x :: r))=true:=ln (i:=0) (by rw [uB]; simp);rw [i0];show cond (!(aq (x.toNat:Int) 48)) _ _=_;by_cases h48:x.toNat=48
     . have hx:x=48:=UInt8.toNat_inj.1 h48;rw [show aq (x.toNat:Int) 48=true from beq_iff_eq.2 (by omega),if_pos ⟨rfl,fun _=>by rw [hx]; rfl⟩]; rfl
     . rw [show aq (x.toNat:Int) 48=false from beq_eq_false_iff_ne.2 (by omega),if_neg (fun h=>by obtain ⟨r',h⟩:=zG.1 (h.2 hp);rw [(List.cons.inj h).1] at h48;exact h48 rfl)]; rfl
   . rw [decide_eq_false hp,if_pos ⟨rfl,fun h=>absurd h hp⟩]; rfl
def qw (p:aW) (i:Nat):Bool:=aq (fz (iQ .i64 (bG .i64 (p.getD (i / 8) (0,())).1) ((7 - i % 8:Nat):Int)) 2) 1
def dU (p:aW):aW:=((List.range 64).filter (qw p)).map fun i=>(((i + 1:Nat):Int),())
theorem Sc:∀ (c:Fin 256) (r:Fin 8),(!(aq (zK .u8 (c.val:Int) (iQ .u8 128 (r.val:Int))) 0))=aq (fz (iQ .i64 (bG .i64 (c.val:Int)) ((7 - r.val:Nat):Int)) 2) 1:=by decide +kernel
theorem rV (p:aW):∀ (l:List Nat) (o:aW),l.foldl (fun o i=>bif qw p i then o ++ [(((i + 1:Nat):Int),())] else o) o=o ++ (l.filter (qw p)).map fun i=>(((i + 1:Nat):Int),())
 | [],o=>by simp
 | i :: l,o=>by rw [List.foldl_cons,rV p l,List.filter_cons];cases qw p i <;> simp
theorem E9 {i x:Nat} (h:(List.range 64)[i]? = some x):x=i/\i < 64:=by have:=(List.getElem?_eq_some_iff.1 h);obtain ⟨h1,h2⟩:=this;rw [List.getElem_range] at h2;exact ⟨h2.symm,by simpa using h1⟩
theorem UA {i:Nat} (h:i < 64):aM .i64 ((i + 1:Nat):Int) 1=(i:Int)/\mg .i64 (i:Int) 8=((i / 8:Nat):Int)/\fz (i:Int) 8=((i % 8:Nat):Int)/\bH ((i + 1:Nat):Int) 64=true:=by
 refine ⟨by rw [aS (by omega) (by omega)]; omega,?_,?_,decide_eq_true (by omega)⟩
 . unfold mg;rw [Int.tdiv_eq_ediv_of_nonneg (by omega),IntKind.wrap_i64];omega
 . unfold fz;rw [Int.tmod_eq_emod_of_nonneg (by omega)];omega
def nO (b:aW) (a:Nat):Option (Unit×((aW×Unit)×(Int×Unit)×(Bool×Unit)×Unit)):=some ((),(if a + 8<=b.length then ((dU (eK b a 8),()),(((a + 8:Nat):Int),()),(true,()),()) else (([],()),(0,()),(false,()),())))
theorem EW (b:aW) (a k i:Nat) (hi:i < k) (h:a + k<=b.length):∃ x,b[a + i]? = some x/\(eK b a k).getD i (0,())=x/\(eK b a k)[i]? = some x:=by obtain ⟨x,hx⟩:∃ x,(eK b a k)[i]? = some x:=⟨_,List.getElem?_eq_getElem (by rw [lY h]; exact hi)⟩;exact ⟨x,(J9 hx).2,by rw [List.getD_eq_getElem?_getD,hx]; rfl,hx⟩
theorem JX (b:aW) (a:Nat) (hb:yl b) (ha:a<=b.length):Da b a=nO b a:=by
 have hbig:aT=140737488355328:=rfl;have hl:=hb.1;unfold Da nO;have e:aM .i64 (ae b) 8=(b.length:Int) - 8:=aS (by show -4611686018427387904<=(b.length:Int) - 8; omega) (by show (b.length:Int) - 8<=_; omega);rw [e,ax (a:=(a:Int)) (b:=0) (by omega)];by_cases h8:a + 8<=b.length;rotate_left
 . rw [if_neg h8,aF (by omega)]; rfl
 rw [if_pos h8,ax (by omega)];have h:=aH (step:=cV sE) (List.range 64) (fun i (o:aW)=>(b,(a:Int),o,((i + 1:Nat):Int),())) (fun _ x o=>Sum.inl (bif qw (eK b a 8) x then o ++ [(((x + 1:Nat):Int),())] else o)) (fun o=> .inl (b,(a:Int),o,65,())) (fun i o=>o.length<=i) (a0:=[]) (Nat.le_refl _) (fun i x o hx ho=>by
  obtain ⟨rfl,hi⟩:=E9 hx;obtain ⟨e1,e2,e3,e4⟩:=UA hi;obtain ⟨c,hc,hd,_⟩:=EW b a 8 (x / 8) (by omega) h8;show sE b (a:Int) o ((x + 1:Nat):Int)=_;unfold sE;have e5:aM .i64 7 ((x % 8:Nat):Int)=((7 - x % 8:Nat):Int):=by rw [aS (by omega) (by omega)]; omega
  have e6:aj .i64 (a:Int) ((x / 8:Nat):Int)=((a + x / 8:Nat):Int):=by rw [ay (by omega) (by omega)]; omega
  have hbit:qw (eK b a 8) x=aq (fz (iQ .i64 (bG .i64 c.1) ((7 - x % 8:Nat):Int)) 2) 1:=by unfold qw; rw [hd]
  dsimp only;rw [e4,e1,e2,e3,e5,e6,az hc,aV _ hc,show bH 0 ((7 - x % 8:Nat):Int)=true from decide_eq_true (by omega),<- hbit,aJ (by omega)];have:bY 8 o [(((x + 1:Nat):Int),())]=true:=Nat.ble_eq_true_of_le (by show (o.length + 1) * 8<=aT; omega);rw [this];cases qw (eK b a 8) x <;> rfl) (fun i x o o' hx ho hf=>by
  simp only [Sum.inl.injEq] at hf;rw [<- hf];cases qw (eK b a 8) x with
  | false=>show o.length<=_; omega
  | true=>show (o ++ [_]).length<=_; rw [List.length_append]; show o.length + 1<=_; omega) (fun o ho=>by
  show sE b (a:Int) o (((List.range 64).length + 1:Nat):Int)=_;rfl)
 rw [bZ,rV,List.nil_append] at h;have h':K7 b (a:Int) [] 1=_:=h;refine (bn h').trans ?_;show some ((),((_,()),(aj .i64 (a:Int) 8,()),(true,()),()))=_;rw [ay (by omega) (by omega)];rfl
theorem Io (b:aW) (a:Nat) (hb:yl b) (ha:a<=b.length):Bi b a=nO b a:=by
 have hbig:aT=140737488355328:=rfl;have hl:=hb.1;unfold Bi nO;have hp:As b (a:Int) 8=_:=Aq b a 8 hl ha (by decide);rw [hp];by_cases h8:a + 8<=b.length;rotate_left
 . rw [if_neg h8,if_neg h8]; rfl
 rw [if_pos h8,if_pos h8];generalize hq:eK b a 8=p;have h:=aH (step:=cV rS) (List.range 64) (fun i (o:aW)=>((a:Int),p,o,((i + 1:Nat):Int),())) (fun _ x o=>Sum.inl (bif qw p x then o ++ [(((x + 1:Nat):Int),())] else o)) (fun o=> .inl ((a:Int),p,o,65,())) (fun i o=>o.length<=i) (a0:=[]) (Nat.le_refl _) (fun i x o hx ho=>by
  obtain ⟨rfl,hi⟩:=E9 hx;obtain ⟨e1,e2,e3,e4⟩:=UA hi;obtain ⟨c,hc,hd,hc2⟩:=EW b a 8 (x / 8) (by omega) h8;rw [hq] at hd hc2;have hcb:=hb.2 c (List.mem_of_getElem? hc);show rS (a:Int) p o ((x + 1:Nat):Int)=_;unfold rS;obtain ⟨k,hk⟩:∃ k:Nat,c.1=k:=⟨c.1.toNat,by omega⟩;have hbe:=Sc ⟨k,by omega⟩ ⟨x % 8,by omega⟩;dsimp only at hbe;have hbit:qw p x= !(aq (zK .u8 c.1 (iQ .u8 128 ((x % 8:Nat):Int))) 0):=by unfold qw; rw [hd,hk,hbe]
  dsimp only;rw [e4,e1,e2,e3,az hc2,aV _ hc2,show bH 0 ((x % 8:Nat):Int)=true from decide_eq_true (by omega),<- hbit,aJ (by omega)];have:bY 8 o [(((x + 1:Nat):Int),())]=true:=Nat.ble_eq_true_of_le (by show (o.length + 1) * 8<=aT; omega);rw [this];cases qw p x <;> rfl) (fun i x o o' hx ho hf=>by
  simp only [Sum.inl.injEq] at hf;rw [<- hf];cases qw p x with
  | false=>show o.length<=_; omega
  | true=>show (o ++ [_]).length<=_; rw [List.length_append]; show o.length + 1<=_; omega) (fun o ho=>by
  show rS (a:Int) p o (((List.range 64).length + 1:Nat):Int)=_;rfl)
 rw [bZ,rV,List.nil_append] at h;have h':IE (a:Int) p [] 1=_:=h;refine (bn h').trans ?_;show some ((),((_,()),(aj .i64 (a:Int) 8,()),(true,()),()))=_;rw [ay (by omega) (by omega)];rfl
theorem kT (p:aW):(dU p).length<=64:=by unfold dU;rw [List.length_map];exact Nat.le_trans (List.length_filter_le _ _) (by simp)
theorem I4 {p:aW} {x:Int×Unit} (h:x∈dU p):1<=x.1/\x.1<=64:=by obtain ⟨i,hi,rfl⟩:=List.mem_map.1 h;have:=List.mem_range.1 (List.mem_filter.1 hi).1;constructor <;> (show _<=_) <;> omega
abbrev Ov:=Int×Int×Int×Unit
def iJ:List Ov:=[(2,3,19,()),(3,1,6,()),(4,1,12,()),(7,1,10,()),(11,1,6,()),(14,1,4,()),(37,2,12,()),(38,2,6,()),(39,2,2,()),(41,2,8,()),(48,5,60,()),(49,1,3,()),(54,5,60,()),(95,2,12,()),(102,4,20,()),(103,4,20,())]
def Fu (no:Int):Ov:=(iJ.find? fun r=>aq r.1 no).getD (0,0,0,())
def bu (no:Int):Int:=(Fu no).2.1
def gK (no:Int):Int:=(Fu no).2.2.1
theorem nq {α Y:Type} (p:α->Bool) (y:α->Y) (z:Y):∀ (l:List α) (i:Nat),jX (fun _ x (_:Unit)=>bif p x then .inr (y x) else .inl ()) (fun _=>z) i l ()=match l.find? p with | some x=>y x | none=>z
 | [],_=>rfl
 | x :: l,i=>by
   have ih:=nq p y z l (i + 1);rw [List.find?_cons,jX];cases p x with
   | true=>rfl
   | false=>exact ih
theorem I3 (no:Int):GF no=some ((),(Fu no,())):=by
 unfold GF;have h:=aI (step:=ff sj) iJ (fun i (_:Unit)=>(no,iJ,ae iJ,((i:Nat):Int),(0,0,0,()),())) (fun _ x _=>bif aq x.1 no then .inr (.inr (x,())) else .inl ()) (fun _=> .inl (no,iJ,ae iJ,(iJ.length:Int),(0,0,0,()),())) (a0:=()) (fun i x a hx=>by
  have hlt:=ai hx;have h16:iJ.length=16:=rfl;have hbig:aT=140737488355328:=rfl;show sj no iJ (ae iJ) (i:Int) (0,0,0,())=_;unfold sj;rw [aD hx,az hx,aV _ hx,aJ (by omega)];dsimp only [cond_true];cases aq x.1 no <;> rfl) (fun a=>by
  show sj no iJ (ae iJ) (iJ.length:Int) (0,0,0,())=_;rfl)
 rw [nq] at h;have h':JN no iJ (ae iJ) 0 (0,0,0,())=_:=h;refine (bn h').trans ?_;unfold Fu;cases iJ.find? _ <;> rfl
theorem sP (no:Int):no=2∨no=3∨no=4∨no=7∨no=11∨no=14∨no=37∨no=38∨no=39∨no=41∨no=48∨no=49∨no=54∨no=95∨no=102∨no=103∨∀ k∈[2,3,4,7,11,14,37,38,39,41,48,49,54,95,102,103],aq no k=false/\aq k no=false:=by
 by_cases h:∀ k∈[2,3,4,7,11,14,37,38,39,41,48,49,54,95,102,103],no≠k
 . have:∀ k∈[2,3,4,7,11,14,37,38,39,41,48,49,54,95,102,103],aq no k=false/\aq k no=false:=fun k hk=>⟨beq_eq_false_iff_ne.2 (h k hk),beq_eq_false_iff_ne.2 (Ne.symm (h k hk))⟩
   iterate 16 right
   exact this
 . simp only [Classical.not_forall,Classical.not_not] at h;obtain ⟨k,hk,rfl⟩:=h;simp only [List.mem_cons,List.not_mem_nil,or_false] at hk;rcases hk with h | h | h | h | h | h | h | h | h | h | h | h | h | h | h | h <;> simp [h]
theorem zR {no:Int} (h:∀ k∈[2,3,4,7,11,14,37,38,39,41,48,49,54,95,102,103],aq no k=false/\aq k no=false):Fu no=(0,0,0,()):=by unfold Fu iJ;simp only [List.find?_cons,(h 2 (by simp)).2,(h 3 (by simp)).2,(h 4 (by simp)).2,(h 7 (by simp)).2,(h 11 (by simp)).2,(h 14 (by simp)).2,(h 37 (by simp)).2,(h 38 (by simp)).2,(h 39 (by simp)).2,(h 41 (by simp)).2,(h 48 (by simp)).2,(h 49 (by simp)).2,(h 54 (by simp)).2,(h 95 (by simp)).2,(h 102 (by simp)).2,(h 103 (by simp)).2,List.find?_nil,Option.getD_none]
theorem CQ (no:Int):FA no=some ((),((bu no,()),())):=by
 rcases sP no with rfl | rfl | rfl | rfl | rfl | rfl | rfl | rfl | rfl | rfl | rfl | rfl | rfl | rfl | rfl | rfl | h
 all_goals first | rfl | skip
 unfold FA bu;rw [zR h];simp only [(h 2 (by simp)).1,(h 3 (by simp)).1,(h 4 (by simp)).1,(h 7 (by simp)).1,(h 11 (by simp)).1,(h 14 (by simp)).1,(h 37 (by simp)).1,(h 38 (by simp)).1,(h 39 (by simp)).1,(h 41 (by simp)).1,(h 48 (by simp)).1,(h 49 (by simp)).1,(h 54 (by simp)).1,(h 95 (by simp)).1,(h 102 (by simp)).1,(h 103 (by simp)).1,cond_false]
theorem Iy (no:Int):Kf no=some ((),((gK no,()),())):=by
 rcases sP no with rfl | rfl | rfl | rfl | rfl | rfl | rfl | rfl | rfl | rfl | rfl | rfl | rfl | rfl | rfl | rfl | h
 all_goals first | rfl | skip
 unfold Kf gK;rw [zR h];simp only [(h 2 (by simp)).1,(h 3 (by simp)).1,(h 4 (by simp)).1,(h 7 (by simp)).1,(h 11 (by simp)).1,(h 14 (by simp)).1,(h 37 (by simp)).1,(h 38 (by simp)).1,(h 39 (by simp)).1,(h 41 (by simp)).1,(h 48 (by simp)).1,(h 49 (by simp)).1,(h 54 (by simp)).1,(h 95 (by simp)).1,(h 102 (by simp)).1,(h 103 (by simp)).1,cond_false]
theorem zw (no:Int):DR no=some ((),((bu no,()),())):=by unfold DR; rw [I3]; rfl
theorem Sm (no:Int):M4 no=some ((),((gK no,()),())):=by unfold M4; rw [I3]; rfl
theorem kinds (no:Int):∃ n:Nat,gK no=n/\((bu no=0/\n=0)∨(bu no=1/\1<=n/\n<=12)∨(bu no=2/\1<=n/\n<=12)∨(bu no=3/\n=19)∨(bu no=4/\n=20)∨(bu no=5/\n=60)):=by
 rcases sP no with rfl | rfl | rfl | rfl | rfl | rfl | rfl | rfl | rfl | rfl | rfl | rfl | rfl | rfl | rfl | rfl | h
 . exact ⟨19,rfl,by decide⟩
 . exact ⟨6,rfl,by decide⟩
 . exact ⟨12,rfl,by decide⟩
 . exact ⟨10,rfl,by decide⟩
 . exact ⟨6,rfl,by decide⟩
 . exact ⟨4,rfl,by decide⟩
 . exact ⟨12,rfl,by decide⟩
 . exact ⟨6,rfl,by decide⟩
 . exact ⟨2,rfl,by decide⟩
 . exact ⟨8,rfl,by decide⟩
 . exact ⟨60,rfl,by decide⟩
 . exact ⟨3,rfl,by decide⟩
 . exact ⟨60,rfl,by decide⟩
 . exact ⟨12,rfl,by decide⟩
 . exact ⟨20,rfl,by decide⟩
 . exact ⟨20,rfl,by decide⟩
 . exact ⟨0,by unfold gK; rw [zR h]; rfl,.inl ⟨by unfold bu; rw [zR h],rfl⟩⟩
theorem dT {b:aW} {a n:Nat} {s:List UInt8} (h:jc b a n=some s):s.all fK=true/\s.length=n/\1<=n/\n<=38/\a + (n + 1) / 2<=b.length:=by
 unfold jc at h;split at h
 . rename_i h1;split at h
   . rename_i h2;cases h;have hl:(oO (eK b a ((n + 1) / 2))).length=2 * ((n + 1) / 2):=by rw [qB,lY h1.2.2]
     refine ⟨List.all_eq_true.2 fun x hx=>List.all_eq_true.1 h2.1 x (List.mem_of_mem_drop hx),?_,h1⟩;rw [List.length_drop,hl];omega
   . simp at h
 . simp at h
theorem kN {s:List UInt8} {n:Nat} (h:s.length=n) (hn:1<=n):s≠[]:=fun e=>by rw [e] at h; simp only [List.length_nil] at h; omega
theorem Bq {s:List UInt8} {n:Nat} (h:s.all fK=true) (hl:s.length=n) (h1:1<=n) (h2:n<=18):xY s=some (kL 0 s):=by unfold xY;rw [if_pos ⟨dm.2 ⟨h,kN hl h1⟩,by omega⟩]
def GI (b:aW) (a d:Nat):Option (Unit×((Int×Unit)×(Int×Unit)×(Bool×Unit)×Unit)):=some ((),match jc b a d with | some t=>(((kL 0 t:Int),()),(((a + (d + 1) / 2:Nat):Int),()),(true,()),()) | none=>((0,()),(0,()),(false,()),()))
theorem FV:ud []=some ((),((0,()),(false,()),())):=Ed [] (Nat.zero_le _)
theorem Ue (b:aW) (a d:Nat) (hb:yl b) (ha:a<=b.length) (hd:d=2∨d=3):H9 b a d=GI b a d:=by
 have hbig:aT=140737488355328:=rfl;unfold H9 GI;have hc:cond (!(aq (d:Int) 2)) (!(aq (d:Int) 3)) false=false:=by rcases hd with rfl | rfl <;> rfl
 rw [hc,Ec b a d hb ha (by omega)];unfold ya;cases ho:jc b a d with
 | none => refine (bn FV).trans ?_;rfl
 | some t => obtain ⟨h1,h2,h3,h4,h5⟩:=dT ho;have hn:ud t=_:=Ed t (by omega);rw [Bq h1 h2 h3 (by omega)] at hn;refine (bn hn).trans ?_;rfl
theorem Tn (b:aW) (a d:Nat) (hb:yl b) (ha:a<=b.length) (hd:d=2∨d=3):Hl b a d=GI b a d:=by
 have hbig:aT=140737488355328:=rfl;unfold Hl GI;rw [jY,gM.2 (by omega:(2:Int)<=d/\(d:Int)<=3),HS b a d hb ha (by omega)];unfold ya;cases ho:jc b a d with
 | none=>rfl
 | some t => obtain ⟨h1,h2,h3,h4,h5⟩:=dT ho;have hn:Db t=_:=Ps t (by omega);rw [Bq h1 h2 h3 (by omega)] at hn;refine (bn hn).trans ?_;rfl
def iZ (no:Int) (s:List UInt8):Bool:=cond (aq (bu no) 1) (cond (aY s) (aq (ae s) (gK no)) false) (cond (aq (bu no) 2) (cond (dW s) (aq (ae s) (gK no)) false) (cond (aq (bu no) 3) (cond (aY s) (dR (ae s) 1 (gK no)) false) (cond (aq (bu no) 4) (cond (dW s) (dR (ae s) 1 (gK no)) false) (cond (aq (bu no) 5) (cond (dW s) (dR (ae s) 1 (gK no)) false) false))))
theorem Vm (no:Int) (s:List UInt8) (hs:s.length<=aT):Ma no s=some ((),((iZ no s,()),())):=by
 unfold Ma iZ;rw [CQ,Iy];dsimp only [Option.bind_some];rw [fN s hs,D9 s hs];dsimp only [Option.bind_some];rw [lX];dsimp only [Option.bind_some];cases aq (bu no) 1 with
 | true=>rfl
 | false =>
 cases aq (bu no) 2 with
 | true=>rfl
 | false =>
 cases aq (bu no) 3 with
 | true =>
   show some ((),((cond (aY s) (bH (ae s) (gK no)) false,()),()))=some ((),((cond (aY s) (dR (ae s) 1 (gK no)) false,()),()));cases hd:aY s with
   | false=>rfl
   | true =>
     have h1:bH 1 (ae s)=true:=by
      have:=(dm.1 hd).2;cases s with
      | nil=>exact absurd rfl this
      | cons x r=>exact decide_eq_true (by show (1:Int)<=((r.length + 1:Nat):Int); omega)
     unfold dR;rw [h1]; rfl
 | false =>
 cases aq (bu no) 4 with
 | true=>cases dW s <;> rfl
 | false =>
 cases aq (bu no) 5 with
 | true=>cases dW s <;> rfl
 | false=>rfl
theorem J4 (no:Int) (s:List UInt8) (hs:s.length<=aT):yb no s=some ((),((iZ no s,()),())):=by
 unfold yb iZ;rw [I3,gP s hs,Ms s hs];dsimp only [Option.bind_some];rw [jY];dsimp only [Option.bind_some];show cond (aq (bu no) 1) _ (cond (aq (bu no) 2) _ (cond (aq (bu no) 3) _ (cond (aq (bu no) 4) _ (cond (aq (bu no) 5) _ _))))=_;cases aq (bu no) 1 with
 | true=>rfl
 | false =>
 cases aq (bu no) 2 with
 | true=>rfl
 | false =>
 cases aq (bu no) 3 with
 | true=>cases aY s <;> rfl
 | false =>
 cases aq (bu no) 4 with
 | true=>cases dW s <;> rfl
 | false =>
 cases aq (bu no) 5 with
 | true=>cases dW s <;> rfl
 | false=>rfl
def pW (b:aW) (a n:Nat):Option (List UInt8×Nat):=if a + n<=b.length then (bif dW (strOf (eK b a n)) then some (strOf (eK b a n),a + n) else none) else none
def rD (b:aW) (a n:Nat):Option (List UInt8×Nat):=(jc b a n).map fun s=>(s,a + (n + 1) / 2)
def zD (b:aW) (a d n:Nat) (f:Nat->Nat->Option (List UInt8×Nat)):Option (List UInt8×Nat):=match jc b a d with
 | some t=>if 1<=kL 0 t/\kL 0 t<=n then f (a + (d + 1) / 2) (kL 0 t) else none
 | none=>none
def nH (b:aW) (a:Nat) (no:Int):Option (List UInt8×Nat) :=
 if bu no=1 then rD b a (gK no).toNat else if bu no=2 then pW b a (gK no).toNat
 else if bu no=3 then zD b a 2 (gK no).toNat (rD b) else if bu no=4 then zD b a 2 (gK no).toNat (pW b)
 else if bu no=5 then zD b a 3 (gK no).toNat (pW b) else none
def lV (o:Option (List UInt8×Nat)):Option (Unit×((List UInt8×Unit)×(Int×Unit)×(Bool×Unit)×Unit)):=some ((),match o with | some s=>((s.1,()),((s.2:Int),()),(true,()),()) | none=>(([],()),(0,()),(false,()),()))
theorem ll (p:aW):(strOf p).length=p.length:=by unfold strOf; exact List.length_map _
theorem Eb (b:aW) (a n:Nat):(match ya (jc b a n) ((a + (n + 1) / 2:Nat):Int) with | some y=>some ((),(y.2.1,y.2.2.1,y.2.2.2.1,())) | none=>none)=lV (rD b a n):=by unfold ya rD lV;cases jc b a n <;> rfl
noncomputable def Mj (b:aW) (a n:Int):Option (Unit×((List UInt8×Unit)×(Int×Unit)×(Bool×Unit)×Unit)) :=
 cond (cond (au (ae b) a) true (au (aM .i64 (ae b) a) n)) (some ((),(([],()),(0,()),(false,()),()))) (cond (dP a (aj .i64 a n) b) (Option.bind (Ad (strOf (sub b a (aj .i64 a n)))) fun y=>cond (!y.2.1.1) (some ((),(([],()),(0,()),(false,()),()))) (cond (dP a (aj .i64 a n) b) (some ((),((strOf (sub b a (aj .i64 a n)),()),(aj .i64 a n,()),(true,()),()))) none)) none)
theorem Jj (b:aW) (a n:Nat) (hb:yl b) (ha:a<=b.length) (hn:n<=1048576) :
 Mj b a n=lV (pW b a n):=by
 have hbig:aT=140737488355328:=rfl;have hl:=hb.1;have e:aM .i64 (ae b) (a:Int)=(b.length:Int) - a:=aS (by show -4611686018427387904<=(b.length:Int) - a; omega) (by show (b.length:Int) - a<=_; omega);have e2:aj .i64 (a:Int) (n:Int)=((a + n:Nat):Int):=by rw [ay (by omega) (by omega)]; omega
 unfold pW Mj;rw [e,e2,ax (a:=ae b) (b:=(a:Int)) (by show ¬ (b.length:Int) < a; omega)];by_cases h:a + n<=b.length;rotate_left
 . rw [if_neg h,aF (by omega)]; rfl
 have hs:strOf (sub b (a:Int) ((a + n:Nat):Int))=strOf (eK b a n):=congrArg strOf (I6 b a n);rw [if_pos h,ax (by omega),E7 h,hs,D9 _ (by rw [ll,lY h]; omega)];dsimp only [Option.bind_some,cond_false,cond_true];cases dW (strOf (eK b a n)) <;> rfl
theorem TJ (b:aW) (a:Nat) (no:Int) (hb:yl b) (ha:a<=b.length):LZ b a no=lV (nH b a no):=by
 have hbig:aT=140737488355328:=rfl;have hl:=hb.1;obtain ⟨n,hn,hk⟩:=kinds no;have h0:au (a:Int) 0=false:=ax (by omega)
 have hvar:∀ (d:Nat) (w:Int) (f:Nat->Nat->Option (List UInt8×Nat)) (F:Int->Int->Option (Unit×((List UInt8×Unit)×(Int×Unit)×(Bool×Unit)×Unit))),(d=2∨d=3)->(∀ a' k:Nat,a'<=b.length->k<=1048576->F (a':Int) (k:Int)=lV (f a' k)) ->
  (Option.bind (H9 b a d) fun y5=>cond (!y5.2.2.2.1.1) (some ((),(([],()),(0,()),(false,()),()))) (Option.bind (rL y5.2.1.1 1 (n:Int)) fun y6=>cond (!y6.2.1.1) (some ((),(([],()),(0,()),(false,()),()))) (F y5.2.2.1.1 y5.2.1.1)))=lV (zD b a d n f):=by
  intro d w f F hd hF;rw [Ue b a d hb ha hd];unfold GI zD;cases ho:jc b a d with
  | none=>rfl
  | some t =>
    obtain ⟨h1,h2,h3,h4,h5⟩:=dT ho;have hv:=Al t 0 0 h1 (by decide);have hv2:kL 0 t < 1000:=Nat.lt_of_lt_of_le hv (by rw [Nat.zero_add,h2]; exact Nat.pow_le_pow_right (by decide) (by omega:d<=3));dsimp only [Option.bind_some];rw [lX];dsimp only [Option.bind_some];by_cases hin:1<=kL 0 t/\kL 0 t<=n
    . rw [if_pos hin,gM.2 (by omega)];exact hF _ _ h5 (by omega)
    . rw [if_neg hin];have:dR (kL 0 t:Int) 1 (n:Int)=false:=by
       cases h:dR (kL 0 t:Int) 1 (n:Int) with
       | false=>rfl
       | true=>have:=gM.1 h; omega
      rw [this]; rfl
 unfold LZ nH;rw [CQ,Iy,hn,h0];have hnn:Int.toNat (n:Int)=n:=Int.toNat_natCast n;rcases hk with ⟨hk,hz⟩ | ⟨hk,hz⟩ | ⟨hk,hz⟩ | ⟨hk,hz⟩ | ⟨hk,hz⟩ | ⟨hk,hz⟩
 . rw [hk]; rfl
 . rw [hk,hnn];show (Option.bind (vJ b a n) fun y=>some ((),(y.2.1,y.2.2.1,y.2.2.2.1,())))=lV (rD b a n);rw [Ec b a n hb ha (by omega),<- Eb];rfl
 . rw [hk,hnn];exact Jj b a n hb ha (by omega)
 . rw [hk,hnn];exact hvar 2 0 (rD b) (fun a' k=>Option.bind (vJ b a' k) fun y=>some ((),(y.2.1,y.2.2.1,y.2.2.2.1,()))) (.inl rfl) fun a' k ha' hk'=>by show (Option.bind (vJ b (a':Int) (k:Int)) _)=_;rw [Ec b a' k hb ha' hk',<- Eb];rfl
 . rw [hk,hnn];exact hvar 2 0 (pW b) (Mj b) (.inl rfl) fun a' k ha' hk'=>Jj b a' k hb ha' hk'
 . rw [hk,hnn];exact hvar 3 0 (pW b) (Mj b) (.inr rfl) fun a' k ha' hk'=>Jj b a' k hb ha' hk'
noncomputable def G0 (b:aW) (no a n:Int):Option (Unit×((List UInt8×Unit)×(Int×Unit)×(Bool×Unit)×Unit)) :=
 Option.bind (zp b a n) fun y5=>cond (!y5.2.2.2.1.1) (some ((),(([],()),(0,()),(false,()),()))) (Option.bind (yb no y5.2.1.1) fun y6=>cond (!y6.2.1.1) (some ((),(([],()),(0,()),(false,()),()))) (some ((),(y5.2.1,y5.2.2.1,(true,()),()))))
noncomputable def Bu (b:aW) (no a n:Int):Option (Unit×((List UInt8×Unit)×(Int×Unit)×(Bool×Unit)×Unit)) :=
 Option.bind (As b a n) fun y5=>cond (!y5.2.2.1.1) (some ((),(([],()),(0,()),(false,()),()))) (Option.bind (yb no (strOf y5.2.1.1)) fun y6=>cond (!y6.2.1.1) (some ((),(([],()),(0,()),(false,()),()))) (some ((),((strOf y5.2.1.1,()),(aj .i64 a n,()),(true,()),()))))
theorem Eh (b:aW) (no:Int) (a n:Nat) (hb:yl b) (ha:a<=b.length) (hn:n<=1048576):G0 b no a n=lV ((rD b a n).filter fun s=>iZ no s.1):=by
 have hbig:aT=140737488355328:=rfl;unfold G0 rD;rw [HS b a n hb ha hn];unfold ya;cases ho:jc b a n with
 | none=>rfl
 | some s => obtain ⟨h1,h2,h3,h4,h5⟩:=dT ho;dsimp only [Option.bind_some];rw [J4 no s (by omega)];dsimp only [Option.bind_some,Option.map_some];rw [Option.filter_some];dsimp only;cases iZ no s <;> rfl
def GB (b:aW) (a n:Nat):Option (List UInt8×Nat):=if a + n<=b.length then some (strOf (eK b a n),a + n) else none
theorem ug (b:aW) (no:Int) (a n:Nat) (hb:yl b) (ha:a<=b.length) (hn:n<=1048576):Bu b no a n=lV ((GB b a n).filter fun s=>iZ no s.1):=by
 have hbig:aT=140737488355328:=rfl;have hl:=hb.1;unfold Bu GB;rw [Aq b a n hb.1 ha hn];by_cases h:a + n<=b.length;rotate_left
 . rw [if_neg h,if_neg h]; rfl
 rw [if_pos h,if_pos h,Option.filter_some];have hf:=J4 no (strOf (eK b a n)) (by rw [ll,lY h]; omega);refine (bn hf).trans ?_;have e2:aj .i64 (a:Int) (n:Int)=((a + n:Nat):Int):=by rw [ay (by omega) (by omega)]; omega
 show cond (!(iZ no (strOf (eK b a n)))) _ (some ((),((_,()),(aj .i64 (a:Int) (n:Int),()),(true,()),())))=_;rw [e2];dsimp only;cases iZ no (strOf (eK b a n)) <;> rfl
theorem IH (b:aW) (a d:Nat) (hb:yl b) (ha:a<=b.length) (hd:d=2∨d=3) (F:Int->Int->Option (Unit×((List UInt8×Unit)×(Int×Unit)×(Bool×Unit)×Unit))) (f:Nat->Nat->Option (List UInt8×Nat)) (n:Nat)
 (hF:∀ a' k:Nat,a'<=b.length->k<=1048576->F (a':Int) (k:Int)=lV (if 1<=k/\k<=n then f a' k else none)) :
 (Option.bind (Hl b a d) fun y4=>cond (!y4.2.2.2.1.1) (some ((),(([],()),(0,()),(false,()),()))) (F y4.2.2.1.1 y4.2.1.1))=lV (zD b a d n f):=by
 rw [Tn b a d hb ha hd];unfold GI zD;cases ho:jc b a d with
 | none=>rfl
 | some t => obtain ⟨h1,h2,h3,h4,h5⟩:=dT ho;have hv:=Al t 0 0 h1 (by decide);have hv2:kL 0 t < 1000:=Nat.lt_of_lt_of_le hv (by rw [Nat.zero_add,h2]; exact Nat.pow_le_pow_right (by decide) (by omega:d<=3));exact hF _ _ h5 (by omega)
theorem je {s:List UInt8} {n:Nat} (h:s.length=n):ae s=(n:Int):=by show (s.length:Int)=n; rw [h]
theorem rm {k n:Nat}:dR (k:Int) 1 (n:Int)=decide (1<=k/\k<=n):=by
 by_cases h:1<=k/\k<=n
 . rw [decide_eq_true h]; exact gM.2 (by omega)
 . rw [decide_eq_false h];cases h2:dR (k:Int) 1 (n:Int) with
   | false=>rfl
   | true=>have:=gM.1 h2; omega
theorem rC {no:Int} {n:Nat} (hn:gK no=n) (s:List UInt8):(bu no=1->iZ no s=cond (aY s) (aq (ae s) (n:Int)) false)/\(bu no=2->iZ no s=cond (dW s) (aq (ae s) (n:Int)) false)/\(bu no=3->iZ no s=cond (aY s) (dR (ae s) 1 (n:Int)) false) /\
 ((bu no=4∨bu no=5)->iZ no s=cond (dW s) (dR (ae s) 1 (n:Int)) false):=by
 unfold iZ;rw [hn];refine ⟨fun h=>by rw [h]; rfl,fun h=>by rw [h]; rfl,fun h=>by rw [h]; rfl,fun h => ?_⟩;rcases h with h | h <;> (rw [h]; rfl)
theorem E1 {b:aW} {no:Int} {n:Nat} (hn:gK no=n) (hk:bu no=4∨bu no=5) (a k:Nat):(GB b a k).filter (fun s=>iZ no s.1)=if 1<=k/\k<=n then pW b a k else none:=by
 unfold GB pW;by_cases h:a + k<=b.length;rotate_left
 . rw [if_neg h,if_neg h]; simp
 rw [if_pos h,if_pos h,Option.filter_some];dsimp only;rw [(rC hn _).2.2.2 hk,je (by rw [ll,lY h]:(strOf (eK b a k)).length=k),rm];by_cases hin:1<=k/\k<=n
 . rw [decide_eq_true hin,if_pos hin]; cases dW (strOf (eK b a k)) <;> rfl
 . rw [decide_eq_false hin,if_neg hin]; cases dW (strOf (eK b a k)) <;> rfl
theorem Vp (b:aW) (a:Nat) (no:Int) (hb:yl b) (ha:a<=b.length):KW b a no=lV (nH b a no):=by
 have hbig:aT=140737488355328:=rfl;have hl:=hb.1;obtain ⟨n,hn,hk⟩:=kinds no;have hnn:Int.toNat (n:Int)=n:=Int.toNat_natCast n;have hlen:N5 no=some ((),((cond (aq (bu no) 5) 3 2,()),())):=by unfold N5;rw [zw];dsimp only [Option.bind_some];cases aq (bu no) 5 <;> rfl
 have base:KW b a no=cond (cond (cond (aq (bu no) 3) true (aq (bu no) 4)) true (aq (bu no) 5)) (Option.bind (Hl b a (cond (aq (bu no) 5) 3 2)) fun y4=>cond (!y4.2.2.2.1.1) (some ((),(([],()),(0,()),(false,()),()))) (cond (cond (aq (bu no) 1) true (aq (bu no) 3)) (G0 b no y4.2.2.1.1 y4.2.1.1) (Bu b no y4.2.2.1.1 y4.2.1.1)))
  (cond (cond (aq (bu no) 1) true (aq (bu no) 3)) (G0 b no a (n:Int)) (Bu b no a (n:Int))):=by
  unfold KW;rw [Sm,zw,hlen,hn];rfl
 rw [base];unfold nH;rw [hn,hnn];rcases hk with ⟨hk,hz⟩ | ⟨hk,hz⟩ | ⟨hk,hz⟩ | ⟨hk,hz⟩ | ⟨hk,hz⟩ | ⟨hk,hz⟩
 . rw [hk];show Bu b no a (n:Int)=lV none;rw [ug b no a n hb ha (by omega)];have:∀ s,iZ no s=false:=fun s=>by unfold iZ; rw [hk]; rfl
   unfold GB;by_cases h:a + n<=b.length
   . rw [if_pos h,Option.filter_some,this]; rfl
   . rw [if_neg h]; rfl
 . rw [hk];show G0 b no a (n:Int)=lV (rD b a n);rw [Eh b no a n hb ha (by omega)];unfold rD;cases ho:jc b a n with
   | none=>rfl
   | some s => obtain ⟨h1,h2,h3,h4,h5⟩:=dT ho;rw [Option.map_some,Option.filter_some];dsimp only;rw [(rC hn s).1 hk,dm.2 ⟨h1,kN h2 h3⟩,je h2,bg];rfl
 . rw [hk];show Bu b no a (n:Int)=lV (pW b a n);rw [ug b no a n hb ha (by omega)];unfold GB pW;by_cases h:a + n<=b.length;rotate_left
   . rw [if_neg h,if_neg h]; rfl
   rw [if_pos h,if_pos h,Option.filter_some];dsimp only;rw [(rC hn _).2.1 hk,je (by rw [ll,lY h]:(strOf (eK b a n)).length=n),bg];cases dW (strOf (eK b a n)) <;> rfl
 . rw [hk];exact IH b a 2 hb ha (.inl rfl) (G0 b no) (rD b) n fun a' k ha' hk'=>by
    rw [Eh b no a' k hb ha' hk'];unfold rD;cases ho:jc b a' k with
    | none => show lV none=lV (if _ then none else none);rw [ite_self]
    | some s =>
      obtain ⟨h1,h2,h3,h4,h5⟩:=dT ho;rw [Option.map_some,Option.filter_some];dsimp only;rw [(rC hn s).2.2.1 hk,dm.2 ⟨h1,kN h2 h3⟩,je h2,rm];by_cases hin:1<=k/\k<=n
      . rw [decide_eq_true hin,if_pos hin]; rfl
      . rw [decide_eq_false hin,if_neg hin]; rfl
 . rw [hk];exact IH b a 2 hb ha (.inl rfl) (Bu b no) (pW b) n fun a' k ha' hk'=>by rw [ug b no a' k hb ha' hk',E1 hn (.inl hk)]
 . rw [hk];exact IH b a 3 hb ha (.inr rfl) (Bu b no) (pW b) n fun a' k ha' hk'=>by rw [ug b no a' k hb ha' hk',E1 hn (.inr hk)]
theorem se {b:aW} {a:Nat} {no:Int} {s:List UInt8} {e:Nat} (ha:a<=b.length) (h:nH b a no=some (s,e)):iZ no s=true/\s.length<=60/\e<=b.length:=by
 obtain ⟨n,hn,hk⟩:=kinds no;have hnn:Int.toNat (n:Int)=n:=Int.toNat_natCast n;have num:∀ a k,rD b a k=some (s,e)->s.all fK=true/\s.length=k/\1<=k/\e<=b.length:=fun a k h=>by unfold rD at h;obtain ⟨q,hq,h⟩:=Option.map_eq_some_iff.1 h;cases h;obtain ⟨h1,h2,h3,h4,h5⟩:=dT hq;exact ⟨h1,h2,h3,h5⟩
 have txt:∀ a k,pW b a k=some (s,e)->dW s=true/\s.length=k/\e<=b.length:=fun a k h=>by
  unfold pW at h;split at h
  . rename_i hl;cases hp:dW (strOf (eK b a k)) with
    | false=>rw [hp] at h; simp at h
    | true => rw [hp] at h;cases h;exact ⟨hp,by rw [ll,lY hl],hl⟩
  . simp at h
 have var:∀ d f,zD b a d n f=some (s,e)->∃ a' k,1<=k/\k<=n/\f a' k=some (s,e):=fun d f h=>by
  unfold zD at h;split at h
  . split at h
    . rename_i hin;exact ⟨_,_,hin.1,hin.2,h⟩
    . simp at h
  . simp at h
 unfold nH at h;rw [hn,hnn] at h;rcases hk with ⟨hk,hz⟩ | ⟨hk,hz⟩ | ⟨hk,hz⟩ | ⟨hk,hz⟩ | ⟨hk,hz⟩ | ⟨hk,hz⟩ <;> rw [hk] at h
 . simp at h
 . obtain ⟨h1,h2,h3,h4⟩:=num _ _ h;exact ⟨by rw [(rC hn s).1 hk,dm.2 ⟨h1,kN h2 h3⟩,je h2,bg]; rfl,by omega,h4⟩
 . obtain ⟨h1,h2,h4⟩:=txt _ _ h;exact ⟨by rw [(rC hn s).2.1 hk,h1,je h2,bg]; rfl,by omega,h4⟩
 . obtain ⟨a',k,k1,k2,h⟩:=var _ _ h;obtain ⟨h1,h2,h3,h4⟩:=num _ _ h;exact ⟨by rw [(rC hn s).2.2.1 hk,dm.2 ⟨h1,kN h2 h3⟩,je h2,rm,decide_eq_true ⟨k1,k2⟩]; rfl,by omega,h4⟩
 . obtain ⟨a',k,k1,k2,h⟩:=var _ _ h;obtain ⟨h1,h2,h4⟩:=txt _ _ h;exact ⟨by rw [(rC hn s).2.2.2 (.inl hk),h1,je h2,rm,decide_eq_true ⟨k1,k2⟩]; rfl,by omega,h4⟩
 . obtain ⟨a',k,k1,k2,h⟩:=var _ _ h;obtain ⟨h1,h2,h4⟩:=txt _ _ h;exact ⟨by rw [(rC hn s).2.2.2 (.inr hk),h1,je h2,rm,decide_eq_true ⟨k1,k2⟩]; rfl,by omega,h4⟩
end Go.Av
