/- Part of a proof that the law FnExactWaitsOn answers true for every input: the printed functions of this program and their plain laws. No conditions beyond the statement. -/
import Derived.Test.YtpgkhfcgbjangaaGreatDoorP1
import Derived.Test.YtpgkhfcgbjangaaGreatDoorFw4
set_option maxRecDepth 100000
set_option maxHeartbeats 4000000
namespace Go.Av
abbrev HoldT:=List UInt8×Int×Int×Unit
abbrev SlotT:=List UInt8×List UInt8×List (Int×Unit)×Unit
abbrev RingT:=Int×Int×List (Int×Unit)×List (Int×Unit)×Unit
def inM (a lo hi:Int):Bool:=cond (leI lo a) (leI a hi) false
theorem inM_iff {a lo hi:Int}:inM a lo hi=true↔lo<=a/\a<=hi:=by unfold inM leI;by_cases h:lo<=a <;> simp [h]
theorem in_s (a lo hi:Int):g44 a lo hi=some ((),((inM a lo hi,()),())):=rfl
theorem in_i (a lo hi:Int):g46 a lo hi=some ((),((inM a lo hi,()),())):=rfl
def moneyM (a:Int):Bool:=inM a 0 4611686018427387904
theorem money_s (a:Int):g99 a=some ((),((moneyM a,()),())):=rfl
theorem money_i (a:Int):g107 a=some ((),((moneyM a,()),())):=rfl
def timeM (a:Int):Bool:=inM a 0 1000000000
theorem time_s (a:Int):g31 a=some ((),((timeM a,()),())):=rfl
theorem time_i (a:Int):g38 a=some ((),((timeM a,()),())):=rfl
def digM (x:UInt8):Bool:=cond (ltI (x.toNat:Int) 48) false (!(ltI 57 (x.toNat:Int)))
theorem digM_iff {x:UInt8}:digM x=true↔48<=x.toNat/\x.toNat<=57:=by
 unfold digM ltI;by_cases h:(x.toNat:Int) < 48
 . simp [h]; omega
 . by_cases h2:(57:Int) < x.toNat
   . simp [h,h2]; omega
   . simp [h,h2]; omega
def digitsM (s:List UInt8):Bool:=cond (s.all digM) (ltI 0 (lenI s)) false
theorem digits_s (s:List UInt8) (hs:s.length<=big):g185 s=some ((),((digitsM s,()),())):=by
 unfold g185;have h:=loop_list (step:=un2 r185_0) s (fun i (_:Unit)=>(s,((i:Nat):Int),())) (fun _ x _=>bif digM x then Sum.inl () else .inr (.inr (false,()))) (fun _=> .inl (s,(s.length:Int),())) (a0:=()) (fun i x a hx=>by
  have hlt:=lt_of_get hx;show r185_0 s (i:Int)=_;unfold r185_0 digM;rw [ltI_in hx,inB_in hx,bytI_in hx,addW1 (by omega)];dsimp only [cond_true];cases ltI (x.toNat:Int) 48 <;> cases ltI 57 (x.toNat:Int) <;> rfl) (fun a=>by
  show r185_0 s (s.length:Int)=_;unfold r185_0;rw [ltI_out rfl]; rfl)
 rw [goL_all] at h;have h':l185_0 s 0=_:=h;rw [h'];unfold digitsM;cases s.all digM <;> rfl
theorem digits_i (s:List UInt8) (hs:s.length<=big):g190 s=some ((),((digitsM s,()),())):=by
 unfold g190;have h:=loop_list (step:=un3 r190_0) s (fun i (_:Unit)=>(s,lenI s,((i:Nat):Int),())) (fun _ x _=>bif digM x then Sum.inl () else .inr (.inr (false,()))) (fun _=> .inl (s,lenI s,(s.length:Int),())) (a0:=()) (fun i x a hx=>by
  have hlt:=lt_of_get hx;show r190_0 s (lenI s) (i:Int)=_;unfold r190_0 digM;rw [ltI_in hx,inB_in hx,bytI_in hx,addW1 (by omega)];dsimp only [cond_true];cases ltI (x.toNat:Int) 48 <;> cases ltI 57 (x.toNat:Int) <;> rfl) (fun a=>by
  show r190_0 s (lenI s) (s.length:Int)=_;unfold r190_0;rw [ltI_out rfl]; rfl)
 rw [goL_all] at h;have h':l190_0 s (lenI s) 0=_:=h;rw [h'];unfold digitsM;cases s with
 | nil=>rfl
 | cons x r =>
   have e1:ltI 0 (lenI (x :: r))=true:=ltI_yes (by unfold lenI; simp only [List.length_cons]; omega);have e2:eqS (x :: r) []=false:=rfl;cases (x :: r).all digM
   . rfl
   . dsimp only [cond_true,cond_false,Option.bind_some,Sum.elim_inl];rw [e1,e2]; rfl
def holdChM (x:UInt8):Bool:=cond (ltI (x.toNat:Int) 48) (cond (ltI (x.toNat:Int) 97) false (!(ltI 122 (x.toNat:Int)))) (cond (ltI 57 (x.toNat:Int)) (cond (ltI (x.toNat:Int) 97) false (!(ltI 122 (x.toNat:Int)))) true)
def holdIdM (s:List UInt8):Bool:=cond (s.all holdChM) (inM (lenI s) 1 6) false
theorem holdId_s (s:List UInt8) (hs:s.length<=big):g187 s=some ((),((holdIdM s,()),())):=by
 unfold g187;have h:=loop_list (step:=un2 r187_0) s (fun i (_:Unit)=>(s,((i:Nat):Int),())) (fun _ x _=>bif holdChM x then Sum.inl () else .inr (.inr (false,()))) (fun _=> .inl (s,(s.length:Int),())) (a0:=()) (fun i x a hx=>by
  have hlt:=lt_of_get hx;show r187_0 s (i:Int)=_;unfold r187_0 holdChM;rw [ltI_in hx,inB_in hx,bytI_in hx,addW1 (by omega)];dsimp only [cond_true];cases ltI (x.toNat:Int) 48 <;> cases ltI 57 (x.toNat:Int) <;> cases ltI (x.toNat:Int) 97 <;> cases ltI 122 (x.toNat:Int) <;> rfl) (fun a=>by
  show r187_0 s (s.length:Int)=_;unfold r187_0;rw [ltI_out rfl]; rfl)
 rw [goL_all] at h;have h':l187_0 s 0=_:=h;rw [h'];unfold holdIdM;cases s.all holdChM <;> rfl
theorem holdId_i (s:List UInt8) (hs:s.length<=big):g192 s=some ((),((holdIdM s,()),())):=by
 unfold g192;have h:=loop_list (step:=un3 r192_0) s (fun i (_:Unit)=>(s,lenI s,((i:Nat):Int),())) (fun _ x _=>bif holdChM x then Sum.inl () else .inr (.inr (false,()))) (fun _=> .inl (s,lenI s,(s.length:Int),())) (a0:=()) (fun i x a hx=>by
  have hlt:=lt_of_get hx;show r192_0 s (lenI s) (i:Int)=_;unfold r192_0 holdChM;rw [ltI_in hx,inB_in hx,bytI_in hx,addW1 (by omega)];dsimp only [cond_true];cases ltI (x.toNat:Int) 48 <;> cases ltI 57 (x.toNat:Int) <;> cases ltI (x.toNat:Int) 97 <;> cases ltI 122 (x.toNat:Int) <;> rfl) (fun a=>by
  show r192_0 s (lenI s) (s.length:Int)=_;unfold r192_0;rw [ltI_out rfl]; rfl)
 rw [goL_all] at h;have h':l192_0 s (lenI s) 0=_:=h;rw [h'];unfold holdIdM;cases s.all holdChM <;> rfl
def holdM (h:HoldT):Bool:=cond (holdIdM h.1) (cond (inM h.2.1 1 9007199254740992) (timeM h.2.2.1) false) false
theorem hold_s (h:HoldT) (hs:h.1.length<=big):g134 h=some ((),((holdM h,()),())):=by unfold g134 holdM;simp only [holdId_s _ hs,in_s,time_s,Option.bind_some];cases holdIdM h.1 <;> cases inM h.2.1 1 9007199254740992 <;> rfl
theorem hold_i (h:HoldT) (hs:h.1.length<=big):g142 h=some ((),((holdM h,()),())):=by unfold g142 holdM;simp only [holdId_i _ hs,in_i,time_i,Option.bind_some];cases holdIdM h.1 <;> cases inM h.2.1 1 9007199254740992 <;> rfl
def holdStep (xs:List HoldT) (i:Nat) (x:HoldT):Bool:=cond (holdM x) (cond (ltI 0 (i:Int)) (ltS (gt ([],0,0,()) xs ((i:Int) - 1)).1 x.1) true) false
def holdsM (xs:List HoldT):Bool:=cond (allI (holdStep xs) 0 xs) (leI (lenI xs) 4) false
theorem bytesLess_tri:∀ (s t:List UInt8),(Op.bytesLess s t || eqS s t)= !(Op.bytesLess t s)
 | [],[]=>rfl
 | [],_ :: _=>rfl
 | _ :: _,[]=>rfl
 | a :: s,b :: t=>by
   have ih:=bytesLess_tri s t;have e:eqS (a :: s) (b :: t)=(a == b && eqS s t):=rfl;show ((decide (a < b) || (a == b && Op.bytesLess s t)) || eqS (a :: s) (b :: t))= !(decide (b < a) || (b == a && Op.bytesLess t s));rw [e];rcases Nat.lt_trichotomy a.toNat b.toNat with h | h | h
   . have h1:a < b:=UInt8.lt_iff_toNat_lt.2 h;have h2:¬ b < a:=fun hh=>by have:=UInt8.lt_iff_toNat_lt.1 hh; omega
     have h3:(b == a)=false:=by rw [beq_eq_false_iff_ne]; intro hh; subst hh; omega
     simp [h1,h2,h3]
   . have h1:a=b:=UInt8.toNat_inj.1 h;subst h1;have h2:¬ a < a:=fun hh=>by have:=UInt8.lt_iff_toNat_lt.1 hh; omega
     simpa [h2] using ih
   . have h1:¬ a < b:=fun hh=>by have:=UInt8.lt_iff_toNat_lt.1 hh; omega
     have h2:b < a:=UInt8.lt_iff_toNat_lt.2 h;have h3:(a == b)=false:=by rw [beq_eq_false_iff_ne]; intro hh; subst hh; omega
     simp [h1,h2,h3]
theorem leS_not (s t:List UInt8):leS s t= !(ltS t s):=bytesLess_tri s t
def HoldsB (xs:List HoldT):Prop:=xs.length<=big/\∀ y∈xs,y.1.length<=big
theorem prev_get {α:Type} {xs:List α} {i:Nat} {x:α} (hx:xs[i]? = some x) (h:0 < i):inB ((i:Int) - 1) xs=true:=by
 have:=lt_of_get hx;have e:(i:Int) - 1=((i - 1:Nat):Int):=by omega
 rw [e]; exact inB_lt (by omega)
theorem holds_s (xs:List HoldT) (hb:HoldsB xs):g100 xs=some ((),((holdsM xs,()),())):=by
 have hbig:big=140737488355328:=rfl;unfold g100;have h:=loop_list (step:=un4 r100_0) xs (fun i (_:Unit)=>(xs,xs,lenI xs,((i:Nat):Int),())) (fun i x _=>bif holdStep xs i x then Sum.inl () else .inr (.inr (false,()))) (fun _=> .inl (xs,xs,lenI xs,(xs.length:Int),())) (a0:=()) (fun i x a hx=>by
  have hlt:=lt_of_get hx;have hl:=hb.1;show r100_0 xs xs (lenI xs) (i:Int)=_;unfold r100_0 holdStep;rw [ltI_in hx,inB_in hx,gt_in _ hx];dsimp only [cond_true];rw [hold_s x (hb.2 x (List.mem_of_getElem? hx)),addW1 (by omega)];dsimp only [Option.bind_some];cases holdM x with
  | false=>rfl
  | true =>
    by_cases h0:0 < i
    . rw [ltI_yes (show (0:Int) < i by omega),subW_in (by omega) (by omega),prev_get hx h0];dsimp only [cond_true,cond_false,Bool.not_true];have e:gt d157 xs ((i:Int) - 1)=gt ([],0,0,()) xs ((i:Int) - 1):=rfl;rw [e];cases ltS (gt ([],0,0,()) xs ((i:Int) - 1)).1 x.1 <;> rfl
    . rw [ltI_no (show ¬ (0:Int) < i by omega)]; rfl) (fun a=>by
  show r100_0 xs xs (lenI xs) (xs.length:Int)=_;unfold r100_0;rw [ltI_out rfl]; rfl)
 rw [goL_allI] at h;have h':l100_0 xs xs (lenI xs) 0=_:=h;rw [h'];unfold holdsM;cases allI (holdStep xs) 0 xs <;> rfl
theorem holds_i (xs:List HoldT) (hb:HoldsB xs):g108 xs=some ((),((holdsM xs,()),())):=by
 have hbig:big=140737488355328:=rfl;unfold g108;have h:=loop_list (step:=un4 r108_0) xs (fun i (_:Unit)=>(xs,xs,lenI xs,((i:Nat):Int),())) (fun i x _=>bif holdStep xs i x then Sum.inl () else .inr (.inr (false,()))) (fun _=> .inl (xs,xs,lenI xs,(xs.length:Int),())) (a0:=()) (fun i x a hx=>by
  have hlt:=lt_of_get hx;have hl:=hb.1;show r108_0 xs xs (lenI xs) (i:Int)=_;unfold r108_0 holdStep;rw [ltI_in hx,inB_in hx,gt_in _ hx];dsimp only [cond_true];rw [hold_i x (hb.2 x (List.mem_of_getElem? hx)),addW1 (by omega)];dsimp only [Option.bind_some];cases holdM x with
  | false=>rfl
  | true =>
    by_cases h0:0 < i
    . rw [ltI_yes (show (0:Int) < i by omega),subW_in (by omega) (by omega),prev_get hx h0];dsimp only [cond_true,cond_false,Bool.not_true];rw [leS_not];have e:gt d157 xs ((i:Int) - 1)=gt ([],0,0,()) xs ((i:Int) - 1):=rfl;rw [e];cases ltS (gt ([],0,0,()) xs ((i:Int) - 1)).1 x.1 <;> rfl
    . rw [ltI_no (show ¬ (0:Int) < i by omega)]; rfl) (fun a=>by
  show r108_0 xs xs (lenI xs) (xs.length:Int)=_;unfold r108_0;rw [ltI_out rfl]; rfl)
 rw [goL_allI] at h;have h':l108_0 xs xs (lenI xs) 0=_:=h;rw [h'];unfold holdsM;cases allI (holdStep xs) 0 xs <;> rfl
def lunE (dbl:Bool) (x:UInt8):Int:=cond dbl (cond (ltI 9 (2 * ((x.toNat:Int) - 48))) (2 * ((x.toNat:Int) - 48) - 9) (2 * ((x.toNat:Int) - 48))) ((x.toNat:Int) - 48)
theorem lunE_bd (b:Bool) {x:UInt8} (h:digM x=true):0<=lunE b x/\lunE b x<=9:=by
 obtain ⟨h1,h2⟩:=digM_iff.1 h;unfold lunE ltI;cases b
 . dsimp only [cond_false]; omega
 . dsimp only [cond_true];by_cases h9:9 < 2 * ((x.toNat:Int) - 48)
   . rw [decide_eq_true h9]; dsimp only [cond_true]; omega
   . rw [decide_eq_false h9]; dsimp only [cond_false]; omega
def lunS (xs:List UInt8) (a:Int×Bool):Int×Bool:=xs.foldl (fun a x=>(a.1 + lunE a.2 x,!a.2)) a
def lunT (xs:List UInt8) (a:Int×Bool):Int×Bool:=xs.foldl (fun a x=>((a.1 + lunE a.2 x) % 10,!a.2)) a
theorem lunT_eq:∀ (xs:List UInt8) (a:Int) (b:Bool),lunT xs (a % 10,b)=((lunS xs (a,b)).1 % 10,(lunS xs (a,b)).2)
 | [],a,b=>rfl
 | x :: r,a,b=>by
   have e:(a % 10 + lunE b x) % 10=(a + lunE b x) % 10:=by omega
   show lunT r ((a % 10 + lunE b x) % 10,!b)=((lunS r (a + lunE b x,!b)).1 % 10,(lunS r (a + lunE b x,!b)).2);rw [e];exact lunT_eq r _ _
def luhnM (s:List UInt8):Int:=cond (digitsM s) ((10 - (lunS s.reverse (0,true)).1 % 10) % 10) (-1)
theorem digitsM_all {s:List UInt8} (h:digitsM s=true):∀ x∈s,digM x=true:=by
 unfold digitsM at h;cases hs:s.all digM with
 | true=>exact fun x hx=>List.all_eq_true.1 hs x hx
 | false=>rw [hs] at h; simp at h
theorem rev_get {s:List UInt8} {i:Nat} {x:UInt8} (h:s.reverse[i]? = some x):i < s.length/\s[s.length - 1 - i]? = some x:=by
 have hl:i < s.length:=by simpa using lt_of_get h
 refine ⟨hl,?_⟩;rwa [List.getElem?_reverse hl] at h
theorem dig_s {x:UInt8} (h:digM x=true):subW .i64 (cvtW .i64 (x.toNat:Int)) 48=(x.toNat:Int) - 48:=by obtain ⟨h1,h2⟩:=digM_iff.1 h;have e:cvtW .i64 (x.toNat:Int)=(x.toNat:Int):=IntWalk.i64_in _ (by omega);rw [e]; exact subW_in (by omega) (by omega)
theorem dig_i {x:UInt8} (h:digM x=true):cvtW .i64 (subW .u8 (x.toNat:Int) 48)=(x.toNat:Int) - 48:=by obtain ⟨h1,h2⟩:=digM_iff.1 h;have e:subW .u8 (x.toNat:Int) 48=(x.toNat:Int) - 48:=IntWalk.u8_in _ (by omega);rw [e]; exact IntWalk.i64_in _ (by omega)
theorem mulW_in {a b:Int} (h1 : -4611686018427387904<=a * b) (h2:a * b<=4611686018427387904):mulW .i64 a b=a * b:=by unfold mulW; rw [IntWalk.i64_in _ (by omega)]
theorem remI_10 {a:Int} (h:0<=a):remI a 10=a % 10:=by unfold remI; exact Int.tmod_eq_emod_of_nonneg h
theorem luhn_s (s:List UInt8) (hs:s.length<=big):g186 s=some ((),((luhnM s,()),())):=by
 have hbig:big=140737488355328:=rfl;unfold g186 luhnM;rw [digits_s s hs];dsimp only [Option.bind_some];cases hd:digitsM s with
 | false=>rfl
 | true =>
 have hall:=digitsM_all hd
 have h:=loop_inv (step:=un4 r186_0) s.reverse (fun i (a:Int×Bool)=>(s,a.1,a.2,(s.length:Int) - 1 - ((i:Nat):Int),())) (fun _ x a=>Sum.inl ((a.1 + lunE a.2 x) % 10,!a.2)) (fun a=> .inl (s,a.1,a.2,(-1:Int),()))
  (fun _ a=>0<=a.1/\a.1 < 10) (a0:=(0,true)) ⟨by decide,by decide⟩ (fun i x a hx ha=>by
    obtain ⟨hlt,hx'⟩:=rev_get hx;have hdx:=hall x (List.mem_of_getElem? hx');have hbd:=lunE_bd a.2 hdx;have hdd:=digM_iff.1 hdx;have e:(s.length:Int) - 1 - (i:Int)=((s.length - 1 - i:Nat):Int):=by omega
    have e':(s.length:Int) - 1 - ((i + 1:Nat):Int)=((s.length - 1 - i:Nat):Int) - 1:=by omega
    obtain ⟨a1,a2⟩:=a;show r186_0 s a1 a2 ((s.length:Int) - 1 - (i:Int))=some (.inl (s,(a1 + lunE a2 x) % 10,!a2,(s.length:Int) - 1 - ((i + 1:Nat):Int),()));rw [e,e'];have hle:leI 0 ((s.length - 1 - i:Nat):Int)=true:=decide_eq_true (by omega);have ha:0<=a1/\a1 < 10:=ha;unfold r186_0;rw [hle,inB_in hx',bytI_in hx',dig_s hdx,subW_in (a:=((s.length - 1 - i:Nat):Int)) (b:=1) (by omega) (by omega)];have hb:(0<=lunE a2 x/\lunE a2 x<=9):=hbd;cases a2 with
    | false => have hv:lunE false x=(x.toNat:Int) - 48:=rfl;dsimp only [cond_true,cond_false,Bool.not_false];rw [addW_in (by omega) (by omega),remI_10 (by omega),hv]
    | true =>
      dsimp only [cond_true,cond_false,Bool.not_false,Bool.not_true];rw [mulW_in (by omega) (by omega)];by_cases h9:9 < 2 * ((x.toNat:Int) - 48)
      . have hv:lunE true x=2 * ((x.toNat:Int) - 48) - 9:=by unfold lunE; rw [ltI_yes h9]; rfl
        rw [ltI_yes h9]; dsimp only [cond_true,cond_false,Bool.not_false]; rw [subW_in (by omega) (by omega),addW_in (by omega) (by omega),remI_10 (by omega),hv]
      . have hv:lunE true x=2 * ((x.toNat:Int) - 48):=by unfold lunE; rw [ltI_no h9]; rfl
        rw [ltI_no h9]; dsimp only [cond_true,cond_false,Bool.not_false]; rw [addW_in (by omega) (by omega),remI_10 (by omega),hv]) (fun i x a a' hx ha hf=>by
    simp only [Sum.inl.injEq] at hf;subst hf;show 0<=(a.1 + lunE a.2 x) % 10/\(a.1 + lunE a.2 x) % 10 < 10;omega) (fun a ha=>by
    have e:(s.length:Int) - 1 - ((s.reverse.length:Nat):Int) = -1:=by simp; omega
    show r186_0 s a.1 a.2 ((s.length:Int) - 1 - ((s.reverse.length:Nat):Int))=_;rw [e];rfl)
 rw [goL_fold (fun x a=>((a.1 + lunE a.2 x) % 10,!a.2))] at h;have h':l186_0 s 0 true ((s.length:Int) - 1 - ((0:Nat):Int))=some (.inl (s,(lunT s.reverse (0,true)).1,(lunT s.reverse (0,true)).2,(-1:Int),())):=h;have e0:(s.length:Int) - 1 - ((0:Nat):Int)=subW .i64 (lenI s) 1:=by rw [subW_in (by unfold lenI; omega) (by unfold lenI; omega)]; unfold lenI; omega
 have eT:(lunT s.reverse (0,true)).1=(lunS s.reverse (0,true)).1 % 10:=by have:=lunT_eq s.reverse 0 true;rw [show (0:Int) % 10=0 from rfl] at this;rw [this]
 rw [e0] at h';rw [h',eT];dsimp only [Option.bind_some,Sum.elim_inl,cond_true,cond_false,Bool.not_true];rw [subW_in (by omega) (by omega),remI_10 (by omega)]; rfl
theorem luhn_i (s:List UInt8) (hs:s.length<=big):g191 s=some ((),((luhnM s,()),())):=by
 have hbig:big=140737488355328:=rfl;unfold g191 luhnM;rw [digits_i s hs];dsimp only [Option.bind_some];cases hd:digitsM s with
 | false=>rfl
 | true =>
 have hall:=digitsM_all hd
 have h:=loop_inv (step:=un4 r191_0) s.reverse (fun i (a:Int×Bool)=>(s,a.1,a.2,(s.length:Int) - 1 - ((i:Nat):Int),())) (fun _ x a=>Sum.inl (a.1 + lunE a.2 x,!a.2)) (fun a=> .inl (s,a.1,a.2,(-1:Int),()))
  (fun i a=>0<=a.1/\a.1<=9 * i) (a0:=(0,true)) ⟨by decide,by decide⟩ (fun i x a hx ha=>by
    obtain ⟨hlt,hx'⟩:=rev_get hx;have hdx:=hall x (List.mem_of_getElem? hx');have hbd:=lunE_bd a.2 hdx;have hdd:=digM_iff.1 hdx;have e:(s.length:Int) - 1 - (i:Int)=((s.length - 1 - i:Nat):Int):=by omega
    have e':(s.length:Int) - 1 - ((i + 1:Nat):Int)=((s.length - 1 - i:Nat):Int) - 1:=by omega
    obtain ⟨a1,a2⟩:=a;show r191_0 s a1 a2 ((s.length:Int) - 1 - (i:Int))=some (.inl (s,a1 + lunE a2 x,!a2,(s.length:Int) - 1 - ((i + 1:Nat):Int),()));rw [e,e'];have hle:leI 0 ((s.length - 1 - i:Nat):Int)=true:=decide_eq_true (by omega);have ha:0<=a1/\a1<=9 * i:=ha;unfold r191_0;rw [hle,inB_in hx',bytI_in hx',dig_i hdx,subW_in (a:=((s.length - 1 - i:Nat):Int)) (b:=1) (by omega) (by omega)];have hb:(0<=lunE a2 x/\lunE a2 x<=9):=hbd;cases a2 with
    | false => have hv:lunE false x=(x.toNat:Int) - 48:=rfl;dsimp only [cond_true,cond_false,Bool.not_false];rw [addW_in (by omega) (by omega),hv]
    | true =>
      dsimp only [cond_true,cond_false,Bool.not_false,Bool.not_true];have em:mulW .i64 ((x.toNat:Int) - 48) 2=2 * ((x.toNat:Int) - 48):=by rw [mulW_in (by omega) (by omega)]; omega
      rw [em];by_cases h9:9 < 2 * ((x.toNat:Int) - 48)
      . have hv:lunE true x=2 * ((x.toNat:Int) - 48) - 9:=by unfold lunE; rw [ltI_yes h9]; rfl
        rw [ltI_yes h9]; dsimp only [cond_true,cond_false,Bool.not_false]; rw [subW_in (by omega) (by omega),addW_in (by omega) (by omega),hv]
      . have hv:lunE true x=2 * ((x.toNat:Int) - 48):=by unfold lunE; rw [ltI_no h9]; rfl
        rw [ltI_no h9]; dsimp only [cond_true,cond_false,Bool.not_false]; rw [addW_in (by omega) (by omega),hv]) (fun i x a a' hx ha hf=>by
    have hbd:=lunE_bd a.2 (hall x (List.mem_of_getElem? (rev_get hx).2));simp only [Sum.inl.injEq] at hf;subst hf;show 0<=a.1 + lunE a.2 x/\a.1 + lunE a.2 x<=9 * ((i + 1:Nat):Int);omega) (fun a ha=>by
    have e:(s.length:Int) - 1 - ((s.reverse.length:Nat):Int) = -1:=by simp; omega
    show r191_0 s a.1 a.2 ((s.length:Int) - 1 - ((s.reverse.length:Nat):Int))=_;rw [e];rfl)
 rw [goL_fold (fun x a=>(a.1 + lunE a.2 x,!a.2))] at h;have h':l191_0 s 0 true ((s.length:Int) - 1 - ((0:Nat):Int))=some (.inl (s,(lunS s.reverse (0,true)).1,(lunS s.reverse (0,true)).2,(-1:Int),())):=h;have e0:(s.length:Int) - 1 - ((0:Nat):Int)=subW .i64 (lenI s) 1:=by rw [subW_in (by unfold lenI; omega) (by unfold lenI; omega)]; unfold lenI; omega
 have hS:∀ (xs:List UInt8) (a:Int×Bool),(∀ x∈xs,digM x=true)->0<=a.1->0<=(lunS xs a).1:=by
  intro xs;induction xs with
  | nil=>intro a _ h; exact h
  | cons x r ih => intro a hx h;have:=lunE_bd a.2 (hx x (List.mem_cons_self ..));exact ih (a.1 + lunE a.2 x,!a.2) (fun y hy=>hx y (List.mem_cons_of_mem _ hy)) (by show 0<=a.1 + lunE a.2 x; omega)
 have h0:=hS s.reverse (0,true) (fun x hx=>hall x (List.mem_reverse.1 hx)) (by decide);rw [e0] at h';rw [h'];dsimp only [Option.bind_some,Sum.elim_inl,cond_true,cond_false,Bool.not_true];rw [remI_10 h0,subW_in (by omega) (by omega),remI_10 (by omega)]; rfl
def luhnOkM (s:List UInt8):Bool:=cond (digitsM s) (cond (leI 2 (lenI s)) (eqI (luhnM (sub s 0 (lenI s - 1))) (bytI s (lenI s - 1) - 48)) false) false
theorem lastD {s:List UInt8} (hd:digitsM s=true) (h:2<=s.length):∃ x,digM x=true/\inB (lenI s - 1) s=true/\bytI s (lenI s - 1)=(x.toNat:Int)/\cutB 0 (lenI s - 1) s=true/\(sub s 0 (lenI s - 1)).length<=s.length:=by
 have e:lenI s - 1=((s.length - 1:Nat):Int):=by unfold lenI; omega
 obtain ⟨x,hx⟩:∃ x,s[s.length - 1]? = some x:=⟨s[s.length - 1]'(by omega),by simp⟩;refine ⟨x,digitsM_all hd x (List.mem_of_getElem? hx),?_,?_,?_,?_⟩
 . rw [e]; exact inB_in hx
 . rw [e]; exact bytI_in hx
 . rw [e]; unfold cutB cutOk leI;rw [decide_eq_true (by decide),decide_eq_true (by omega),decide_eq_true (by omega)]; rfl
 . rw [e]; unfold sub; simp
theorem luhnOk_s (s:List UInt8) (hs:s.length<=big):g133 s=some ((),((luhnOkM s,()),())):=by
 have hbig:big=140737488355328:=rfl;unfold g133 luhnOkM;rw [digits_s s hs];dsimp only [Option.bind_some];cases hd:digitsM s with
 | false=>rfl
 | true =>
   by_cases h2:2<=s.length
   . obtain ⟨x,h3,h4,h5,h6,h7⟩:=lastD hd h2;have e1:leI 2 (lenI s)=true:=decide_eq_true (by unfold lenI; omega);have e2:subW .i64 (lenI s) 1=lenI s - 1:=subW_in (by unfold lenI; omega) (by unfold lenI; omega);rw [ltI_no (show ¬ lenI s < 2 by unfold lenI; omega),e1,e2];dsimp only [cond_true,cond_false,Bool.not_true];rw [h6,h4,luhn_s _ (Nat.le_trans h7 hs),h5,dig_s h3]; rfl
   . have e1:leI 2 (lenI s)=false:=decide_eq_false (by unfold lenI; omega);rw [ltI_yes (show lenI s < 2 by unfold lenI; omega),e1]; rfl
theorem luhnOk_i (s:List UInt8) (hs:s.length<=big):g141 s=some ((),((luhnOkM s,()),())):=by
 have hbig:big=140737488355328:=rfl;unfold g141 luhnOkM;have e2:subW .i64 (lenI s) 1=lenI s - 1:=subW_in (by unfold lenI; omega) (by unfold lenI; omega);dsimp only;rw [digits_i s hs,e2];dsimp only [Option.bind_some];by_cases h2:2<=s.length
 . have e1:leI 2 (lenI s)=true:=decide_eq_true (by unfold lenI; omega);have e3:leI 1 (lenI s - 1)=true:=decide_eq_true (by unfold lenI; omega);rw [e1,e3];cases hd:digitsM s with
   | false=>rfl
   | true => obtain ⟨x,h3,h4,h5,h6,h7⟩:=lastD hd h2;dsimp only [cond_true,cond_false,Bool.not_true];rw [h6,h4,luhn_i _ (Nat.le_trans h7 hs),h5,dig_i h3]; rfl
 . have e1:leI 2 (lenI s)=false:=decide_eq_false (by unfold lenI; omega);have e3:leI 1 (lenI s - 1)=false:=decide_eq_false (by unfold lenI; omega);rw [e1,e3];cases digitsM s <;> rfl
def acctIdM (s:List UInt8):Bool:=cond (leI (lenI s) 19) (luhnOkM s) false
theorem acctId_s (s:List UInt8) (hs:s.length<=big):g98 s=some ((),((acctIdM s,()),())):=by unfold g98 acctIdM;rw [luhnOk_s s hs];cases leI (lenI s) 19 <;> rfl
theorem acctId_i (s:List UInt8) (hs:s.length<=big):g106 s=some ((),((acctIdM s,()),())):=by unfold g106 acctIdM;rw [luhnOk_i s hs];cases leI (lenI s) 19 <;> rfl
def clampM (a:Int):Int:=if a < 0 then 0 else if 4611686018427387904 < a then 4611686018427387904 else a
theorem clampM_bd (a:Int):0<=clampM a/\clampM a<=4611686018427387904:=by
 unfold clampM;split
 . omega
 . split <;> omega
def satM (a b:Int):Int:=if 4611686018427387904 - clampM b < clampM a then 4611686018427387904 else clampM a + clampM b
theorem clamp_s (a:Int):g137 a 0 4611686018427387904=some ((),((clampM a,()),())):=by
 unfold g137 clampM;by_cases h:a < 0
 . rw [ltI_yes h,if_pos h]; rfl
 . by_cases h2:4611686018427387904 < a
   . rw [ltI_no h,if_neg h,ltI_yes h2,if_pos h2]; rfl
   . rw [ltI_no h,if_neg h,ltI_no h2,if_neg h2]; rfl
theorem moneyM_yes {a:Int} (h:0<=a/\a<=4611686018427387904):moneyM a=true:=inM_iff.2 h
theorem sat_s (a b:Int):g103 a b=some ((),((satM a b,()),())):=by
 unfold g103 g136 satM;have h1:=clampM_bd a;have h2:=clampM_bd b;rw [clamp_s,clamp_s];dsimp only [Option.bind_some];rw [money_s,money_s,moneyM_yes h1,moneyM_yes h2,subW_in (by omega) (by omega)];dsimp only [Option.bind_some,Bool.not_true,cond_false];by_cases h:4611686018427387904 - clampM b < clampM a
 . rw [ltI_yes h,if_pos h]; rfl
 . rw [ltI_no h,if_neg h,addW_in (by omega) (by omega)]; rfl
theorem sat_i (a b:Int):g111 a b=some ((),((satM a b,()),())):=by
 have e:∀ x:Int,mxI 0 (mnI x 4611686018427387904)=clampM x:=fun x=>by unfold mxI mnI clampM;split <;> split <;> (try split) <;> omega
 have h1:=clampM_bd a;have h2:=clampM_bd b;unfold g111 satM;dsimp only;rw [e,e,subW_in (by omega) (by omega)];by_cases h:4611686018427387904 - clampM b < clampM a
 . rw [ltI_yes h,if_pos h]; rfl
 . rw [ltI_no h,if_neg h,addW_in (by omega) (by omega)]; rfl
def storedM (xs:List HoldT):Int:=xs.foldl (fun a h=>satM a h.2.1) 0
theorem stored_s (xs:List HoldT) (hs:xs.length<=big):g104 xs=some ((),((storedM xs,()),())):=by
 unfold g104;have h:=loop_list (step:=un4 r104_0) xs (fun i (a:Int)=>(a,xs,lenI xs,((i:Nat):Int),())) (fun _ x a=>Sum.inl (satM a x.2.1)) (fun a=> .inl (a,xs,lenI xs,(xs.length:Int),())) (a0:=0) (fun i x a hx=>by
  have hlt:=lt_of_get hx;show r104_0 a xs (lenI xs) (i:Int)=_;unfold r104_0;rw [ltI_in hx,inB_in hx,gt_in _ hx,addW1 (by omega),sat_s]; rfl) (fun a=>by
  show r104_0 a xs (lenI xs) (xs.length:Int)=_;unfold r104_0;rw [ltI_out rfl]; rfl)
 rw [goL_fold (fun (x:HoldT) a=>satM a x.2.1)] at h;have h':l104_0 0 xs (lenI xs) 0=_:=h;rw [h']; rfl
theorem stored_i (xs:List HoldT) (hs:xs.length<=big):g112 xs=some ((),((storedM xs,()),())):=by
 unfold g112;have h:=loop_list (step:=un4 r112_0) xs (fun i (a:Int)=>(a,xs,lenI xs,((i:Nat):Int),())) (fun _ x a=>Sum.inl (satM a x.2.1)) (fun a=> .inl (a,xs,lenI xs,(xs.length:Int),())) (a0:=0) (fun i x a hx=>by
  have hlt:=lt_of_get hx;show r112_0 a xs (lenI xs) (i:Int)=_;unfold r112_0;rw [ltI_in hx,inB_in hx,gt_in _ hx,addW1 (by omega),sat_i]; rfl) (fun a=>by
  show r112_0 a xs (lenI xs) (xs.length:Int)=_;unfold r112_0;rw [ltI_out rfl]; rfl)
 rw [goL_fold (fun (x:HoldT) a=>satM a x.2.1)] at h;have h':l112_0 0 xs (lenI xs) 0=_:=h;rw [h']; rfl
def ringM (r:RingT):Bool:=cond (inM r.1 1 1000) (cond (inM (lenI r.2.2.1) 1 8) (cond (eqI (lenI r.2.2.2.1) (lenI r.2.2.1)) (cond (timeM r.2.1) (r.2.2.1.all (fun x=>moneyM x.1) && r.2.2.2.1.all (fun x=>moneyM x.1)) false) false) false) false
def RingB (r:RingT):Prop:=r.2.2.1.length<=1048576/\r.2.2.2.1.length<=1048576
theorem eqI_iff {a b:Int}:eqI a b=true↔a=b:=by simp [eqI]
theorem ring_s (r:RingT) (hb:RingB r):g101 r=some ((),((ringM r,()),())):=by
 have hbig:big=140737488355328:=rfl;obtain ⟨hb1,hb2⟩:=hb;unfold g101 ringM;dsimp only;rw [in_s,in_s,time_s];dsimp only [Option.bind_some];cases inM r.1 1 1000 with
 | false=>rfl
 | true =>
 cases inM (lenI r.2.2.1) 1 8 with
 | false=>rfl
 | true =>
 cases he:eqI (lenI r.2.2.2.1) (lenI r.2.2.1) with
 | false=>rfl
 | true =>
 cases timeM r.2.1 with
 | false=>rfl
 | true =>
 have hlen:r.2.2.2.1.length=r.2.2.1.length:=by have:=eqI_iff.1 he;unfold lenI at this; omega
 dsimp only [cond_true,cond_false,Bool.not_true];have h:=loop_list (step:=un3 r101_0) (r.2.2.1.zip r.2.2.2.1) (fun i (_:Unit)=>(lenI r.2.2.1,((i:Nat):Int),r,())) (fun _ x _=>bif moneyM x.1.1 && moneyM x.2.1 then Sum.inl () else .inr (.inr (false,()))) (fun _=> .inl (lenI r.2.2.1,(r.2.2.1.length:Int),r,())) (a0:=()) (fun i x a hx=>by
  have hx':=List.getElem?_zip_eq_some.1 hx;have hlt:=lt_of_get hx'.1;show r101_0 (lenI r.2.2.1) (i:Int) r=_;unfold r101_0;rw [ltI_in hx'.1,inB_in hx'.1,inB_in hx'.2,gt_in _ hx'.1,gt_in _ hx'.2,money_s,money_s,addW1 (by omega)];dsimp only [cond_true,Option.bind_some];cases moneyM x.1.1 <;> cases moneyM x.2.1 <;> rfl) (fun a=>by
  have e:(r.2.2.1.zip r.2.2.2.1).length=r.2.2.1.length:=by rw [List.length_zip,hlen,Nat.min_self]
  rw [e];show r101_0 (lenI r.2.2.1) (r.2.2.1.length:Int) r=_;unfold r101_0;rw [ltI_out rfl]; rfl)
 rw [goL_all (fun (x:(Int×Unit)×(Int×Unit))=>moneyM x.1.1 && moneyM x.2.1)] at h;have h':l101_0 (lenI r.2.2.1) 0 r=_:=h;rw [h'];have hz:∀ (a b:List (Int×Unit)),b.length=a.length->(a.zip b).all (fun x=>moneyM x.1.1 && moneyM x.2.1)=(a.all (fun x=>moneyM x.1) && b.all (fun x=>moneyM x.1)):=by
  intro a;induction a with
  | nil=>intro b hb; cases b with | nil=>rfl | cons _ _=>simp at hb
  | cons x a ih =>
    intro b hb;cases b with
    | nil=>simp at hb
    | cons y b => simp only [List.zip_cons_cons,List.all_cons];rw [ih b (by simpa using hb)];cases moneyM x.1 <;> cases moneyM y.1 <;> simp
 rw [hz _ _ hlen];cases r.2.2.1.all (fun x=>moneyM x.1) && r.2.2.2.1.all (fun x=>moneyM x.1) <;> rfl
theorem concat_i (a b:List (Int×Unit)) (ha:a.length<=1048576) (hb:b.length<=1048576):g143 [(a,()),(b,())]=some ((),((a ++ b,()),())):=by
 have hbig:big=140737488355328:=rfl;unfold g143;have hlen:((a.length + b.length:Nat):Int)=(a.length:Int) + b.length:=by omega
 have h:l143_0 [(a,()),(b,())] 0 [(a,()),(b,())] 2 0=some (.inl ([(a,()),(b,())],(a.length:Int) + b.length,[(a,()),(b,())],2,2,())):=by
  refine loopF_step _ (x':=([(a,()),(b,())],(a.length:Int),[(a,()),(b,())],2,1,())) ?_ (loopF_step _ (x':=([(a,()),(b,())],(a.length:Int) + b.length,[(a,()),(b,())],2,2,())) ?_ (loopF_end _ ?_))
  . show r143_0 [(a,()),(b,())] 0 [(a,()),(b,())] 2 0=_;unfold r143_0;have e:addW .i64 0 (lenI (gt d53 [(a,()),(b,())] 0).1)=(a.length:Int):=by
     show addW .i64 0 (lenI a)=_;rw [addW_in (by unfold lenI; omega) (by unfold lenI; omega)]; unfold lenI; omega
    dsimp only;rw [e,ltI_no (a:=(a.length:Int)) (b:=0) (by omega)]; rfl
  . show r143_0 [(a,()),(b,())] (a.length:Int) [(a,()),(b,())] 2 1=_;unfold r143_0;have e:addW .i64 (a.length:Int) (lenI (gt d53 [(a,()),(b,())] 1).1)=(a.length:Int) + b.length:=by
     show addW .i64 (a.length:Int) (lenI b)=_;rw [addW_in (by unfold lenI; omega) (by unfold lenI; omega)]; unfold lenI; omega
    dsimp only;rw [e,ltI_no (a:=(a.length:Int) + b.length) (b:=0) (by omega)]; rfl
  . rfl
 have h1:l143_0 [(a,()),(b,())] 0 [(a,()),(b,())] (lenI [(a,()),(b,())]) 0=_:=h;have hg:g193 ((a.length:Int) + b.length)=some ((),(([],()),())):=by
  unfold g193;dsimp only;rw [ltI_no (by omega),subW_in (a:=0) (b:=0) (by decide) (by decide),subW_in (by omega) (by omega)];by_cases h0:(0:Int) < (a.length:Int) + b.length - (0 - 0)
  . have e2:mzB 8 ((a.length:Int) + b.length - (0 - 0))=true:=by
     unfold mzB leI;rw [decide_eq_true (by omega),decide_eq_true (by rw [hbig]; omega)]; rfl
    have e3:cutB 0 0 (repI d3 ((a.length:Int) + b.length - (0 - 0)))=true:=by unfold cutB cutOk leI;rw [decide_eq_true (by decide),decide_eq_true (by omega)]; rfl
    rw [ltI_yes h0,e2,e3];rfl
  . rw [ltI_no h0]; rfl
 have h2:l143_2 [] [(a,()),(b,())] 2 0=some (.inl (a ++ b,[(a,()),(b,())],2,2,())):=by
  refine loopF_step _ (x':=(a,[(a,()),(b,())],2,1,())) ?_ (loopF_step _ (x':=(a ++ b,[(a,()),(b,())],2,2,())) ?_ (loopF_end _ ?_))
  . show r143_2 [] [(a,()),(b,())] 2 0=_;unfold r143_2;have e:fitB 8 ([]:List (Int×Unit)) (gt d53 [(a,()),(b,())] 0).1=true:=Nat.ble_eq_true_of_le (by show (0 + a.length) * 8<=big; omega);rw [e]; rfl
  . show r143_2 a [(a,()),(b,())] 2 1=_;unfold r143_2;have e:fitB 8 a (gt d53 [(a,()),(b,())] 1).1=true:=Nat.ble_eq_true_of_le (by show (a.length + b.length) * 8<=big; omega);rw [e]; rfl
  . rfl
 have h2':l143_2 [] [(a,()),(b,())] (lenI [(a,()),(b,())]) 0=_:=h2;rw [h1];dsimp only [Option.bind_some,Sum.elim_inl];rw [hg];dsimp only [Option.bind_some,Sum.elim_inl];rw [h2']; rfl
theorem ring_i (r:RingT) (hb:RingB r):g109 r=some ((),((ringM r,()),())):=by
 have hbig:big=140737488355328:=rfl;obtain ⟨hb1,hb2⟩:=hb;unfold g109;rw [concat_i _ _ hb1 hb2];dsimp only [Option.bind_some];have h:=loop_list (step:=un5 r109_0) (r.2.2.1 ++ r.2.2.2.1) (fun i (_:Unit)=>(lenI r.2.2.1,r.2.2.1 ++ r.2.2.2.1,lenI (r.2.2.1 ++ r.2.2.2.1),((i:Nat):Int),r,())) (fun _ x _=>bif moneyM x.1 then Sum.inl () else .inr (.inr (false,()))) (fun _=> .inl (lenI r.2.2.1,r.2.2.1 ++ r.2.2.2.1,lenI (r.2.2.1 ++ r.2.2.2.1),((r.2.2.1 ++ r.2.2.2.1).length:Int),r,())) (a0:=()) (fun i x a hx=>by
  have hlt:=lt_of_get hx;rw [List.length_append] at hlt;show r109_0 (lenI r.2.2.1) (r.2.2.1 ++ r.2.2.2.1) (lenI (r.2.2.1 ++ r.2.2.2.1)) (i:Int) r=_;unfold r109_0;rw [ltI_in hx,inB_in hx,gt_in _ hx,money_i,addW1 (by omega)];dsimp only [cond_true,Option.bind_some];cases moneyM x.1 <;> rfl) (fun a=>by
  show r109_0 (lenI r.2.2.1) (r.2.2.1 ++ r.2.2.2.1) (lenI (r.2.2.1 ++ r.2.2.2.1)) ((r.2.2.1 ++ r.2.2.2.1).length:Int) r=_;unfold r109_0;rw [ltI_out rfl]; rfl)
 rw [goL_all (fun (x:Int×Unit)=>moneyM x.1)] at h;have h':l109_0 (lenI r.2.2.1) (r.2.2.1 ++ r.2.2.2.1) (lenI (r.2.2.1 ++ r.2.2.2.1)) 0 r=_:=h;rw [h',List.all_append];unfold ringM;cases r.2.2.1.all (fun x=>moneyM x.1) && r.2.2.2.1.all (fun x=>moneyM x.1) with
 | false => cases inM r.1 1 1000 <;> cases inM (lenI r.2.2.1) 1 8 <;> cases eqI (lenI r.2.2.2.1) (lenI r.2.2.1) <;> cases timeM r.2.1 <;> rfl
 | true => dsimp only [cond_true,Option.bind_some,Sum.elim_inl];rw [in_i,in_i,time_i];dsimp only [Option.bind_some];cases inM r.1 1 1000 <;> cases inM (lenI r.2.2.1) 1 8 <;> cases eqI (lenI r.2.2.2.1) (lenI r.2.2.1) <;> cases timeM r.2.1 <;> rfl
def slotM (s:SlotT):Bool:=cond (cond (digitsM s.1) (eqI (lenI s.1) 6) false) (cond (cond (digitsM s.2.1) (eqI (lenI s.2.1) 4) false) (inM (lenI s.2.2.1) 1 200) false) false
def SlotB (s:SlotT):Prop:=s.1.length<=big/\s.2.1.length<=big
theorem slot_s (s:SlotT) (hb:SlotB s):g135 s=some ((),((slotM s,()),())):=by unfold g135 slotM;rw [digits_s _ hb.1,digits_s _ hb.2];dsimp only [Option.bind_some];rw [in_s];cases cond (digitsM s.1) (eqI (lenI s.1) 6) false <;> cases cond (digitsM s.2.1) (eqI (lenI s.2.1) 4) false <;> rfl
theorem slot_i (s:SlotT) (hb:SlotB s):g144 s=some ((),((slotM s,()),())):=by unfold g144 g194 slotM;rw [digits_i _ hb.1,digits_i _ hb.2];dsimp only [Option.bind_some];rw [in_i];cases cond (digitsM s.1) (eqI (lenI s.1) 6) false <;> cases cond (digitsM s.2.1) (eqI (lenI s.2.1) 4) false <;> rfl
def sameSlot (a b:SlotT):Bool:=cond (eqS a.1 b.1) (eqS a.2.1 b.2.1) false
def slotStep (xs:List SlotT) (i:Nat) (x:SlotT):Bool:=cond (slotM x) ((xs.take i).all (fun y=> !sameSlot y x)) false
def slotsM (xs:List SlotT):Bool:=cond (allI (slotStep xs) 0 xs) (leI (lenI xs) 6) false
def SlotsB (xs:List SlotT):Prop:=xs.length<=1048576/\∀ y∈xs,SlotB y
theorem sub_take {α:Type} (xs:List α) (i:Nat):sub xs 0 (i:Int)=xs.take i:=by unfold sub; simp
theorem cutB_take {α:Type} {xs:List α} {i:Nat} (h:i<=xs.length):cutB 0 (i:Int) xs=true:=by unfold cutB cutOk leI;rw [decide_eq_true (by decide),decide_eq_true (by omega),decide_eq_true (by omega)]; rfl
theorem slots_s (xs:List SlotT) (hb:SlotsB xs):g102 xs=some ((),((slotsM xs,()),())):=by
 have hbig:big=140737488355328:=rfl;have hb1:=hb.1;unfold g102;have inner:∀ (i:Nat) (x:SlotT),i<=xs.length->l102_2 xs xs (lenI xs) (i:Int) (xs.take i) (lenI (xs.take i)) 0 x=some (bif (xs.take i).all (fun y=> !sameSlot y x) then .inl (xs,xs,lenI xs,(i:Int),xs.take i,lenI (xs.take i),((xs.take i).length:Int),x,()) else .inr (false,())):=fun i x hi=>by
  have hti:(xs.take i).length<=xs.length:=by rw [List.length_take]; exact Nat.min_le_right _ _
  have h:=loop_list (step:=un8 r102_2) (xs.take i) (fun j (_:Unit)=>(xs,xs,lenI xs,(i:Int),xs.take i,lenI (xs.take i),((j:Nat):Int),x,())) (fun _ y _=>bif !sameSlot y x then Sum.inl () else .inr (.inr (false,()))) (fun _=> .inl (xs,xs,lenI xs,(i:Int),xs.take i,lenI (xs.take i),((xs.take i).length:Int),x,())) (a0:=()) (fun j y a hy=>by
   have hlt:=lt_of_get hy;show r102_2 xs xs (lenI xs) (i:Int) (xs.take i) (lenI (xs.take i)) (j:Int) x=_;unfold r102_2 sameSlot;rw [ltI_in hy,inB_in hy,gt_in _ hy,addW1 (by omega)];dsimp only [cond_true];cases cond (eqS y.1 x.1) (eqS y.2.1 x.2.1) false <;> rfl) (fun a=>by
   show r102_2 xs xs (lenI xs) (i:Int) (xs.take i) (lenI (xs.take i)) ((xs.take i).length:Int) x=_;unfold r102_2;rw [ltI_out rfl]; rfl)
  rw [goL_all (fun y=> !sameSlot y x)] at h;exact h
 have h:=loop_list (step:=un4 r102_0) xs (fun i (_:Unit)=>(xs,xs,lenI xs,((i:Nat):Int),())) (fun i x _=>bif slotStep xs i x then Sum.inl () else .inr (.inr (false,()))) (fun _=> .inl (xs,xs,lenI xs,(xs.length:Int),())) (a0:=()) (fun i x a hx=>by
  have hlt:=lt_of_get hx;show r102_0 xs xs (lenI xs) (i:Int)=_;unfold r102_0 slotStep;rw [ltI_in hx,inB_in hx,gt_in _ hx];dsimp only [cond_true];rw [slot_s x (hb.2 x (List.mem_of_getElem? hx)),cutB_take (Nat.le_of_lt hlt),sub_take];dsimp only [cond_true,Option.bind_some];rw [inner i x (Nat.le_of_lt hlt)];cases slotM x with
  | false=>rfl
  | true =>
    cases (xs.take i).all (fun y=> !sameSlot y x) with
    | false=>rfl
    | true =>
      dsimp only [cond_true,cond_false,Bool.not_true,Option.bind_some,Sum.elim_inl];rw [addW1 (by omega)]; rfl) (fun a=>by
  show r102_0 xs xs (lenI xs) (xs.length:Int)=_;unfold r102_0;rw [ltI_out rfl]; rfl)
 rw [goL_allI] at h;have h':l102_0 xs xs (lenI xs) 0=_:=h;rw [h'];unfold slotsM;cases allI (slotStep xs) 0 xs <;> rfl
def findI {α:Type} (p:α->Bool):Nat->List α->Int
 | _,[] => -1
 | i,x :: r=>bif p x then (i:Int) else findI p (i + 1) r
theorem goL_find {α Y:Type} (p:α->Bool) (y:Int->Y) (z:Y) (out:Y->Int) (hy:∀ n,out (y n)=n) (hz:out z = -1):∀ (xs:List α) (i:Nat),out (goL (fun i x _=>bif p x then Sum.inr (y (i:Int)) else .inl ()) (fun _=>z) i xs ())=findI p i xs
 | [],_=>hz
 | x :: r,i=>by
   rw [goL,findI];cases hp:p x with
   | true=>exact hy _
   | false=>exact goL_find p y z out hy hz r (i + 1)
theorem findI_bd {α:Type} (p:α->Bool):∀ (xs:List α) (i:Nat),findI p i xs = -1∨((i:Int)<=findI p i xs/\findI p i xs < i + xs.length)
 | [],_=> .inl rfl
 | x :: r,i=>by
   rw [findI];cases p x with
   | true=>right; simp only [cond_true,List.length_cons]; omega
   | false =>
     rcases findI_bd p r (i + 1) with h | h
     . exact .inl h
     . right; simp only [cond_false,List.length_cons]; omega
theorem findI_eq {α:Type} (p:α->Bool):∀ {xs:List α} {i:Nat} {x:α} (k:Nat),xs[i]? = some x->p x=true->(findI p k xs=((k + i:Nat):Int)↔(xs.take i).all (fun y=> !p y)=true)
 | [],i,x,k,h,_=>by simp at h
 | y :: r,0,x,k,h,hp=>by simp only [List.getElem?_cons_zero,Option.some.injEq] at h;subst h;rw [findI,hp]; simp
 | y :: r,i + 1,x,k,h,hp=>by
   have ih:=findI_eq p (xs:=r) (i:=i) (x:=x) (k + 1) (by simpa using h) hp;rw [findI,List.take_succ_cons,List.all_cons];cases hy:p y with
   | true => simp only [cond_true,Bool.not_true,Bool.false_and,Bool.false_eq_true,iff_false];omega
   | false => simp only [cond_false,Bool.not_false,Bool.true_and];rw [<- ih,show k + 1 + i=k + (i + 1) by omega]
theorem slotAt_i (xs:List SlotT) (a b:List UInt8) (hs:xs.length<=1048576):g145 xs a b=some ((),((findI (fun y=>cond (eqS y.1 a) (eqS y.2.1 b) false) 0 xs,()),())):=by
 have hbig:big=140737488355328:=rfl;unfold g145 g195;have h:=loop_list (step:=un4 r195_0) xs (fun i (_:Unit)=>(xs,((a,()),(b,()),()),lenI xs,((i:Nat):Int),())) (fun i y _=>bif cond (eqS y.1 a) (eqS y.2.1 b) false then Sum.inr (.inr ((i:Int),())) else Sum.inl ()) (fun _=> .inl (xs,((a,()),(b,()),()),lenI xs,(xs.length:Int),())) (a0:=()) (fun i y u hy=>by
  have hlt:=lt_of_get hy;show r195_0 xs ((a,()),(b,()),()) (lenI xs) (i:Int)=_;unfold r195_0 g196;rw [ltI_in hy,inB_in hy,gt_in _ hy,addW1 (by omega)];dsimp only [cond_true,Option.bind_some];cases cond (eqS y.1 a) (eqS y.2.1 b) false <;> rfl) (fun u=>by
  show r195_0 xs ((a,()),(b,()),()) (lenI xs) (xs.length:Int)=_;unfold r195_0;rw [ltI_out rfl]; rfl)
 have h':l195_0 xs ((a,()),(b,()),()) (lenI xs) 0=_:=h;rw [h'];have hf:=goL_find (Y:=Sum ((List SlotT)×(((List UInt8)×Unit)×((List UInt8)×Unit)×Unit)×Int×Int×Unit) (Int×Unit)) (fun (y:SlotT)=>cond (eqS y.1 a) (eqS y.2.1 b) false) (fun n=> .inr (n,())) (.inl (xs,((a,()),(b,()),()),lenI xs,(xs.length:Int),())) (fun y=>match y with | .inl _ => -1 | .inr z=>z.1) (fun _=>rfl) rfl xs 0;rw [<- hf];dsimp only [Option.bind_some];cases goL _ _ 0 xs () <;> rfl
theorem slots_i (xs:List SlotT) (hb:SlotsB xs):g110 xs=some ((),((slotsM xs,()),())):=by
 have hbig:big=140737488355328:=rfl;have hb1:=hb.1;unfold g110;have h:=loop_list (step:=un4 r110_0) xs (fun i (_:Unit)=>(xs,xs,lenI xs,((i:Nat):Int),())) (fun i x _=>bif slotStep xs i x then Sum.inl () else .inr (.inr (false,()))) (fun _=> .inl (xs,xs,lenI xs,(xs.length:Int),())) (a0:=()) (fun i x a hx=>by
  have hlt:=lt_of_get hx;show r110_0 xs xs (lenI xs) (i:Int)=_;unfold r110_0 slotStep;rw [ltI_in hx,inB_in hx,gt_in _ hx];dsimp only [cond_true];rw [slot_i x (hb.2 x (List.mem_of_getElem? hx))];dsimp only [cond_true,Option.bind_some];rw [slotAt_i xs _ _ hb1,addW1 (by omega)];have hp:cond (eqS x.1 x.1) (eqS x.2.1 x.2.1) false=true:=by rw [eqS_refl,eqS_refl]; rfl
  have hk:=findI_eq (fun (y:SlotT)=>cond (eqS y.1 x.1) (eqS y.2.1 x.2.1) false) 0 hx hp;rw [Nat.zero_add,<- eqI_iff] at hk;have hk':eqI (findI (fun (y:SlotT)=>cond (eqS y.1 x.1) (eqS y.2.1 x.2.1) false) 0 xs) (i:Int)=(xs.take i).all (fun y=> !sameSlot y x):=by rw [Bool.eq_iff_iff]; exact hk
  cases slotM x with
  | false=>rfl
  | true =>
    dsimp only [cond_true,cond_false,Bool.not_true,Option.bind_some];rw [hk'];cases (xs.take i).all (fun y=> !sameSlot y x) <;> rfl) (fun a=>by
  show r110_0 xs xs (lenI xs) (xs.length:Int)=_;unfold r110_0;rw [ltI_out rfl]; rfl)
 rw [goL_allI] at h;have h':l110_0 xs xs (lenI xs) 0=_:=h;rw [h'];unfold slotsM;cases allI (slotStep xs) 0 xs <;> rfl
abbrev AcctT:=List UInt8×Int×Int×Int×Int×List HoldT×Int×Int×List (Int×Unit)×List (Int×Unit)×List SlotT×Unit
def rgOf (a:AcctT):RingT:=(a.2.2.2.2.2.2.1,a.2.2.2.2.2.2.2.1,a.2.2.2.2.2.2.2.2.1,a.2.2.2.2.2.2.2.2.2.1,())
def AcctB (a:AcctT):Prop:=a.1.length<=1048576/\(a.2.2.2.2.2.1.length<=1048576/\∀ y∈a.2.2.2.2.2.1,y.1.length<=1048576)/\RingB (rgOf a)/\a.2.2.2.2.2.2.2.2.2.2.1.length<=1048576/\∀ y∈a.2.2.2.2.2.2.2.2.2.2.1,y.1.length<=1048576/\y.2.1.length<=1048576/\y.2.2.1.length<=1048576
theorem le_big {n:Nat} (h:n<=1048576):n<=big:=Nat.le_trans h (by decide)
theorem AcctB.hs {a:AcctT} (h:AcctB a):HoldsB a.2.2.2.2.2.1:=⟨le_big h.2.1.1,fun y hy=>le_big (h.2.1.2 y hy)⟩
theorem AcctB.ss {a:AcctT} (h:AcctB a):SlotsB a.2.2.2.2.2.2.2.2.2.2.1:=⟨h.2.2.2.1,fun y hy=>⟨le_big (h.2.2.2.2 y hy).1,le_big (h.2.2.2.2 y hy).2.1⟩⟩
def acctM (a:AcctT):Bool:=cond (acctIdM a.1) (cond (inM a.2.1 0 9007199254740992) (cond (inM a.2.2.2.1 0 1000) (cond (inM a.2.2.2.2.1 0 9007199254740992) (cond (moneyM a.2.2.1) (cond (holdsM a.2.2.2.2.2.1) (cond (ringM (rgOf a)) (cond (slotsM a.2.2.2.2.2.2.2.2.2.2.1) (leI (satM a.2.2.1 (storedM a.2.2.2.2.2.1)) a.2.1) false) false) false) false) false) false) false) false
theorem acct_s (a:AcctT) (hb:AcctB a):g76 a=some ((),((acctM a,()),())):=by
 have h1:=acctId_s a.1 (le_big hb.1);have h2:=holds_s _ hb.hs;have h3:g101 (a.2.2.2.2.2.2.1,a.2.2.2.2.2.2.2.1,a.2.2.2.2.2.2.2.2.1,a.2.2.2.2.2.2.2.2.2.1,())=_:=ring_s (rgOf a) hb.2.2.1;have h4:=slots_s _ hb.ss;have h5:=stored_s _ hb.hs.1;unfold g76 acctM;rw [h1,h2,h3,h4,h5,in_s,in_s,in_s,money_s];dsimp only [Option.bind_some];rw [sat_s];dsimp only [Option.bind_some];cases acctIdM a.1 <;> first | rfl | skip
 cases inM a.2.1 0 9007199254740992 <;> first | rfl | skip
 cases inM a.2.2.2.1 0 1000 <;> first | rfl | skip
 cases inM a.2.2.2.2.1 0 9007199254740992 <;> first | rfl | skip
 cases moneyM a.2.2.1 <;> first | rfl | skip
 cases holdsM a.2.2.2.2.2.1 <;> first | rfl | skip
 cases ringM (rgOf a) <;> first | rfl | skip
 cases slotsM a.2.2.2.2.2.2.2.2.2.2.1 <;> rfl
theorem acct_i (a:AcctT) (hb:AcctB a):g78 a=some ((),((acctM a,()),())):=by
 have h1:=acctId_i a.1 (le_big hb.1);have h2:=holds_i _ hb.hs;have h3:g109 (a.2.2.2.2.2.2.1,a.2.2.2.2.2.2.2.1,a.2.2.2.2.2.2.2.2.1,a.2.2.2.2.2.2.2.2.2.1,())=_:=ring_i (rgOf a) hb.2.2.1;have h4:=slots_i _ hb.ss;have h5:=stored_i _ hb.hs.1;unfold g78 acctM;rw [h1,h2,h3,h4,h5,in_i,in_i,in_i,money_i];dsimp only [Option.bind_some];rw [sat_i];dsimp only [Option.bind_some];cases acctIdM a.1 <;> first | rfl | skip
 cases inM a.2.1 0 9007199254740992 <;> first | rfl | skip
 cases inM a.2.2.2.1 0 1000 <;> first | rfl | skip
 cases inM a.2.2.2.2.1 0 9007199254740992 <;> first | rfl | skip
 cases moneyM a.2.2.1 <;> first | rfl | skip
 cases holdsM a.2.2.2.2.2.1 <;> first | rfl | skip
 cases ringM (rgOf a) <;> first | rfl | skip
 cases slotsM a.2.2.2.2.2.2.2.2.2.2.1 <;> rfl
theorem fitB_nil {α:Type} {b:Nat} {xs:List α} (h:xs.length * b<=big):fitB b ([]:List α) xs=true:=Nat.ble_eq_true_of_le (by simpa using h)
theorem ringCp_s (r:RingT) (hb:RingB r):g117 r=some ((),(r,())):=by have hbig:big=140737488355328:=rfl;obtain ⟨h1,h2⟩:=hb;unfold g117;rw [fitB_nil (by omega),fitB_nil (by omega)]; rfl
theorem ringCp_i (r:RingT) (hb:RingB r):g162 r=some ((),(r,())):=by have hbig:big=140737488355328:=rfl;obtain ⟨h1,h2⟩:=hb;unfold g162 g209;rw [fitB_nil (by omega),fitB_nil (by omega)]; rfl
theorem slotsCp_s (xs:List SlotT) (hs:xs.length<=1048576) (hb:∀ y∈xs,y.2.2.1.length<=1048576):g118 xs=some ((),((xs,()),())):=by
 have hbig:big=140737488355328:=rfl;unfold g118;have h:=loop_inv (step:=un4 r118_0) xs (fun i (a:List SlotT)=>(a,xs,lenI xs,((i:Nat):Int),())) (fun _ x a=>Sum.inl (a ++ [x])) (fun a=> .inl (a,xs,lenI xs,(xs.length:Int),())) (fun i a=>a.length=i) (a0:=[]) rfl (fun i x a hx ha=>by
  have hlt:=lt_of_get hx;have hm:=hb x (List.mem_of_getElem? hx);show r118_0 a xs (lenI xs) (i:Int)=_;unfold r118_0;have e:∀ y:SlotT,fitB 56 a [y]=true:=fun y=>Nat.ble_eq_true_of_le (by simp; omega)
  rw [ltI_in hx,inB_in hx,gt_in _ hx];dsimp only [cond_true];rw [fitB_nil (by omega),e,addW1 (by omega)];rfl) (fun i x a a' hx ha hf=>by
  simp only [Sum.inl.injEq] at hf;rw [<- hf,List.length_append,ha]; rfl) (fun a ha=>by
  show r118_0 a xs (lenI xs) (xs.length:Int)=_;unfold r118_0;rw [ltI_out rfl]; rfl)
 rw [goL_cp] at h;have h':l118_0 [] xs (lenI xs) 0=_:=h;rw [h']; rfl
theorem slotsCp_i (xs:List SlotT) (hs:xs.length<=1048576) (hb:∀ y∈xs,y.2.2.1.length<=1048576):g163 xs=some ((),((xs,()),())):=by
 have hbig:big=140737488355328:=rfl;unfold g163;have h:=loop_inv (step:=un4 r163_0) xs (fun i (a:List SlotT)=>(a,xs,lenI xs,((i:Nat):Int),())) (fun _ x a=>Sum.inl (a ++ [x])) (fun a=> .inl (a,xs,lenI xs,(xs.length:Int),())) (fun i a=>a.length=i) (a0:=[]) rfl (fun i x a hx ha=>by
  have hlt:=lt_of_get hx;have hm:=hb x (List.mem_of_getElem? hx);show r163_0 a xs (lenI xs) (i:Int)=_;unfold r163_0 g210;have e:∀ y:SlotT,fitB 56 a [y]=true:=fun y=>Nat.ble_eq_true_of_le (by simp; omega)
  rw [ltI_in hx,inB_in hx,gt_in _ hx];dsimp only [cond_true];rw [fitB_nil (by omega),addW1 (by omega)];dsimp only [cond_true,Option.bind_some];rw [e];rfl) (fun i x a a' hx ha hf=>by
  simp only [Sum.inl.injEq] at hf;rw [<- hf,List.length_append,ha]; rfl) (fun a ha=>by
  show r163_0 a xs (lenI xs) (xs.length:Int)=_;unfold r163_0;rw [ltI_out rfl]; rfl)
 rw [goL_cp] at h;have h':l163_0 [] xs (lenI xs) 0=_:=h;rw [h']; rfl
theorem acctCp_s (a:AcctT) (hb:AcctB a):g85 a=some ((),(a,())):=by have hbig:big=140737488355328:=rfl;have h1:=hb.2.1.1;have h2:g117 (a.2.2.2.2.2.2.1,a.2.2.2.2.2.2.2.1,a.2.2.2.2.2.2.2.2.1,a.2.2.2.2.2.2.2.2.2.1,())=_:=ringCp_s (rgOf a) hb.2.2.1;have h3:=slotsCp_s _ hb.2.2.2.1 (fun y hy=>(hb.2.2.2.2 y hy).2.2);unfold g85;rw [fitB_nil (by omega),h2,h3]; rfl
theorem acctCp_i (a:AcctT) (hb:AcctB a):g122 a=some ((),(a,())):=by have hbig:big=140737488355328:=rfl;have h1:=hb.2.1.1;have h2:g162 (a.2.2.2.2.2.2.1,a.2.2.2.2.2.2.2.1,a.2.2.2.2.2.2.2.2.1,a.2.2.2.2.2.2.2.2.2.1,())=_:=ringCp_i (rgOf a) hb.2.2.1;have h3:=slotsCp_i _ hb.2.2.2.1 (fun y hy=>(hb.2.2.2.2 y hy).2.2);unfold g122 g161;rw [fitB_nil (by omega),h2,h3]; rfl
def fnvStep (h:Nat) (c:UInt8):Nat:=((h ^^^ c.toNat) * 16777619) % 4294967296
def fnvM (s:List UInt8):Nat:=s.foldl fnvStep 2166136261
theorem fnv_lt (h:Nat) (c:UInt8):fnvStep h c < 4294967296:=Nat.mod_lt _ (by decide)
theorem xor_lt {a c:Nat} (ha:a < 4294967296) (hc:c < 256):a ^^^ c < 4294967296:=by have:=Nat.xor_lt_two_pow (x:=a) (y:=c) (n:=32) (by omega) (by omega);omega
theorem ofInt_nat (n a:Nat):BitVec.ofInt n (a:Int)=BitVec.ofNat n a:=by simp
theorem fnv_step_s {a:Nat} (c:UInt8) (ha:a < 4294967296):andW .i64 (mulW .i64 (xorW .i64 (a:Int) (cvtW .i64 (c.toNat:Int))) 16777619) 4294967295=((fnvStep a c:Nat):Int):=by
 have hc:c.toNat < 256:=c.toNat_lt;have hx:=xor_lt ha hc;have e1:cvtW .i64 (c.toNat:Int)=(c.toNat:Int):=IntWalk.i64_in _ (by omega);have e2:xorW .i64 (a:Int) (c.toNat:Int)=((a ^^^ c.toNat:Nat):Int):=by
  unfold xorW;have:(BitVec.ofInt IntKind.i64.bits (a:Int) ^^^ BitVec.ofInt IntKind.i64.bits (c.toNat:Int)).toNat=a ^^^ c.toNat:=by
   rw [ofInt_nat,ofInt_nat,BitVec.toNat_xor,BitVec.toNat_ofNat,BitVec.toNat_ofNat];have h64:2 ^ IntKind.i64.bits=18446744073709551616:=by decide
   rw [h64,Nat.mod_eq_of_lt (by omega),Nat.mod_eq_of_lt (by omega)]
  rw [this];exact IntWalk.i64_in _ (by omega)
 have e3:mulW .i64 ((a ^^^ c.toNat:Nat):Int) 16777619=(((a ^^^ c.toNat) * 16777619:Nat):Int):=by unfold mulW;rw [IntWalk.i64_in _ (by omega)];omega
 rw [e1,e2,e3];unfold andW fnvStep;have:(BitVec.ofInt IntKind.i64.bits (((a ^^^ c.toNat) * 16777619:Nat):Int) &&& BitVec.ofInt IntKind.i64.bits (4294967295:Int)).toNat=((a ^^^ c.toNat) * 16777619) % 4294967296:=by
  have h32:(4294967295:Int)=((4294967295:Nat):Int):=rfl;rw [h32,ofInt_nat,ofInt_nat,BitVec.toNat_and,BitVec.toNat_ofNat,BitVec.toNat_ofNat];have h64:2 ^ IntKind.i64.bits=18446744073709551616:=by decide
  rw [h64,Nat.mod_eq_of_lt (by omega:(a ^^^ c.toNat) * 16777619 < 18446744073709551616),Nat.mod_eq_of_lt (by omega:4294967295 < 18446744073709551616)];exact Nat.and_two_pow_sub_one_eq_mod _ 32
 rw [this];have:=Nat.mod_lt ((a ^^^ c.toNat) * 16777619) (show 0 < 4294967296 by decide);exact IntWalk.i64_in _ (by omega)
theorem fnv_step_i {a:Nat} (c:UInt8) (ha:a < 4294967296):mulW .u32 (xorW .u32 (a:Int) (cvtW .u32 (c.toNat:Int))) 16777619=((fnvStep a c:Nat):Int):=by
 have hc:c.toNat < 256:=c.toNat_lt;have hx:=xor_lt ha hc;have e1:cvtW .u32 (c.toNat:Int)=(c.toNat:Int):=IntWalk.u32_in _ (by omega);have e2:xorW .u32 (a:Int) (c.toNat:Int)=((a ^^^ c.toNat:Nat):Int):=by
  unfold xorW;have:(BitVec.ofInt IntKind.u32.bits (a:Int) ^^^ BitVec.ofInt IntKind.u32.bits (c.toNat:Int)).toNat=a ^^^ c.toNat:=by
   rw [ofInt_nat,ofInt_nat,BitVec.toNat_xor,BitVec.toNat_ofNat,BitVec.toNat_ofNat];have h32:2 ^ IntKind.u32.bits=4294967296:=by decide
   rw [h32,Nat.mod_eq_of_lt ha,Nat.mod_eq_of_lt (by omega)]
  rw [this];exact IntWalk.u32_in _ (by omega)
 rw [e1,e2];unfold mulW fnvStep;rw [IntKind.wrap_u32];omega
theorem fnv_s (s:List UInt8) (hb:s.length<=big):g84 s=some ((),((((fnvM s:Nat):Int),()),())):=by
 have hbig:big=140737488355328:=rfl;unfold g84;have h:=loop_inv (step:=un3 r84_0) s (fun i (a:Nat)=>(s,((a:Nat):Int),((i:Nat):Int),())) (fun _ x a=>Sum.inl (fnvStep a x)) (fun a=> .inl (s,((a:Nat):Int),(s.length:Int),())) (fun _ a=>a < 4294967296) (a0:=2166136261) (by decide) (fun i x a hx ha=>by
  have hlt:=lt_of_get hx;show r84_0 s (a:Int) (i:Int)=_;unfold r84_0;rw [ltI_in hx,inB_in hx,bytI_in hx,addW1 (by omega),fnv_step_s x ha]; rfl) (fun i x a a' hx ha hf=>by
  simp only [Sum.inl.injEq] at hf;rw [<- hf]; exact fnv_lt a x) (fun a ha=>by
  show r84_0 s (a:Int) (s.length:Int)=_;unfold r84_0;rw [ltI_out rfl]; rfl)
 rw [goL_fold (fun x a=>fnvStep a x)] at h;have h':l84_0 s 2166136261 0=_:=h;rw [h']; rfl
theorem fnvM_lt (s:List UInt8):fnvM s < 4294967296:=by
 have:∀ (s:List UInt8) (a:Nat),a < 4294967296->s.foldl fnvStep a < 4294967296:=fun s=>by
  induction s with
  | nil=>exact fun a h=>h
  | cons c r ih=>exact fun a _=>ih _ (fnv_lt a c)
 exact this s _ (by decide)
theorem fnv_i (s:List UInt8) (hb:s.length<=big):g90 s=some ((),((((fnvM s:Nat):Int),()),())):=by
 have hbig:big=140737488355328:=rfl;unfold g90;have h:=loop_inv (step:=un4 r90_0) s (fun i (a:Nat)=>(s,((a:Nat):Int),lenI s,((i:Nat):Int),())) (fun _ x a=>Sum.inl (fnvStep a x)) (fun a=> .inl (s,((a:Nat):Int),lenI s,(s.length:Int),())) (fun _ a=>a < 4294967296) (a0:=2166136261) (by decide) (fun i x a hx ha=>by
  have hlt:=lt_of_get hx;show r90_0 s (a:Int) (lenI s) (i:Int)=_;unfold r90_0;rw [ltI_in hx,inB_in hx,bytI_in hx,addW1 (by omega),fnv_step_i x ha]; rfl) (fun i x a a' hx ha hf=>by
  simp only [Sum.inl.injEq] at hf;rw [<- hf]; exact fnv_lt a x) (fun a ha=>by
  show r90_0 s (a:Int) (lenI s) (s.length:Int)=_;unfold r90_0;rw [ltI_out rfl]; rfl)
 rw [goL_fold (fun x a=>fnvStep a x)] at h;have h':l90_0 s 2166136261 (lenI s) 0=_:=h;rw [h'];have:=fnvM_lt s;have e:cvtW .i64 ((fnvM s:Nat):Int)=((fnvM s:Nat):Int):=IntWalk.i64_in _ (by omega);show some ((),((cvtW .i64 ((fnvM s:Nat):Int),()),()))=_;rw [e]
def stripeM (s:List UInt8) (n:Int):Int:=cond (ltI n 1) 0 (remI ((fnvM s:Nat):Int) n)
theorem stripe_s (s:List UInt8) (n:Int) (hb:s.length<=big):g59 s n=some ((),((stripeM s n,()),())):=by
 unfold g59 stripeM;rw [fnv_s s hb];by_cases h:n < 1
 . rw [ltI_yes h]; rfl
 . rw [ltI_no h];have:eqI n 0=false:=by
    rw [Bool.eq_false_iff]; intro hh; rw [eqI_iff] at hh; omega
   dsimp only [cond_false,Option.bind_some];rw [this]; rfl
theorem stripe_i (s:List UInt8) (n:Int) (hb:s.length<=big):g67 s n=some ((),((stripeM s n,()),())):=by
 unfold g67 stripeM;rw [fnv_i s hb];by_cases h:n < 1
 . rw [ltI_yes h]; rfl
 . rw [ltI_no h];have:eqI n 0=false:=by
    rw [Bool.eq_false_iff]; intro hh; rw [eqI_iff] at hh; omega
   dsimp only [cond_false,Option.bind_some];rw [this]; rfl
theorem stripe_bd (s:List UInt8) {n:Int} (h:1<=n):0<=stripeM s n/\stripeM s n < n:=by unfold stripeM;rw [ltI_no (by omega)];show 0<=((fnvM s:Nat):Int).tmod n/\((fnvM s:Nat):Int).tmod n < n;rw [Int.tmod_eq_emod_of_nonneg (by omega)];exact ⟨Int.emod_nonneg _ (by omega),Int.emod_lt_of_pos _ (by omega)⟩
def bookStep (xs:List AcctT) (i:Nat) (x:AcctT):Bool:=cond (acctM x) (cond (decide (0 < i)) (ltS (gt ([],0,0,0,0,[],0,0,[],[],[],()) xs ((i:Int) - 1)).1 x.1) true) false
def bookM (b:List AcctT):Bool:=cond (allI (bookStep b) 0 b) (leI (lenI b) 6) false
def BookB (b:List AcctT):Prop:=b.length<=1048576/\∀ a∈b,AcctB a
theorem book_s (b:List AcctT) (hb:BookB b):g49 (b,())=some ((),((bookM b,()),())):=by
 have hbig:big=140737488355328:=rfl;have hl:=hb.1;unfold g49;have h:=loop_list (step:=un4 r49_0) b (fun i (_:Unit)=>(b,lenI b,((i:Nat):Int),(b,()),())) (fun i x _=>bif bookStep b i x then Sum.inl () else .inr (.inr (false,()))) (fun _=> .inl (b,lenI b,(b.length:Int),(b,()),())) (a0:=()) (fun i x a hx=>by
  have hlt:=lt_of_get hx;show r49_0 b (lenI b) (i:Int) (b,())=_;unfold r49_0 bookStep;rw [ltI_in hx,inB_in hx,gt_in _ hx];dsimp only [cond_true];rw [acct_s x (hb.2 x (List.mem_of_getElem? hx)),addW1 (by omega)];dsimp only [Option.bind_some];cases acctM x with
  | false=>rfl
  | true =>
    by_cases h0:0 < i
    . rw [ltI_yes (show (0:Int) < i by omega),subW_in (by omega) (by omega),prev_get hx h0];dsimp only [cond_true,cond_false,Bool.not_true];have e:gt d92 b ((i:Int) - 1)=gt ([],0,0,0,0,[],0,0,[],[],[],()) b ((i:Int) - 1):=rfl;rw [e,decide_eq_true h0];cases ltS (gt ([],0,0,0,0,[],0,0,[],[],[],()) b ((i:Int) - 1)).1 x.1 <;> rfl
    . rw [ltI_no (show ¬ (0:Int) < i by omega),decide_eq_false h0]; rfl) (fun a=>by
  show r49_0 b (lenI b) (b.length:Int) (b,())=_;unfold r49_0;rw [ltI_out rfl]; rfl)
 rw [goL_allI] at h;have h':l49_0 b (lenI b) 0 (b,())=_:=h;dsimp only;rw [h'];unfold bookM;cases allI (bookStep b) 0 b <;> rfl
theorem book_i (b:List AcctT) (hb:BookB b):g51 (b,())=some ((),((bookM b,()),())):=by
 have hbig:big=140737488355328:=rfl;have hl:=hb.1;unfold g51;have h:=loop_list (step:=un4 r51_0) b (fun i (_:Unit)=>(b,lenI b,((i:Nat):Int),(b,()),())) (fun i x _=>bif bookStep b i x then Sum.inl () else .inr (.inr (false,()))) (fun _=> .inl (b,lenI b,(b.length:Int),(b,()),())) (a0:=()) (fun i x a hx=>by
  have hlt:=lt_of_get hx;show r51_0 b (lenI b) (i:Int) (b,())=_;unfold r51_0 bookStep;rw [ltI_in hx,inB_in hx,gt_in _ hx];dsimp only [cond_true];rw [acct_i x (hb.2 x (List.mem_of_getElem? hx)),addW1 (by omega)];dsimp only [Option.bind_some];cases acctM x with
  | false=>rfl
  | true =>
    by_cases h0:0 < i
    . rw [ltI_yes (show (0:Int) < i by omega),subW_in (by omega) (by omega),prev_get hx h0];dsimp only [cond_true,cond_false,Bool.not_true];rw [leS_not];have e:gt d92 b ((i:Int) - 1)=gt ([],0,0,0,0,[],0,0,[],[],[],()) b ((i:Int) - 1):=rfl;rw [e,decide_eq_true h0];cases ltS (gt ([],0,0,0,0,[],0,0,[],[],[],()) b ((i:Int) - 1)).1 x.1 <;> rfl
    . rw [ltI_no (show ¬ (0:Int) < i by omega),decide_eq_false h0]; rfl) (fun a=>by
  show r51_0 b (lenI b) (b.length:Int) (b,())=_;unfold r51_0;rw [ltI_out rfl]; rfl)
 rw [goL_allI] at h;have h':l51_0 b (lenI b) 0 (b,())=_:=h;dsimp only;rw [h'];unfold bookM;cases allI (bookStep b) 0 b <;> rfl
abbrev ltA (a b:AcctT):Bool:=ltS a.1 b.1
theorem swoA:Swo ltA:=swo_key (fun (a:AcctT)=>a.1)
abbrev big40:Nat:=1099511627776
theorem cmpA (a b:AcctT):∃ v,g93 a b=some ((),((v,()),()))/\ltI v 0=ltA a b:=by
 unfold g93;cases h:ltS a.1 b.1 with
 | true=>exact ⟨_,rfl,by show _=ltS a.1 b.1; rw [h]; rfl⟩
 | false =>
   cases !(leS a.1 b.1) with
   | true=>exact ⟨_,rfl,by show _=ltS a.1 b.1; rw [h]; rfl⟩
   | false=>exact ⟨_,rfl,by show _=ltS a.1 b.1; rw [h]; rfl⟩
theorem ins_in (P S:List AcctT) (x:AcctT) (b i:Int):∀ (n:Nat) (A1 A2:List AcctT),A1.length=n->(P ++ (A1 ++ x :: A2) ++ S).length<=big40 ->
 ∃ B1 B2 j',A1=B1 ++ B2/\(∀ y∈B2,ltA x y=true)/\(∀ C y,B1=C ++ [y]->ltA x y=false) /\
  l164_2 (P ++ (A1 ++ x :: A2) ++ S) (P.length:Int) b () i ((P.length + A1.length:Nat):Int)=some (.inl (P ++ (B1 ++ x :: (B2 ++ A2)) ++ S,(P.length:Int),b,(),i,j',())):=by
 intro n;induction n with
 | zero => intro A1 A2 hn hl;have:A1=[]:=List.length_eq_zero_iff.1 hn;subst this;refine ⟨[],[],((P.length + 0:Nat):Int),rfl,fun y hy=>by simp at hy,fun C y h=>by simp at h,loopF_end _ ?_⟩;show r164_2 (P ++ ([] ++ x :: A2) ++ S) (P.length:Int) b () i ((P.length + 0:Nat):Int)=_;unfold r164_2;rw [ltI_no (by omega)];rfl
 | succ n ih =>
   intro A1 A2 hn hl;obtain ⟨B,y,rfl⟩:=snoc_of (a:=A1) (fun h=>by subst h; simp at hn);have hB:B.length=n:=by simpa using hn
   simp only [big40,List.length_append,List.length_cons,List.length_nil] at hl;have e0:P ++ (B ++ [y] ++ x :: A2) ++ S=(P ++ B) ++ y :: x :: (A2 ++ S):=by simp
   have e1:P ++ (B ++ [y] ++ x :: A2) ++ S=(P ++ B ++ [y]) ++ x :: (A2 ++ S):=by simp
   have hj:((P.length + (B ++ [y]).length:Nat):Int)=((P ++ B ++ [y]).length:Int):=by simp <;> omega
   have hj1:subW .i64 ((P.length + (B ++ [y]).length:Nat):Int) 1=((P ++ B).length:Int):=by rw [subW_in (by simp <;> omega) (by simp <;> omega)]; simp <;> omega
   obtain ⟨v,hv1,hv2⟩:=cmpA x y
   have hstep:r164_2 (P ++ (B ++ [y] ++ x :: A2) ++ S) (P.length:Int) b () i ((P.length + (B ++ [y]).length:Nat):Int) =
    cond (ltA x y) (some (.inl (P ++ (B ++ x :: (y :: A2)) ++ S,(P.length:Int),b,(),i,((P.length + B.length:Nat):Int),()))) (some (.inr (.inl (P ++ (B ++ [y] ++ x :: A2) ++ S,(P.length:Int),b,(),i,((P.length + (B ++ [y]).length:Nat):Int),())))):=by
    unfold r164_2;have i1:inB ((P.length + (B ++ [y]).length:Nat):Int) (P ++ (B ++ [y] ++ x :: A2) ++ S)=true:=by rw [e1]; exact inB_app _ _ _ hj
    have i2:inB ((P ++ B).length:Int) (P ++ (B ++ [y] ++ x :: A2) ++ S)=true:=by rw [e0]; exact inB_app _ _ _ rfl
    have a1:atB ((P.length + (B ++ [y]).length:Nat):Int) (P ++ (B ++ [y] ++ x :: A2) ++ S) ((P.length + (B ++ [y]).length:Nat):Int)=true:=by rw [e1]; exact atB_app _ _ _ hj
    have a2:atB ((P ++ B).length:Int) (P ++ (B ++ [y] ++ x :: A2) ++ S) ((P ++ B).length:Int)=true:=by rw [e0]; exact atB_app _ _ _ rfl
    have t1:gt d92 (P ++ (B ++ [y] ++ x :: A2) ++ S) ((P.length + (B ++ [y]).length:Nat):Int)=x:=by rw [e1]; exact gt_app _ _ _ _ hj
    have t2:gt d92 (P ++ (B ++ [y] ++ x :: A2) ++ S) ((P ++ B).length:Int)=y:=by rw [e0]; exact gt_app _ _ _ _ rfl
    rw [ltI_yes (by simp <;> omega)];dsimp only [cond_true];rw [hj1,i1,i2,t1,t2,a1,a2,hv1];dsimp only [cond_true,Option.bind_some];rw [hv2];cases ltA x y with
    | false=>rfl
    | true =>
      have sw:swI d92 (P ++ (B ++ [y] ++ x :: A2) ++ S) ((P.length + (B ++ [y]).length:Nat):Int) ((P ++ B).length:Int)=P ++ (B ++ x :: (y :: A2)) ++ S:=by
       rw [e0];unfold swI;have:=swpL_next d92 (P ++ B) y x (A2 ++ S);have k1:((P.length + (B ++ [y]).length:Nat):Int).toNat=(P ++ B).length + 1:=by simp <;> omega
       rw [k1,Int.toNat_natCast,this];simp
      rw [sw];have k2:((P ++ B).length:Int)=((P.length + B.length:Nat):Int):=by simp
      rw [k2]
   cases hc:ltA x y with
   | false => rw [hc] at hstep;refine ⟨B ++ [y],[],((P.length + (B ++ [y]).length:Nat):Int),by simp,fun y hy=>by simp at hy,fun C z h => ?_,loopF_end _ hstep⟩;have:=List.append_inj' h rfl;have h2:=this.2;simp only [List.cons.injEq,and_true] at h2;rw [<- h2]; exact hc
   | true =>
     rw [hc] at hstep;obtain ⟨B1,B2,j',q1,q2,q3,q4⟩:=ih B (y :: A2) hB (by simp [big40]; omega);refine ⟨B1,B2 ++ [y],j',by rw [q1]; simp,fun z hz => ?_,q3,loopF_step _ hstep ?_⟩
     . rcases List.mem_append.1 hz with hz | hz
       . exact q2 z hz
       . simp only [List.mem_singleton] at hz; subst hz; exact hc
     . have:B2 ++ [y] ++ A2=B2 ++ y :: A2:=by simp
       rw [this];exact q4
theorem ins_out (P S:List AcctT) (b:Int):∀ (n:Nat) (A R:List AcctT),R.length=n->Srt ltA A->b=((P.length + A.length + R.length:Nat):Int)->(P ++ (A ++ R) ++ S).length<=big40 ->
 ∃ M,Srt ltA M/\Stb ltA (A ++ R) M/\l164_0 (P ++ (A ++ R) ++ S) (P.length:Int) b () ((P.length + A.length:Nat):Int)=some (.inl (P ++ M ++ S,(P.length:Int),b,(),b,())):=by
 intro n;induction n with
 | zero =>
   intro A R hn hA hb hl;have:R=[]:=List.length_eq_zero_iff.1 hn;subst this;have hb':b=((P.length + A.length:Nat):Int):=by simpa using hb
   refine ⟨A,hA,by rw [List.append_nil]; exact Stb.refl _,loopF_end _ ?_⟩;show r164_0 (P ++ (A ++ []) ++ S) (P.length:Int) b () ((P.length + A.length:Nat):Int)=_;unfold r164_0;rw [ltI_no (by omega),List.append_nil,<- hb'];rfl
 | succ n ih =>
   intro A R hn hA hb hl;cases R with
   | nil=>simp at hn
   | cons x R =>
     have hR:R.length=n:=by simpa using hn
     have hl':=hl;simp only [big40,List.length_append,List.length_cons] at hl';have e0:P ++ (A ++ x :: R) ++ S=P ++ (A ++ x :: []) ++ (R ++ S):=by simp
     obtain ⟨B1,B2,j',q1,q2,q3,q4⟩:=ins_in P (R ++ S) x b ((P.length + A.length:Nat):Int) A.length A [] rfl (by rw [<- e0]; exact hl);rw [List.append_nil,<- e0] at q4;subst q1;have hs:=Srt_append.1 hA;have hlast:∀ y∈B1,ltA x y=false:=fun y hy=>by
      obtain ⟨C,z,rfl⟩:=snoc_of (a:=B1) (fun h=>by subst h; simp at hy);have hz:=q3 C z rfl;rcases List.mem_append.1 hy with hy | hy
      . exact swoA.le_trans ((Srt_append.1 hs.1).2.2 y hy z (by simp)) hz
      . simp only [List.mem_singleton] at hy; subst hy; exact hz
     have hsrt:Srt ltA (B1 ++ x :: B2):=by
      refine Srt_append.2 ⟨hs.1,List.pairwise_cons.2 ⟨fun y hy => ?_,hs.2.1⟩,fun y hy z hz => ?_⟩
      . cases h:ltA y x with
        | false=>rfl
        | true => have:=swoA.trans _ _ _ h (q2 y hy);rw [swoA.irr] at this;simp at this
      . rcases List.mem_cons.1 hz with rfl | hz
        . exact hlast y hy
        . exact hs.2.2 y hy z hz
     have hstb:Stb ltA (B1 ++ B2 ++ x :: R) (B1 ++ x :: B2 ++ R):=by
      have h1:Stb ltA (B2 ++ [x]) ([x] ++ B2):=Stb.swap swoA fun y hy z hz=>by simp only [List.mem_singleton] at hz; subst hz; exact q2 y hy
      have h2:=((Stb.refl B1).append h1).append (Stb.refl R);simpa using h2
     obtain ⟨M,m1,m2,m3⟩:=ih (B1 ++ x :: B2) R hR hsrt (by rw [hb]; simp only [List.length_append,List.length_cons]; omega) (by simp only [big40,List.length_append,List.length_cons] at hl' ⊢; omega);refine ⟨M,m1,hstb.trans m2,loopF_step _ (x':=(P ++ (B1 ++ x :: B2 ++ R) ++ S,(P.length:Int),b,(),((P.length + (B1 ++ x :: B2).length:Nat):Int),())) ?_ m3⟩;show r164_0 (P ++ (B1 ++ B2 ++ x :: R) ++ S) (P.length:Int) b () ((P.length + (B1 ++ B2).length:Nat):Int)=_;unfold r164_0;rw [ltI_yes (by rw [hb]; simp only [List.length_append,List.length_cons]; omega),q4];dsimp only [cond_true,Option.bind_some,Sum.elim_inl];have k1:addW .i64 ((P.length + (B1 ++ B2).length:Nat):Int) 1=((P.length + (B1 ++ x :: B2).length:Nat):Int):=by rw [addW_in (by omega) (by simp only [List.length_append] at *; omega)];simp only [List.length_append,List.length_cons]; omega
     rw [k1];simp
theorem ins_g (P L S:List AcctT) (hl:(P ++ L ++ S).length<=big40):∃ M,Srt ltA M/\Stb ltA L M/\g164 (P ++ L ++ S) (P.length:Int) ((P.length + L.length:Nat):Int)=some (((P ++ M ++ S,()),()),()):=by
 have hl':=hl;simp only [big40,List.length_append] at hl';unfold g164;have k0:addW .i64 (P.length:Int) 1=((P.length + 1:Nat):Int):=by rw [addW_in (by omega) (by omega)]; omega
 rw [k0];cases L with
 | nil => refine ⟨[],Srt_nil,Stb.refl _,?_⟩;have:l164_0 (P ++ [] ++ S) (P.length:Int) ((P.length + 0:Nat):Int) () ((P.length + 1:Nat):Int)=some (.inl (P ++ [] ++ S,(P.length:Int),((P.length + 0:Nat):Int),(),((P.length + 1:Nat):Int),())):=loopF_end _ (by show r164_0 (P ++ [] ++ S) (P.length:Int) ((P.length + 0:Nat):Int) () ((P.length + 1:Nat):Int)=_;unfold r164_0;rw [ltI_no (by omega)]; rfl);show Option.bind (l164_0 (P ++ [] ++ S) (P.length:Int) ((P.length + 0:Nat):Int) () ((P.length + 1:Nat):Int)) _=_;rw [this];rfl
 | cons x L => obtain ⟨M,m1,m2,m3⟩:=ins_out P S ((P.length + (x :: L).length:Nat):Int) L.length [x] L rfl (Srt_one x) (by simp only [List.length_cons,List.length_nil]; omega) (by simpa using hl);refine ⟨M,m1,m2,?_⟩;have m3':l164_0 (P ++ x :: L ++ S) (P.length:Int) ((P.length + (x :: L).length:Nat):Int) () ((P.length + 1:Nat):Int)=_:=m3;rw [m3'];rfl
theorem swpL_far {α:Type} (d:α) (u:List α) (p:α) (v:List α) (q:α) (w:List α):swpL d (u ++ p :: (v ++ q :: w)) u.length (u.length + (1 + v.length))=u ++ q :: (v ++ p :: w):=by
 unfold swpL;have h1:(u ++ p :: (v ++ q :: w)).getD u.length d=p:=by simp [List.getD]
 have h2:(u ++ p :: (v ++ q :: w)).getD (u.length + (1 + v.length)) d=q:=by rw [List.getD,List.getElem?_append_right (by omega),show u.length + (1 + v.length) - u.length=v.length + 1 by omega,List.getElem?_cons_succ,List.getElem?_append_right (by omega),Nat.sub_self];rfl
 rw [h1,h2,List.set_append,if_neg (by omega),Nat.sub_self,List.set_append,if_neg (by omega),show u.length + (1 + v.length) - u.length=v.length + 1 by omega];show u ++ (q :: (v ++ q :: w)).set (v.length + 1) p=_;rw [List.set_cons_succ,List.set_append,if_neg (by omega),Nat.sub_self];rfl
theorem swr_loop (P Y S:List AcctT):∀ (n:Nat) (Z1 X2 X1 Z2:List AcctT),X2.length=n->Z2.length=n->X1.length=Z1.length->(P ++ (Z1 ++ X2) ++ Y ++ (X1 ++ Z2) ++ S).length<=big40 ->
 l243_0 (P ++ (Z1 ++ X2) ++ Y ++ (X1 ++ Z2) ++ S) (P.length:Int) ((P.length + (Z1.length + n) + Y.length:Nat):Int) ((Z1.length + n:Nat):Int) (Z1.length:Int) =
  some (.inl (P ++ (Z1 ++ Z2) ++ Y ++ (X1 ++ X2) ++ S,(P.length:Int),((P.length + (Z1.length + n) + Y.length:Nat):Int),((Z1.length + n:Nat):Int),((Z1.length + n:Nat):Int),())):=by
 intro n;induction n with
 | zero => intro Z1 X2 X1 Z2 h1 h2 h3 hl;have e1:X2=[]:=List.length_eq_zero_iff.1 h1;have e2:Z2=[]:=List.length_eq_zero_iff.1 h2;subst e1; subst e2;refine loopF_end _ ?_;show r243_0 (P ++ (Z1 ++ []) ++ Y ++ (X1 ++ []) ++ S) (P.length:Int) ((P.length + (Z1.length + 0) + Y.length:Nat):Int) ((Z1.length + 0:Nat):Int) (Z1.length:Int)=_;unfold r243_0;rw [ltI_no (by omega)];rfl
 | succ n ih =>
   intro Z1 X2 X1 Z2 h1 h2 h3 hl;cases X2 with
   | nil=>simp at h1
   | cons x X2 =>
   cases Z2 with
   | nil=>simp at h2
   | cons z Z2 =>
   have hx:X2.length=n:=by simpa using h1
   have hz:Z2.length=n:=by simpa using h2
   have hl':=hl;simp only [big40,List.length_append,List.length_cons] at hl';have ih':=ih (Z1 ++ [z]) X2 (X1 ++ [x]) Z2 hx hz (by simp [h3]) (by simp only [big40,List.length_append,List.length_cons,List.length_nil]; omega);have e1:((P.length + ((Z1 ++ [z]).length + n) + Y.length:Nat):Int)=((P.length + (Z1.length + (n + 1)) + Y.length:Nat):Int):=by simp only [List.length_append,List.length_cons,List.length_nil]; omega
   have e2:(((Z1 ++ [z]).length + n:Nat):Int)=((Z1.length + (n + 1):Nat):Int):=by simp only [List.length_append,List.length_cons,List.length_nil]; omega
   have e3:(((Z1 ++ [z]).length:Nat):Int)=addW .i64 (Z1.length:Int) 1:=by rw [addW_in (by omega) (by omega)]; simp
   rw [e1,e2,e3] at ih';have ef:P ++ (Z1 ++ [z] ++ Z2) ++ Y ++ (X1 ++ [x] ++ X2) ++ S=P ++ (Z1 ++ z :: Z2) ++ Y ++ (X1 ++ x :: X2) ++ S:=by simp
   rw [ef] at ih';refine loopF_step _ ?_ ih';show r243_0 (P ++ (Z1 ++ x :: X2) ++ Y ++ (X1 ++ z :: Z2) ++ S) (P.length:Int) ((P.length + (Z1.length + (n + 1)) + Y.length:Nat):Int) ((Z1.length + (n + 1):Nat):Int) (Z1.length:Int)=_;have d1:P ++ (Z1 ++ x :: X2) ++ Y ++ (X1 ++ z :: Z2) ++ S=(P ++ Z1) ++ x :: ((X2 ++ Y ++ X1) ++ z :: (Z2 ++ S)):=by simp
   have d2:P ++ (Z1 ++ x :: X2) ++ Y ++ (X1 ++ z :: Z2) ++ S=(P ++ Z1 ++ x :: (X2 ++ Y ++ X1)) ++ z :: (Z2 ++ S):=by simp
   have k1:addW .i64 ((P.length + (Z1.length + (n + 1)) + Y.length:Nat):Int) (Z1.length:Int)=((P ++ Z1 ++ x :: (X2 ++ Y ++ X1)).length:Int):=by rw [addW_in (by omega) (by omega)];simp only [List.length_append,List.length_cons]; omega
   have k2:addW .i64 (P.length:Int) (Z1.length:Int)=((P ++ Z1).length:Int):=by rw [addW_in (by omega) (by omega)];simp only [List.length_append]; omega
   unfold r243_0;rw [ltI_yes (by omega),k1,k2];dsimp only [cond_true];have i1:inB ((P ++ Z1 ++ x :: (X2 ++ Y ++ X1)).length:Int) (P ++ (Z1 ++ x :: X2) ++ Y ++ (X1 ++ z :: Z2) ++ S)=true:=by rw [d2]; exact inB_app _ _ _ rfl
   have i2:inB ((P ++ Z1).length:Int) (P ++ (Z1 ++ x :: X2) ++ Y ++ (X1 ++ z :: Z2) ++ S)=true:=by rw [d1]; exact inB_app _ _ _ rfl
   have a1:atB ((P ++ Z1 ++ x :: (X2 ++ Y ++ X1)).length:Int) (P ++ (Z1 ++ x :: X2) ++ Y ++ (X1 ++ z :: Z2) ++ S) ((P ++ Z1 ++ x :: (X2 ++ Y ++ X1)).length:Int)=true:=by rw [d2]; exact atB_app _ _ _ rfl
   have a2:atB ((P ++ Z1).length:Int) (P ++ (Z1 ++ x :: X2) ++ Y ++ (X1 ++ z :: Z2) ++ S) ((P ++ Z1).length:Int)=true:=by rw [d1]; exact atB_app _ _ _ rfl
   rw [i1,i2,a1,a2];dsimp only [cond_true];have sw:swI d92 (P ++ (Z1 ++ x :: X2) ++ Y ++ (X1 ++ z :: Z2) ++ S) ((P ++ Z1).length:Int) ((P ++ Z1 ++ x :: (X2 ++ Y ++ X1)).length:Int)=P ++ (Z1 ++ [z] ++ X2) ++ Y ++ (X1 ++ [x] ++ Z2) ++ S:=by
    unfold swI;rw [Int.toNat_natCast,Int.toNat_natCast,d1];have k3:(P ++ Z1 ++ x :: (X2 ++ Y ++ X1)).length=(P ++ Z1).length + (1 + (X2 ++ Y ++ X1).length):=by simp only [List.length_append,List.length_cons]; omega
    rw [k3,swpL_far];simp
   rw [sw]
theorem swr_g (P X Y Z S:List AcctT) (hx:X.length=Z.length) (hl:(P ++ X ++ Y ++ Z ++ S).length<=big40):g243 (P ++ X ++ Y ++ Z ++ S) (P.length:Int) ((P.length + X.length + Y.length:Nat):Int) (X.length:Int)=some (((P ++ Z ++ Y ++ X ++ S,()),()),()):=by unfold g243;have h:=swr_loop P Y S X.length [] X [] Z rfl hx.symm rfl hl;simp only [List.nil_append,List.length_nil,Nat.zero_add] at h;have h':l243_0 (P ++ X ++ Y ++ Z ++ S) (P.length:Int) ((P.length + X.length + Y.length:Nat):Int) (X.length:Int) 0=_:=h;rw [h'];rfl
theorem rot_loop:∀ (n:Nat) (P X Y S:List AcctT) (m:Nat),X.length + Y.length=n->0 < X.length->0 < Y.length->m=P.length + X.length->(P ++ X ++ Y ++ S).length<=big40 ->
 ∃ (t:List AcctT) (i:Nat),i<=m/\i<=n/\l211_0 (P ++ X ++ Y ++ S) (m:Int) () (X.length:Int) (Y.length:Int)=some (.inl (t,(m:Int),(),(i:Int),(i:Int),())) /\
  g243 t ((m - i:Nat):Int) (m:Int) (i:Int)=some (((P ++ Y ++ X ++ S,()),()),()):=by
 intro n;induction n using Nat.strongRecOn with
 | _ n ih =>
 intro P X Y S m hn hX hY hm hl;subst hm;have hl':=hl;simp only [big40,List.length_append] at hl';rcases Nat.lt_trichotomy X.length Y.length with h | h | h
 . -- the second is longer: its end comes ahead
   obtain ⟨Y1,Y2,rfl,hY2⟩:∃ Y1 Y2,Y=Y1 ++ Y2/\Y2.length=X.length:=⟨Y.take (Y.length - X.length),Y.drop (Y.length - X.length),(List.take_append_drop _ _).symm,by rw [List.length_drop]; omega⟩;simp only [List.length_append] at h hn hl' hY;obtain ⟨t,i,i1,i2,q1,q2⟩:=ih (Y2.length + Y1.length) (by omega) P Y2 Y1 (X ++ S) (P.length + X.length) rfl (by omega) (by omega) (by omega) (by simp only [big40,List.length_append]; omega);refine ⟨t,i,i1,by omega,loopF_step _ ?_ q1,by rw [q2]; simp⟩;show r211_0 (P ++ X ++ (Y1 ++ Y2) ++ S) ((P.length + X.length:Nat):Int) () (X.length:Int) ((Y1 ++ Y2).length:Int)=_;have hs:=swr_g P X Y1 Y2 S (by omega) (by simp only [big40,List.length_append]; omega);have e0:P ++ X ++ (Y1 ++ Y2) ++ S=P ++ X ++ Y1 ++ Y2 ++ S:=by simp
   have k0:eqI (X.length:Int) ((Y1 ++ Y2).length:Int)=false:=by rw [Bool.eq_false_iff]; intro hh; rw [eqI_iff] at hh; simp only [List.length_append] at hh; omega
   have k1:subW .i64 ((P.length + X.length:Nat):Int) (X.length:Int)=(P.length:Int):=by rw [subW_in (by omega) (by omega)]; omega
   have k2:addW .i64 ((P.length + X.length:Nat):Int) ((Y1 ++ Y2).length:Int)=((P.length + X.length + (Y1 ++ Y2).length:Nat):Int):=by rw [addW_in (by omega) (by simp only [List.length_append]; omega)]; omega
   have k3:subW .i64 ((P.length + X.length + (Y1 ++ Y2).length:Nat):Int) (X.length:Int)=((P.length + X.length + Y1.length:Nat):Int):=by rw [subW_in (by omega) (by simp only [List.length_append]; omega)]; simp only [List.length_append]; omega
   have k4:subW .i64 ((Y1 ++ Y2).length:Int) (X.length:Int)=(Y1.length:Int):=by rw [subW_in (by omega) (by simp only [List.length_append]; omega)]; simp only [List.length_append]; omega
   unfold r211_0;rw [k0,ltI_no (by simp only [List.length_append]; omega)];dsimp only [cond_true,cond_false,Bool.not_false];rw [k1,k2,k3,k4,e0,hs];dsimp only [Option.bind_some];rw [hY2];simp
 . -- alike
   refine ⟨P ++ X ++ Y ++ S,X.length,by omega,by omega,loopF_end _ ?_,?_⟩
   . show r211_0 (P ++ X ++ Y ++ S) ((P.length + X.length:Nat):Int) () (X.length:Int) (Y.length:Int)=_;unfold r211_0;rw [<- h,eqI_refl];rfl
   . have hs:=swr_g P X [] Y S h (by simp only [big40,List.length_append,List.length_nil]; omega);rw [List.append_nil,List.append_nil,List.length_nil,Nat.add_zero] at hs;rw [show P.length + X.length - X.length=P.length by omega];exact hs
 . -- the first is longer: its begin goes behind
   obtain ⟨X1,X2,rfl,hX1⟩:∃ X1 X2,X=X1 ++ X2/\X1.length=Y.length:=⟨X.take Y.length,X.drop Y.length,(List.take_append_drop _ _).symm,by rw [List.length_take]; omega⟩;simp only [List.length_append] at h hn hl' hX;obtain ⟨t,i,i1,i2,q1,q2⟩:=ih (X2.length + X1.length) (by omega) (P ++ Y) X2 X1 S (P.length + (X1 ++ X2).length) rfl (by omega) (by omega) (by simp only [List.length_append]; omega) (by simp only [big40,List.length_append]; omega);refine ⟨t,i,i1,by omega,loopF_step _ ?_ q1,by rw [q2]; simp⟩;show r211_0 (P ++ (X1 ++ X2) ++ Y ++ S) ((P.length + (X1 ++ X2).length:Nat):Int) () ((X1 ++ X2).length:Int) (Y.length:Int)=_;have hs:=swr_g P X1 X2 Y S hX1 (by simp only [big40,List.length_append]; omega);have e0:P ++ (X1 ++ X2) ++ Y ++ S=P ++ X1 ++ X2 ++ Y ++ S:=by simp
   have k0:eqI ((X1 ++ X2).length:Int) (Y.length:Int)=false:=by rw [Bool.eq_false_iff]; intro hh; rw [eqI_iff] at hh; simp only [List.length_append] at hh; omega
   have k1:subW .i64 ((P.length + (X1 ++ X2).length:Nat):Int) ((X1 ++ X2).length:Int)=(P.length:Int):=by rw [subW_in (by omega) (by simp only [List.length_append]; omega)]; omega
   have k3:((P.length + (X1 ++ X2).length:Nat):Int)=((P.length + X1.length + X2.length:Nat):Int):=by simp only [List.length_append]; omega
   have k4:subW .i64 ((X1 ++ X2).length:Int) (Y.length:Int)=(X2.length:Int):=by rw [subW_in (by omega) (by simp only [List.length_append]; omega)]; simp only [List.length_append]; omega
   unfold r211_0;rw [k0,ltI_yes (by simp only [List.length_append]; omega)];dsimp only [cond_true,cond_false,Bool.not_false];rw [k1,k4,e0,<- hX1];have hs':g243 (P ++ X1 ++ X2 ++ Y ++ S) (P.length:Int) ((P.length + (X1 ++ X2).length:Nat):Int) (X1.length:Int)=some (((P ++ Y ++ X2 ++ X1 ++ S,()),()),()):=by rw [k3]; exact hs
   rw [hs'];dsimp only [Option.bind_some];simp
theorem rot_g (P X Y S:List AcctT) (hX:0 < X.length) (hY:0 < Y.length) (hl:(P ++ X ++ Y ++ S).length<=big40) :
 g211 (P ++ X ++ Y ++ S) (P.length:Int) ((P.length + X.length:Nat):Int) ((P.length + X.length + Y.length:Nat):Int)=some (((P ++ Y ++ X ++ S,()),()),()):=by
 have hl':=hl;simp only [big40,List.length_append] at hl';obtain ⟨t,i,i1,i2,q1,q2⟩:=rot_loop (X.length + Y.length) P X Y S (P.length + X.length) rfl hX hY rfl hl;unfold g211;have k1:subW .i64 ((P.length + X.length:Nat):Int) (P.length:Int)=(X.length:Int):=by rw [subW_in (by omega) (by omega)]; omega
 have k2:subW .i64 ((P.length + X.length + Y.length:Nat):Int) ((P.length + X.length:Nat):Int)=(Y.length:Int):=by rw [subW_in (by omega) (by omega)]; omega
 rw [k1,k2,q1];dsimp only [Option.bind_some,Sum.elim_inl];have k3:subW .i64 ((P.length + X.length:Nat):Int) (i:Int)=((P.length + X.length - i:Nat):Int):=by rw [subW_in (by omega) (by omega)]; omega
 rw [k3,q2];rfl
theorem mvR_loop (P S:List AcctT) (x:AcctT) (i:Nat):∀ (n:Nat) (D U:List AcctT),U.length=n->i=P.length + D.length + U.length + 1->(P ++ (D ++ x :: U) ++ S).length<=big40 ->
 ∃ k',l165_2 (P ++ (D ++ x :: U) ++ S) (i:Int) ((P.length + D.length:Nat):Int)=some (.inl (P ++ (D ++ U ++ [x]) ++ S,(i:Int),k',())):=by
 intro n;induction n with
 | zero =>
   intro D U hn hi hl;have:U=[]:=List.length_eq_zero_iff.1 hn;subst this;simp only [List.length_nil] at hi;simp only [big40,List.length_append,List.length_cons] at hl;refine ⟨((P.length + D.length:Nat):Int),loopF_end _ ?_⟩;show r165_2 (P ++ (D ++ [x]) ++ S) (i:Int) ((P.length + D.length:Nat):Int)=_;unfold r165_2;have k1:subW .i64 (i:Int) 1=((P.length + D.length:Nat):Int):=by rw [subW_in (by omega) (by omega)]; omega
   rw [k1,ltI_no (by omega),List.append_nil];rfl
 | succ n ih =>
   intro D U hn hi hl;cases U with
   | nil=>simp at hn
   | cons u U =>
     have hU:U.length=n:=by simpa using hn
     simp only [List.length_cons] at hi;have hl':=hl;simp only [big40,List.length_append,List.length_cons] at hl';obtain ⟨k',hk⟩:=ih (D ++ [u]) U hU (by simp only [List.length_append,List.length_cons,List.length_nil]; omega) (by simp only [big40,List.length_append,List.length_cons,List.length_nil]; omega);refine ⟨k',?_⟩;have ef:P ++ (D ++ [u] ++ U ++ [x]) ++ S=P ++ (D ++ u :: U ++ [x]) ++ S:=by simp
     rw [ef] at hk;refine loopF_step _ ?_ hk;show r165_2 (P ++ (D ++ x :: u :: U) ++ S) (i:Int) ((P.length + D.length:Nat):Int)=_;have d1:P ++ (D ++ x :: u :: U) ++ S=(P ++ D) ++ x :: u :: (U ++ S):=by simp
     have d2:P ++ (D ++ x :: u :: U) ++ S=(P ++ D ++ [x]) ++ u :: (U ++ S):=by simp
     have k1:subW .i64 (i:Int) 1=((P.length + D.length + U.length + 1:Nat):Int):=by rw [subW_in (by omega) (by omega)]; omega
     have k2:((P.length + D.length:Nat):Int)=((P ++ D).length:Int):=by simp
     have k3:addW .i64 ((P ++ D).length:Int) 1=((P ++ D ++ [x]).length:Int):=by rw [addW_in (by omega) (by simp only [List.length_append]; omega)]; simp only [List.length_append,List.length_cons,List.length_nil]; omega
     unfold r165_2;rw [k1,ltI_yes (by omega),k2,k3];dsimp only [cond_true];have i1:inB ((P ++ D ++ [x]).length:Int) (P ++ (D ++ x :: u :: U) ++ S)=true:=by rw [d2]; exact inB_app _ _ _ rfl
     have i2:inB ((P ++ D).length:Int) (P ++ (D ++ x :: u :: U) ++ S)=true:=by rw [d1]; exact inB_app _ _ _ rfl
     have a1:atB ((P ++ D ++ [x]).length:Int) (P ++ (D ++ x :: u :: U) ++ S) ((P ++ D ++ [x]).length:Int)=true:=by rw [d2]; exact atB_app _ _ _ rfl
     have a2:atB ((P ++ D).length:Int) (P ++ (D ++ x :: u :: U) ++ S) ((P ++ D).length:Int)=true:=by rw [d1]; exact atB_app _ _ _ rfl
     rw [i1,i2,a1,a2];dsimp only [cond_true];have sw:swI d92 (P ++ (D ++ x :: u :: U) ++ S) ((P ++ D).length:Int) ((P ++ D ++ [x]).length:Int)=P ++ (D ++ [u] ++ x :: U) ++ S:=by
      unfold swI;have e1:(P ++ D ++ [x]).length=(P ++ D).length + 1:=by simp only [List.length_append,List.length_cons,List.length_nil]
      rw [Int.toNat_natCast,Int.toNat_natCast,e1,d1,swpL_next'];simp
     rw [sw];have k4:((P ++ D ++ [x]).length:Int)=((P.length + (D ++ [u]).length:Nat):Int):=by simp only [List.length_append,List.length_cons,List.length_nil]; omega
     rw [k4]
theorem mvL_loop (P S:List AcctT) (y:AcctT):∀ (n:Nat) (D U:List AcctT),D.length=n->(P ++ (D ++ y :: U) ++ S).length<=big40 ->
 ∃ k',l165_6 (P ++ (D ++ y :: U) ++ S) (P.length:Int) ((P.length + D.length:Nat):Int)=some (.inl (P ++ (y :: (D ++ U)) ++ S,(P.length:Int),k',())):=by
 intro n;induction n with
 | zero => intro D U hn hl;have:D=[]:=List.length_eq_zero_iff.1 hn;subst this;refine ⟨((P.length + 0:Nat):Int),loopF_end _ ?_⟩;show r165_6 (P ++ ([] ++ y :: U) ++ S) (P.length:Int) ((P.length + 0:Nat):Int)=_;unfold r165_6;rw [ltI_no (by omega)];rfl
 | succ n ih =>
   intro D U hn hl;obtain ⟨B,u,rfl⟩:=snoc_of (a:=D) (fun h=>by subst h; simp at hn);have hB:B.length=n:=by simpa using hn
   have hl':=hl;simp only [big40,List.length_append,List.length_cons,List.length_nil] at hl';obtain ⟨k',hk⟩:=ih B (u :: U) hB (by simp only [big40,List.length_append,List.length_cons]; omega);refine ⟨k',?_⟩;have ef:P ++ (y :: (B ++ u :: U)) ++ S=P ++ (y :: (B ++ [u] ++ U)) ++ S:=by simp
   rw [ef] at hk;refine loopF_step _ ?_ hk;show r165_6 (P ++ (B ++ [u] ++ y :: U) ++ S) (P.length:Int) ((P.length + (B ++ [u]).length:Nat):Int)=_;have d1:P ++ (B ++ [u] ++ y :: U) ++ S=(P ++ B) ++ u :: y :: (U ++ S):=by simp
   have d2:P ++ (B ++ [u] ++ y :: U) ++ S=(P ++ B ++ [u]) ++ y :: (U ++ S):=by simp
   have k1:subW .i64 ((P.length + (B ++ [u]).length:Nat):Int) 1=((P ++ B).length:Int):=by rw [subW_in (by simp only [List.length_append,List.length_cons,List.length_nil]; omega) (by simp only [List.length_append,List.length_cons,List.length_nil]; omega)];simp only [List.length_append,List.length_cons,List.length_nil]; omega
   have k2:((P.length + (B ++ [u]).length:Nat):Int)=((P ++ B ++ [u]).length:Int):=by simp only [List.length_append,List.length_cons,List.length_nil]; omega
   unfold r165_6;rw [k1,ltI_yes (by simp only [List.length_append,List.length_cons,List.length_nil]; omega),k2];dsimp only [cond_true];have i1:inB ((P ++ B ++ [u]).length:Int) (P ++ (B ++ [u] ++ y :: U) ++ S)=true:=by rw [d2]; exact inB_app _ _ _ rfl
   have i2:inB ((P ++ B).length:Int) (P ++ (B ++ [u] ++ y :: U) ++ S)=true:=by rw [d1]; exact inB_app _ _ _ rfl
   have a1:atB ((P ++ B ++ [u]).length:Int) (P ++ (B ++ [u] ++ y :: U) ++ S) ((P ++ B ++ [u]).length:Int)=true:=by rw [d2]; exact atB_app _ _ _ rfl
   have a2:atB ((P ++ B).length:Int) (P ++ (B ++ [u] ++ y :: U) ++ S) ((P ++ B).length:Int)=true:=by rw [d1]; exact atB_app _ _ _ rfl
   rw [i1,i2,a1,a2];dsimp only [cond_true];have sw:swI d92 (P ++ (B ++ [u] ++ y :: U) ++ S) ((P ++ B ++ [u]).length:Int) ((P ++ B).length:Int)=P ++ (B ++ y :: u :: U) ++ S:=by
    unfold swI;have e1:(P ++ B ++ [u]).length=(P ++ B).length + 1:=by simp only [List.length_append,List.length_cons,List.length_nil]
    rw [Int.toNat_natCast,Int.toNat_natCast,e1,d1,swpL_next];simp
   rw [sw];have k4:((P ++ B).length:Int)=((P.length + B.length:Nat):Int):=by simp
   rw [k4]
theorem srchA (P S:List AcctT) (x:AcctT) (R:List AcctT) (hR:Srt ltA R) (hl:(P ++ x :: R ++ S).length<=big40):∃ n,n<=R.length/\(∀ y∈R.take n,ltA y x=true)/\(∀ y∈R.drop n,ltA y x=false) /\
 l165_0 (P ++ x :: R ++ S) (P.length:Int) () ((P.length + 1:Nat):Int) ((P.length + 1 + R.length:Nat):Int)=some (.inl (P ++ x :: R ++ S,(P.length:Int),(),((P.length + 1 + n:Nat):Int),((P.length + 1 + n:Nat):Int),())):=by
 have hl':=hl;simp only [big40,List.length_append,List.length_cons] at hl';have e0:P ++ x :: R ++ S=(P ++ [x]) ++ R ++ S:=by simp
 have hpl:(P ++ [x]).length=P.length + 1:=by simp
 have hg:∀ q,q < R.length->(P ++ x :: R ++ S).getD (P.length + 1 + q) d92=R.getD q d92:=fun q hq=>by rw [e0,<- hpl]; exact getD_mid _ _ _ _ hq
 have h:=bsearch (fun (z:(List AcctT)×Int×Unit×Int×Int×Unit)=>r165_0 z.1 z.2.1 z.2.2.1 z.2.2.2.1 z.2.2.2.2.1) (fun lo hi=>(P ++ x :: R ++ S,(P.length:Int),(),(lo:Int),(hi:Int),())) (fun k=> .inl (P ++ x :: R ++ S,(P.length:Int),(),(k:Int),(k:Int),()))
  (fun h=>ltA ((P ++ x :: R ++ S).getD h d92) x) (P.length + 1) (P.length + 1 + R.length) (fun h h' h1 h2 h3 hf=>by
    obtain ⟨q,rfl⟩:∃ q,h=P.length + 1 + q:=⟨h - (P.length + 1),by omega⟩;obtain ⟨q',rfl⟩:∃ q',h'=P.length + 1 + q':=⟨h' - (P.length + 1),by omega⟩;rw [hg q (by omega)] at hf;rw [hg q' (by omega)];rcases swoA.neg _ (R.getD q' d92) _ hf with h4 | h4
    . rw [srt_getD swoA _ hR (by omega) (by omega)] at h4; simp at h4
    . exact h4) (fun lo hi h1 h2 h3=>by
    show r165_0 (P ++ x :: R ++ S) (P.length:Int) () (lo:Int) (hi:Int)=_;unfold r165_0;obtain ⟨v,hv1,hv2⟩:=cmpA ((P ++ x :: R ++ S).getD ((lo + hi) / 2) d92) x;have hx:gt d92 (P ++ x :: R ++ S) (P.length:Int)=x:=by
     have:P ++ x :: R ++ S=P ++ x :: (R ++ S):=by simp
     rw [this]; exact gt_app _ _ _ _ rfl
    rw [ltI_yes (by omega),half_in (by omega)];dsimp only [cond_true];rw [inB_nat (by simp only [List.length_append,List.length_cons]; omega),inB_nat (by simp only [List.length_append,List.length_cons]; omega),gt_nat,hx,hv1];dsimp only [cond_true,Option.bind_some];rw [hv2,addW1 (by have:big=140737488355328:=rfl; omega)];cases ltA ((P ++ x :: R ++ S).getD ((lo + hi) / 2) d92) x <;> rfl) (fun k h1 h2=>by
    show r165_0 (P ++ x :: R ++ S) (P.length:Int) () (k:Int) (k:Int)=_;unfold r165_0;rw [ltI_no (by omega)]; rfl)
  _ (P.length + 1) (P.length + 1 + R.length) rfl (Nat.le_refl _) (by omega) (Nat.le_refl _) (fun h h1 h2=>by omega) (fun h h1 h2=>by omega)
 obtain ⟨k,k1,k2,k3,k4,k5⟩:=h;obtain ⟨n,rfl⟩:∃ n,k=P.length + 1 + n:=⟨k - (P.length + 1),by omega⟩;refine ⟨n,by omega,fun y hy => ?_,fun y hy => ?_,k5⟩
 . obtain ⟨q,q1,q2,rfl⟩:=mem_takeD d92 hy;rw [<- hg q q2]; exact k3 _ (by omega) (by omega)
 . obtain ⟨q,q1,q2,rfl⟩:=mem_dropD d92 hy;rw [<- hg q q2]; exact k4 _ (by omega) (by omega)
theorem srchB (P S:List AcctT) (y:AcctT) (L:List AcctT) (hL:Srt ltA L) (hl:(P ++ L ++ y :: S).length<=big40):∃ n,n<=L.length/\(∀ x∈L.take n,ltA y x=false)/\(∀ x∈L.drop n,ltA y x=true) /\
 l165_4 (P ++ L ++ y :: S) ((P.length + L.length:Nat):Int) () (P.length:Int) ((P.length + L.length:Nat):Int)=some (.inl (P ++ L ++ y :: S,((P.length + L.length:Nat):Int),(),((P.length + n:Nat):Int),((P.length + n:Nat):Int),())):=by
 have hl':=hl;simp only [big40,List.length_append,List.length_cons] at hl';have hg:∀ q,q < L.length->(P ++ L ++ y :: S).getD (P.length + q) d92=L.getD q d92:=fun q hq=>getD_mid _ _ _ _ hq
 have h:=bsearch (fun (z:(List AcctT)×Int×Unit×Int×Int×Unit)=>r165_4 z.1 z.2.1 z.2.2.1 z.2.2.2.1 z.2.2.2.2.1) (fun lo hi=>(P ++ L ++ y :: S,((P.length + L.length:Nat):Int),(),(lo:Int),(hi:Int),())) (fun k=> .inl (P ++ L ++ y :: S,((P.length + L.length:Nat):Int),(),(k:Int),(k:Int),()))
  (fun h=> !ltA y ((P ++ L ++ y :: S).getD h d92)) P.length (P.length + L.length) (fun h h' h1 h2 h3 hf=>by
    obtain ⟨q,rfl⟩:∃ q,h=P.length + q:=⟨h - P.length,by omega⟩;obtain ⟨q',rfl⟩:∃ q',h'=P.length + q':=⟨h' - P.length,by omega⟩;rw [hg q (by omega),Bool.not_eq_true'] at hf;rw [hg q' (by omega),Bool.not_eq_true'];exact swoA.le_trans (srt_getD swoA _ hL (by omega) (by omega)) hf) (fun lo hi h1 h2 h3=>by
    show r165_4 (P ++ L ++ y :: S) ((P.length + L.length:Nat):Int) () (lo:Int) (hi:Int)=_;unfold r165_4;obtain ⟨v,hv1,hv2⟩:=cmpA y ((P ++ L ++ y :: S).getD ((lo + hi) / 2) d92);have hy:gt d92 (P ++ L ++ y :: S) ((P.length + L.length:Nat):Int)=y:=gt_app _ (P ++ L) _ _ (by simp);rw [ltI_yes (by omega),half_in (by omega)];dsimp only [cond_true];rw [inB_nat (by simp only [List.length_append,List.length_cons]; omega),inB_nat (by simp only [List.length_append,List.length_cons]; omega),gt_nat d92 _ ((lo + hi) / 2),hy,hv1];dsimp only [cond_true,Option.bind_some];rw [hv2,addW1 (by have:big=140737488355328:=rfl; omega)];cases ltA y ((P ++ L ++ y :: S).getD ((lo + hi) / 2) d92) <;> rfl) (fun k h1 h2=>by
    show r165_4 (P ++ L ++ y :: S) ((P.length + L.length:Nat):Int) () (k:Int) (k:Int)=_;unfold r165_4;rw [ltI_no (by omega)]; rfl)
  _ P.length (P.length + L.length) rfl (Nat.le_refl _) (by omega) (Nat.le_refl _) (fun h h1 h2=>by omega) (fun h h1 h2=>by omega)
 obtain ⟨k,k1,k2,k3,k4,k5⟩:=h;obtain ⟨n,rfl⟩:∃ n,k=P.length + n:=⟨k - P.length,by omega⟩;refine ⟨n,by omega,fun x hx => ?_,fun x hx => ?_,k5⟩
 . obtain ⟨q,q1,q2,rfl⟩:=mem_takeD d92 hx;have:=k3 (P.length + q) (by omega) (by omega);rw [hg q q2,Bool.not_eq_true'] at this;exact this
 . obtain ⟨q,q1,q2,rfl⟩:=mem_dropD d92 hx;have:=k4 (P.length + q) (by omega) (by omega);rw [hg q q2,Bool.not_eq_false'] at this;exact this
theorem srchC (P L R S:List AcctT) (hL:Srt ltA L) (hR:Srt ltA R) (mid lo0 hi0:Nat) (c1:P.length<=lo0) (c2:lo0<=hi0) (c3:hi0<=P.length + L.length) (c4:hi0<=mid) (c5:mid<=lo0 + R.length) (hm:mid<=big40) (b:Int) (hl:(P ++ L ++ R ++ S).length<=big40) :
 ∃ k,lo0<=k/\k<=hi0/\(∀ c,lo0<=c->c < k->ltA (R.getD (mid - 1 - c) d92) (L.getD (c - P.length) d92)=false)/\(∀ c,k<=c->c < hi0->ltA (R.getD (mid - 1 - c) d92) (L.getD (c - P.length) d92)=true) /\
 l165_8 (P ++ L ++ R ++ S) (P.length:Int) ((P.length + L.length:Nat):Int) b () (mid:Int) ((mid + (P.length + L.length):Nat):Int) (lo0:Int) (hi0:Int) ((mid + (P.length + L.length):Nat) - 1:Int) =
  some (.inl (P ++ L ++ R ++ S,(P.length:Int),((P.length + L.length:Nat):Int),b,(),(mid:Int),((mid + (P.length + L.length):Nat):Int),(k:Int),(k:Int),((mid + (P.length + L.length):Nat) - 1:Int),())):=by
 have hl':=hl;simp only [big40,List.length_append] at hl' hm;have hgL:∀ c,P.length<=c->c < P.length + L.length->(P ++ L ++ R ++ S).getD c d92=L.getD (c - P.length) d92:=fun c h1 h2=>by have:=getD_mid d92 P L (R ++ S) (q:=c - P.length) (by omega);rw [show P.length + (c - P.length)=c by omega] at this;rw [List.append_assoc (P ++ L)];exact this
 have hgR:∀ q,q < R.length->(P ++ L ++ R ++ S).getD (P.length + L.length + q) d92=R.getD q d92:=fun q hq=>by have:=getD_mid d92 (P ++ L) R S hq;rw [List.length_append] at this;exact this
 have h:=bsearch (fun (z:(List AcctT)×Int×Int×Int×Unit×Int×Int×Int×Int×Int×Unit)=>r165_8 z.1 z.2.1 z.2.2.1 z.2.2.2.1 z.2.2.2.2.1 z.2.2.2.2.2.1 z.2.2.2.2.2.2.1 z.2.2.2.2.2.2.2.1 z.2.2.2.2.2.2.2.2.1 z.2.2.2.2.2.2.2.2.2.1)
  (fun lo hi=>(P ++ L ++ R ++ S,(P.length:Int),((P.length + L.length:Nat):Int),b,(),(mid:Int),((mid + (P.length + L.length):Nat):Int),(lo:Int),(hi:Int),((mid + (P.length + L.length):Nat) - 1:Int),())) (fun k=> .inl (P ++ L ++ R ++ S,(P.length:Int),((P.length + L.length:Nat):Int),b,(),(mid:Int),((mid + (P.length + L.length):Nat):Int),(k:Int),(k:Int),((mid + (P.length + L.length):Nat) - 1:Int),()))
  (fun c=> !ltA (R.getD (mid - 1 - c) d92) (L.getD (c - P.length) d92)) lo0 hi0 (fun h h' h1 h2 h3 hf=>by
    rw [Bool.not_eq_true'] at hf ⊢;refine swoA.le_trans (b:=R.getD (mid - 1 - h) d92) (swoA.le_trans (srt_getD swoA _ hL (by omega) (by omega)) hf) (srt_getD swoA _ hR (by omega) (by omega))) (fun lo hi h1 h2 h3=>by
    show r165_8 (P ++ L ++ R ++ S) (P.length:Int) ((P.length + L.length:Nat):Int) b () (mid:Int) ((mid + (P.length + L.length):Nat):Int) (lo:Int) (hi:Int) ((mid + (P.length + L.length):Nat) - 1:Int)=_;unfold r165_8;have hc1:lo<=(lo + hi) / 2:=by omega
    have hc2:(lo + hi) / 2 < hi:=by omega
    rw [half_in (by omega)];generalize (lo + hi) / 2=c at hc1 hc2;obtain ⟨v,hv1,hv2⟩:=cmpA (R.getD (mid - 1 - c) d92) (L.getD (c - P.length) d92);have k1:subW .i64 ((mid + (P.length + L.length):Nat) - 1:Int) (c:Int)=((P.length + L.length + (mid - 1 - c):Nat):Int):=by rw [subW_in (by omega) (by omega)]; omega
    rw [ltI_yes (by omega)];dsimp only [cond_true];rw [k1,inB_nat (by simp only [List.length_append]; omega),inB_nat (by simp only [List.length_append]; omega),gt_nat,gt_nat,hgR _ (by omega),hgL _ (by omega) (by omega),hv1];dsimp only [cond_true,Option.bind_some];rw [hv2,addW1 (by have:big=140737488355328:=rfl; omega)];cases ltA (R.getD (mid - 1 - c) d92) (L.getD (c - P.length) d92) <;> rfl) (fun k h1 h2=>by
    show r165_8 (P ++ L ++ R ++ S) (P.length:Int) ((P.length + L.length:Nat):Int) b () (mid:Int) ((mid + (P.length + L.length):Nat):Int) (k:Int) (k:Int) ((mid + (P.length + L.length):Nat) - 1:Int)=_;unfold r165_8;rw [ltI_no (by omega)]; rfl)
  _ lo0 hi0 rfl (Nat.le_refl _) c2 (Nat.le_refl _) (fun h h1 h2=>by omega) (fun h h1 h2=>by omega)
 obtain ⟨k,k1,k2,k3,k4,k5⟩:=h;refine ⟨k,k1,k2,fun c h1 h2 => ?_,fun c h1 h2 => ?_,k5⟩
 . have:=k3 c h1 h2;rwa [Bool.not_eq_true'] at this
 . have:=k4 c h1 h2;rwa [Bool.not_eq_false'] at this
noncomputable def symTail (n:Nat) (t:List AcctT) (a m b mid k e:Int):Option ((((List AcctT)×Unit)×Unit)×Unit) :=
 Option.bind (cond (cond (ltI k m) (ltI m e) false) (g211 t k m e) (some (((t,()),()),()))) fun y2 =>
 Option.bind (cond (cond (ltI a k) (ltI k mid) false) (g165n n y2.1.1.1 a k mid) (some (((y2.1.1.1,()),()),()))) fun y3 =>
 Option.bind (cond (cond (ltI mid e) (ltI e b) false) (g165n n y3.1.1.1 mid e b) (some (((y3.1.1.1,()),()),()))) fun y4=>some ((y4.1.1,()),())
theorem sym_split (n:Nat) (t:List AcctT) (a m b:Int) (h1:eqI (subW .i64 m a) 1=false) (h2:eqI (subW .i64 b m) 1=false) (mid nn lo hi k:Int) (hmid:cvtW .i64 (shrW .u64 (cvtW .u64 (addW .i64 a b)) 1)=mid) (hnn:addW .i64 mid m=nn) (hlo:lo=cond (ltI mid m) (subW .i64 nn b) a) (hhi:hi=cond (ltI mid m) mid m)
 (hs:l165_8 t a m b () mid nn lo hi (subW .i64 nn 1)=some (.inl (t,a,m,b,(),mid,nn,k,k,subW .i64 nn 1,()))) :
 g165n (n + 1) t a m b=symTail n t a m b mid k (subW .i64 nn k):=by
 rw [g165n_succ,h1,h2,hmid];dsimp only [cond_false];rw [hnn];unfold symTail;cases hm:ltI mid m with
 | true =>
   rw [hm] at hlo hhi;dsimp only [cond_true] at hlo hhi ⊢;rw [<- hlo,<- hhi]
   conv=>lhs; rw [show l165_8 t a m b () hi nn lo hi (subW .i64 nn 1)=some (.inl (t,a,m,b,(),hi,nn,k,k,subW .i64 nn 1,())) by rw [hhi] at hs ⊢; exact hs]
   dsimp only [Option.bind_some,Sum.elim_inl];rw [hhi];cases (cond (ltI k m) (ltI m (subW .i64 nn k)) false) <;> cases (cond (ltI a k) (ltI k mid) false) <;> cases (cond (ltI mid (subW .i64 nn k)) (ltI (subW .i64 nn k) b) false) <;> rfl
 | false => rw [hm] at hlo hhi;dsimp only [cond_false] at hlo hhi ⊢;subst hlo; subst hhi;rw [hs];dsimp only [Option.bind_some,Sum.elim_inl];cases (cond (ltI k hi) (ltI hi (subW .i64 nn k)) false) <;> cases (cond (ltI lo k) (ltI k mid) false) <;> cases (cond (ltI mid (subW .i64 nn k)) (ltI (subW .i64 nn k) b) false) <;> rfl
theorem asymA {a b:AcctT} (h:ltA a b=true):ltA b a=false:=by
 cases hb:ltA b a with
 | false=>rfl
 | true => have:=swoA.trans _ _ _ h hb;rw [swoA.irr] at this;simp at this
theorem sym_g:∀ (n:Nat) (P L R S:List AcctT),L.length + R.length<=n->0 < L.length->0 < R.length->Srt ltA L->Srt ltA R->(P ++ L ++ R ++ S).length<=big40 ->
 ∃ M,Srt ltA M/\Stb ltA (L ++ R) M/\g165n n (P ++ L ++ R ++ S) (P.length:Int) ((P.length + L.length:Nat):Int) ((P.length + L.length + R.length:Nat):Int)=some (((P ++ M ++ S,()),()),()):=by
 intro n;induction n with
 | zero=>intro P L R S h1 h2 h3; omega
 | succ n ih =>
 intro P L R S hn hL0 hR0 hL hR hl;have hl':=hl;simp only [big40,List.length_append] at hl';have km:subW .i64 ((P.length + L.length:Nat):Int) (P.length:Int)=(L.length:Int):=by rw [subW_in (by omega) (by omega)]; omega
 have kb:subW .i64 ((P.length + L.length + R.length:Nat):Int) ((P.length + L.length:Nat):Int)=(R.length:Int):=by rw [subW_in (by omega) (by omega)]; omega
 by_cases hA:L.length=1
 . obtain ⟨x,rfl⟩:∃ x,L=[x]:=List.length_eq_one_iff.1 hA;have e0:P ++ [x] ++ R ++ S=P ++ x :: R ++ S:=by simp
   obtain ⟨k,k1,k2,k3,k4⟩:=srchA P S x R hR (by rw [<- e0]; exact hl);have hs:=hR;rw [<- List.take_append_drop k R] at hs;have hs:=Srt_append.1 hs;obtain ⟨kk,hk⟩:=mvR_loop P (R.drop k ++ S) x (P.length + 1 + k) (R.take k).length [] (R.take k) rfl (by rw [List.length_take]; simp only [List.length_nil]; omega) (by simp only [big40,List.length_append,List.length_cons,List.length_take,List.length_drop,List.length_nil] at hl' ⊢; omega);have e1:P ++ ([] ++ x :: R.take k) ++ (R.drop k ++ S)=P ++ x :: R ++ S:=by have:R.take k ++ R.drop k=R:=List.take_append_drop k R;simp only [List.nil_append,List.append_assoc,List.cons_append];rw [<- List.append_assoc (R.take k),this]
   rw [e1] at hk;refine ⟨R.take k ++ [x] ++ R.drop k,?_,?_,?_⟩
   . rw [List.append_assoc];refine Srt_append.2 ⟨hs.1,List.pairwise_cons.2 ⟨fun y hy=>k3 y hy,hs.2.1⟩,fun y hy z hz => ?_⟩;rcases List.mem_cons.1 hz with rfl | hz
     . exact asymA (k2 y hy)
     . exact hs.2.2 y hy z hz
   . have h1:Stb ltA ([x] ++ R.take k) (R.take k ++ [x]):=Stb.swap swoA fun z hz y hy=>by
      simp only [List.mem_singleton] at hz; subst hz; exact k2 y hy
     have h2:=h1.append (Stb.refl (R.drop k));rw [List.append_assoc,List.take_append_drop] at h2;exact h2
   . rw [g165n_succ,km,hA];have:eqI ((1:Nat):Int) 1=true:=rfl;rw [this];dsimp only [cond_true];rw [e0,k4];dsimp only [Option.bind_some,Sum.elim_inl];simp only [List.length_nil,Nat.add_zero] at hk;rw [hk];dsimp only [Option.bind_some,Sum.elim_inl];simp
 by_cases hB:R.length=1
 . obtain ⟨y,rfl⟩:∃ y,R=[y]:=List.length_eq_one_iff.1 hB;have e0:P ++ L ++ [y] ++ S=P ++ L ++ y :: S:=by simp
   obtain ⟨k,k1,k2,k3,k4⟩:=srchB P S y L hL (by rw [<- e0]; exact hl);have hs:=hL;rw [<- List.take_append_drop k L] at hs;have hs:=Srt_append.1 hs;obtain ⟨kk,hk⟩:=mvL_loop (P ++ L.take k) S y (L.drop k).length (L.drop k) [] rfl (by simp only [big40,List.length_append,List.length_cons,List.length_take,List.length_drop,List.length_nil] at hl' ⊢; omega);have e1:P ++ L.take k ++ (L.drop k ++ [y]) ++ S=P ++ L ++ y :: S:=by have:L.take k ++ L.drop k=L:=List.take_append_drop k L;simp only [List.append_assoc,List.cons_append,List.nil_append];rw [<- List.append_assoc (L.take k),this]
   have e2:(((P ++ L.take k).length:Nat):Int)=((P.length + k:Nat):Int):=by simp only [List.length_append,List.length_take]; omega
   have e3:(((P ++ L.take k).length + (L.drop k).length:Nat):Int)=((P.length + L.length:Nat):Int):=by simp only [List.length_append,List.length_take,List.length_drop]; omega
   rw [e1,e2,e3] at hk;refine ⟨L.take k ++ (y :: L.drop k),?_,?_,?_⟩
   . refine Srt_append.2 ⟨hs.1,List.pairwise_cons.2 ⟨fun x hx=>asymA (k3 x hx),hs.2.1⟩,fun x hx z hz => ?_⟩;rcases List.mem_cons.1 hz with rfl | hz
     . exact k2 x hx
     . exact hs.2.2 x hx z hz
   . have h1:Stb ltA (L.drop k ++ [y]) ([y] ++ L.drop k):=Stb.swap swoA fun z hz x hx=>by
      simp only [List.mem_singleton] at hx; subst hx; exact k3 z hz
     have h2:=(Stb.refl (L.take k)).append h1;rw [<- List.append_assoc,List.take_append_drop] at h2;exact h2
   . have hA':eqI (L.length:Int) 1=false:=by
      rw [Bool.eq_false_iff]; intro hh; rw [eqI_iff] at hh; omega
     rw [g165n_succ,km,kb,hA',hB];have:eqI ((1:Nat):Int) 1=true:=rfl;rw [this];dsimp only [cond_true,cond_false];rw [e0,k4];dsimp only [Option.bind_some,Sum.elim_inl];rw [hk];dsimp only [Option.bind_some,Sum.elim_inl];simp
 -- the long case
 obtain ⟨mid,hmidN⟩:∃ mid,mid=(P.length + (P.length + L.length + R.length)) / 2:=⟨_,rfl⟩;obtain ⟨lo0,hlo0⟩:∃ lo0,lo0=if mid < P.length + L.length then mid - R.length else P.length:=⟨_,rfl⟩
 obtain ⟨hi0,hhi0⟩:∃ hi0,hi0=if mid < P.length + L.length then mid else P.length + L.length:=⟨_,rfl⟩
 have c1:P.length<=lo0:=by rw [hlo0]; split <;> omega
 have c2:lo0<=hi0:=by rw [hlo0,hhi0]; split <;> omega
 have c3:hi0<=P.length + L.length:=by rw [hhi0]; split <;> omega
 have c4:hi0<=mid:=by rw [hhi0]; split <;> omega
 have c5:mid<=lo0 + R.length:=by rw [hlo0]; split <;> omega
 obtain ⟨k,k1,k2,k3,k4,k5⟩:=srchC P L R S hL hR mid lo0 hi0 c1 c2 c3 c4 c5 (by show mid<=1099511627776; omega) ((P.length + L.length + R.length:Nat):Int) hl;have hmid:=half_in (i:=P.length) (j:=P.length + L.length + R.length) (by omega);rw [<- hmidN] at hmid;have hnn:addW .i64 (mid:Int) ((P.length + L.length:Nat):Int)=((mid + (P.length + L.length):Nat):Int):=by rw [addW_in (by omega) (by omega)]; omega
 have hsub1:subW .i64 ((mid + (P.length + L.length):Nat):Int) 1=((mid + (P.length + L.length):Nat) - 1:Int):=by rw [subW_in (by omega) (by omega)]
 have hA':eqI (subW .i64 ((P.length + L.length:Nat):Int) (P.length:Int)) 1=false:=by rw [km,Bool.eq_false_iff]; intro hh; rw [eqI_iff] at hh; omega
 have hB':eqI (subW .i64 ((P.length + L.length + R.length:Nat):Int) ((P.length + L.length:Nat):Int)) 1=false:=by rw [kb,Bool.eq_false_iff]; intro hh; rw [eqI_iff] at hh; omega
 have hlo:(lo0:Int)=cond (ltI (mid:Int) ((P.length + L.length:Nat):Int)) (subW .i64 ((mid + (P.length + L.length):Nat):Int) ((P.length + L.length + R.length:Nat):Int)) (P.length:Int):=by
  rw [hlo0];by_cases hm:mid < P.length + L.length
  . rw [if_pos hm,ltI_yes (by omega),cond_true,subW_in (by omega) (by omega)]; omega
  . rw [if_neg hm,ltI_no (by omega),cond_false]
 have hhi:(hi0:Int)=cond (ltI (mid:Int) ((P.length + L.length:Nat):Int)) (mid:Int) ((P.length + L.length:Nat):Int):=by
  rw [hhi0];by_cases hm:mid < P.length + L.length
  . rw [if_pos hm,ltI_yes (by omega),cond_true]
  . rw [if_neg hm,ltI_no (by omega),cond_false]
 have hsp:=sym_split n (P ++ L ++ R ++ S) (P.length:Int) ((P.length + L.length:Nat):Int) ((P.length + L.length + R.length:Nat):Int) hA' hB' (mid:Int) ((mid + (P.length + L.length):Nat):Int) (lo0:Int) (hi0:Int) (k:Int) hmid hnn hlo hhi (by rw [hsub1]; exact k5);have he:subW .i64 ((mid + (P.length + L.length):Nat):Int) (k:Int)=((P.length + L.length + (mid - k):Nat):Int):=by rw [subW_in (by omega) (by omega)]; omega
 rw [he] at hsp
 -- the parts
 obtain ⟨L1,L2,hLe,hL1,hL2⟩:∃ L1 L2,L=L1 ++ L2/\L1=L.take (k - P.length)/\L2=L.drop (k - P.length):=⟨_,_,(List.take_append_drop _ _).symm,rfl,rfl⟩;obtain ⟨R1,R2,hRe,hR1,hR2⟩:∃ R1 R2,R=R1 ++ R2/\R1=R.take (mid - k)/\R2=R.drop (mid - k):=⟨_,_,(List.take_append_drop _ _).symm,rfl,rfl⟩;have n1:L1.length=k - P.length:=by rw [hL1,List.length_take]; omega
 have n2:L2.length=P.length + L.length - k:=by rw [hL2,List.length_drop]; omega
 have n3:R1.length=mid - k:=by rw [hR1,List.length_take]; omega
 have n4:R2.length=R.length - (mid - k):=by rw [hR2,List.length_drop]
 have sL:=hL;rw [hLe] at sL;have sL:=Srt_append.1 sL;have sR:=hR;rw [hRe] at sR;have sR:=Srt_append.1 sR;have xRL:∀ x∈R1,∀ y∈L2,ltA x y=true:=fun x hx y hy=>by
  rw [hR1] at hx;rw [hL2] at hy;obtain ⟨q,q1,q2,rfl⟩:=mem_takeD d92 hx;obtain ⟨q',p1,p2,rfl⟩:=mem_dropD d92 hy;have hk:k < hi0:=by
   rcases Nat.lt_or_ge k hi0 with hh | hh
   . exact hh
   . exfalso;rw [hhi0] at hh;split at hh <;> omega
  have h0:=k4 k (Nat.le_refl _) hk;have h1:=srt_getD swoA d92 hR (q':=q) (q:=mid - 1 - k) (by omega) (by omega);have h2:=srt_getD swoA d92 hL (q':=k - P.length) (q:=q') (by omega) (by omega);rcases swoA.neg _ (R.getD q d92) _ h0 with h3 | h3
  . rw [h1] at h3; simp at h3
  . rcases swoA.neg _ (L.getD q' d92) _ h3 with h4 | h4
    . exact h4
    . rw [h2] at h4; simp at h4
 have xLR:∀ x∈L1,∀ y∈R2,ltA y x=false:=fun x hx y hy=>by
  rw [hL1] at hx;rw [hR2] at hy;obtain ⟨q,q1,q2,rfl⟩:=mem_takeD d92 hx;obtain ⟨q',p1,p2,rfl⟩:=mem_dropD d92 hy;have hk:lo0 < k:=by
   rcases Nat.lt_or_ge lo0 k with hh | hh
   . exact hh
   . exfalso;rw [hlo0] at hh k1;split at hh <;> omega
  have h0:=k3 (k - 1) (by omega) (by omega);rw [show mid - 1 - (k - 1)=mid - k by omega,show k - 1 - P.length=k - P.length - 1 by omega] at h0;have h1:=srt_getD swoA d92 hL (q':=q) (q:=k - P.length - 1) (by omega) (by omega);have h2:=srt_getD swoA d92 hR (q':=mid - k) (q:=q') (by omega) (by omega);exact swoA.le_trans (swoA.le_trans h1 h0) h2
 -- the rotation
 have st1:cond (cond (ltI (k:Int) ((P.length + L.length:Nat):Int)) (ltI ((P.length + L.length:Nat):Int) ((P.length + L.length + (mid - k):Nat):Int)) false) (g211 (P ++ L ++ R ++ S) (k:Int) ((P.length + L.length:Nat):Int) ((P.length + L.length + (mid - k):Nat):Int)) (some (((P ++ L ++ R ++ S,()),()),()))=some (((P ++ L1 ++ R1 ++ (L2 ++ R2 ++ S),()),()),()):=by
  by_cases z1:k < P.length + L.length
  . by_cases z2:0 < mid - k
    . rw [ltI_yes (by omega),ltI_yes (by omega)];dsimp only [cond_true];have h:=rot_g (P ++ L1) L2 R1 (R2 ++ S) (by omega) (by omega) (by simp only [big40,List.length_append]; omega);have e1:P ++ L1 ++ L2 ++ R1 ++ (R2 ++ S)=P ++ L ++ R ++ S:=by rw [hLe,hRe]; simp
      have e2:(((P ++ L1).length:Nat):Int)=(k:Int):=by simp only [List.length_append]; omega
      have e3:(((P ++ L1).length + L2.length:Nat):Int)=((P.length + L.length:Nat):Int):=by simp only [List.length_append]; omega
      have e4:(((P ++ L1).length + L2.length + R1.length:Nat):Int)=((P.length + L.length + (mid - k):Nat):Int):=by simp only [List.length_append]; omega
      rw [e1,e2,e3,e4] at h;rw [h];simp
    . have hz:R1=[]:=List.length_eq_zero_iff.1 (by omega);rw [ltI_yes (by omega),ltI_no (by omega)];dsimp only [cond_true,cond_false];rw [hLe,hRe,hz];simp
  . have hz:L2=[]:=List.length_eq_zero_iff.1 (by omega);rw [ltI_no (by omega)];dsimp only [cond_false];rw [hLe,hRe,hz];simp
 -- the left half
 obtain ⟨M1,s1,t1,u1⟩:∃ M1,Srt ltA M1/\Stb ltA (L1 ++ R1) M1/\cond (cond (ltI (P.length:Int) (k:Int)) (ltI (k:Int) (mid:Int)) false) (g165n n (P ++ L1 ++ R1 ++ (L2 ++ R2 ++ S)) (P.length:Int) (k:Int) (mid:Int)) (some (((P ++ L1 ++ R1 ++ (L2 ++ R2 ++ S),()),()),()))=some (((P ++ M1 ++ (L2 ++ R2 ++ S),()),()),()):=by
  by_cases z1:P.length < k
  . by_cases z2:k < mid
    . obtain ⟨M,m1,m2,m3⟩:=ih P L1 R1 (L2 ++ R2 ++ S) (by omega) (by omega) (by omega) sL.1 sR.1 (by simp only [big40,List.length_append]; omega);refine ⟨M,m1,m2,?_⟩;rw [ltI_yes (by omega),ltI_yes (by omega)];dsimp only [cond_true];rw [show ((P.length + L1.length:Nat):Int)=(k:Int) by omega,show ((P.length + L1.length + R1.length:Nat):Int)=(mid:Int) by omega] at m3;exact m3
    . have hz:R1=[]:=List.length_eq_zero_iff.1 (by omega);refine ⟨L1,sL.1,by rw [hz,List.append_nil]; exact Stb.refl _,?_⟩;rw [ltI_yes (by omega),ltI_no (by omega),hz];simp
  . have hz:L1=[]:=List.length_eq_zero_iff.1 (by omega);refine ⟨R1,sR.1,by rw [hz]; exact Stb.refl _,?_⟩;rw [ltI_no (by omega),hz];simp
 have nM1:M1.length=L1.length + R1.length:=by have:=t1.1; rw [List.length_append] at this; omega
 -- the right half
 obtain ⟨M2,s2,t2,u2⟩:∃ M2,Srt ltA M2/\Stb ltA (L2 ++ R2) M2/\cond (cond (ltI (mid:Int) ((P.length + L.length + (mid - k):Nat):Int)) (ltI ((P.length + L.length + (mid - k):Nat):Int) ((P.length + L.length + R.length:Nat):Int)) false) (g165n n (P ++ M1 ++ (L2 ++ R2 ++ S)) (mid:Int) ((P.length + L.length + (mid - k):Nat):Int) ((P.length + L.length + R.length:Nat):Int)) (some (((P ++ M1 ++ (L2 ++ R2 ++ S),()),()),()))=some (((P ++ (M1 ++ M2) ++ S,()),()),()):=by
  by_cases z1:0 < L2.length
  . by_cases z2:0 < R2.length
    . obtain ⟨M,m1,m2,m3⟩:=ih (P ++ M1) L2 R2 S (by omega) z1 z2 sL.2.1 sR.2.1 (by simp only [big40,List.length_append]; omega);refine ⟨M,m1,m2,?_⟩;rw [ltI_yes (by omega),ltI_yes (by omega)];dsimp only [cond_true];rw [show (((P ++ M1).length:Nat):Int)=(mid:Int) by simp only [List.length_append]; omega,show (((P ++ M1).length + L2.length:Nat):Int)=((P.length + L.length + (mid - k):Nat):Int) by simp only [List.length_append]; omega,show (((P ++ M1).length + L2.length + R2.length:Nat):Int)=((P.length + L.length + R.length:Nat):Int) by simp only [List.length_append]; omega] at m3;have e1:P ++ M1 ++ L2 ++ R2 ++ S=P ++ M1 ++ (L2 ++ R2 ++ S):=by simp
      rw [e1] at m3;rw [m3];simp
    . have hz:R2=[]:=List.length_eq_zero_iff.1 (by omega);refine ⟨L2,sL.2.1,by rw [hz,List.append_nil]; exact Stb.refl _,?_⟩;rw [ltI_no (a:=((P.length + L.length + (mid - k):Nat):Int)) (by omega),hz];cases ltI (mid:Int) ((P.length + L.length + (mid - k):Nat):Int) <;> simp
  . have hz:L2=[]:=List.length_eq_zero_iff.1 (by omega);refine ⟨R2,sR.2.1,by rw [hz]; exact Stb.refl _,?_⟩;rw [ltI_no (a:=(mid:Int)) (by omega),hz];simp
 refine ⟨M1 ++ M2,Srt_append.2 ⟨s1,s2,fun x hx y hy => ?_⟩,?_,?_⟩
 . rcases List.mem_append.1 ((t1.mem swoA).2 hx) with hx | hx
   . rcases List.mem_append.1 ((t2.mem swoA).2 hy) with hy | hy
     . exact sL.2.2 x hx y hy
     . exact xLR x hx y hy
   . rcases List.mem_append.1 ((t2.mem swoA).2 hy) with hy | hy
     . exact asymA (xRL x hx y hy)
     . exact sR.2.2 x hx y hy
 . have h1:Stb ltA (L2 ++ R1) (R1 ++ L2):=Stb.swap swoA fun y hy x hx=>xRL x hx y hy
   have h2:=((Stb.refl L1).append h1).append (Stb.refl R2);have h3:=t1.append t2;have e1:L ++ R=L1 ++ (L2 ++ R1) ++ R2:=by rw [hLe,hRe]; simp
   have e2:L1 ++ (R1 ++ L2) ++ R2=L1 ++ R1 ++ (L2 ++ R2):=by simp
   rw [e1];rw [e2] at h2;exact h2.trans h3
 . rw [hsp];unfold symTail;rw [st1];dsimp only [Option.bind_some];rw [u1];dsimp only [Option.bind_some];rw [u2];rfl
theorem merge_g (P L R S:List AcctT) (h2:0 < L.length) (h3:0 < R.length) (hL:Srt ltA L) (hR:Srt ltA R) (hl:(P ++ L ++ R ++ S).length<=big40) :
 ∃ M,Srt ltA M/\Stb ltA (L ++ R) M/\g165 (P ++ L ++ R ++ S) (P.length:Int) ((P.length + L.length:Nat):Int) ((P.length + L.length + R.length:Nat):Int)=some (((P ++ M ++ S,()),()),()):=by
 obtain ⟨M,m1,m2,m3⟩:=sym_g (L.length + R.length) P L R S (Nat.le_refl _) h2 h3 hL hR hl;refine ⟨M,m1,m2,fixG_eq (n:=L.length + R.length) fun m hm => ?_⟩;obtain ⟨M',p1,p2,p3⟩:=sym_g m P L R S hm h2 h3 hL hR hl;rw [p3,srt_uniq swoA p1 m1 (p2.symm.trans m2)]
def Chk (k:Nat) (cs:List (List AcctT)):Prop:=∀ c∈cs,c.length=k/\Srt ltA c
theorem chk_len {k:Nat}:∀ {cs:List (List AcctT)},Chk k cs->cs.flatten.length=cs.length * k
 | [],_=>by simp
 | c :: cs,h=>by
   have h1:=(h c (List.mem_cons_self ..)).1;have h2:=chk_len (cs:=cs) fun x hx=>h x (List.mem_cons_of_mem _ hx)
   rw [List.flatten_cons,List.length_append,h1,h2,List.length_cons,Nat.add_mul,Nat.one_mul,Nat.add_comm]
theorem blk1_loop (N:Nat):∀ (n:Nat) (P R:List AcctT),R.length=n->(P ++ R).length=N->N<=4194304 ->
 ∃ (cs:List (List AcctT)) (T:List AcctT),Chk 20 cs/\T.length < 20/\Stb ltA R (cs.flatten ++ T) /\
  l123_0 (P ++ R) (N:Int) () 20 (P.length:Int) ((P.length + 20:Nat):Int)=some (.inl (P ++ cs.flatten ++ T,(N:Int),(),20,((N - T.length:Nat):Int),((N - T.length + 20:Nat):Int),())):=by
 intro n;induction n using Nat.strongRecOn with
 | _ n ih =>
 intro P R hn hN hB;have hN':=hN;rw [List.length_append] at hN';by_cases h:R.length < 20
 . refine ⟨[],R,fun c hc=>by simp at hc,h,Stb.refl _,loopF_end _ ?_⟩;show r123_0 (P ++ R) (N:Int) () 20 (P.length:Int) ((P.length + 20:Nat):Int)=_;unfold r123_0;have:leI ((P.length + 20:Nat):Int) (N:Int)=false:=decide_eq_false (by omega);rw [this];have e:N - R.length=P.length:=by omega
   rw [e];simp
 . obtain ⟨L,S,rfl,hL⟩:∃ L S,R=L ++ S/\L.length=20:=⟨R.take 20,R.drop 20,(List.take_append_drop _ _).symm,by rw [List.length_take]; omega⟩;simp only [List.length_append] at hN' hn h;obtain ⟨M,m1,m2,m3⟩:=ins_g P L S (by simp only [big40,List.length_append]; omega);have hM:M.length=20:=by rw [<- m2.1]; exact hL
   obtain ⟨cs,T,q1,q2,q3,q4⟩:=ih S.length (by omega) (P ++ M) S rfl (by simp only [List.length_append]; omega) hB;refine ⟨M :: cs,T,fun c hc => ?_,q2,?_,?_⟩
   . rcases List.mem_cons.1 hc with rfl | hc
     . exact ⟨hM,m1⟩
     . exact q1 c hc
   . have:=m2.append q3;rw [List.flatten_cons,List.append_assoc];exact this
   . have e1:P ++ M ++ cs.flatten ++ T=P ++ (M :: cs).flatten ++ T:=by simp
     rw [e1] at q4;refine loopF_step _ ?_ q4;show r123_0 (P ++ (L ++ S)) (N:Int) () 20 (P.length:Int) ((P.length + 20:Nat):Int)=_;unfold r123_0;have k1:leI ((P.length + 20:Nat):Int) (N:Int)=true:=decide_eq_true (by omega);have e2:P ++ (L ++ S)=P ++ L ++ S:=by simp
     rw [hL] at m3;rw [k1,e2,m3];dsimp only [cond_true,Option.bind_some];have k2:addW .i64 ((P.length + 20:Nat):Int) 20=(((P ++ M).length + 20:Nat):Int):=by rw [addW_in (by omega) (by omega)]; simp only [List.length_append]; omega
     have k3:((P.length + 20:Nat):Int)=((P ++ M).length:Int):=by simp only [List.length_append]; omega
     rw [k2,k3]
theorem mul2 {k:Nat} (h:k<=1073741824):mulW .i64 2 (k:Int)=((2 * k:Nat):Int)/\mulW .i64 (k:Int) 2=((2 * k:Nat):Int):=by unfold mulW;rw [IntWalk.i64_in _ (by omega),IntWalk.i64_in _ (by omega)];omega
theorem blk2_loop (N k:Nat) (hk:0 < k) (hkB:k<=1073741824) (hB:N<=4194304) (T:List AcctT) (hT:T.length < k):∀ (n:Nat) (cs:List (List AcctT)) (P:List AcctT),cs.length=n->Chk k cs->(P ++ cs.flatten ++ T).length=N ->
 ∃ (ds c2:List (List AcctT)) (b':Int),Chk (2 * k) ds/\Chk k c2/\c2.length<=1/\Stb ltA cs.flatten (ds.flatten ++ c2.flatten) /\
  l123_4 (P ++ cs.flatten ++ T) (N:Int) () (k:Int) (P.length:Int) ((P.length + 2 * k:Nat):Int)=some (.inl (P ++ ds.flatten ++ c2.flatten ++ T,(N:Int),(),(k:Int),((P ++ ds.flatten).length:Int),b',())):=by
 intro n;induction n using Nat.strongRecOn with
 | _ n ih =>
 intro cs P hn hc hN;have hN':=hN;simp only [List.length_append] at hN'
 have stop:cs.length<=1->∃ (ds c2:List (List AcctT)) (b':Int),Chk (2 * k) ds/\Chk k c2/\c2.length<=1/\Stb ltA cs.flatten (ds.flatten ++ c2.flatten) /\
  l123_4 (P ++ cs.flatten ++ T) (N:Int) () (k:Int) (P.length:Int) ((P.length + 2 * k:Nat):Int)=some (.inl (P ++ ds.flatten ++ c2.flatten ++ T,(N:Int),(),(k:Int),((P ++ ds.flatten).length:Int),b',())):=fun h1=>by
  refine ⟨[],cs,((P.length + 2 * k:Nat):Int),fun c hc=>by simp at hc,hc,h1,by simpa using Stb.refl _,loopF_end _ ?_⟩;show r123_4 (P ++ cs.flatten ++ T) (N:Int) () (k:Int) (P.length:Int) ((P.length + 2 * k:Nat):Int)=_;unfold r123_4;have hf:=chk_len hc;have:cs.length * k<=k:=by have:=Nat.mul_le_mul_right k h1;omega
  have:leI ((P.length + 2 * k:Nat):Int) (N:Int)=false:=decide_eq_false (by omega);rw [this];simp
 cases cs with
 | nil=>exact stop (by simp)
 | cons c1 cs =>
 cases cs with
 | nil=>exact stop (by simp)
 | cons c2 cs =>
   have h1:=hc c1 (by simp);have h2:=hc c2 (by simp);have h3:Chk k cs:=fun c h=>hc c (by simp [h])
   simp only [List.flatten_cons,List.length_append] at hN';obtain ⟨M,m1,m2,m3⟩:=merge_g P c1 c2 (cs.flatten ++ T) (by omega) (by omega) h1.2 h2.2 (by simp only [big40,List.length_append]; omega);have hM:M.length=2 * k:=by have:=m2.1; rw [List.length_append] at this; omega
   obtain ⟨ds,e2,b',q1,q2,q3,q4,q5⟩:=ih cs.length (by simp only [List.length_cons] at hn; omega) cs (P ++ M) rfl h3 (by simp only [List.length_append]; omega);refine ⟨M :: ds,e2,b',fun d hd => ?_,q2,q3,?_,?_⟩
   . rcases List.mem_cons.1 hd with rfl | hd
     . exact ⟨hM,m1⟩
     . exact q1 d hd
   . have:=m2.append q4;simpa using this
   . have e3:P ++ M ++ ds.flatten ++ e2.flatten ++ T=P ++ (M :: ds).flatten ++ e2.flatten ++ T:=by simp
     have e4:P ++ M ++ ds.flatten=P ++ (M :: ds).flatten:=by simp
     rw [e3,e4] at q5;refine loopF_step _ ?_ q5;show r123_4 (P ++ (c1 :: c2 :: cs).flatten ++ T) (N:Int) () (k:Int) (P.length:Int) ((P.length + 2 * k:Nat):Int)=_;unfold r123_4;have k1:leI ((P.length + 2 * k:Nat):Int) (N:Int)=true:=decide_eq_true (by omega);have e5:P ++ (c1 :: c2 :: cs).flatten ++ T=P ++ c1 ++ c2 ++ (cs.flatten ++ T):=by simp
     have k2:addW .i64 (P.length:Int) (k:Int)=((P.length + c1.length:Nat):Int):=by rw [addW_in (by omega) (by omega)]; omega
     have k3:((P.length + 2 * k:Nat):Int)=((P.length + c1.length + c2.length:Nat):Int):=by omega
     rw [k1,(mul2 hkB).1,k2,k3,e5,m3];dsimp only [cond_true,Option.bind_some];have k4:addW .i64 ((P.length + c1.length + c2.length:Nat):Int) ((2 * k:Nat):Int)=(((P ++ M).length + 2 * k:Nat):Int):=by rw [addW_in (by omega) (by omega)]; simp only [List.length_append]; omega
     have k5:((P.length + c1.length + c2.length:Nat):Int)=((P ++ M).length:Int):=by simp only [List.length_append]; omega
     rw [k4,k5];simp
theorem blk3_loop (N:Nat) (hB:N<=4194304):∀ (f k:Nat) (cs:List (List AcctT)) (T:List AcctT),N - k<=f->0 < k->k<=8388608->Chk k cs->T.length < k->Srt ltA T->(cs.flatten ++ T).length=N ->
 ∃ (M:List AcctT) (k':Int),Srt ltA M/\Stb ltA (cs.flatten ++ T) M/\l123_2 (cs.flatten ++ T) (N:Int) () (k:Int)=some (.inl (M,(N:Int),(),k',())):=by
 intro f;induction f using Nat.strongRecOn with
 | _ f ih =>
 intro k cs T hf hk hkB hc hT hTs hN;have hN':=hN;rw [List.length_append,chk_len hc] at hN';by_cases h:k < N
 . obtain ⟨ds,c2,b',q1,q2,q3,q4,q5⟩:=blk2_loop N k hk (by omega) hB T hT cs.length cs [] rfl hc (by simpa using hN);simp only [List.nil_append,List.length_nil,Nat.zero_add] at q5;have q5':l123_4 (cs.flatten ++ T) (N:Int) () (k:Int) 0 ((2 * k:Nat):Int)=_:=q5;have hlen:ds.flatten.length + c2.flatten.length + T.length=N:=by
    have:=q4.1;rw [List.length_append] at this;rw [List.length_append] at hN;omega
   -- the rest behind the pairs
   obtain ⟨T',t1,t2,t3,t4⟩:∃ T',T'.length < 2 * k/\Srt ltA T'/\Stb ltA (c2.flatten ++ T) T' /\
    r123_2 (cs.flatten ++ T) (N:Int) () (k:Int)=some (.inl (ds.flatten ++ T',(N:Int),(),((2 * k:Nat):Int),())):=by
    unfold r123_2;rw [ltI_yes (by omega),(mul2 (by omega)).1,q5'];dsimp only [cond_true,Option.bind_some,Sum.elim_inl];rw [(mul2 (k:=k) (by omega)).2];have k2:addW .i64 ((ds.flatten.length:Nat):Int) (k:Int)=((ds.flatten.length + k:Nat):Int):=by rw [addW_in (by omega) (by omega)]; omega
    rw [k2];cases c2 with
    | nil => simp only [List.flatten_nil,List.length_nil,Nat.add_zero] at hlen;refine ⟨T,by omega,hTs,by simpa using Stb.refl _,?_⟩;rw [ltI_no (by omega)];simp
    | cons c c2 =>
      have:c2=[]:=List.length_eq_zero_iff.1 (by simp only [List.length_cons] at q3; omega);subst this;have hcc:=q2 c (by simp);simp only [List.flatten_cons,List.flatten_nil,List.append_nil] at hlen ⊢;by_cases hz:0 < T.length
      . obtain ⟨M,m1,m2,m3⟩:=merge_g ds.flatten c T [] (by omega) hz hcc.2 hTs (by simp only [big40,List.length_append,List.length_nil]; omega);refine ⟨M,by have:=m2.1; rw [List.length_append] at this; omega,m1,m2,?_⟩;rw [hcc.1] at m3;rw [show ((ds.flatten.length + k + T.length:Nat):Int)=(N:Int) by omega,List.append_nil,List.append_nil] at m3;rw [ltI_yes (by omega),m3];simp
      . have:T=[]:=List.length_eq_zero_iff.1 (by omega);subst this;refine ⟨c,by omega,hcc.2,by simpa using Stb.refl _,?_⟩;rw [ltI_no (by simp only [List.length_nil] at hlen; omega)];simp
   obtain ⟨M,k',m1,m2,m3⟩:=ih (N - 2 * k) (by omega) (2 * k) ds T' (Nat.le_refl _) (by omega) (by omega) q1 t1 t2 (by have:=t3.1; rw [List.length_append] at this ⊢; omega);refine ⟨M,k',m1,?_,loopF_step _ t4 m3⟩;have h1:=q4.append (Stb.refl T);have h2:=(Stb.refl ds.flatten).append t3;rw [List.append_assoc] at h1;exact (h1.trans h2).trans m2
 . refine ⟨cs.flatten ++ T,(k:Int),?_,Stb.refl _,loopF_end _ ?_⟩
   . cases cs with
     | nil=>simpa using hTs
     | cons c cs =>
       simp only [List.length_cons,Nat.add_mul,Nat.one_mul] at hN';have h0:T=[]:=List.length_eq_zero_iff.1 (by omega);have h1:cs=[]:=by
        cases cs with
        | nil=>rfl
        | cons d cs=>simp only [List.length_cons,Nat.add_mul,Nat.one_mul] at hN'; omega
       subst h0; subst h1;simpa using (hc c (by simp)).2
   . show r123_2 (cs.flatten ++ T) (N:Int) () (k:Int)=_;unfold r123_2;rw [ltI_no (by omega)];rfl
theorem sort_g (xs:List AcctT) (hB:xs.length<=4194304):∃ M,Srt ltA M/\Stb ltA xs M/\g92 xs=some (((M,()),()),()):=by
 obtain ⟨cs,T,q1,q2,q3,q4⟩:=blk1_loop xs.length xs.length [] xs rfl rfl hB;simp only [List.nil_append,List.length_nil,Nat.zero_add] at q4;have hlen:cs.flatten.length + T.length=xs.length:=by have:=q3.1; rw [List.length_append] at this; omega
 obtain ⟨T',t1,t2,t3⟩:=ins_g cs.flatten T [] (by simp only [big40,List.length_append,List.length_nil]; omega);rw [List.append_nil,List.append_nil] at t3;have hT':T'.length=T.length:=t2.1.symm;obtain ⟨M,k',m1,m2,m3⟩:=blk3_loop xs.length hB (xs.length) 20 cs T' (by omega) (by decide) (by decide) q1 (by omega) t1 (by rw [List.length_append]; omega);refine ⟨M,m1,(q3.trans ((Stb.refl _).append t2)).trans m2,?_⟩;have q4':l123_0 xs (lenI xs) () 20 0 20=_:=q4;have e1:((cs.flatten.length + T.length:Nat):Int)=(xs.length:Int):=by omega
 have e2:((xs.length - T.length:Nat):Int)=(cs.flatten.length:Int):=by omega
 rw [e1] at t3;unfold g92 g123;rw [q4'];dsimp only [Option.bind_some,Sum.elim_inl];rw [e2,t3];dsimp only [Option.bind_some];have m3':l123_2 (cs.flatten ++ T') (xs.length:Int) () 20=_:=m3;rw [m3'];rfl
theorem ins_find (out:List AcctT) (x:AcctT) (hS:Srt ltA out) (hl:out.length<=4194304) (t11:List (R67)) (t12 t13:Int) (t18:List AcctT) (t19 t20:Int) (b2:List AcctT×Unit):∀ (n:Nat) (A B:List AcctT),out=A ++ B->A.length=n->(∀ y∈B,ltA x y=true) ->
 ∃ A' B',out=A' ++ B'/\(∀ y∈B',ltA x y=true)/\(∀ y∈A',ltA x y=false)/\l60_4 out (A.length:Int) t11 t12 t13 t18 t19 t20 b2 x=some (.inl (out,(A'.length:Int),t11,t12,t13,t18,t19,t20,b2,x,())):=by
 have hbig:big=140737488355328:=rfl;intro n;induction n with
 | zero => intro A B hAB hn hB;have:A=[]:=List.length_eq_zero_iff.1 hn;subst this;refine ⟨[],B,hAB,hB,fun y hy=>by simp at hy,loopF_end _ ?_⟩;show r60_4 out 0 t11 t12 t13 t18 t19 t20 b2 x=_;unfold r60_4;rfl
 | succ n ih =>
   intro A B hAB hn hB;obtain ⟨C,y,rfl⟩:=snoc_of (a:=A) (fun h=>by subst h; simp at hn);have hC:C.length=n:=by simpa using hn
   have hlen:=congrArg List.length hAB;simp only [List.length_append,List.length_cons,List.length_nil] at hlen;have k1:subW .i64 ((C ++ [y]).length:Int) 1=(C.length:Int):=by rw [subW_in (by simp only [List.length_append,List.length_cons,List.length_nil]; omega) (by simp only [List.length_append,List.length_cons,List.length_nil]; omega)]; simp only [List.length_append,List.length_cons,List.length_nil]; omega
   have e0:out=C ++ y :: B:=by rw [hAB]; simp
   have i1:inB (C.length:Int) out=true:=by rw [e0]; exact inB_app _ _ _ rfl
   have g1:gt d92 out (C.length:Int)=y:=by rw [e0]; exact gt_app _ _ _ _ rfl
   have hstep:r60_4 out ((C ++ [y]).length:Int) t11 t12 t13 t18 t19 t20 b2 x=cond (ltA x y) (some (.inl (out,(C.length:Int),t11,t12,t13,t18,t19,t20,b2,x,()))) (some (.inr (.inl (out,((C ++ [y]).length:Int),t11,t12,t13,t18,t19,t20,b2,x,())))):=by unfold r60_4;rw [ltI_yes (by simp only [List.length_append,List.length_cons,List.length_nil]; omega)];dsimp only [cond_true];rw [k1,i1,g1,leS_not];dsimp only [cond_true];rw [Bool.not_not]
   cases hc:ltA x y with
   | true =>
     rw [hc] at hstep;obtain ⟨A',B',r1,r2,r3,r4⟩:=ih C (y :: B) e0 hC (fun z hz=>by
      rcases List.mem_cons.1 hz with rfl | hz
      . exact hc
      . exact hB z hz)
     exact ⟨A',B',r1,r2,r3,loopF_step _ hstep r4⟩
   | false =>
     rw [hc] at hstep;refine ⟨C ++ [y],B,hAB,hB,fun z hz => ?_,loopF_end _ hstep⟩;rcases List.mem_append.1 hz with hz | hz
     . rw [hAB] at hS;have:=(Srt_append.1 (Srt_append.1 hS).1).2.2 z hz y (by simp);exact swoA.le_trans this hc
     . simp only [List.mem_singleton] at hz; subst hz; exact hc
abbrev StrT:=Int×List AcctT×Unit
def allA (l:List StrT):List AcctT:=(l.map fun s=>s.2.1).flatten
def GatB (l:List StrT):Prop:=l.length<=1048576/\(allA l).length<=1048576/\∀ s∈l,∀ a∈s.2.1,AcctB a
theorem allA_take {l:List StrT} {i:Nat} {s:StrT} (h:l[i]? = some s):allA (l.take (i + 1))=allA (l.take i) ++ s.2.1:=by unfold allA;rw [List.take_add_one,h];simp
theorem allA_le (l:List StrT) (i:Nat):(allA (l.take i)).length<=(allA l).length:=by
 have:allA l=allA (l.take i) ++ allA (l.drop i):=by unfold allA;rw [<- List.flatten_append,<- List.map_append,List.take_append_drop]
 rw [this,List.length_append];omega
theorem gat_in (base acc:List AcctT) (hb:∀ a∈acc,AcctB a) (hl:(base ++ acc).length<=1048576) (t11:List StrT) (t12 t13:Int) (b2:List AcctT×Unit) (out:List AcctT) (h1:Srt ltA out) (h2:Stb ltA base out) :
 ∃ M,(Srt ltA M/\Stb ltA (base ++ acc.take acc.length) M)/\l60_2 out t11 t12 t13 acc (lenI acc) 0 b2=some (.inl (M,t11,t12,t13,acc,lenI acc,(acc.length:Int),b2,())):=by
 have hbig:big=140737488355328:=rfl;rw [List.length_append] at hl;refine loop_post (step:=un8 r60_2) acc (fun i (o:List AcctT)=>(o,t11,t12,t13,acc,lenI acc,((i:Nat):Int),b2,())) (fun o=> .inl (o,t11,t12,t13,acc,lenI acc,(acc.length:Int),b2,())) (fun i o=>Srt ltA o/\Stb ltA (base ++ acc.take i) o) (fun i x o hx ho => ?_) (fun o ho => ?_) acc.length 0 out (by omega) ⟨h1,by simpa using h2⟩
 . have hlt:=lt_of_get hx;have hxB:=hb x (List.mem_of_getElem? hx);have hol:o.length<=1048576:=by
    have:=ho.2.1;rw [List.length_append,List.length_take] at this;omega
   obtain ⟨A,B,r1,r2,r3,r4⟩:=ins_find o x ho.1 (by omega) t11 t12 t13 acc (lenI acc) (i:Int) b2 o.length o [] (by simp) rfl (fun y hy=>by simp at hy);have hAB:o.length=A.length + B.length:=by rw [r1,List.length_append]
   refine ⟨A ++ [x] ++ B,?_,?_,?_⟩
   . show r60_2 o t11 t12 t13 acc (lenI acc) (i:Int) b2=_;unfold r60_2;have r4':l60_4 o (lenI o) t11 t12 t13 acc (lenI acc) (i:Int) b2 x=_:=r4;have f1:cutB 0 (A.length:Int) o=true:=by
      show (decide ((0:Int)<=0) && (decide ((0:Int)<=(A.length:Int)) && decide ((A.length:Int)<=(o.length:Int))))=true;rw [decide_eq_true (by omega),decide_eq_true (by omega),decide_eq_true (by omega)]; rfl
     have f2:fitN 160 [] o (A.length:Int)=true:=Nat.ble_eq_true_of_le (by simp only [List.length_nil,Int.toNat_natCast]; omega);have f3:tkI o (A.length:Int)=A:=by unfold tkI; rw [Int.toNat_natCast,r1]; simp
     have f4:drI o (A.length:Int)=B:=by unfold drI; rw [Int.toNat_natCast,r1]; simp
     have f5:preI (A.length:Int) (A.length:Int)=true:=by unfold preI preB leI;rw [decide_eq_true (by omega),Nat.beq_refl]; rfl
     have f6:fitB 160 (apL [] A) [x]=true:=Nat.ble_eq_true_of_le (by show ((([]:List AcctT) ++ A).length + 1) * 160<=big; simp only [List.nil_append]; omega);have f7:fitB 160 (apL (apL [] A) [x]) B=true:=Nat.ble_eq_true_of_le (by show ((([]:List AcctT) ++ A ++ [x]).length + B.length) * 160<=big; simp only [List.nil_append,List.length_append,List.length_cons,List.length_nil]; omega);rw [ltI_in hx,inB_in hx,gt_in _ hx,r4'];dsimp only [cond_true,Option.bind_some,Sum.elim_inl];rw [f1,f2,f3,f4,f5,acctCp_s x hxB,addW1 (by omega)];dsimp only [cond_true,Option.bind_some];rw [f6,f7];rfl
   . have hs:=ho.1;rw [r1] at hs;have hs:=Srt_append.1 hs;rw [List.append_assoc];refine Srt_append.2 ⟨hs.1,List.pairwise_cons.2 ⟨fun y hy=>asymA (r2 y hy),hs.2.1⟩,fun y hy z hz => ?_⟩;rcases List.mem_cons.1 hz with rfl | hz
     . exact r3 y hy
     . exact hs.2.2 y hy z hz
   . have e1:base ++ acc.take (i + 1)=base ++ acc.take i ++ [x]:=by rw [List.take_add_one,hx]; simp
     rw [e1];have q1:=ho.2.append (Stb.refl [x]);have q2:Stb ltA (B ++ [x]) ([x] ++ B):=Stb.swap swoA fun y hy z hz=>by simp only [List.mem_singleton] at hz; subst hz; exact r2 y hy
     have q3:=(Stb.refl A).append q2;rw [r1] at q1;rw [List.append_assoc A] at q1;rw [List.append_assoc A];exact q1.trans q3
 . show r60_2 o t11 t12 t13 acc (lenI acc) (acc.length:Int) b2=_;unfold r60_2;rw [ltI_out rfl]; rfl
theorem gather_s (l:List StrT) (hB:GatB l):∃ M,(Srt ltA M/\Stb ltA (allA l) M)/\g60 l=some ((),((M,()),())):=by
 have hbig:big=140737488355328:=rfl;have hl:=hB.1;obtain ⟨M,⟨m1,m2⟩,m3⟩:=loop_post (step:=un5 r60_0) l (fun j (o:List AcctT)=>(o,l,lenI l,((j:Nat):Int),(([]:List AcctT),()),())) (fun o=> .inl (o,l,lenI l,(l.length:Int),([],()),())) (fun j o=>Srt ltA o/\Stb ltA (allA (l.take j)) o) (fun j s o hx ho=>by
  have hlt:=lt_of_get hx;have hs:=hB.2.2 s (List.mem_of_getElem? hx);have e1:=allA_take hx;have e2:=allA_le l (j + 1);have e3:=hB.2.1;obtain ⟨M,⟨m1,m2⟩,m3⟩:=gat_in (allA (l.take j)) s.2.1 hs (by rw [<- e1]; omega) l (lenI l) (j:Int) ([],()) o ho.1 ho.2;rw [List.take_length,<- e1] at m2;refine ⟨M,?_,m1,m2⟩;show r60_0 o l (lenI l) (j:Int) ([],())=_;unfold r60_0;rw [ltI_in hx,inB_in hx,gt_in _ hx];dsimp only [cond_true];rw [m3];dsimp only [Option.bind_some,Sum.elim_inl];rw [addW1 (by omega)]) (fun o ho=>by
  show r60_0 o l (lenI l) (l.length:Int) ([],())=_;unfold r60_0;rw [ltI_out rfl]; rfl) l.length 0 [] (by omega) ⟨Srt_nil,Stb.refl _⟩
 rw [List.take_length] at m2;refine ⟨M,⟨m1,m2⟩,?_⟩;unfold g60;have m3':l60_0 [] l (lenI l) 0 ([],())=_:=m3;rw [m3'];rfl
theorem copied_i (acc:List AcctT) (hb:∀ a∈acc,AcctB a) (hl:acc.length<=1048576):g91 (acc,())=some ((),((acc,()),())):=by
 have hbig:big=140737488355328:=rfl;unfold g91 g121;have h:=loop_inv (step:=un6 r121_0) acc (fun i (a:List AcctT)=>((),acc,lenI acc,((i:Nat):Int),(([]:List AcctT),()),(a,()),())) (fun _ x a=>Sum.inl (a ++ [x])) (fun a=> .inl ((),acc,lenI acc,(acc.length:Int),([],()),(a,()),())) (fun i a=>a.length=i) (a0:=[]) rfl (fun i x a hx ha=>by
  have hlt:=lt_of_get hx;show r121_0 () acc (lenI acc) (i:Int) ([],()) (a,())=_;unfold r121_0;have e:∀ y:AcctT,fitB 160 a [y]=true:=fun y=>Nat.ble_eq_true_of_le (by simp; omega)
  rw [ltI_in hx,inB_in hx,gt_in _ hx,acctCp_i x (hb x (List.mem_of_getElem? hx)),addW1 (by omega)];dsimp only [cond_true,Option.bind_some];rw [e];rfl) (fun i x a a' hx ha hf=>by
  simp only [Sum.inl.injEq] at hf;rw [<- hf,List.length_append,ha]; rfl) (fun a ha=>by
  show r121_0 () acc (lenI acc) (acc.length:Int) ([],()) (a,())=_;unfold r121_0;rw [ltI_out rfl]; rfl)
 rw [goL_cp] at h;have h':l121_0 () acc (lenI acc) 0 ([],()) ([],())=_:=h;dsimp only;rw [h'];rfl
theorem gather_i (l:List StrT) (hB:GatB l):∃ M,(Srt ltA M/\Stb ltA (allA l) M)/\g68 l=some ((),((M,()),())):=by
 have hbig:big=140737488355328:=rfl;have hl:=hB.1;have hl2:=hB.2.1;obtain ⟨o,ho,hm⟩:=loop_post (step:=un5 r68_0) l (fun j (o:List AcctT)=>(l,lenI l,((j:Nat):Int),(([]:List AcctT),()),(o,()),())) (fun o=> .inl (l,lenI l,(l.length:Int),([],()),(o,()),())) (fun j o=>o=allA (l.take j)) (fun j s o hx ho=>by
  have hlt:=lt_of_get hx;have hs:=hB.2.2 s (List.mem_of_getElem? hx);have e1:=allA_take hx;have e2:=allA_le l (j + 1);rw [e1,List.length_append] at e2;refine ⟨o ++ s.2.1,?_,by rw [ho,e1]⟩;show r68_0 l (lenI l) (j:Int) ([],()) (o,())=_;unfold r68_0;have e:fitB 160 o s.2.1=true:=Nat.ble_eq_true_of_le (by rw [ho]; omega);rw [ltI_in hx,inB_in hx,gt_in _ hx];dsimp only [cond_true];rw [copied_i s.2.1 hs (by omega)];dsimp only [cond_true,Option.bind_some];rw [e,addW1 (by omega)];rfl) (fun o ho=>by
  show r68_0 l (lenI l) (l.length:Int) ([],()) (o,())=_;unfold r68_0;rw [ltI_out rfl]; rfl) l.length 0 [] (by omega) rfl
 rw [List.take_length] at ho;subst ho;obtain ⟨M,m1,m2,m3⟩:=sort_g (allA l) (by omega);refine ⟨M,⟨m1,m2⟩,?_⟩;unfold g68;have hm':l68_0 l (lenI l) 0 ([],()) ([],())=_:=hm;rw [hm'];dsimp only [Option.bind_some,Sum.elim_inl];rw [m3];rfl
theorem gather_eq (l:List StrT) (hB:GatB l):∃ M,M.length=(allA l).length/\(∀ x∈M,x∈allA l)/\Stb ltA (allA l) M/\g60 l=some ((),((M,()),()))/\g68 l=some ((),((M,()),())):=by obtain ⟨M,⟨m1,m2⟩,m3⟩:=gather_s l hB;obtain ⟨M',⟨p1,p2⟩,p3⟩:=gather_i l hB;have e:=srt_uniq swoA p1 m1 (p2.symm.trans m2);subst e;exact ⟨M',p2.1.symm,fun x hx=>(p2.mem swoA).2 hx,p2,m3,p3⟩
abbrev BytT:=List (Int×Unit)
def ByB (b:BytT):Prop:=b.length<=1048576/\∀ x∈b,0<=x.1/\x.1<=255
def pcM (b:BytT) (a k:Nat):BytT:=(b.drop a).take k
theorem pc_sub (b:BytT) (a k:Nat):sub b (a:Int) ((a + k:Nat):Int)=pcM b a k:=by unfold sub pcM;rw [Int.toNat_natCast,Int.toNat_natCast,List.drop_take,Nat.add_sub_cancel_left]
theorem pc_len {b:BytT} {a k:Nat} (h:a + k<=b.length):(pcM b a k).length=k:=by unfold pcM;rw [List.length_take,List.length_drop];omega
theorem pc_get {b:BytT} {a k i:Nat} {x:Int×Unit} (h:(pcM b a k)[i]? = some x):i < k/\b[a + i]? = some x:=by
 unfold pcM at h;rw [List.getElem?_take] at h;split at h
 . rw [List.getElem?_drop] at h;exact ⟨by assumption,h⟩
 . simp at h
theorem pc_mem {b:BytT} {a k:Nat} {x:Int×Unit} (h:x∈pcM b a k):x∈b:=List.mem_of_mem_drop (List.mem_of_mem_take h)
theorem cutB_pc {b:BytT} {a k:Nat} (h:a + k<=b.length):cutB (a:Int) ((a + k:Nat):Int) b=true:=by show (decide ((0:Int)<=(a:Int)) && (decide ((a:Int)<=((a + k:Nat):Int)) && decide (((a + k:Nat):Int)<=(b.length:Int))))=true;rw [decide_eq_true (by omega),decide_eq_true (by omega),decide_eq_true (by omega)]; rfl
theorem piece_i (b:BytT) (a k:Nat) (hb:b.length<=1048576) (ha:a<=b.length) (hk:k<=1048576):g223 b a k=some ((),(if a + k<=b.length then ((pcM b a k,()),(true,()),()) else (([],()),(false,()),()))):=by
 unfold g223;have e:subW .i64 (lenI b) (a:Int)=(b.length:Int) - a:=subW_in (by show -4611686018427387904<=(b.length:Int) - a; omega) (by show (b.length:Int) - a<=_; omega);have i1:inM (a:Int) 0 (lenI b)=true:=inM_iff.2 ⟨by omega,by show (a:Int)<=(b.length:Int); omega⟩;have e2:addW .i64 (a:Int) (k:Int)=((a + k:Nat):Int):=by rw [addW_in (by omega) (by omega)]; omega
 dsimp only;rw [in_i,e,e2];dsimp only [Option.bind_some];rw [i1,ltI_no (a:=(k:Int)) (b:=0) (by omega)];by_cases h:a + k<=b.length
 . rw [ltI_no (by omega),if_pos h,cutB_pc h,pc_sub];rfl
 . rw [ltI_yes (by omega),if_neg h]; rfl
def printM (s:List UInt8):Bool:=s.all fun x=>cond (ltI (x.toNat:Int) 32) false (!(ltI 126 (x.toNat:Int)))
theorem print_s (s:List UInt8) (hs:s.length<=big):g204 s=some ((),((printM s,()),())):=by
 unfold g204;have h:=loop_list (step:=un2 r204_0) s (fun i (_:Unit)=>(s,((i:Nat):Int),())) (fun _ x _=>bif cond (ltI (x.toNat:Int) 32) false (!(ltI 126 (x.toNat:Int))) then Sum.inl () else .inr (.inr (false,()))) (fun _=> .inl (s,(s.length:Int),())) (a0:=()) (fun i x a hx=>by
  have hlt:=lt_of_get hx;show r204_0 s (i:Int)=_;unfold r204_0;rw [ltI_in hx,inB_in hx,bytI_in hx,addW1 (by omega)];dsimp only [cond_true];cases ltI (x.toNat:Int) 32 <;> cases ltI 126 (x.toNat:Int) <;> rfl) (fun a=>by
  show r204_0 s (s.length:Int)=_;unfold r204_0;rw [ltI_out rfl]; rfl)
 rw [goL_all] at h;have h':l204_0 s 0=_:=h;rw [h'];unfold printM;cases s.all _ <;> rfl
theorem print_i (s:List UInt8) (hs:s.length<=big):g251 s=some ((),((printM s,()),())):=by
 unfold g251;have h:=loop_list (step:=un3 r251_0) s (fun i (_:Unit)=>(s,lenI s,((i:Nat):Int),())) (fun _ x _=>bif cond (ltI (x.toNat:Int) 32) false (!(ltI 126 (x.toNat:Int))) then Sum.inl () else .inr (.inr (false,()))) (fun _=> .inl (s,lenI s,(s.length:Int),())) (a0:=()) (fun i x a hx=>by
  have hlt:=lt_of_get hx;show r251_0 s (lenI s) (i:Int)=_;unfold r251_0;rw [ltI_in hx,inB_in hx,bytI_in hx,addW1 (by omega)];dsimp only [cond_true];cases ltI (x.toNat:Int) 32 <;> cases ltI 126 (x.toNat:Int) <;> rfl) (fun a=>by
  show r251_0 s (lenI s) (s.length:Int)=_;unfold r251_0;rw [ltI_out rfl]; rfl)
 rw [goL_all] at h;have h':l251_0 s (lenI s) 0=_:=h;rw [h'];unfold printM;cases s.all _ <;> rfl
def narV (acc:Nat) (s:List UInt8):Nat:=s.foldl (fun n x=>n * 10 + (x.toNat - 48)) acc
theorem nar_bd:∀ (s:List UInt8) (acc k:Nat),s.all digM=true->acc < 10 ^ k->narV acc s < 10 ^ (k + s.length)
 | [],acc,k,_,h=>h
 | x :: s,acc,k,hd,h=>by simp only [List.all_cons,Bool.and_eq_true] at hd;have:=digM_iff.1 hd.1;have h2:=nar_bd s (acc * 10 + (x.toNat - 48)) (k + 1) hd.2 (by rw [Nat.pow_succ]; omega);rw [List.length_cons,show k + (s.length + 1)=k + 1 + s.length by omega];exact h2
theorem nar_uint:∀ (s:List UInt8) (acc:Nat),s.all digM=true->narV acc s < 1844674407370955162->Lib.parseUint10 acc s= .ok (narV acc s)
 | [],acc,_,_=>rfl
 | x :: s,acc,hd,h=>by
   simp only [List.all_cons,Bool.and_eq_true] at hd;have hx:=digM_iff.1 hd.1;have hmono:∀ (s:List UInt8) (a:Nat),a<=narV a s:=fun s=>by
    induction s with
    | nil=>intro a; exact Nat.le_refl _
    | cons y s ih=>intro a; exact Nat.le_trans (by omega) (ih (a * 10 + (y.toNat - 48)))
   have h1:=hmono s (acc * 10 + (x.toNat - 48));have h:narV (acc * 10 + (x.toNat - 48)) s < 1844674407370955162:=h;have ih:=nar_uint s (acc * 10 + (x.toNat - 48)) hd.2 h;unfold Lib.parseUint10;rw [if_pos hx,if_neg (by omega),if_neg (by omega),ih];rfl
theorem digitsM_iff {s:List UInt8}:digitsM s=true↔s.all digM=true/\s≠[]:=by
 unfold digitsM;cases s.all digM with
 | false=>simp
 | true=>cases s <;> simp [ltI,lenI]
def narO (s:List UInt8):Option Nat:=if digitsM s=true/\s.length<=18 then some (narV 0 s) else none
def narR (o:Option Nat):Option (Unit×((Int×Unit)×(Bool×Unit)×Unit)):=some ((),match o with | some n=>(((n:Int),()),(true,()),()) | none=>((0,()),(false,()),()))
theorem nar_i (s:List UInt8) (hs:s.length<=big):g179 s=narR (narO s):=by
 unfold g179 narrowG narO;rw [digits_i s hs];dsimp only [Option.bind_some];cases hd:digitsM s with
 | false=>rfl
 | true =>
   by_cases h18:s.length<=18
   . rw [if_pos ⟨rfl,h18⟩,Nat.ble_eq_true_of_le h18];obtain ⟨h1,h2⟩:=digitsM_iff.1 hd;have hb:=nar_bd s 0 0 h1 (by decide);have hb2:narV 0 s < 1000000000000000000:=Nat.lt_of_lt_of_le hb (by rw [Nat.zero_add]; exact Nat.pow_le_pow_right (by decide) h18);have hu:=nar_uint s 0 h1 (by omega);have hv:Lib.atoiAll s= .ok (narV 0 s:Int):=by
      cases s with
      | nil=>exact absurd rfl h2
      | cons c r => have hc:=List.all_eq_true.1 h1 c (by simp);have hc:=digM_iff.1 hc;rw [Lib.atoiAll_plain c r (by omega) (by omega)];unfold Lib.parseMag;rw [if_neg (by simp),hu];show (if 9223372036854775808<=narV 0 (c :: r) then _ else _)=_;rw [if_neg (by omega)]
     rw [hv];rfl
   . rw [if_neg (fun h=>h18 h.2)];have:Nat.ble s.length 18=false:=by
      cases h:Nat.ble s.length 18 with
      | false=>rfl
      | true=>exact absurd (Nat.le_of_ble_eq_true h) h18
     rw [this];rfl
theorem nar_s (s:List UInt8) (hs:s.length<=big):g159 s=narR (narO s):=by
 have hbig:big=140737488355328:=rfl;unfold g159 narO;rw [digits_s s hs];dsimp only [Option.bind_some];cases hd:digitsM s with
 | false=>rfl
 | true =>
   by_cases h18:s.length<=18
   . rw [if_pos ⟨rfl,h18⟩,ltI_no (by show ¬ (18:Int) < (s.length:Int); omega)];obtain ⟨h1,h2⟩:=digitsM_iff.1 hd;have h:=loop_inv (step:=un3 r159_0) s (fun i (a:Nat)=>(s,(a:Int),((i:Nat):Int),())) (fun _ x a=>Sum.inl (a * 10 + (x.toNat - 48))) (fun a=> .inl (s,(a:Int),(s.length:Int),())) (fun i a=>a < 10 ^ i) (a0:=0) (by decide) (fun i x a hx ha=>by
      have hlt:=lt_of_get hx;have hc:=digM_iff.1 (List.all_eq_true.1 h1 x (List.mem_of_getElem? hx));have h17:a < 10 ^ 17:=Nat.lt_of_lt_of_le ha (Nat.pow_le_pow_right (by decide) (by omega));have h17':a < 100000000000000000:=h17;show r159_0 s (a:Int) (i:Int)=_;unfold r159_0;have m:mulW .i64 (a:Int) 10=((a * 10:Nat):Int):=by unfold mulW; rw [IntKind.wrap_i64]; omega
      have c:cvtW .i64 (x.toNat:Int)=(x.toNat:Int):=by unfold cvtW; rw [IntKind.wrap_i64]; omega
      rw [ltI_in hx,inB_in hx,bytI_in hx,addW1 (by omega),m,c,addW_in (by omega) (by omega),subW_in (by omega) (by omega)];dsimp only [cond_true];rw [show ((a * 10:Nat):Int) + (x.toNat:Int) - 48=((a * 10 + (x.toNat - 48):Nat):Int) by omega]) (fun i x a a' hx ha hf=>by
      have hc:=digM_iff.1 (List.all_eq_true.1 h1 x (List.mem_of_getElem? hx));simp only [Sum.inl.injEq] at hf;rw [<- hf,Nat.pow_succ];omega) (fun a ha=>by
      show r159_0 s (a:Int) (s.length:Int)=_;unfold r159_0;rw [ltI_out rfl]; rfl)
     rw [goL_fold] at h;have h':l159_0 s 0 0=_:=h;rw [h'];rfl
   . rw [if_neg (fun h=>h18 h.2),ltI_yes (by show (18:Int) < (s.length:Int); omega)];rfl
theorem fitS_le2 {s t:List UInt8} (h:s.length + t.length<=big):fitS s t=true:=Nat.ble_eq_true_of_le h
def nib (x:Int×Unit):List UInt8:=[UInt8.ofNat (48 + x.1.toNat / 16),UInt8.ofNat (48 + x.1.toNat % 16)]
def nibs (l:BytT):List UInt8:=(l.map nib).flatten
theorem nibs_len:∀ l:BytT,(nibs l).length=2 * l.length
 | []=>rfl
 | x :: r=>by have:=nibs_len r;unfold nibs at this ⊢;simp only [List.map_cons,List.flatten_cons,List.length_append,this,nib,List.length_cons,List.length_nil];omega
def asB:List UInt8->BytT
 | []=>[]
 | x :: r=>((x.toNat:Int),()) :: asB r
theorem strOf_asB:∀ q:List UInt8,strOf (asB q)=q
 | []=>rfl
 | x :: r=>by show UInt8.ofNat (Int.toNat (x.toNat:Int)) :: strOf (asB r)=_;rw [strOf_asB r,Int.toNat_natCast];simp
theorem asB_len:∀ q:List UInt8,(asB q).length=q.length
 | []=>rfl
 | x :: r=>congrArg (· + 1) (asB_len r)
theorem asB_app:∀ q r:List UInt8,asB (q ++ r)=asB q ++ asB r
 | [],r=>rfl
 | x :: q,r=>congrArg (((x.toNat:Int),()) :: ·) (asB_app q r)
theorem asB_drop:∀ (n:Nat) (q:List UInt8),(asB q).drop n=asB (q.drop n)
 | 0,q=>by simp
 | n + 1,[]=>rfl
 | n + 1,x :: r=>asB_drop n r
def bcdO (b:BytT) (a n:Nat):Option (List UInt8) :=
 if 1<=n/\n<=38/\a + (n + 1) / 2<=b.length then
  (if (nibs (pcM b a ((n + 1) / 2))).all digM=true/\(n % 2=1->(nibs (pcM b a ((n + 1) / 2))).head? = some 48) then some ((nibs (pcM b a ((n + 1) / 2))).drop (n % 2)) else none)
 else none
def bcdR (o:Option (List UInt8)) (e:Int):Option (Unit×((List UInt8×Unit)×(Int×Unit)×(Bool×Unit)×Unit)):=some ((),match o with | some s=>((s,()),(e,()),(true,()),()) | none=>(([],()),(0,()),(false,()),()))
theorem h48_iff {s:List UInt8}:s.head? = some 48↔∃ r,s=48 :: r:=by
 cases s with
 | nil=>simp
 | cons x r=>simp
theorem half_n (n:Nat) (h:n<=1048576):quoW .i64 (addW .i64 (n:Int) 1) 2=(((n + 1) / 2:Nat):Int):=by rw [addW_in (by omega) (by omega)];unfold quoW;rw [Int.tdiv_eq_ediv_of_nonneg (by omega),IntKind.wrap_i64];omega
theorem par_n (n:Nat):eqI (remI (n:Int) 2) 1=decide (n % 2=1):=by
 unfold eqI remI;rw [Int.tmod_eq_emod_of_nonneg (by omega)];by_cases h:n % 2=1
 . rw [decide_eq_true h]; exact beq_iff_eq.2 (by omega)
 . rw [decide_eq_false h]; exact beq_eq_false_iff_ne.2 (by omega)
theorem nib_s (x:Int×Unit) (h:0<=x.1/\x.1<=255):strOf [((cvtW .u8 (addW .i64 48 (quoW .i64 (cvtW .i64 x.1) 16))),()),((cvtW .u8 (addW .i64 48 (remI (cvtW .i64 x.1) 16))),())]=nib x:=by
 obtain ⟨⟨n,hn⟩,hn2⟩:(∃ n:Nat,x.1=n)/\x.1<=255:=⟨⟨x.1.toNat,by omega⟩,h.2⟩;have c:cvtW .i64 x.1=(n:Int):=by unfold cvtW; rw [IntKind.wrap_i64]; omega
 have q:quoW .i64 (n:Int) 16=((n / 16:Nat):Int):=by unfold quoW; rw [Int.tdiv_eq_ediv_of_nonneg (by omega),IntKind.wrap_i64]; omega
 have r:remI (n:Int) 16=((n % 16:Nat):Int):=by unfold remI; rw [Int.tmod_eq_emod_of_nonneg (by omega)]; omega
 have u:∀ k:Nat,k<=16->cvtW .u8 (addW .i64 48 (k:Int))=((48 + k:Nat):Int):=fun k hk=>by rw [addW_in (by omega) (by omega)]; unfold cvtW; rw [IntKind.wrap_u8]; omega
 rw [c,q,r,u _ (by omega),u _ (by omega)];unfold strOf nib;rw [hn];rfl
theorem nib_i:∀ c:Fin 256,addW .u8 48 (shrW .u8 (c.val:Int) 4)=((48 + c.val / 16:Nat):Int)/\addW .u8 48 (andW .u8 (c.val:Int) 15)=((48 + c.val % 16:Nat):Int):=by decide +kernel
theorem all_drop1 {s:List UInt8} (h:∃ r,s=48 :: r):(s.drop 1).all digM=s.all digM:=by obtain ⟨r,rfl⟩:=h;rfl
theorem head48 {s:List UInt8} (hs:s≠[]):eqI (bytI s 0) 48=true↔∃ r,s=48 :: r:=by
 cases s with
 | nil=>exact absurd rfl hs
 | cons x r =>
   show ((x.toNat:Int) == 48)=true↔_;rw [beq_iff_eq];refine ⟨fun h=>⟨r,?_⟩,fun ⟨r',h⟩ => ?_⟩
   . have:x=48:=UInt8.toNat_inj.1 (by show x.toNat=48; omega);rw [this]
   . rw [(List.cons.inj h).1]; rfl
theorem digits_true {s:List UInt8} (hs:s≠[]):digitsM s=s.all digM:=by
 cases h:s.all digM with
 | true=>exact digitsM_iff.2 ⟨h,hs⟩
 | false =>
   cases h2:digitsM s with
   | false=>rfl
   | true=>rw [(digitsM_iff.1 h2).1] at h; simp at h
theorem drop_ne {s:List UInt8} {n:Nat} (h:n < s.length):s.drop n≠[]:=fun e=>by have:=congrArg List.length e;rw [List.length_drop] at this;simp only [List.length_nil] at this;omega
theorem bcd_s (b:BytT) (a n:Nat) (hb:ByB b) (ha:a<=b.length) (hn:n<=1048576):g149 b a n=bcdR (bcdO b a n) ((a + (n + 1) / 2:Nat):Int):=by
 have hbig:big=140737488355328:=rfl;have hl:=hb.1;unfold g149 bcdO;have e:subW .i64 (lenI b) (a:Int)=(b.length:Int) - a:=subW_in (by show -4611686018427387904<=(b.length:Int) - a; omega) (by show (b.length:Int) - a<=_; omega);have hq:=half_n n hn;dsimp only;rw [e,hq,ltI_no (a:=(a:Int)) (b:=0) (by omega),ltI_no (a:=lenI b) (b:=(a:Int)) (by show ¬ (b.length:Int) < a; omega)];by_cases h1:1<=n/\n<=38;rotate_left
 . rw [if_neg (fun h=>h1 ⟨h.1,h.2.1⟩)];by_cases h0:(n:Int) < 1
   . rw [ltI_yes h0]; rfl
   . rw [ltI_no h0,ltI_yes (by omega)]; rfl
 rw [ltI_no (a:=(n:Int)) (b:=1) (by omega),ltI_no (a:=38) (b:=(n:Int)) (by omega)];dsimp only [cond_false,cond_true];by_cases h2:a + (n + 1) / 2<=b.length;rotate_left
 . rw [if_neg (fun h=>h2 h.2.2),ltI_yes (by omega)]; rfl
 rw [if_pos ⟨h1.1,h1.2,h2⟩,ltI_no (by omega)];dsimp only [cond_false];have hpl:=pc_len h2;have h:=loop_inv (step:=un5 r149_0) (pcM b a ((n + 1) / 2)) (fun i (o:List UInt8)=>(b,(a:Int),(n:Int),o,((a + i:Nat):Int),())) (fun _ x o=>Sum.inl (o ++ nib x)) (fun o=> .inl (b,(a:Int),(n:Int),o,((a + (n + 1) / 2:Nat):Int),())) (fun i o=>o.length=2 * i) (a0:=[]) rfl (fun i x o hx ho=>by
  obtain ⟨hik,hg⟩:=pc_get hx;have hlt:=lt_of_get hg;show r149_0 b (a:Int) (n:Int) o ((a + i:Nat):Int)=_;unfold r149_0;rw [hq,addW_in (by omega) (by omega),ltI_yes (by omega),inB_in hg,gt_in _ hg];dsimp only [cond_true];rw [nib_s x (hb.2 x (List.mem_of_getElem? hg)),fitS_le2 (by show o.length + 2<=big; omega),addW1 (by omega)];rfl) (fun i x o o' hx ho hf=>by
  simp only [Sum.inl.injEq] at hf;rw [<- hf,List.length_append,ho];show 2 * i + 2=_;omega) (fun o ho=>by
  show r149_0 b (a:Int) (n:Int) o ((a + (pcM b a ((n + 1) / 2)).length:Nat):Int)=_;unfold r149_0;rw [hq,addW_in (by omega) (by omega),hpl,ltI_no (by omega)]; rfl)
 have hfold:∀ (l:BytT) (o:List UInt8),l.foldl (fun o x=>o ++ nib x) o=o ++ nibs l:=fun l=>by
  induction l with
  | nil=>intro o; simp [nibs]
  | cons x r ih=>intro o; rw [List.foldl_cons,ih]; simp [nibs]
 rw [goL_fold,hfold,List.nil_append] at h;have h':l149_0 b (a:Int) (n:Int) [] (a:Int)=_:=h;rw [h'];generalize hs:nibs (pcM b a ((n + 1) / 2))=s;have hsl:s.length=2 * ((n + 1) / 2):=by rw [<- hs,nibs_len,hpl]
 have hsne:s≠[]:=fun e=>by rw [e] at hsl; simp only [List.length_nil] at hsl; omega
 dsimp only [Option.bind_some,Sum.elim_inl];rw [par_n,hq,addW_in (by omega) (by omega),show (a:Int) + (((n + 1) / 2:Nat):Int)=((a + (n + 1) / 2:Nat):Int) by omega];by_cases hp:n % 2=1
 . rw [decide_eq_true hp,hp];have i0:inB 0 s=true:=inB_lt (i:=0) (by omega);have c1:cutB 1 (lenI s) s=true:=by
    show (decide ((0:Int)<=1) && (decide ((1:Int)<=(s.length:Int)) && decide ((s.length:Int)<=(s.length:Int))))=true;rw [decide_eq_true (by omega),decide_eq_true (by omega),decide_eq_true (by omega)]; rfl
   have sb:sub s 1 (lenI s)=s.drop 1:=by show (s.take (Int.toNat (s.length:Int))).drop 1=_;rw [Int.toNat_natCast,List.take_length]
   rw [i0];dsimp only [cond_true];by_cases h48:∃ r,s=48 :: r
   . rw [(head48 hsne).2 h48];rw [c1,sb,digits_s _ (by rw [List.length_drop]; omega),digits_true (drop_ne (by omega)),all_drop1 h48];dsimp only [cond_true,Option.bind_some];cases hd:s.all digM with
     | false=>rw [if_neg (fun h=>by simp at h)]; rfl
     | true=>rw [if_pos ⟨rfl,fun _=>h48_iff.2 h48⟩]; rfl
   . have:eqI (bytI s 0) 48=false:=by
      cases h:eqI (bytI s 0) 48 with
      | false=>rfl
      | true=>exact absurd ((head48 hsne).1 h) h48
     rw [this,if_neg (fun h=>h48 (h48_iff.1 (h.2 rfl)))]; rfl
 . rw [decide_eq_false hp];have hp0:n % 2=0:=by omega
   rw [hp0];dsimp only [cond_false];rw [digits_s _ (by omega),digits_true hsne];dsimp only [Option.bind_some];cases hd:s.all digM with
   | false=>rw [if_neg (fun h=>by simp at h)]; rfl
   | true=>rw [if_pos ⟨rfl,fun h=>by simp at h⟩]; rfl
theorem bcd_i (b:BytT) (a n:Nat) (hb:ByB b) (ha:a<=b.length) (hn:n<=1048576):g168 b a n=bcdR (bcdO b a n) ((a + (n + 1) / 2:Nat):Int):=by
 have hbig:big=140737488355328:=rfl;have hl:=hb.1;unfold g168 bcdO;rw [in_i,half_n n hn];dsimp only [Option.bind_some];by_cases h1:1<=n/\n<=38;rotate_left
 . rw [if_neg (fun h=>h1 ⟨h.1,h.2.1⟩)];have:inM (n:Int) 1 38=false:=by
    cases h:inM (n:Int) 1 38 with
    | false=>rfl
    | true=>have:=inM_iff.1 h; omega
   rw [this]; rfl
 rw [inM_iff.2 (by omega:(1:Int)<=n/\(n:Int)<=38),piece_i b a _ hl ha (by omega)];have hloop:∀ (t9:BytT) (t10:Bool) (p:BytT),(∀ x∈p,0<=x.1/\x.1<=255)->p.length<=20->l168_0 (a:Int) (n:Int) t9 t10 [] p (lenI p) 0=some (.inl ((a:Int),(n:Int),t9,t10,asB (nibs p),p,lenI p,(p.length:Int),())):=fun t9 t10 p hp hpl=>by
  have h:=loop_inv (step:=un8 r168_0) p (fun i (o:BytT)=>((a:Int),(n:Int),t9,t10,o,p,lenI p,((i:Nat):Int),())) (fun _ x o=>Sum.inl (o ++ asB (nib x))) (fun o=> .inl ((a:Int),(n:Int),t9,t10,o,p,lenI p,(p.length:Int),())) (fun i o=>o.length=2 * i) (a0:=[]) rfl (fun i x o hx ho=>by
   have hlt:=lt_of_get hx;have hx2:=hp x (List.mem_of_getElem? hx);show r168_0 (a:Int) (n:Int) t9 t10 o p (lenI p) (i:Int)=_;unfold r168_0;rw [ltI_in hx,inB_in hx,gt_in _ hx,addW1 (by omega)];obtain ⟨k,hk⟩:∃ k:Nat,x.1=k:=⟨x.1.toNat,by omega⟩;have hf:=nib_i ⟨k,by omega⟩;dsimp only at hf;rw [hk,hf.1,hf.2];dsimp only [cond_true];have:∀ ys:BytT,ys.length=2->fitB 1 o ys=true:=fun ys hy=>Nat.ble_eq_true_of_le (by rw [hy]; omega)
   rw [this _ rfl];have e1:∀ m:Nat,m < 256->(UInt8.ofNat m).toNat=m:=fun m hm=>by simp [Nat.mod_eq_of_lt hm]
   show some (Sum.inl _)=some (Sum.inl _);unfold nib;rw [hk];simp only [Int.toNat_natCast,asB,apL,e1 (48 + k / 16) (by omega),e1 (48 + k % 16) (by omega)]) (fun i x o o' hx ho hf=>by
   simp only [Sum.inl.injEq] at hf;rw [<- hf,List.length_append,ho];show 2 * i + 2=_;omega) (fun o ho=>by
   show r168_0 (a:Int) (n:Int) t9 t10 o p (lenI p) (p.length:Int)=_;unfold r168_0;rw [ltI_out rfl]; rfl)
  have hfold:∀ (l:BytT) (o:BytT),l.foldl (fun o x=>o ++ asB (nib x)) o=o ++ asB (nibs l):=fun l=>by
   induction l with
   | nil=>intro o; show o=o ++ []; rw [List.append_nil]
   | cons x r ih=>intro o; rw [List.foldl_cons,ih,show nibs (x :: r)=nib x ++ nibs r from rfl,asB_app,List.append_assoc]
  rw [goL_fold,hfold,List.nil_append] at h;exact h
 by_cases h2:a + (n + 1) / 2<=b.length;rotate_left
 . rw [if_neg h2,if_neg (fun h=>h2 h.2.2)];exact (bn (hloop [] false [] (fun x hx=>by simp at hx) (by simp))).trans rfl
 rw [if_pos h2,if_pos ⟨h1.1,h1.2,h2⟩];have hpl:=pc_len h2;refine (bn (hloop _ true _ (fun x hx=>hb.2 x (pc_mem hx)) (by omega))).trans ?_;generalize hs:nibs (pcM b a ((n + 1) / 2))=s;have hsl:s.length=2 * ((n + 1) / 2):=by rw [<- hs,nibs_len,hpl]
 have hsne:s≠[]:=fun e=>by rw [e] at hsl; simp only [List.length_nil] at hsl; omega
 show Option.bind (g190 (strOf (asB s))) _=_;rw [strOf_asB,digits_i _ (by omega),digits_true hsne];generalize hm:asB s=m;have hlm:lenI m=(s.length:Int):=by rw [<- hm]; show ((asB s).length:Int)=_; rw [asB_len]
 have hcut:subW .i64 (s.length:Int) (n:Int)=((n % 2:Nat):Int):=by rw [subW_in (by omega) (by omega)]; omega
 have hpc:lenI (pcM b a ((n + 1) / 2))=(((n + 1) / 2:Nat):Int):=by show ((pcM b a _).length:Int)=_; rw [hpl]
 have c1:cutB ((n % 2:Nat):Int) (s.length:Int) m=true:=by show (decide ((0:Int)<=((n % 2:Nat):Int)) && (decide (((n % 2:Nat):Int)<=(s.length:Int)) && decide ((s.length:Int)<=(m.length:Int))))=true;rw [show (m.length:Int)=(s.length:Int) from hlm,decide_eq_true (by omega),decide_eq_true (by omega),decide_eq_true (by omega)]; rfl
 have sb:strOf (sub m ((n % 2:Nat):Int) (s.length:Int))=s.drop (n % 2):=by rw [<- hm];show strOf (((asB s).take (Int.toNat (s.length:Int))).drop (Int.toNat ((n % 2:Nat):Int)))=_;rw [Int.toNat_natCast,Int.toNat_natCast,List.take_of_length_le (by rw [asB_len]; exact Nat.le_refl _)];exact (congrArg strOf (asB_drop _ _)).trans (strOf_asB _)
 have hF:(cond (cutB (subW .i64 (lenI m) (n:Int)) (lenI m) m) (some ((),((strOf (sub m (subW .i64 (lenI m) (n:Int)) (lenI m)),()),(addW .i64 (a:Int) (lenI (pcM b a ((n + 1) / 2))),()),(true,()),()))) none:Option (Unit×((List UInt8×Unit)×(Int×Unit)×(Bool×Unit)×Unit)))=bcdR (some (s.drop (n % 2))) ((a + (n + 1) / 2:Nat):Int):=by rw [hlm,hcut,hpc,addW_in (by omega) (by omega),c1,sb,show (a:Int) + (((n + 1) / 2:Nat):Int)=((a + (n + 1) / 2:Nat):Int) by omega];rfl
 show cond (!(s.all digM)) (some ((),(([],()),(0,()),(false,()),()))) (cond (eqI (remI (n:Int) 2) 1) (cond (inB 0 m) (cond (!(eqI (gt (0,()) m 0).1 48)) (some ((),(([],()),(0,()),(false,()),()))) (cond (cutB (subW .i64 (lenI m) (n:Int)) (lenI m) m) (some ((),((strOf (sub m (subW .i64 (lenI m) (n:Int)) (lenI m)),()),(addW .i64 (a:Int) (lenI (pcM b a ((n + 1) / 2))),()),(true,()),()))) none)) none)
  (cond (cutB (subW .i64 (lenI m) (n:Int)) (lenI m) m) (some ((),((strOf (sub m (subW .i64 (lenI m) (n:Int)) (lenI m)),()),(addW .i64 (a:Int) (lenI (pcM b a ((n + 1) / 2))),()),(true,()),()))) none))=_
 rw [hF,par_n];cases hd:s.all digM with
 | false=>rw [if_neg (fun h=>by simp at h)]; rfl
 | true =>
   by_cases hp:n % 2=1
   . rw [decide_eq_true hp];subst hm;have hm0:∃ x r,s=x :: r:=by
      cases s with
      | nil=>exact absurd rfl hsne
      | cons x r=>exact ⟨x,r,rfl⟩
     obtain ⟨x,r,rfl⟩:=hm0;have i0:inB 0 (asB (x :: r))=true:=inB_lt (i:=0) (by rw [asB_len]; simp);rw [i0];show cond (!(eqI (x.toNat:Int) 48)) _ _=_;by_cases h48:x.toNat=48
     . have hx:x=48:=UInt8.toNat_inj.1 h48;rw [show eqI (x.toNat:Int) 48=true from beq_iff_eq.2 (by omega),if_pos ⟨rfl,fun _=>by rw [hx]; rfl⟩]; rfl
     . rw [show eqI (x.toNat:Int) 48=false from beq_eq_false_iff_ne.2 (by omega),if_neg (fun h=>by obtain ⟨r',h⟩:=h48_iff.1 (h.2 hp);rw [(List.cons.inj h).1] at h48;exact h48 rfl)]; rfl
   . rw [decide_eq_false hp,if_pos ⟨rfl,fun h=>absurd h hp⟩]; rfl
def bitM (p:BytT) (i:Nat):Bool:=eqI (remI (shrW .i64 (cvtW .i64 (p.getD (i / 8) (0,())).1) ((7 - i % 8:Nat):Int)) 2) 1
def bitsM (p:BytT):BytT:=((List.range 64).filter (bitM p)).map fun i=>(((i + 1:Nat):Int),())
theorem bit_eq:∀ (c:Fin 256) (r:Fin 8),(!(eqI (andW .u8 (c.val:Int) (shrW .u8 128 (r.val:Int))) 0))=eqI (remI (shrW .i64 (cvtW .i64 (c.val:Int)) ((7 - r.val:Nat):Int)) 2) 1:=by decide +kernel
theorem bits_fold (p:BytT):∀ (l:List Nat) (o:BytT),l.foldl (fun o i=>bif bitM p i then o ++ [(((i + 1:Nat):Int),())] else o) o=o ++ (l.filter (bitM p)).map fun i=>(((i + 1:Nat):Int),())
 | [],o=>by simp
 | i :: l,o=>by rw [List.foldl_cons,bits_fold p l,List.filter_cons];cases bitM p i <;> simp
theorem range64 {i x:Nat} (h:(List.range 64)[i]? = some x):x=i/\i < 64:=by have:=(List.getElem?_eq_some_iff.1 h);obtain ⟨h1,h2⟩:=this;rw [List.getElem_range] at h2;exact ⟨h2.symm,by simpa using h1⟩
theorem idx8 {i:Nat} (h:i < 64):subW .i64 ((i + 1:Nat):Int) 1=(i:Int)/\quoW .i64 (i:Int) 8=((i / 8:Nat):Int)/\remI (i:Int) 8=((i % 8:Nat):Int)/\leI ((i + 1:Nat):Int) 64=true:=by
 refine ⟨by rw [subW_in (by omega) (by omega)]; omega,?_,?_,decide_eq_true (by omega)⟩
 . unfold quoW;rw [Int.tdiv_eq_ediv_of_nonneg (by omega),IntKind.wrap_i64];omega
 . unfold remI;rw [Int.tmod_eq_emod_of_nonneg (by omega)];omega
def bitsR (b:BytT) (a:Nat):Option (Unit×((BytT×Unit)×(Int×Unit)×(Bool×Unit)×Unit)):=some ((),(if a + 8<=b.length then ((bitsM (pcM b a 8),()),(((a + 8:Nat):Int),()),(true,()),()) else (([],()),(0,()),(false,()),())))
theorem pc_getD (b:BytT) (a k i:Nat) (hi:i < k) (h:a + k<=b.length):∃ x,b[a + i]? = some x/\(pcM b a k).getD i (0,())=x/\(pcM b a k)[i]? = some x:=by obtain ⟨x,hx⟩:∃ x,(pcM b a k)[i]? = some x:=⟨_,List.getElem?_eq_getElem (by rw [pc_len h]; exact hi)⟩;exact ⟨x,(pc_get hx).2,by rw [List.getD_eq_getElem?_getD,hx]; rfl,hx⟩
theorem bits_s (b:BytT) (a:Nat) (hb:ByB b) (ha:a<=b.length):g199 b a=bitsR b a:=by
 have hbig:big=140737488355328:=rfl;have hl:=hb.1;unfold g199 bitsR;have e:subW .i64 (lenI b) 8=(b.length:Int) - 8:=subW_in (by show -4611686018427387904<=(b.length:Int) - 8; omega) (by show (b.length:Int) - 8<=_; omega);rw [e,ltI_no (a:=(a:Int)) (b:=0) (by omega)];by_cases h8:a + 8<=b.length;rotate_left
 . rw [if_neg h8,ltI_yes (by omega)]; rfl
 rw [if_pos h8,ltI_no (by omega)];have h:=loop_inv (step:=un4 r199_0) (List.range 64) (fun i (o:BytT)=>(b,(a:Int),o,((i + 1:Nat):Int),())) (fun _ x o=>Sum.inl (bif bitM (pcM b a 8) x then o ++ [(((x + 1:Nat):Int),())] else o)) (fun o=> .inl (b,(a:Int),o,65,())) (fun i o=>o.length<=i) (a0:=[]) (Nat.le_refl _) (fun i x o hx ho=>by
  obtain ⟨rfl,hi⟩:=range64 hx;obtain ⟨e1,e2,e3,e4⟩:=idx8 hi;obtain ⟨c,hc,hd,_⟩:=pc_getD b a 8 (x / 8) (by omega) h8;show r199_0 b (a:Int) o ((x + 1:Nat):Int)=_;unfold r199_0;have e5:subW .i64 7 ((x % 8:Nat):Int)=((7 - x % 8:Nat):Int):=by rw [subW_in (by omega) (by omega)]; omega
  have e6:addW .i64 (a:Int) ((x / 8:Nat):Int)=((a + x / 8:Nat):Int):=by rw [addW_in (by omega) (by omega)]; omega
  have hbit:bitM (pcM b a 8) x=eqI (remI (shrW .i64 (cvtW .i64 c.1) ((7 - x % 8:Nat):Int)) 2) 1:=by unfold bitM; rw [hd]
  dsimp only;rw [e4,e1,e2,e3,e5,e6,inB_in hc,gt_in _ hc,show leI 0 ((7 - x % 8:Nat):Int)=true from decide_eq_true (by omega),<- hbit,addW1 (by omega)];have:fitB 8 o [(((x + 1:Nat):Int),())]=true:=Nat.ble_eq_true_of_le (by show (o.length + 1) * 8<=big; omega);rw [this];cases bitM (pcM b a 8) x <;> rfl) (fun i x o o' hx ho hf=>by
  simp only [Sum.inl.injEq] at hf;rw [<- hf];cases bitM (pcM b a 8) x with
  | false=>show o.length<=_; omega
  | true=>show (o ++ [_]).length<=_; rw [List.length_append]; show o.length + 1<=_; omega) (fun o ho=>by
  show r199_0 b (a:Int) o (((List.range 64).length + 1:Nat):Int)=_;rfl)
 rw [goL_fold,bits_fold,List.nil_append] at h;have h':l199_0 b (a:Int) [] 1=_:=h;refine (bn h').trans ?_;show some ((),((_,()),(addW .i64 (a:Int) 8,()),(true,()),()))=_;rw [addW_in (by omega) (by omega)];rfl
theorem bits_i (b:BytT) (a:Nat) (hb:ByB b) (ha:a<=b.length):g169 b a=bitsR b a:=by
 have hbig:big=140737488355328:=rfl;have hl:=hb.1;unfold g169 bitsR;have hp:g223 b (a:Int) 8=_:=piece_i b a 8 hl ha (by decide);rw [hp];by_cases h8:a + 8<=b.length;rotate_left
 . rw [if_neg h8,if_neg h8]; rfl
 rw [if_pos h8,if_pos h8];generalize hq:pcM b a 8=p;have h:=loop_inv (step:=un4 r169_0) (List.range 64) (fun i (o:BytT)=>((a:Int),p,o,((i + 1:Nat):Int),())) (fun _ x o=>Sum.inl (bif bitM p x then o ++ [(((x + 1:Nat):Int),())] else o)) (fun o=> .inl ((a:Int),p,o,65,())) (fun i o=>o.length<=i) (a0:=[]) (Nat.le_refl _) (fun i x o hx ho=>by
  obtain ⟨rfl,hi⟩:=range64 hx;obtain ⟨e1,e2,e3,e4⟩:=idx8 hi;obtain ⟨c,hc,hd,hc2⟩:=pc_getD b a 8 (x / 8) (by omega) h8;rw [hq] at hd hc2;have hcb:=hb.2 c (List.mem_of_getElem? hc);show r169_0 (a:Int) p o ((x + 1:Nat):Int)=_;unfold r169_0;obtain ⟨k,hk⟩:∃ k:Nat,c.1=k:=⟨c.1.toNat,by omega⟩;have hbe:=bit_eq ⟨k,by omega⟩ ⟨x % 8,by omega⟩;dsimp only at hbe;have hbit:bitM p x= !(eqI (andW .u8 c.1 (shrW .u8 128 ((x % 8:Nat):Int))) 0):=by unfold bitM; rw [hd,hk,hbe]
  dsimp only;rw [e4,e1,e2,e3,inB_in hc2,gt_in _ hc2,show leI 0 ((x % 8:Nat):Int)=true from decide_eq_true (by omega),<- hbit,addW1 (by omega)];have:fitB 8 o [(((x + 1:Nat):Int),())]=true:=Nat.ble_eq_true_of_le (by show (o.length + 1) * 8<=big; omega);rw [this];cases bitM p x <;> rfl) (fun i x o o' hx ho hf=>by
  simp only [Sum.inl.injEq] at hf;rw [<- hf];cases bitM p x with
  | false=>show o.length<=_; omega
  | true=>show (o ++ [_]).length<=_; rw [List.length_append]; show o.length + 1<=_; omega) (fun o ho=>by
  show r169_0 (a:Int) p o (((List.range 64).length + 1:Nat):Int)=_;rfl)
 rw [goL_fold,bits_fold,List.nil_append] at h;have h':l169_0 (a:Int) p [] 1=_:=h;refine (bn h').trans ?_;show some ((),((_,()),(addW .i64 (a:Int) 8,()),(true,()),()))=_;rw [addW_in (by omega) (by omega)];rfl
theorem bits_len (p:BytT):(bitsM p).length<=64:=by unfold bitsM;rw [List.length_map];exact Nat.le_trans (List.length_filter_le _ _) (by simp)
theorem bits_mem {p:BytT} {x:Int×Unit} (h:x∈bitsM p):1<=x.1/\x.1<=64:=by obtain ⟨i,hi,rfl⟩:=List.mem_map.1 h;have:=List.mem_range.1 (List.mem_filter.1 hi).1;constructor <;> (show _<=_) <;> omega
abbrev FRowT:=Int×Int×Int×Unit
def rowsM:List FRowT:=[(2,3,19,()),(3,1,6,()),(4,1,12,()),(7,1,10,()),(11,1,6,()),(14,1,4,()),(37,2,12,()),(38,2,6,()),(39,2,2,()),(41,2,8,()),(48,5,60,()),(49,1,3,()),(54,5,60,()),(95,2,12,()),(102,4,20,()),(103,4,20,())]
def rowM (no:Int):FRowT:=(rowsM.find? fun r=>eqI r.1 no).getD (0,0,0,())
def kindM (no:Int):Int:=(rowM no).2.1
def sizeM (no:Int):Int:=(rowM no).2.2.1
theorem goL_find1 {α Y:Type} (p:α->Bool) (y:α->Y) (z:Y):∀ (l:List α) (i:Nat),goL (fun _ x (_:Unit)=>bif p x then .inr (y x) else .inl ()) (fun _=>z) i l ()=match l.find? p with | some x=>y x | none=>z
 | [],_=>rfl
 | x :: l,i=>by
   have ih:=goL_find1 p y z l (i + 1);rw [List.find?_cons,goL];cases p x with
   | true=>rfl
   | false=>exact ih
theorem row_i (no:Int):g224 no=some ((),(rowM no,())):=by
 unfold g224;have h:=loop_list (step:=un5 r224_0) rowsM (fun i (_:Unit)=>(no,rowsM,lenI rowsM,((i:Nat):Int),(0,0,0,()),())) (fun _ x _=>bif eqI x.1 no then .inr (.inr (x,())) else .inl ()) (fun _=> .inl (no,rowsM,lenI rowsM,(rowsM.length:Int),(0,0,0,()),())) (a0:=()) (fun i x a hx=>by
  have hlt:=lt_of_get hx;have h16:rowsM.length=16:=rfl;have hbig:big=140737488355328:=rfl;show r224_0 no rowsM (lenI rowsM) (i:Int) (0,0,0,())=_;unfold r224_0;rw [ltI_in hx,inB_in hx,gt_in _ hx,addW1 (by omega)];dsimp only [cond_true];cases eqI x.1 no <;> rfl) (fun a=>by
  show r224_0 no rowsM (lenI rowsM) (rowsM.length:Int) (0,0,0,())=_;rfl)
 rw [goL_find1] at h;have h':l224_0 no rowsM (lenI rowsM) 0 (0,0,0,())=_:=h;refine (bn h').trans ?_;unfold rowM;cases rowsM.find? _ <;> rfl
theorem row_cases (no:Int):no=2∨no=3∨no=4∨no=7∨no=11∨no=14∨no=37∨no=38∨no=39∨no=41∨no=48∨no=49∨no=54∨no=95∨no=102∨no=103∨∀ k∈[2,3,4,7,11,14,37,38,39,41,48,49,54,95,102,103],eqI no k=false/\eqI k no=false:=by
 by_cases h:∀ k∈[2,3,4,7,11,14,37,38,39,41,48,49,54,95,102,103],no≠k
 . have:∀ k∈[2,3,4,7,11,14,37,38,39,41,48,49,54,95,102,103],eqI no k=false/\eqI k no=false:=fun k hk=>⟨beq_eq_false_iff_ne.2 (h k hk),beq_eq_false_iff_ne.2 (Ne.symm (h k hk))⟩
   iterate 16 right
   exact this
 . simp only [Classical.not_forall,Classical.not_not] at h;obtain ⟨k,hk,rfl⟩:=h;simp only [List.mem_cons,List.not_mem_nil,or_false] at hk;rcases hk with h | h | h | h | h | h | h | h | h | h | h | h | h | h | h | h <;> simp [h]
theorem no_row {no:Int} (h:∀ k∈[2,3,4,7,11,14,37,38,39,41,48,49,54,95,102,103],eqI no k=false/\eqI k no=false):rowM no=(0,0,0,()):=by unfold rowM rowsM;simp only [List.find?_cons,(h 2 (by simp)).2,(h 3 (by simp)).2,(h 4 (by simp)).2,(h 7 (by simp)).2,(h 11 (by simp)).2,(h 14 (by simp)).2,(h 37 (by simp)).2,(h 38 (by simp)).2,(h 39 (by simp)).2,(h 41 (by simp)).2,(h 48 (by simp)).2,(h 49 (by simp)).2,(h 54 (by simp)).2,(h 95 (by simp)).2,(h 102 (by simp)).2,(h 103 (by simp)).2,List.find?_nil,Option.getD_none]
theorem kind_s (no:Int):g200 no=some ((),((kindM no,()),())):=by
 rcases row_cases no with rfl | rfl | rfl | rfl | rfl | rfl | rfl | rfl | rfl | rfl | rfl | rfl | rfl | rfl | rfl | rfl | h
 all_goals first | rfl | skip
 unfold g200 kindM;rw [no_row h];simp only [(h 2 (by simp)).1,(h 3 (by simp)).1,(h 4 (by simp)).1,(h 7 (by simp)).1,(h 11 (by simp)).1,(h 14 (by simp)).1,(h 37 (by simp)).1,(h 38 (by simp)).1,(h 39 (by simp)).1,(h 41 (by simp)).1,(h 48 (by simp)).1,(h 49 (by simp)).1,(h 54 (by simp)).1,(h 95 (by simp)).1,(h 102 (by simp)).1,(h 103 (by simp)).1,cond_false]
theorem size_s (no:Int):g201 no=some ((),((sizeM no,()),())):=by
 rcases row_cases no with rfl | rfl | rfl | rfl | rfl | rfl | rfl | rfl | rfl | rfl | rfl | rfl | rfl | rfl | rfl | rfl | h
 all_goals first | rfl | skip
 unfold g201 sizeM;rw [no_row h];simp only [(h 2 (by simp)).1,(h 3 (by simp)).1,(h 4 (by simp)).1,(h 7 (by simp)).1,(h 11 (by simp)).1,(h 14 (by simp)).1,(h 37 (by simp)).1,(h 38 (by simp)).1,(h 39 (by simp)).1,(h 41 (by simp)).1,(h 48 (by simp)).1,(h 49 (by simp)).1,(h 54 (by simp)).1,(h 95 (by simp)).1,(h 102 (by simp)).1,(h 103 (by simp)).1,cond_false]
theorem kind_i (no:Int):g170 no=some ((),((kindM no,()),())):=by unfold g170; rw [row_i]; rfl
theorem size_i (no:Int):g225 no=some ((),((sizeM no,()),())):=by unfold g225; rw [row_i]; rfl
theorem kinds (no:Int):∃ n:Nat,sizeM no=n/\((kindM no=0/\n=0)∨(kindM no=1/\1<=n/\n<=12)∨(kindM no=2/\1<=n/\n<=12)∨(kindM no=3/\n=19)∨(kindM no=4/\n=20)∨(kindM no=5/\n=60)):=by
 rcases row_cases no with rfl | rfl | rfl | rfl | rfl | rfl | rfl | rfl | rfl | rfl | rfl | rfl | rfl | rfl | rfl | rfl | h
 . exact ⟨19,rfl,by decide⟩
 . exact ⟨6,rfl,by decide⟩
 . exact ⟨12,rfl,by decide⟩
 . exact ⟨10,rfl,by decide⟩
 . exact ⟨6,rfl,by decide⟩
 . exact ⟨4,rfl,by decide⟩
 . exact ⟨12,rfl,by decide⟩
 . exact ⟨6,rfl,by decide⟩
 . exact ⟨2,rfl,by decide⟩
 . exact ⟨8,rfl,by decide⟩
 . exact ⟨60,rfl,by decide⟩
 . exact ⟨3,rfl,by decide⟩
 . exact ⟨60,rfl,by decide⟩
 . exact ⟨12,rfl,by decide⟩
 . exact ⟨20,rfl,by decide⟩
 . exact ⟨20,rfl,by decide⟩
 . exact ⟨0,by unfold sizeM; rw [no_row h]; rfl,.inl ⟨by unfold kindM; rw [no_row h],rfl⟩⟩
theorem bcdO_spec {b:BytT} {a n:Nat} {s:List UInt8} (h:bcdO b a n=some s):s.all digM=true/\s.length=n/\1<=n/\n<=38/\a + (n + 1) / 2<=b.length:=by
 unfold bcdO at h;split at h
 . rename_i h1;split at h
   . rename_i h2;cases h;have hl:(nibs (pcM b a ((n + 1) / 2))).length=2 * ((n + 1) / 2):=by rw [nibs_len,pc_len h1.2.2]
     refine ⟨List.all_eq_true.2 fun x hx=>List.all_eq_true.1 h2.1 x (List.mem_of_mem_drop hx),?_,h1⟩;rw [List.length_drop,hl];omega
   . simp at h
 . simp at h
theorem ne_of_len {s:List UInt8} {n:Nat} (h:s.length=n) (hn:1<=n):s≠[]:=fun e=>by rw [e] at h; simp only [List.length_nil] at h; omega
theorem narO_dig {s:List UInt8} {n:Nat} (h:s.all digM=true) (hl:s.length=n) (h1:1<=n) (h2:n<=18):narO s=some (narV 0 s):=by unfold narO;rw [if_pos ⟨digitsM_iff.2 ⟨h,ne_of_len hl h1⟩,by omega⟩]
def lenR (b:BytT) (a d:Nat):Option (Unit×((Int×Unit)×(Int×Unit)×(Bool×Unit)×Unit)):=some ((),match bcdO b a d with | some t=>(((narV 0 t:Int),()),(((a + (d + 1) / 2:Nat):Int),()),(true,()),()) | none=>((0,()),(0,()),(false,()),()))
theorem nar_nil_s:g159 []=some ((),((0,()),(false,()),())):=nar_s [] (Nat.zero_le _)
theorem len_s (b:BytT) (a d:Nat) (hb:ByB b) (ha:a<=b.length) (hd:d=2∨d=3):g203 b a d=lenR b a d:=by
 have hbig:big=140737488355328:=rfl;unfold g203 lenR;have hc:cond (!(eqI (d:Int) 2)) (!(eqI (d:Int) 3)) false=false:=by rcases hd with rfl | rfl <;> rfl
 rw [hc,bcd_s b a d hb ha (by omega)];unfold bcdR;cases ho:bcdO b a d with
 | none => refine (bn nar_nil_s).trans ?_;rfl
 | some t => obtain ⟨h1,h2,h3,h4,h5⟩:=bcdO_spec ho;have hn:g159 t=_:=nar_s t (by omega);rw [narO_dig h1 h2 h3 (by omega)] at hn;refine (bn hn).trans ?_;rfl
theorem len_i (b:BytT) (a d:Nat) (hb:ByB b) (ha:a<=b.length) (hd:d=2∨d=3):g226 b a d=lenR b a d:=by
 have hbig:big=140737488355328:=rfl;unfold g226 lenR;rw [in_i,inM_iff.2 (by omega:(2:Int)<=d/\(d:Int)<=3),bcd_i b a d hb ha (by omega)];unfold bcdR;cases ho:bcdO b a d with
 | none=>rfl
 | some t => obtain ⟨h1,h2,h3,h4,h5⟩:=bcdO_spec ho;have hn:g179 t=_:=nar_i t (by omega);rw [narO_dig h1 h2 h3 (by omega)] at hn;refine (bn hn).trans ?_;rfl
def fokM (no:Int) (s:List UInt8):Bool:=cond (eqI (kindM no) 1) (cond (digitsM s) (eqI (lenI s) (sizeM no)) false) (cond (eqI (kindM no) 2) (cond (printM s) (eqI (lenI s) (sizeM no)) false) (cond (eqI (kindM no) 3) (cond (digitsM s) (inM (lenI s) 1 (sizeM no)) false) (cond (eqI (kindM no) 4) (cond (printM s) (inM (lenI s) 1 (sizeM no)) false) (cond (eqI (kindM no) 5) (cond (printM s) (inM (lenI s) 1 (sizeM no)) false) false))))
theorem fok_s (no:Int) (s:List UInt8) (hs:s.length<=big):g205 no s=some ((),((fokM no s,()),())):=by
 unfold g205 fokM;rw [kind_s,size_s];dsimp only [Option.bind_some];rw [digits_s s hs,print_s s hs];dsimp only [Option.bind_some];rw [in_s];dsimp only [Option.bind_some];cases eqI (kindM no) 1 with
 | true=>rfl
 | false =>
 cases eqI (kindM no) 2 with
 | true=>rfl
 | false =>
 cases eqI (kindM no) 3 with
 | true =>
   show some ((),((cond (digitsM s) (leI (lenI s) (sizeM no)) false,()),()))=some ((),((cond (digitsM s) (inM (lenI s) 1 (sizeM no)) false,()),()));cases hd:digitsM s with
   | false=>rfl
   | true =>
     have h1:leI 1 (lenI s)=true:=by
      have:=(digitsM_iff.1 hd).2;cases s with
      | nil=>exact absurd rfl this
      | cons x r=>exact decide_eq_true (by show (1:Int)<=((r.length + 1:Nat):Int); omega)
     unfold inM;rw [h1]; rfl
 | false =>
 cases eqI (kindM no) 4 with
 | true=>cases printM s <;> rfl
 | false =>
 cases eqI (kindM no) 5 with
 | true=>cases printM s <;> rfl
 | false=>rfl
theorem fok_i (no:Int) (s:List UInt8) (hs:s.length<=big):g228 no s=some ((),((fokM no s,()),())):=by
 unfold g228 fokM;rw [row_i,digits_i s hs,print_i s hs];dsimp only [Option.bind_some];rw [in_i];dsimp only [Option.bind_some];show cond (eqI (kindM no) 1) _ (cond (eqI (kindM no) 2) _ (cond (eqI (kindM no) 3) _ (cond (eqI (kindM no) 4) _ (cond (eqI (kindM no) 5) _ _))))=_;cases eqI (kindM no) 1 with
 | true=>rfl
 | false =>
 cases eqI (kindM no) 2 with
 | true=>rfl
 | false =>
 cases eqI (kindM no) 3 with
 | true=>cases digitsM s <;> rfl
 | false =>
 cases eqI (kindM no) 4 with
 | true=>cases printM s <;> rfl
 | false =>
 cases eqI (kindM no) 5 with
 | true=>cases printM s <;> rfl
 | false=>rfl
def txtO (b:BytT) (a n:Nat):Option (List UInt8×Nat):=if a + n<=b.length then (bif printM (strOf (pcM b a n)) then some (strOf (pcM b a n),a + n) else none) else none
def numO (b:BytT) (a n:Nat):Option (List UInt8×Nat):=(bcdO b a n).map fun s=>(s,a + (n + 1) / 2)
def varO (b:BytT) (a d n:Nat) (f:Nat->Nat->Option (List UInt8×Nat)):Option (List UInt8×Nat):=match bcdO b a d with
 | some t=>if 1<=narV 0 t/\narV 0 t<=n then f (a + (d + 1) / 2) (narV 0 t) else none
 | none=>none
def getF (b:BytT) (a:Nat) (no:Int):Option (List UInt8×Nat) :=
 if kindM no=1 then numO b a (sizeM no).toNat else if kindM no=2 then txtO b a (sizeM no).toNat
 else if kindM no=3 then varO b a 2 (sizeM no).toNat (numO b) else if kindM no=4 then varO b a 2 (sizeM no).toNat (txtO b)
 else if kindM no=5 then varO b a 3 (sizeM no).toNat (txtO b) else none
def fldR (o:Option (List UInt8×Nat)):Option (Unit×((List UInt8×Unit)×(Int×Unit)×(Bool×Unit)×Unit)):=some ((),match o with | some s=>((s.1,()),((s.2:Int),()),(true,()),()) | none=>(([],()),(0,()),(false,()),()))
theorem strOf_len (p:BytT):(strOf p).length=p.length:=by unfold strOf; exact List.length_map _
theorem num_fld (b:BytT) (a n:Nat):(match bcdR (bcdO b a n) ((a + (n + 1) / 2:Nat):Int) with | some y=>some ((),(y.2.1,y.2.2.1,y.2.2.2.1,())) | none=>none)=fldR (numO b a n):=by unfold bcdR numO fldR;cases bcdO b a n <;> rfl
noncomputable def txtG (b:BytT) (a n:Int):Option (Unit×((List UInt8×Unit)×(Int×Unit)×(Bool×Unit)×Unit)) :=
 cond (cond (ltI (lenI b) a) true (ltI (subW .i64 (lenI b) a) n)) (some ((),(([],()),(0,()),(false,()),()))) (cond (cutB a (addW .i64 a n) b) (Option.bind (g204 (strOf (sub b a (addW .i64 a n)))) fun y=>cond (!y.2.1.1) (some ((),(([],()),(0,()),(false,()),()))) (cond (cutB a (addW .i64 a n) b) (some ((),((strOf (sub b a (addW .i64 a n)),()),(addW .i64 a n,()),(true,()),()))) none)) none)
theorem txt_s (b:BytT) (a n:Nat) (hb:ByB b) (ha:a<=b.length) (hn:n<=1048576) :
 txtG b a n=fldR (txtO b a n):=by
 have hbig:big=140737488355328:=rfl;have hl:=hb.1;have e:subW .i64 (lenI b) (a:Int)=(b.length:Int) - a:=subW_in (by show -4611686018427387904<=(b.length:Int) - a; omega) (by show (b.length:Int) - a<=_; omega);have e2:addW .i64 (a:Int) (n:Int)=((a + n:Nat):Int):=by rw [addW_in (by omega) (by omega)]; omega
 unfold txtO txtG;rw [e,e2,ltI_no (a:=lenI b) (b:=(a:Int)) (by show ¬ (b.length:Int) < a; omega)];by_cases h:a + n<=b.length;rotate_left
 . rw [if_neg h,ltI_yes (by omega)]; rfl
 have hs:strOf (sub b (a:Int) ((a + n:Nat):Int))=strOf (pcM b a n):=congrArg strOf (pc_sub b a n);rw [if_pos h,ltI_no (by omega),cutB_pc h,hs,print_s _ (by rw [strOf_len,pc_len h]; omega)];dsimp only [Option.bind_some,cond_false,cond_true];cases printM (strOf (pcM b a n)) <;> rfl
theorem fld_s (b:BytT) (a:Nat) (no:Int) (hb:ByB b) (ha:a<=b.length):g151 b a no=fldR (getF b a no):=by
 have hbig:big=140737488355328:=rfl;have hl:=hb.1;obtain ⟨n,hn,hk⟩:=kinds no;have h0:ltI (a:Int) 0=false:=ltI_no (by omega)
 have hvar:∀ (d:Nat) (w:Int) (f:Nat->Nat->Option (List UInt8×Nat)) (F:Int->Int->Option (Unit×((List UInt8×Unit)×(Int×Unit)×(Bool×Unit)×Unit))),(d=2∨d=3)->(∀ a' k:Nat,a'<=b.length->k<=1048576->F (a':Int) (k:Int)=fldR (f a' k)) ->
  (Option.bind (g203 b a d) fun y5=>cond (!y5.2.2.2.1.1) (some ((),(([],()),(0,()),(false,()),()))) (Option.bind (g44 y5.2.1.1 1 (n:Int)) fun y6=>cond (!y6.2.1.1) (some ((),(([],()),(0,()),(false,()),()))) (F y5.2.2.1.1 y5.2.1.1)))=fldR (varO b a d n f):=by
  intro d w f F hd hF;rw [len_s b a d hb ha hd];unfold lenR varO;cases ho:bcdO b a d with
  | none=>rfl
  | some t =>
    obtain ⟨h1,h2,h3,h4,h5⟩:=bcdO_spec ho;have hv:=nar_bd t 0 0 h1 (by decide);have hv2:narV 0 t < 1000:=Nat.lt_of_lt_of_le hv (by rw [Nat.zero_add,h2]; exact Nat.pow_le_pow_right (by decide) (by omega:d<=3));dsimp only [Option.bind_some];rw [in_s];dsimp only [Option.bind_some];by_cases hin:1<=narV 0 t/\narV 0 t<=n
    . rw [if_pos hin,inM_iff.2 (by omega)];exact hF _ _ h5 (by omega)
    . rw [if_neg hin];have:inM (narV 0 t:Int) 1 (n:Int)=false:=by
       cases h:inM (narV 0 t:Int) 1 (n:Int) with
       | false=>rfl
       | true=>have:=inM_iff.1 h; omega
      rw [this]; rfl
 unfold g151 getF;rw [kind_s,size_s,hn,h0];have hnn:Int.toNat (n:Int)=n:=Int.toNat_natCast n;rcases hk with ⟨hk,hz⟩ | ⟨hk,hz⟩ | ⟨hk,hz⟩ | ⟨hk,hz⟩ | ⟨hk,hz⟩ | ⟨hk,hz⟩
 . rw [hk]; rfl
 . rw [hk,hnn];show (Option.bind (g149 b a n) fun y=>some ((),(y.2.1,y.2.2.1,y.2.2.2.1,())))=fldR (numO b a n);rw [bcd_s b a n hb ha (by omega),<- num_fld];rfl
 . rw [hk,hnn];exact txt_s b a n hb ha (by omega)
 . rw [hk,hnn];exact hvar 2 0 (numO b) (fun a' k=>Option.bind (g149 b a' k) fun y=>some ((),(y.2.1,y.2.2.1,y.2.2.2.1,()))) (.inl rfl) fun a' k ha' hk'=>by show (Option.bind (g149 b (a':Int) (k:Int)) _)=_;rw [bcd_s b a' k hb ha' hk',<- num_fld];rfl
 . rw [hk,hnn];exact hvar 2 0 (txtO b) (txtG b) (.inl rfl) fun a' k ha' hk'=>txt_s b a' k hb ha' hk'
 . rw [hk,hnn];exact hvar 3 0 (txtO b) (txtG b) (.inr rfl) fun a' k ha' hk'=>txt_s b a' k hb ha' hk'
noncomputable def bcdG (b:BytT) (no a n:Int):Option (Unit×((List UInt8×Unit)×(Int×Unit)×(Bool×Unit)×Unit)) :=
 Option.bind (g168 b a n) fun y5=>cond (!y5.2.2.2.1.1) (some ((),(([],()),(0,()),(false,()),()))) (Option.bind (g228 no y5.2.1.1) fun y6=>cond (!y6.2.1.1) (some ((),(([],()),(0,()),(false,()),()))) (some ((),(y5.2.1,y5.2.2.1,(true,()),()))))
noncomputable def pieG (b:BytT) (no a n:Int):Option (Unit×((List UInt8×Unit)×(Int×Unit)×(Bool×Unit)×Unit)) :=
 Option.bind (g223 b a n) fun y5=>cond (!y5.2.2.1.1) (some ((),(([],()),(0,()),(false,()),()))) (Option.bind (g228 no (strOf y5.2.1.1)) fun y6=>cond (!y6.2.1.1) (some ((),(([],()),(0,()),(false,()),()))) (some ((),((strOf y5.2.1.1,()),(addW .i64 a n,()),(true,()),()))))
theorem bcdG_eq (b:BytT) (no:Int) (a n:Nat) (hb:ByB b) (ha:a<=b.length) (hn:n<=1048576):bcdG b no a n=fldR ((numO b a n).filter fun s=>fokM no s.1):=by
 have hbig:big=140737488355328:=rfl;unfold bcdG numO;rw [bcd_i b a n hb ha hn];unfold bcdR;cases ho:bcdO b a n with
 | none=>rfl
 | some s => obtain ⟨h1,h2,h3,h4,h5⟩:=bcdO_spec ho;dsimp only [Option.bind_some];rw [fok_i no s (by omega)];dsimp only [Option.bind_some,Option.map_some];rw [Option.filter_some];dsimp only;cases fokM no s <;> rfl
def pieO (b:BytT) (a n:Nat):Option (List UInt8×Nat):=if a + n<=b.length then some (strOf (pcM b a n),a + n) else none
theorem pieG_eq (b:BytT) (no:Int) (a n:Nat) (hb:ByB b) (ha:a<=b.length) (hn:n<=1048576):pieG b no a n=fldR ((pieO b a n).filter fun s=>fokM no s.1):=by
 have hbig:big=140737488355328:=rfl;have hl:=hb.1;unfold pieG pieO;rw [piece_i b a n hb.1 ha hn];by_cases h:a + n<=b.length;rotate_left
 . rw [if_neg h,if_neg h]; rfl
 rw [if_pos h,if_pos h,Option.filter_some];have hf:=fok_i no (strOf (pcM b a n)) (by rw [strOf_len,pc_len h]; omega);refine (bn hf).trans ?_;have e2:addW .i64 (a:Int) (n:Int)=((a + n:Nat):Int):=by rw [addW_in (by omega) (by omega)]; omega
 show cond (!(fokM no (strOf (pcM b a n)))) _ (some ((),((_,()),(addW .i64 (a:Int) (n:Int),()),(true,()),())))=_;rw [e2];dsimp only;cases fokM no (strOf (pcM b a n)) <;> rfl
theorem var_i (b:BytT) (a d:Nat) (hb:ByB b) (ha:a<=b.length) (hd:d=2∨d=3) (F:Int->Int->Option (Unit×((List UInt8×Unit)×(Int×Unit)×(Bool×Unit)×Unit))) (f:Nat->Nat->Option (List UInt8×Nat)) (n:Nat)
 (hF:∀ a' k:Nat,a'<=b.length->k<=1048576->F (a':Int) (k:Int)=fldR (if 1<=k/\k<=n then f a' k else none)) :
 (Option.bind (g226 b a d) fun y4=>cond (!y4.2.2.2.1.1) (some ((),(([],()),(0,()),(false,()),()))) (F y4.2.2.1.1 y4.2.1.1))=fldR (varO b a d n f):=by
 rw [len_i b a d hb ha hd];unfold lenR varO;cases ho:bcdO b a d with
 | none=>rfl
 | some t => obtain ⟨h1,h2,h3,h4,h5⟩:=bcdO_spec ho;have hv:=nar_bd t 0 0 h1 (by decide);have hv2:narV 0 t < 1000:=Nat.lt_of_lt_of_le hv (by rw [Nat.zero_add,h2]; exact Nat.pow_le_pow_right (by decide) (by omega:d<=3));exact hF _ _ h5 (by omega)
theorem lenI_eq {s:List UInt8} {n:Nat} (h:s.length=n):lenI s=(n:Int):=by show (s.length:Int)=n; rw [h]
theorem inM_nat {k n:Nat}:inM (k:Int) 1 (n:Int)=decide (1<=k/\k<=n):=by
 by_cases h:1<=k/\k<=n
 . rw [decide_eq_true h]; exact inM_iff.2 (by omega)
 . rw [decide_eq_false h];cases h2:inM (k:Int) 1 (n:Int) with
   | false=>rfl
   | true=>have:=inM_iff.1 h2; omega
theorem fok_k {no:Int} {n:Nat} (hn:sizeM no=n) (s:List UInt8):(kindM no=1->fokM no s=cond (digitsM s) (eqI (lenI s) (n:Int)) false)/\(kindM no=2->fokM no s=cond (printM s) (eqI (lenI s) (n:Int)) false)/\(kindM no=3->fokM no s=cond (digitsM s) (inM (lenI s) 1 (n:Int)) false) /\
 ((kindM no=4∨kindM no=5)->fokM no s=cond (printM s) (inM (lenI s) 1 (n:Int)) false):=by
 unfold fokM;rw [hn];refine ⟨fun h=>by rw [h]; rfl,fun h=>by rw [h]; rfl,fun h=>by rw [h]; rfl,fun h => ?_⟩;rcases h with h | h <;> (rw [h]; rfl)
theorem pie_txt {b:BytT} {no:Int} {n:Nat} (hn:sizeM no=n) (hk:kindM no=4∨kindM no=5) (a k:Nat):(pieO b a k).filter (fun s=>fokM no s.1)=if 1<=k/\k<=n then txtO b a k else none:=by
 unfold pieO txtO;by_cases h:a + k<=b.length;rotate_left
 . rw [if_neg h,if_neg h]; simp
 rw [if_pos h,if_pos h,Option.filter_some];dsimp only;rw [(fok_k hn _).2.2.2 hk,lenI_eq (by rw [strOf_len,pc_len h]:(strOf (pcM b a k)).length=k),inM_nat];by_cases hin:1<=k/\k<=n
 . rw [decide_eq_true hin,if_pos hin]; cases printM (strOf (pcM b a k)) <;> rfl
 . rw [decide_eq_false hin,if_neg hin]; cases printM (strOf (pcM b a k)) <;> rfl
theorem fld_i (b:BytT) (a:Nat) (no:Int) (hb:ByB b) (ha:a<=b.length):g171 b a no=fldR (getF b a no):=by
 have hbig:big=140737488355328:=rfl;have hl:=hb.1;obtain ⟨n,hn,hk⟩:=kinds no;have hnn:Int.toNat (n:Int)=n:=Int.toNat_natCast n;have hlen:g227 no=some ((),((cond (eqI (kindM no) 5) 3 2,()),())):=by unfold g227;rw [kind_i];dsimp only [Option.bind_some];cases eqI (kindM no) 5 <;> rfl
 have base:g171 b a no=cond (cond (cond (eqI (kindM no) 3) true (eqI (kindM no) 4)) true (eqI (kindM no) 5)) (Option.bind (g226 b a (cond (eqI (kindM no) 5) 3 2)) fun y4=>cond (!y4.2.2.2.1.1) (some ((),(([],()),(0,()),(false,()),()))) (cond (cond (eqI (kindM no) 1) true (eqI (kindM no) 3)) (bcdG b no y4.2.2.1.1 y4.2.1.1) (pieG b no y4.2.2.1.1 y4.2.1.1)))
  (cond (cond (eqI (kindM no) 1) true (eqI (kindM no) 3)) (bcdG b no a (n:Int)) (pieG b no a (n:Int))):=by
  unfold g171;rw [size_i,kind_i,hlen,hn];rfl
 rw [base];unfold getF;rw [hn,hnn];rcases hk with ⟨hk,hz⟩ | ⟨hk,hz⟩ | ⟨hk,hz⟩ | ⟨hk,hz⟩ | ⟨hk,hz⟩ | ⟨hk,hz⟩
 . rw [hk];show pieG b no a (n:Int)=fldR none;rw [pieG_eq b no a n hb ha (by omega)];have:∀ s,fokM no s=false:=fun s=>by unfold fokM; rw [hk]; rfl
   unfold pieO;by_cases h:a + n<=b.length
   . rw [if_pos h,Option.filter_some,this]; rfl
   . rw [if_neg h]; rfl
 . rw [hk];show bcdG b no a (n:Int)=fldR (numO b a n);rw [bcdG_eq b no a n hb ha (by omega)];unfold numO;cases ho:bcdO b a n with
   | none=>rfl
   | some s => obtain ⟨h1,h2,h3,h4,h5⟩:=bcdO_spec ho;rw [Option.map_some,Option.filter_some];dsimp only;rw [(fok_k hn s).1 hk,digitsM_iff.2 ⟨h1,ne_of_len h2 h3⟩,lenI_eq h2,eqI_refl];rfl
 . rw [hk];show pieG b no a (n:Int)=fldR (txtO b a n);rw [pieG_eq b no a n hb ha (by omega)];unfold pieO txtO;by_cases h:a + n<=b.length;rotate_left
   . rw [if_neg h,if_neg h]; rfl
   rw [if_pos h,if_pos h,Option.filter_some];dsimp only;rw [(fok_k hn _).2.1 hk,lenI_eq (by rw [strOf_len,pc_len h]:(strOf (pcM b a n)).length=n),eqI_refl];cases printM (strOf (pcM b a n)) <;> rfl
 . rw [hk];exact var_i b a 2 hb ha (.inl rfl) (bcdG b no) (numO b) n fun a' k ha' hk'=>by
    rw [bcdG_eq b no a' k hb ha' hk'];unfold numO;cases ho:bcdO b a' k with
    | none => show fldR none=fldR (if _ then none else none);rw [ite_self]
    | some s =>
      obtain ⟨h1,h2,h3,h4,h5⟩:=bcdO_spec ho;rw [Option.map_some,Option.filter_some];dsimp only;rw [(fok_k hn s).2.2.1 hk,digitsM_iff.2 ⟨h1,ne_of_len h2 h3⟩,lenI_eq h2,inM_nat];by_cases hin:1<=k/\k<=n
      . rw [decide_eq_true hin,if_pos hin]; rfl
      . rw [decide_eq_false hin,if_neg hin]; rfl
 . rw [hk];exact var_i b a 2 hb ha (.inl rfl) (pieG b no) (txtO b) n fun a' k ha' hk'=>by rw [pieG_eq b no a' k hb ha' hk',pie_txt hn (.inl hk)]
 . rw [hk];exact var_i b a 3 hb ha (.inr rfl) (pieG b no) (txtO b) n fun a' k ha' hk'=>by rw [pieG_eq b no a' k hb ha' hk',pie_txt hn (.inr hk)]
theorem getF_spec {b:BytT} {a:Nat} {no:Int} {s:List UInt8} {e:Nat} (ha:a<=b.length) (h:getF b a no=some (s,e)):fokM no s=true/\s.length<=60/\e<=b.length:=by
 obtain ⟨n,hn,hk⟩:=kinds no;have hnn:Int.toNat (n:Int)=n:=Int.toNat_natCast n;have num:∀ a k,numO b a k=some (s,e)->s.all digM=true/\s.length=k/\1<=k/\e<=b.length:=fun a k h=>by unfold numO at h;obtain ⟨q,hq,h⟩:=Option.map_eq_some_iff.1 h;cases h;obtain ⟨h1,h2,h3,h4,h5⟩:=bcdO_spec hq;exact ⟨h1,h2,h3,h5⟩
 have txt:∀ a k,txtO b a k=some (s,e)->printM s=true/\s.length=k/\e<=b.length:=fun a k h=>by
  unfold txtO at h;split at h
  . rename_i hl;cases hp:printM (strOf (pcM b a k)) with
    | false=>rw [hp] at h; simp at h
    | true => rw [hp] at h;cases h;exact ⟨hp,by rw [strOf_len,pc_len hl],hl⟩
  . simp at h
 have var:∀ d f,varO b a d n f=some (s,e)->∃ a' k,1<=k/\k<=n/\f a' k=some (s,e):=fun d f h=>by
  unfold varO at h;split at h
  . split at h
    . rename_i hin;exact ⟨_,_,hin.1,hin.2,h⟩
    . simp at h
  . simp at h
 unfold getF at h;rw [hn,hnn] at h;rcases hk with ⟨hk,hz⟩ | ⟨hk,hz⟩ | ⟨hk,hz⟩ | ⟨hk,hz⟩ | ⟨hk,hz⟩ | ⟨hk,hz⟩ <;> rw [hk] at h
 . simp at h
 . obtain ⟨h1,h2,h3,h4⟩:=num _ _ h;exact ⟨by rw [(fok_k hn s).1 hk,digitsM_iff.2 ⟨h1,ne_of_len h2 h3⟩,lenI_eq h2,eqI_refl]; rfl,by omega,h4⟩
 . obtain ⟨h1,h2,h4⟩:=txt _ _ h;exact ⟨by rw [(fok_k hn s).2.1 hk,h1,lenI_eq h2,eqI_refl]; rfl,by omega,h4⟩
 . obtain ⟨a',k,k1,k2,h⟩:=var _ _ h;obtain ⟨h1,h2,h3,h4⟩:=num _ _ h;exact ⟨by rw [(fok_k hn s).2.2.1 hk,digitsM_iff.2 ⟨h1,ne_of_len h2 h3⟩,lenI_eq h2,inM_nat,decide_eq_true ⟨k1,k2⟩]; rfl,by omega,h4⟩
 . obtain ⟨a',k,k1,k2,h⟩:=var _ _ h;obtain ⟨h1,h2,h4⟩:=txt _ _ h;exact ⟨by rw [(fok_k hn s).2.2.2 (.inl hk),h1,lenI_eq h2,inM_nat,decide_eq_true ⟨k1,k2⟩]; rfl,by omega,h4⟩
 . obtain ⟨a',k,k1,k2,h⟩:=var _ _ h;obtain ⟨h1,h2,h4⟩:=txt _ _ h;exact ⟨by rw [(fok_k hn s).2.2.2 (.inr hk),h1,lenI_eq h2,inM_nat,decide_eq_true ⟨k1,k2⟩]; rfl,by omega,h4⟩
abbrev FldT:=Int×List UInt8×Unit
abbrev MsgT:=List UInt8×List FldT×Unit
def MsgB (m:MsgT):Prop:=m.1.length<=1048576/\m.2.1.length<=1048576/\∀ f∈m.2.1,f.2.1.length<=1048576
def msgStep (xs:List FldT) (i:Nat) (x:FldT):Bool:=cond (fokM x.1 x.2.1) (cond (decide (0 < i)) (!(leI x.1 (gt (0,[],()) xs ((i:Int) - 1)).1)) true) false
def msgM (m:MsgT):Bool:=cond (cond (digitsM m.1) (eqI (lenI m.1) 4) false) (allI (msgStep m.2.1) 0 m.2.1) false
theorem msg_loop_s (m:MsgT) (hb:MsgB m):l152_0 m.2.1 (lenI m.2.1) 0 m=some (bif allI (msgStep m.2.1) 0 m.2.1 then .inl (m.2.1,lenI m.2.1,(m.2.1.length:Int),m,()) else .inr (false,())):=by
 have hbig:big=140737488355328:=rfl;obtain ⟨mti,xs,u⟩:=m;obtain ⟨_,hl,hf⟩:=hb;dsimp only at hl hf ⊢;have h:=loop_list (step:=un4 r152_0) xs (fun i (_:Unit)=>(xs,lenI xs,((i:Nat):Int),(mti,xs,()),())) (fun i x _=>bif msgStep xs i x then Sum.inl () else .inr (.inr (false,()))) (fun _=> .inl (xs,lenI xs,(xs.length:Int),(mti,xs,()),())) (a0:=()) (fun i x a hx=>by
  have hlt:=lt_of_get hx;show r152_0 xs (lenI xs) (i:Int) (mti,xs,())=_;unfold r152_0 msgStep;rw [ltI_in hx,inB_in hx,gt_in _ hx];dsimp only [cond_true];rw [fok_s _ _ (le_big (hf x (List.mem_of_getElem? hx))),addW1 (by omega)];dsimp only [Option.bind_some];cases fokM x.1 x.2.1 with
  | false=>rfl
  | true =>
    by_cases h0:0 < i
    . rw [ltI_yes (show (0:Int) < i by omega),subW_in (by omega) (by omega),prev_get hx h0];dsimp only [cond_true,cond_false,Bool.not_true];have e:gt d178 xs ((i:Int) - 1)=gt (0,[],()) xs ((i:Int) - 1):=rfl;rw [e,decide_eq_true h0];cases leI x.1 (gt (0,[],()) xs ((i:Int) - 1)).1 <;> rfl
    . rw [ltI_no (show ¬ (0:Int) < i by omega),decide_eq_false h0]; rfl) (fun a=>by
  show r152_0 xs (lenI xs) (xs.length:Int) (mti,xs,())=_;unfold r152_0;rw [ltI_out rfl]; rfl)
 rw [goL_allI] at h;have h':l152_0 xs (lenI xs) 0 (mti,xs,())=_:=h;rw [h']
theorem msg_s (m:MsgT) (hb:MsgB m):g152 m=some ((),((msgM m,()),())):=by
 unfold g152 msgM;rw [digits_s _ (le_big hb.1)];dsimp only [Option.bind_some];cases digitsM m.1 with
 | false=>rfl
 | true =>
 cases eqI (lenI m.1) 4 with
 | false=>rfl
 | true => refine (bn (msg_loop_s m hb)).trans ?_;show _=some ((),((allI (msgStep m.2.1) 0 m.2.1,()),()));cases allI (msgStep m.2.1) 0 m.2.1 <;> rfl
theorem msg_loop_i (m:MsgT) (hb:MsgB m):l172_0 m.2.1 (lenI m.2.1) 0 m=some (bif allI (msgStep m.2.1) 0 m.2.1 then .inl (m.2.1,lenI m.2.1,(m.2.1.length:Int),m,()) else .inr (false,())):=by
 have hbig:big=140737488355328:=rfl;obtain ⟨mti,xs,u⟩:=m;obtain ⟨_,hl,hf⟩:=hb;dsimp only at hl hf ⊢;have h:=loop_list (step:=un4 r172_0) xs (fun i (_:Unit)=>(xs,lenI xs,((i:Nat):Int),(mti,xs,()),())) (fun i x _=>bif msgStep xs i x then Sum.inl () else .inr (.inr (false,()))) (fun _=> .inl (xs,lenI xs,(xs.length:Int),(mti,xs,()),())) (a0:=()) (fun i x a hx=>by
  have hlt:=lt_of_get hx;show r172_0 xs (lenI xs) (i:Int) (mti,xs,())=_;unfold r172_0 msgStep;rw [ltI_in hx,inB_in hx,gt_in _ hx];dsimp only [cond_true];rw [fok_i _ _ (le_big (hf x (List.mem_of_getElem? hx))),addW1 (by omega)];dsimp only [Option.bind_some];cases fokM x.1 x.2.1 with
  | false=>rfl
  | true =>
    by_cases h0:0 < i
    . rw [ltI_yes (show (0:Int) < i by omega),subW_in (by omega) (by omega),prev_get hx h0];dsimp only [cond_true,cond_false,Bool.not_true];have e:gt d178 xs ((i:Int) - 1)=gt (0,[],()) xs ((i:Int) - 1):=rfl;rw [e,decide_eq_true h0];cases leI x.1 (gt (0,[],()) xs ((i:Int) - 1)).1 <;> rfl
    . rw [ltI_no (show ¬ (0:Int) < i by omega),decide_eq_false h0]; rfl) (fun a=>by
  show r172_0 xs (lenI xs) (xs.length:Int) (mti,xs,())=_;unfold r172_0;rw [ltI_out rfl]; rfl)
 rw [goL_allI] at h;have h':l172_0 xs (lenI xs) 0 (mti,xs,())=_:=h;rw [h']
theorem wide_ok_i (s:List UInt8) (n:Int) (hs:s.length<=big):g194 s n=some ((),((cond (digitsM s) (eqI (lenI s) n) false,()),())):=by unfold g194;rw [digits_i s hs]; rfl
theorem msg_i (m:MsgT) (hb:MsgB m):g172 m=some ((),((msgM m,()),())):=by
 unfold g172 msgM;refine (bn (msg_loop_i m hb)).trans ?_;cases allI (msgStep m.2.1) 0 m.2.1 with
 | true =>
   show Option.bind (g194 m.1 4) _=_;rw [wide_ok_i m.1 4 (le_big hb.1)];dsimp only [Option.bind_some];cases digitsM m.1 with
   | false=>rfl
   | true=>cases eqI (lenI m.1) 4 <;> rfl
 | false =>
   cases digitsM m.1 with
   | false=>rfl
   | true=>cases eqI (lenI m.1) 4 <;> rfl
def fofM (m:MsgT) (no:Int):Option (List UInt8):=(m.2.1.find? fun f=>eqI f.1 no).map (·.2.1)
def fofR (o:Option (List UInt8)):Option (Unit×((List UInt8×Unit)×(Bool×Unit)×Unit)):=some ((),match o with | some s=>((s,()),(true,()),()) | none=>(([],()),(false,()),()))
theorem fof_s (m:MsgT) (no:Int) (hb:MsgB m):g154 m no=fofR (fofM m no):=by
 have hbig:big=140737488355328:=rfl;have hl:=hb.2.1;unfold g154;have h:=loop_list (step:=un4 r154_0) m.2.1 (fun i (_:Unit)=>(no,m.2.1,lenI m.2.1,((i:Nat):Int),())) (fun i x _=>bif eqI x.1 no then .inr (.inr (x.2.1,true,())) else .inl ()) (fun _=> .inl (no,m.2.1,lenI m.2.1,(m.2.1.length:Int),())) (a0:=()) (fun i x a hx=>by
  have hlt:=lt_of_get hx;show r154_0 no m.2.1 (lenI m.2.1) (i:Int)=_;unfold r154_0;rw [ltI_in hx,inB_in hx,gt_in _ hx,addW1 (by omega)];dsimp only [cond_true];cases eqI x.1 no <;> rfl) (fun a=>by
  show r154_0 no m.2.1 (lenI m.2.1) (m.2.1.length:Int)=_;unfold r154_0;rw [ltI_out rfl]; rfl)
 rw [goL_find1] at h;have h':l154_0 no m.2.1 (lenI m.2.1) 0=_:=h;refine (bn h').trans ?_;unfold fofM fofR;cases m.2.1.find? _ <;> rfl
theorem fof_i (m:MsgT) (no:Int) (hb:MsgB m):g174 m no=fofR (fofM m no):=by
 have hbig:big=140737488355328:=rfl;have hl:=hb.2.1;unfold g174;have h:=loop_list (step:=un4 r174_0) m.2.1 (fun i (_:Unit)=>(no,m.2.1,lenI m.2.1,((i:Nat):Int),())) (fun i x _=>bif eqI x.1 no then .inr (.inr (x.2.1,true,())) else .inl ()) (fun _=> .inl (no,m.2.1,lenI m.2.1,(m.2.1.length:Int),())) (a0:=()) (fun i x a hx=>by
  have hlt:=lt_of_get hx;show r174_0 no m.2.1 (lenI m.2.1) (i:Int)=_;unfold r174_0;rw [ltI_in hx,inB_in hx,gt_in _ hx,addW1 (by omega)];dsimp only [cond_true];cases eqI x.1 no <;> rfl) (fun a=>by
  show r174_0 no m.2.1 (lenI m.2.1) (m.2.1.length:Int)=_;unfold r174_0;rw [ltI_out rfl]; rfl)
 rw [goL_find1] at h;have h':l174_0 no m.2.1 (lenI m.2.1) 0=_:=h;refine (bn h').trans ?_;unfold fofM fofR;cases m.2.1.find? _ <;> rfl
def fldsM (b:BytT):BytT->Nat->List FldT->Option (List FldT×Nat)
 | [],a,o=>some (o,a)
 | x :: r,a,o=>match getF b a x.1 with
   | some (s,e)=>fldsM b r e (o ++ [(x.1,s,())])
   | none=>none
def addH (l:BytT):BytT:=l.map fun x=>(addW .i64 x.1 64,())
def kOk (x:Int×Unit):Bool:= !(eqI (kindM x.1) 0)
def lowM (l:BytT):BytT:=l.filter fun x=> !(eqI x.1 1)
def moreM1 (l:BytT):Bool:=l.any fun x=>eqI x.1 1
def nosM (b:BytT):Option (BytT×Nat) :=
 if 10<=b.length then
  (bif moreM1 (bitsM (pcM b 2 8)) then
    (if 18<=b.length/\bitsM (pcM b 10 8)≠[] then (bif (lowM (bitsM (pcM b 2 8)) ++ addH (bitsM (pcM b 10 8))).all kOk then some (lowM (bitsM (pcM b 2 8)) ++ addH (bitsM (pcM b 10 8)),18) else none) else none)
  else (bif (lowM (bitsM (pcM b 2 8))).all kOk then some (lowM (bitsM (pcM b 2 8)),10) else none))
 else none
def parseM (b:BytT):MsgT×Int:=match bcdO b 0 4 with
 | none=>(([],[],()),1)
 | some mti=>match nosM b with
   | none=>(([],[],()),2)
   | some (nos,a)=>match fldsM b nos a [] with
     | none=>(([],[],()),3)
     | some (l,e)=>if e=b.length then ((mti,l,()),0) else (([],[],()),4)
def parR (p:MsgT×Int):Option (Unit×(MsgT×(Int×Unit)×Unit)):=some ((),(p.1,(p.2,()),()))
theorem nos_s (b:BytT) (hb:ByB b) (h2:2<=b.length):g150 b=some ((),match nosM b with | some p=>((p.1,()),((p.2:Int),()),(true,()),()) | none=>(([],()),(0,()),(false,()),())):=by
 have hbig:big=140737488355328:=rfl;have hl:=hb.1;unfold g150 nosM;have h0:g199 b 2=_:=bits_s b 2 hb h2;unfold bitsR at h0;refine (bn h0).trans ?_;by_cases h10:10<=b.length;rotate_left
 . rw [if_neg h10,if_neg h10]; rfl
 rw [if_pos h10,if_pos h10];have k1:=bits_len (pcM b 2 8);generalize bitsM (pcM b 2 8)=lo at k1 ⊢;have hlow:l150_0 b 10 [] false lo (lenI lo) 0=some (.inl (b,10,lowM lo,moreM1 lo,lo,lenI lo,(lo.length:Int),())):=by
  have h:=loop_inv (step:=un7 r150_0) lo (fun i (o:BytT×Bool)=>(b,10,o.1,o.2,lo,lenI lo,((i:Nat):Int),())) (fun _ x o=>Sum.inl (bif eqI x.1 1 then (o.1,true) else (o.1 ++ [x],o.2))) (fun o=> .inl (b,10,o.1,o.2,lo,lenI lo,(lo.length:Int),())) (fun i o=>o.1.length<=i) (a0:=([],false)) (Nat.le_refl _) (fun i x o hx ho=>by
   have hlt:=lt_of_get hx;show r150_0 b 10 o.1 o.2 lo (lenI lo) (i:Int)=_;unfold r150_0;rw [ltI_in hx,inB_in hx,gt_in _ hx,addW1 (by omega)];have:fitB 8 o.1 [x]=true:=Nat.ble_eq_true_of_le (by show (o.1.length + 1) * 8<=big; omega);dsimp only [cond_true];rw [this];cases eqI x.1 1 <;> rfl) (fun i x o o' hx ho hf=>by
   simp only [Sum.inl.injEq] at hf;rw [<- hf];cases eqI x.1 1 with
   | true=>show o.1.length<=_; omega
   | false=>show (o.1 ++ [x]).length<=_; rw [List.length_append]; show o.1.length + 1<=_; omega) (fun o ho=>by
   show r150_0 b 10 o.1 o.2 lo (lenI lo) (lo.length:Int)=_;unfold r150_0;rw [ltI_out rfl]; rfl)
  have hfold:∀ (l:BytT) (o:BytT×Bool),l.foldl (fun o x=>bif eqI x.1 1 then (o.1,true) else (o.1 ++ [x],o.2)) o=(o.1 ++ lowM l,o.2 || moreM1 l):=fun l=>by
   induction l with
   | nil=>intro o; simp [lowM,moreM1]
   | cons x r ih => intro o;rw [List.foldl_cons,ih];unfold lowM moreM1;rw [List.filter_cons,List.any_cons];cases eqI x.1 1 <;> simp
  rw [goL_fold,hfold] at h;exact h
 have hchk:∀ (nos:BytT) (a:Int),nos.length<=1000->l150_4 () a nos (lenI nos) 0=some (bif nos.all kOk then .inl ((),a,nos,lenI nos,(nos.length:Int),()) else .inr ([],0,false,())):=fun nos a hn=>by
  have h:=loop_list (step:=un5 r150_4) nos (fun i (_:Unit)=>((),a,nos,lenI nos,((i:Nat):Int),())) (fun _ x _=>bif kOk x then Sum.inl () else .inr (.inr ([],0,false,()))) (fun _=> .inl ((),a,nos,lenI nos,(nos.length:Int),())) (a0:=()) (fun i x o hx=>by
   have hlt:=lt_of_get hx;show r150_4 () a nos (lenI nos) (i:Int)=_;unfold r150_4;rw [ltI_in hx,inB_in hx,gt_in _ hx,addW1 (by omega),kind_s];dsimp only [cond_true,Option.bind_some];unfold kOk;cases eqI (kindM x.1) 0 <;> rfl) (fun o=>by
   show r150_4 () a nos (lenI nos) (nos.length:Int)=_;unfold r150_4;rw [ltI_out rfl]; rfl)
  rw [goL_all] at h;refine Eq.trans h ?_;cases nos.all kOk <;> rfl
 have hlen:(lowM lo).length<=64:=Nat.le_trans (List.length_filter_le _ _) k1;refine (bn hlow).trans ?_;show cond (moreM1 lo) _ _=_;cases moreM1 lo with
 | false => refine (bn (hchk (lowM lo) 10 (by omega))).trans ?_;cases (lowM lo).all kOk <;> rfl
 | true =>
   have h1:g199 b 10=_:=bits_s b 10 hb h10;unfold bitsR at h1;refine (bn h1).trans ?_;by_cases h18:18<=b.length;rotate_left
   . rw [if_neg h18,if_neg (fun h=>h18 h.1)]; rfl
   rw [if_pos h18];have k2:=bits_len (pcM b 10 8);have k3:= @bits_mem (pcM b 10 8);generalize bitsM (pcM b 10 8)=hi at k2 k3 ⊢;by_cases hne:hi=[]
   . rw [if_neg (fun h=>h.2 hne),hne]; rfl
   rw [if_pos ⟨h18,hne⟩];have he:eqI (lenI hi) 0=false:=beq_eq_false_iff_ne.2 (by
    show (hi.length:Int)≠0;cases hi with
    | nil=>exact absurd rfl hne
    | cons x r=>show ((r.length + 1:Nat):Int)≠0; omega)
   have hhi:l150_2 (lowM lo) 18 hi (lenI hi) 0=some (.inl (lowM lo ++ addH hi,18,hi,lenI hi,(hi.length:Int),())):=by
    have h:=loop_inv (step:=un5 r150_2) hi (fun i (o:BytT)=>(o,18,hi,lenI hi,((i:Nat):Int),())) (fun _ x o=>Sum.inl (o ++ [(addW .i64 x.1 64,())])) (fun o=> .inl (o,18,hi,lenI hi,(hi.length:Int),())) (fun i o=>o.length=(lowM lo).length + i) (a0:=lowM lo) rfl (fun i x o hx ho=>by
     have hlt:=lt_of_get hx;show r150_2 o 18 hi (lenI hi) (i:Int)=_;unfold r150_2;rw [ltI_in hx,inB_in hx,gt_in _ hx,addW1 (by omega)];have:fitB 8 o [(addW .i64 x.1 64,())]=true:=Nat.ble_eq_true_of_le (by show (o.length + 1) * 8<=big; omega);rw [this]; rfl) (fun i x o o' hx ho hf=>by
     simp only [Sum.inl.injEq] at hf;rw [<- hf,List.length_append,ho]; rfl) (fun o ho=>by
     show r150_2 o 18 hi (lenI hi) (hi.length:Int)=_;unfold r150_2;rw [ltI_out rfl]; rfl)
    have hfold:∀ (l o:BytT),l.foldl (fun o x=>o ++ [(addW .i64 x.1 64,())]) o=o ++ addH l:=fun l=>by
     induction l with
     | nil=>intro o; simp [addH]
     | cons x r ih=>intro o; rw [List.foldl_cons,ih]; simp [addH]
    rw [goL_fold,hfold] at h;exact h
   show cond (cond (!true) true (eqI (lenI hi) 0)) _ _=_;rw [he];refine (bn hhi).trans ?_;have hla:(lowM lo ++ addH hi).length<=1000:=by rw [List.length_append]; unfold addH; rw [List.length_map]; omega
   refine (bn (hchk (lowM lo ++ addH hi) 18 hla)).trans ?_;cases (lowM lo ++ addH hi).all kOk <;> rfl
theorem goL_allF {α A Y:Type} (p:α->Bool) (f:α->A->A) (y:Y) (z:A->Y):∀ (xs:List α) (i:Nat) (a:A),goL (fun _ x a=>bif p x then .inl (f x a) else .inr y) z i xs a=bif xs.all p then z (xs.foldl (fun a x=>f x a) a) else y
 | [],_,_=>rfl
 | x :: r,i,a=>by
   rw [goL,List.all_cons,List.foldl_cons];cases hp:p x with
   | true=>simp only [cond_true,Bool.true_and]; exact goL_allF p f y z r (i + 1) _
   | false=>rfl
def lowF (x:Int×Unit) (o:BytT×Bool):BytT×Bool:=bif eqI x.1 1 then (o.1,true) else (o.1 ++ [x],o.2)
theorem lowF_fold:∀ (l:BytT) (o:BytT×Bool),l.foldl (fun o x=>lowF x o) o=(o.1 ++ lowM l,o.2 || moreM1 l):=fun l=>by
 induction l with
 | nil=>intro o; simp [lowM,moreM1]
 | cons x r ih => intro o;rw [List.foldl_cons,ih];unfold lowF lowM moreM1;rw [List.filter_cons,List.any_cons];cases eqI x.1 1 <;> simp
def lowK (x:Int×Unit):Bool:=eqI x.1 1 || kOk x
theorem lowK_all (l:BytT):l.all lowK=(lowM l).all kOk:=by
 induction l with
 | nil=>rfl
 | cons x r ih => unfold lowM at ih ⊢;rw [List.all_cons,List.filter_cons,ih];unfold lowK;cases h:eqI x.1 1 <;> simp
theorem fit8 {o:BytT} {x:Int×Unit} (h:o.length<=1048576):fitB 8 o [x]=true:=Nat.ble_eq_true_of_le (by show (o.length + 1) * 8<=140737488355328; omega)
theorem low_i (b:BytT) (mti:List UInt8) (at':Int) (lo:BytT) (hl:lo.length<=64) (m0:MsgT):l126_0 b mti at' [] false lo (lenI lo) 0 m0=some (bif (lowM lo).all kOk then .inl (b,mti,at',lowM lo,moreM1 lo,lo,lenI lo,(lo.length:Int),m0,()) else .inr (2,([],[],()),())):=by
 have h:=loop_inv (step:=un9 r126_0) lo (fun i (o:BytT×Bool)=>(b,mti,at',o.1,o.2,lo,lenI lo,((i:Nat):Int),m0,())) (fun _ x o=>bif lowK x then Sum.inl (lowF x o) else .inr (.inr (2,([],[],()),()))) (fun o=> .inl (b,mti,at',o.1,o.2,lo,lenI lo,(lo.length:Int),m0,())) (fun i o=>o.1.length<=i) (a0:=([],false)) (Nat.le_refl _) (fun i x o hx ho=>by
  have hlt:=lt_of_get hx;show r126_0 b mti at' o.1 o.2 lo (lenI lo) (i:Int) m0=_;unfold r126_0;rw [ltI_in hx,inB_in hx,gt_in _ hx,addW1 (by unfold big; omega)];dsimp only [cond_true];rw [kind_i];dsimp only [Option.bind_some];rw [fit8 (by omega)];unfold lowK lowF kOk;cases eqI x.1 1 <;> cases eqI (kindM x.1) 0 <;> rfl) (fun i x o o' hx ho hf=>by
  unfold lowF at hf;cases hk:lowK x <;> rw [hk] at hf
  . cases hf
  . cases hf;cases eqI x.1 1 with
    | true=>show o.1.length<=_; omega
    | false=>show (o.1 ++ [x]).length<=_; rw [List.length_append]; show o.1.length + 1<=_; omega) (fun o ho=>by
  show r126_0 b mti at' o.1 o.2 lo (lenI lo) (lo.length:Int) m0=_;unfold r126_0;rw [ltI_out rfl]; rfl)
 rw [goL_allF,lowF_fold,lowK_all] at h;refine Eq.trans h ?_;cases (lowM lo).all kOk <;> rfl
theorem addH_all (l:BytT):(addH l).all kOk=l.all fun x=>kOk (addW .i64 x.1 64,()):=by unfold addH; rw [List.all_map]; rfl
theorem addH_fold:∀ (l o:BytT),l.foldl (fun o x=>o ++ [(addW .i64 x.1 64,())]) o=o ++ addH l:=fun l=>by
 induction l with
 | nil=>intro o; simp [addH]
 | cons x r ih=>intro o; rw [List.foldl_cons,ih]; simp [addH]
theorem high_i (b:BytT) (mti:List UInt8) (at':Int) (o0 hi:BytT) (h0:o0.length<=64) (hl:hi.length<=64) (m0:MsgT):l126_3 b mti at' o0 hi (lenI hi) 0 m0=some (bif (addH hi).all kOk then .inl (b,mti,at',o0 ++ addH hi,hi,lenI hi,(hi.length:Int),m0,()) else .inr (2,([],[],()),())):=by
 have h:=loop_inv (step:=un8 r126_3) hi (fun i (o:BytT)=>(b,mti,at',o,hi,lenI hi,((i:Nat):Int),m0,())) (fun _ x o=>bif kOk (addW .i64 x.1 64,()) then Sum.inl (o ++ [(addW .i64 x.1 64,())]) else .inr (.inr (2,([],[],()),()))) (fun o=> .inl (b,mti,at',o,hi,lenI hi,(hi.length:Int),m0,())) (fun i o=>o.length<=64 + i) (a0:=o0) h0 (fun i x o hx ho=>by
  have hlt:=lt_of_get hx;show r126_3 b mti at' o hi (lenI hi) (i:Int) m0=_;unfold r126_3;rw [ltI_in hx,inB_in hx,gt_in _ hx,addW1 (by unfold big; omega)];dsimp only [cond_true];rw [kind_i];dsimp only [Option.bind_some];rw [fit8 (by omega)];unfold kOk;cases eqI (kindM (addW .i64 x.1 64)) 0 <;> rfl) (fun i x o o' hx ho hf=>by
  cases hk:kOk (addW .i64 x.1 64,()) <;> rw [hk] at hf
  . cases hf
  . cases hf;rw [List.length_append]; show o.length + 1<=_; omega) (fun o ho=>by
  show r126_3 b mti at' o hi (lenI hi) (hi.length:Int) m0=_;unfold r126_3;rw [ltI_out rfl]; rfl)
 rw [goL_allF,addH_fold,<- addH_all] at h;refine Eq.trans h ?_;cases (addH hi).all kOk <;> rfl
def fldY (b:BytT) (mti:List UInt8) (m0:MsgT) (nos:BytT) (n:Int):Option (List FldT×Nat)->Sum (BytT×Int×BytT×Int×Int×MsgT×MsgT×Unit) (Int×MsgT×Unit)
 | some (l,e)=> .inl (b,(e:Int),nos,n,n,m0,(mti,l,()),())
 | none=> .inr (3,([],[],()),())
theorem goL_fld (b:BytT) (mti:List UInt8) (m0:MsgT) (ns:BytT) (n:Int):∀ (nos:BytT) (i a:Nat) (o:List FldT),goL (fun _ x (q:Nat×List FldT)=>match getF b q.1 x.1 with | some (s,e)=>Sum.inl (e,q.2 ++ [(x.1,s,())]) | none=> .inr (.inr (3,([],[],()),()))) (fun q=> .inl (b,(q.1:Int),ns,n,n,m0,(mti,q.2,()),())) i nos (a,o)=fldY b mti m0 ns n (fldsM b nos a o)
 | [],_,_,_=>rfl
 | x :: r,i,a,o=>by
   rw [goL,fldsM];cases getF b a x.1 with
   | none=>rfl
   | some p=>exact goL_fld b mti m0 ns n r (i + 1) p.2 _
theorem fit24 {o:List FldT} {x:FldT} (h:o.length<=1048576):fitB 24 o [x]=true:=Nat.ble_eq_true_of_le (by show (o.length + 1) * 24<=140737488355328; omega)
theorem flds_s (b:BytT) (hb:ByB b) (a:Nat) (ha:a<=b.length) (nos:BytT) (hn:nos.length<=1000) (mti:List UInt8) (m0:MsgT):l119_0 b (a:Int) nos (lenI nos) 0 m0 (mti,[],())=some (fldY b mti m0 nos (lenI nos) (fldsM b nos a [])):=by
 have h:=loop_inv (step:=un7 r119_0) nos (fun i (q:Nat×List FldT)=>(b,(q.1:Int),nos,lenI nos,((i:Nat):Int),m0,(mti,q.2,()),())) (fun _ x q=>match getF b q.1 x.1 with | some (s,e)=>Sum.inl (e,q.2 ++ [(x.1,s,())]) | none=> .inr (.inr (3,([],[],()),()))) (fun q=> .inl (b,(q.1:Int),nos,lenI nos,(nos.length:Int),m0,(mti,q.2,()),())) (fun i q=>q.1<=b.length/\q.2.length<=i) (a0:=(a,[])) ⟨ha,Nat.le_refl _⟩ (fun i x q hx hq=>by
  have hlt:=lt_of_get hx;show r119_0 b (q.1:Int) nos (lenI nos) (i:Int) m0 (mti,q.2,())=_;unfold r119_0;rw [ltI_in hx,inB_in hx,gt_in _ hx,addW1 (by unfold big; omega),fld_s b q.1 x.1 hb hq.1];unfold fldR;cases getF b q.1 x.1 with
  | none=>rfl
  | some p =>
    dsimp only [cond_true,Option.bind_some,Bool.not_true,cond_false];rw [fit24 (Nat.le_trans hq.2 (by omega))]; rfl) (fun i x q q' hx hq hf=>by
  cases hg:getF b q.1 x.1 with
  | none=>rw [hg] at hf; cases hf
  | some p =>
    rw [hg] at hf;cases hf;refine ⟨(getF_spec hq.1 hg).2.2,?_⟩;show (q.2 ++ [_]).length<=_;rw [List.length_append];exact Nat.succ_le_succ hq.2) (fun q hq=>by
  show r119_0 b (q.1:Int) nos (lenI nos) (nos.length:Int) m0 (mti,q.2,())=_;unfold r119_0;rw [ltI_out rfl]; rfl)
 rw [show (fun (q:Nat×List FldT)=>(Sum.inl (b,(q.1:Int),nos,lenI nos,(nos.length:Int),m0,(mti,q.2,()),()):Sum (BytT×Int×BytT×Int×Int×MsgT×MsgT×Unit) (Int×MsgT×Unit)))=fun q=> .inl (b,(q.1:Int),nos,lenI nos,lenI nos,m0,(mti,q.2,()),()) from rfl,goL_fld] at h;exact h
end Go.Av
