/- Part of a proof that the law FnExactWaitsOn answers true for every input: the printed functions of this program and their plain laws. No conditions beyond the statement. -/
import Derived.Test.YtpgkhfcgbjangaaGreatDoorP3a
set_option maxRecDepth 100000
set_option maxHeartbeats 4000000
namespace Go.Av
theorem flds_i (b:BytT) (hb:ByB b) (a:Nat) (ha:a<=b.length) (nos:BytT) (hn:nos.length<=1000) (mti:List UInt8) (m0:MsgT):l126_5 b (a:Int) nos (lenI nos) 0 m0 (mti,[],())=some (fldY b mti m0 nos (lenI nos) (fldsM b nos a [])):=by
 have h:=loop_inv (step:=un7 r126_5) nos (fun i (q:Nat×List FldT)=>(b,(q.1:Int),nos,lenI nos,((i:Nat):Int),m0,(mti,q.2,()),())) (fun _ x q=>match getF b q.1 x.1 with | some (s,e)=>Sum.inl (e,q.2 ++ [(x.1,s,())]) | none=> .inr (.inr (3,([],[],()),()))) (fun q=> .inl (b,(q.1:Int),nos,lenI nos,(nos.length:Int),m0,(mti,q.2,()),())) (fun i q=>q.1<=b.length/\q.2.length<=i) (a0:=(a,[])) ⟨ha,Nat.le_refl _⟩ (fun i x q hx hq=>by
  have hlt:=lt_of_get hx;show r126_5 b (q.1:Int) nos (lenI nos) (i:Int) m0 (mti,q.2,())=_;unfold r126_5;rw [ltI_in hx,inB_in hx,gt_in _ hx,addW1 (by unfold big; omega),fld_i b q.1 x.1 hb hq.1];unfold fldR;cases getF b q.1 x.1 with
  | none=>rfl
  | some p =>
    dsimp only [cond_true,Option.bind_some,Bool.not_true,cond_false];rw [fit24 (Nat.le_trans hq.2 (by omega))]; rfl) (fun i x q q' hx hq hf=>by
  cases hg:getF b q.1 x.1 with
  | none=>rw [hg] at hf; cases hf
  | some p =>
    rw [hg] at hf;cases hf;refine ⟨(getF_spec hq.1 hg).2.2,?_⟩;show (q.2 ++ [_]).length<=_;rw [List.length_append];exact Nat.succ_le_succ hq.2) (fun q hq=>by
  show r126_5 b (q.1:Int) nos (lenI nos) (nos.length:Int) m0 (mti,q.2,())=_;unfold r126_5;rw [ltI_out rfl]; rfl)
 rw [show (fun (q:Nat×List FldT)=>(Sum.inl (b,(q.1:Int),nos,lenI nos,(nos.length:Int),m0,(mti,q.2,()),()):Sum (BytT×Int×BytT×Int×Int×MsgT×MsgT×Unit) (Int×MsgT×Unit)))=fun q=> .inl (b,(q.1:Int),nos,lenI nos,lenI nos,m0,(mti,q.2,()),()) from rfl,goL_fld] at h;exact h
theorem nosM_len {b:BytT} {p:BytT×Nat} (h:nosM b=some p):p.1.length<=1000/\p.2<=b.length:=by
 have k1:=bits_len (pcM b 2 8);have k2:=bits_len (pcM b 10 8);have k3:(lowM (bitsM (pcM b 2 8))).length<=64:=Nat.le_trans (List.length_filter_le _ _) k1;have k4:(addH (bitsM (pcM b 10 8))).length<=64:=by unfold addH; rw [List.length_map]; exact k2
 unfold nosM at h;by_cases h10:10<=b.length;rotate_left
 . rw [if_neg h10] at h; cases h
 rw [if_pos h10] at h;cases hm:moreM1 (bitsM (pcM b 2 8)) <;> rw [hm] at h
 . cases hk:(lowM (bitsM (pcM b 2 8))).all kOk <;> rw [hk] at h <;> cases h;exact ⟨by show (lowM (bitsM (pcM b 2 8))).length<=_; omega,h10⟩
 . by_cases h18:18<=b.length/\bitsM (pcM b 10 8)≠[]
   . rw [cond_true,if_pos h18] at h;cases hk:(lowM (bitsM (pcM b 2 8)) ++ addH (bitsM (pcM b 10 8))).all kOk <;> rw [hk] at h <;> cases h;refine ⟨?_,h18.1⟩;show (lowM (bitsM (pcM b 2 8)) ++ addH (bitsM (pcM b 10 8))).length<=_;rw [List.length_append]; omega
   . rw [cond_true,if_neg h18] at h; cases h
theorem par_s (b:BytT) (hb:ByB b):g119 b=parR (parseM b):=by
 unfold g119 parseM parR;have h0:g149 b 0 4=bcdR (bcdO b 0 4) 2:=bcd_s b 0 4 hb (Nat.zero_le _) (by omega);rw [h0];cases hc:bcdO b 0 4 with
 | none=>rfl
 | some mti =>
   have h2:2<=b.length:=(bcdO_spec hc).2.2.2.2;show Option.bind (g150 b) _=_;rw [nos_s b hb h2];cases hn:nosM b with
   | none=>rfl
   | some p =>
     obtain ⟨n1,n2⟩:=nosM_len hn;obtain ⟨nos,a⟩:=p;refine (bn (flds_s b hb a n2 nos n1 mti ([],[],()))).trans ?_;dsimp only;cases fldsM b nos a [] with
     | none=>rfl
     | some q =>
       obtain ⟨l,e⟩:=q;show cond (!(eqI (e:Int) (b.length:Int))) _ _=_;dsimp only;by_cases he:e=b.length
       . rw [if_pos he,he,eqI_refl]; rfl
       . rw [if_neg he,show eqI (e:Int) (b.length:Int)=false from beq_eq_false_iff_ne.2 (by omega)]; rfl
theorem par_i (b:BytT) (hb:ByB b):g126 b=parR (parseM b):=by
 unfold g126 parseM parR;have h0:g168 b 0 4=bcdR (bcdO b 0 4) 2:=bcd_i b 0 4 hb (Nat.zero_le _) (by omega);rw [h0];cases hc:bcdO b 0 4 with
 | none=>rfl
 | some mti =>
   have h2:2<=b.length:=(bcdO_spec hc).2.2.2.2;have h1:g169 b 2=bitsR b 2:=bits_i b 2 hb h2;show Option.bind (g169 b 2) _=_;rw [h1];unfold bitsR nosM;have k1:=bits_len (pcM b 2 8);generalize hlo:bitsM (pcM b 2 8)=lo at k1 ⊢;have k3:(lowM lo).length<=64:=Nat.le_trans (List.length_filter_le _ _) k1;have tail:∀ (nos:BytT) (a:Nat),a<=b.length->nos.length<=1000->∀ m0:MsgT,(Option.bind (l126_5 b (a:Int) nos (lenI nos) 0 m0 (mti,[],())) (Sum.elim (fun y6=>cond (!(eqI y6.2.1 (lenI y6.1))) (some ((),(([],[],()),(4,()),()))) (some ((),(y6.2.2.2.2.2.2.1,(0,()),())))) (fun y6=>some ((),(y6.2.1,(y6.1,()),())))))=some ((),(match fldsM b nos a [] with | none=>(([],[],()),3) | some (l,e)=>if e=b.length then ((mti,l,()),0) else (([],[],()),4):MsgT×Int).1,((match fldsM b nos a [] with | none=>(([],[],()),3) | some (l,e)=>if e=b.length then ((mti,l,()),0) else (([],[],()),4):MsgT×Int).2,()),()):=fun nos a ha hn m0=>by
    rw [flds_i b hb a ha nos hn mti m0];cases fldsM b nos a [] with
    | none=>rfl
    | some q =>
      obtain ⟨l,e⟩:=q;show cond (!(eqI (e:Int) (b.length:Int))) _ _=_;dsimp only;by_cases he:e=b.length
      . rw [if_pos he,he,eqI_refl]; rfl
      . rw [if_neg he,show eqI (e:Int) (b.length:Int)=false from beq_eq_false_iff_ne.2 (by omega)]; rfl
   by_cases h10:10<=b.length;rotate_left
   . rw [if_neg h10,if_neg (show ¬ 2 + 8<=b.length from h10)]; rfl
   rw [if_pos h10,if_pos (show 2 + 8<=b.length from h10)];refine (bn (low_i b mti 10 lo k1 ([],[],()))).trans ?_;cases hk:(lowM lo).all kOk with
   | false =>
     dsimp only [cond_false];cases moreM1 lo with
     | false=>rfl
     | true =>
       dsimp only [cond_true];rw [List.all_append,hk];by_cases h18:18<=b.length/\bitsM (pcM b 10 8)≠[]
       . rw [if_pos h18]; rfl
       . rw [if_neg h18]; rfl
   | true =>
     dsimp only [cond_true];show cond (moreM1 lo) _ _=_;cases moreM1 lo with
     | false=>exact tail (lowM lo) 10 h10 (by omega) _
     | true =>
       dsimp only [cond_true];have h3:g169 b 10=bitsR b 10:=bits_i b 10 hb h10;refine (bn h3).trans ?_;unfold bitsR;have k2:=bits_len (pcM b 10 8);generalize bitsM (pcM b 10 8)=hi at k2 ⊢;by_cases h18:18<=b.length;rotate_left
       . rw [if_neg (show ¬ 10 + 8<=b.length from h18),if_neg (fun h=>h18 h.1)]; rfl
       rw [if_pos (show 10 + 8<=b.length from h18)];by_cases hne:hi=[]
       . rw [if_neg (fun h=>h.2 hne),hne]; rfl
       rw [if_pos ⟨h18,hne⟩];have he:eqI (lenI hi) 0=false:=beq_eq_false_iff_ne.2 (by
        show (hi.length:Int)≠0;cases hi with
        | nil=>exact absurd rfl hne
        | cons x r=>show ((r.length + 1:Nat):Int)≠0; omega)
       show cond (cond (!true) true (eqI (lenI hi) 0)) _ _=_;rw [he];refine (bn (high_i b mti 18 (lowM lo) hi k3 k2 ([],[],()))).trans ?_;rw [List.all_append,hk];cases (addH hi).all kOk with
       | false=>rfl
       | true=>exact tail (lowM lo ++ addH hi) 18 h18 (by rw [List.length_append]; unfold addH; rw [List.length_map]; omega) _
abbrev ReqT:=Int×(List UInt8)×(List UInt8)×(List UInt8)×(List UInt8)×(List UInt8)×Int×Int×Unit
theorem contains_i (xs:List (Int×Unit)) (v:Int) (hs:xs.length<=1048576):g40 xs v=some ((),((leI 0 (findI (fun y=>eqI v y.1) 0 xs),()),())):=by
 have hbig:big=140737488355328:=rfl;unfold g40 g72;have h:=loop_list (step:=un4 r72_0) xs (fun i (_:Unit)=>(xs,v,lenI xs,((i:Nat):Int),())) (fun i y _=>bif eqI v y.1 then Sum.inr (.inr ((i:Int),())) else Sum.inl ()) (fun _=> .inl (xs,v,lenI xs,(xs.length:Int),())) (a0:=()) (fun i y u hy=>by
  have hlt:=lt_of_get hy;show r72_0 xs v (lenI xs) (i:Int)=_;unfold r72_0;rw [ltI_in hy,inB_in hy,gt_in _ hy,addW1 (by omega)];dsimp only [cond_true];cases eqI v y.1 <;> rfl) (fun u=>by
  show r72_0 xs v (lenI xs) (xs.length:Int)=_;unfold r72_0;rw [ltI_out rfl]; rfl)
 have h':l72_0 xs v (lenI xs) 0=_:=h;rw [h'];have hf:=goL_find (Y:=Sum ((List (Int×Unit))×Int×Int×Int×Unit) (Int×Unit)) (fun (y:Int×Unit)=>eqI v y.1) (fun n=> .inr (n,())) (.inl (xs,v,lenI xs,(xs.length:Int),())) (fun y=>match y with | .inl _ => -1 | .inr z=>z.1) (fun _=>rfl) rfl xs 0;rw [<- hf];dsimp only [Option.bind_some];cases goL _ _ 0 xs () <;> rfl
def mtiM (op:Int):List UInt8:=gt ([],()) [([],()),([48,49,48,48],()),([48,49,48,48],()),([48,50,50,48],()),([48,50,50,48],()),([48,50,50,48],()),([48,50,48,48],()),([48,49,48,48],()),([48,50,48,48],())] op |>.1
def reqM (q:ReqT):Bool:=inM q.1 1 8 && eqS q.2.2.2.2.2.1 (mtiM q.1) && acctIdM q.2.1 && digitsM q.2.2.2.2.1 && eqI (lenI q.2.2.2.2.1) 6 && (cond (ltI q.1 7) (holdIdM q.2.2.2.1) (eqS q.2.2.2.1 [])) && (cond (ltI q.1 5) (inM q.2.2.2.2.2.2.1 0 999999999999) (eqI q.2.2.2.2.2.2.1 0)) && (cond (eqI q.1 1) (inM q.2.2.2.2.2.2.2.1 0 9999) (eqI q.2.2.2.2.2.2.2.1 0)) && (cond (eqI q.1 6) (acctIdM q.2.2.1) (eqS q.2.2.1 []))
def ReqB (q:ReqT):Prop:=q.2.1.length<=1048576/\q.2.2.1.length<=1048576/\q.2.2.2.1.length<=1048576/\q.2.2.2.2.1.length<=1048576/\q.2.2.2.2.2.1.length<=1048576
theorem op_cases {op:Int} (h:inM op 1 8=true):op=1∨op=2∨op=3∨op=4∨op=5∨op=6∨op=7∨op=8:=by have:=inM_iff.1 h;omega
theorem req_s (q:ReqT) (hb:ReqB q):g160 q=some ((),((reqM q,()),())):=by
 obtain ⟨op,acct,other,hold,trace,mti,amt,ttl,_⟩:=q;obtain ⟨b1,b2,b3,b4,b5⟩:=hb;cases hop:inM op 1 8 with
 | false => unfold g160 g208 reqM;rw [in_s,hop]; rfl
 | true =>
   have k1:=acctId_s acct (le_big b1);have k2:=acctId_s other (le_big b2);have k3:=holdId_s hold (le_big b3);have k4:=digits_s trace (le_big b4);have k5:g208 op=some ((),((true,()),())):=by unfold g208; rw [in_s,hop]; rfl
   have k6:g206 op=some ((),((mtiM op,()),())):=by unfold g206;rw [k5];rcases op_cases hop with h | h | h | h | h | h | h | h <;> subst h <;> rfl
   have k7:g156 op=some ((),((ltI op 7,()),())):=by unfold g156; rw [k5]; rfl
   have k8:g158 op=some ((),((ltI op 5,()),())):=by unfold g158;rw [in_s];rcases op_cases hop with h | h | h | h | h | h | h | h <;> subst h <;> rfl
   have k9:=in_s amt 0 999999999999;have k10:=in_s ttl 0 9999;unfold g160 reqM;dsimp only;rw [k5,k6,k1,k4,k7,k8,k3,k9,k10,k2];dsimp only [Option.bind_some];rw [hop];cases eqS mti (mtiM op) <;> first | rfl | skip
   cases acctIdM acct <;> first | rfl | skip
   cases digitsM trace <;> first | rfl | skip
   cases eqI (lenI trace) 6 <;> first | rfl | skip
   cases ltI op 7 <;> cases holdIdM hold <;> cases eqS hold [] <;> first | rfl | skip
   all_goals (cases ltI op 5 <;> cases inM amt 0 999999999999 <;> cases eqI amt 0 <;> first | rfl | skip)
   all_goals (cases eqI op 1 <;> cases inM ttl 0 9999 <;> cases eqI ttl 0 <;> first | rfl | skip)
   all_goals (cases eqI op 6 <;> cases acctIdM other <;> rfl)
theorem uses_i {op:Int} (hop:inM op 1 8=true):g231 op 38=some ((),((ltI op 7,()),()))/\g231 op 4=some ((),((ltI op 5,()),()))/\g231 op 14=some ((),((eqI op 1,()),()))/\g231 op 103=some ((),((eqI op 6,()),())):=by unfold g231 g178;rw [in_i,hop];rcases op_cases hop with h | h | h | h | h | h | h | h <;> subst h <;> refine ⟨?_,?_,?_,?_⟩ <;> (refine (congrArg (fun z=>Option.bind z fun y2=>some ((),(y2.2.1,()))) (contains_i _ _ ?_)).trans ?_) <;> first | rfl | decide
theorem opOf_i {op:Int} (hop:inM op 1 8=true):∃ (nm:List UInt8×List UInt8) (fs:List (Int×Unit)),g178 op=some ((),((mtiM op,nm.1,nm.2,fs,()),()))/\eqS nm.2 []=false:=by unfold g178;rw [in_i,hop];rcases op_cases hop with h | h | h | h | h | h | h | h <;> subst h <;> exact ⟨(_,_),_,rfl,rfl⟩
theorem req_i (q:ReqT) (hb:ReqB q):g181 q=some ((),((reqM q,()),())):=by
 obtain ⟨op,acct,other,hold,trace,mti,amt,ttl,_⟩:=q;obtain ⟨b1,b2,b3,b4,b5⟩:=hb;cases hop:inM op 1 8 with
 | false => unfold g181 g178 reqM;rw [in_i,hop]; rfl
 | true =>
   have k1:=acctId_i acct (le_big b1);have k2:=acctId_i other (le_big b2);have k3:=holdId_i hold (le_big b3);have k4:g194 trace 6=some ((),((cond (digitsM trace) (eqI (lenI trace) 6) false,()),())):=by unfold g194; rw [digits_i trace (le_big b4)]; rfl
   obtain ⟨nm,fs,k5,k6⟩:=opOf_i hop;obtain ⟨u1,u2,u3,u4⟩:=uses_i hop;have k9:=in_i amt 0 999999999999;have k10:=in_i ttl 0 9999;unfold g181 reqM;dsimp only;rw [k5,k1,k4,u1,u2,u3,u4,k3,k9,k10,k2];dsimp only [Option.bind_some];rw [hop,k6];cases eqS mti (mtiM op) <;> first | rfl | skip
   cases acctIdM acct <;> first | rfl | skip
   cases digitsM trace <;> first | rfl | skip
   cases eqI (lenI trace) 6 <;> first | rfl | skip
   cases ltI op 7 <;> cases holdIdM hold <;> cases eqS hold [] <;> cases ltI op 5 <;> cases inM amt 0 999999999999 <;> cases eqI amt 0 <;> cases eqI op 1 <;> cases inM ttl 0 9999 <;> cases eqI ttl 0 <;> cases eqI op 6 <;> cases acctIdM other <;> cases eqS other [] <;> rfl
def bareN (s:List UInt8):Nat->Nat
 | 0=>0
 | n + 1=>bif eqI (bytI s (n:Int)) 32 then bareN s n else n + 1
def bareM (s:List UInt8):List UInt8:=s.take (bareN s s.length)
theorem bareN_le (s:List UInt8):∀ n,bareN s n<=n
 | 0=>Nat.le_refl _
 | n + 1=>by
   unfold bareN;cases eqI (bytI s (n:Int)) 32 with
   | true=>exact Nat.le_succ_of_le (bareN_le s n)
   | false=>exact Nat.le_refl _
theorem bare_s (s:List UInt8) (hs:s.length<=big):g157 s=some ((),((bareM s,()),())):=by
 have hbig:big=140737488355328:=rfl;have h:∀ n:Nat,n<=s.length->l157_0 s (n:Int)=some (.inl (s,((bareN s n:Nat):Int),())):=fun n=>by
  induction n with
  | zero=>intro _; exact loopF_end _ rfl
  | succ n ih =>
    intro hn;have e:r157_0 s ((n + 1:Nat):Int)=bif eqI (bytI s (n:Int)) 32 then some (.inl (s,(n:Int),())) else some (.inr (.inl (s,((n + 1:Nat):Int),()))):=by unfold r157_0;rw [ltI_yes (show (0:Int) < ((n + 1:Nat):Int) by omega),subW_in (by omega) (by omega),show ((n + 1:Nat):Int) - 1=(n:Int) by omega];dsimp only [cond_true];rw [inB_lt (xs:=s) (by omega)];cases eqI (bytI s (n:Int)) 32 <;> rfl
    cases hc:eqI (bytI s (n:Int)) 32 with
    | true => rw [hc] at e;unfold bareN;rw [hc];exact loopF_step _ e (ih (by omega))
    | false => rw [hc] at e;unfold bareN;rw [hc];exact loopF_end _ e
 unfold g157;refine (bn (h s.length (Nat.le_refl _))).trans ?_;show cond (cutB 0 ((bareN s s.length:Nat):Int) s) (some ((),((sub s 0 ((bareN s s.length:Nat):Int),()),()))) none=_;rw [cutB_take (bareN_le s s.length),sub_take]; rfl
theorem trim_i (s:List UInt8) (hs:s.length<=big):g254 s 32=some ((),((bareM s,()),())):=by
 have hbig:big=140737488355328:=rfl;have h:∀ n:Nat,n<=s.length->l254_0 (s.take n) 32=some (.inl (s.take (bareN s n),32,())):=fun n=>by
  induction n with
  | zero=>intro _; exact loopF_end _ rfl
  | succ n ih =>
    intro hn;have hl:(s.take (n + 1)).length=n + 1:=by rw [List.length_take]; omega
    have hb:bytI (s.take (n + 1)) (n:Int)=bytI s (n:Int):=by have hx:s[n]? = some (s[n]'(by omega)):=List.getElem?_eq_getElem (by omega);rw [bytI_in hx,bytI_in (xs:=s.take (n + 1)) (x:=s[n]'(by omega)) (by rw [List.getElem?_take,if_pos (by omega)]; exact hx)]
    have e:r254_0 (s.take (n + 1)) 32=bif eqI (bytI s (n:Int)) 32 then some (.inl (s.take n,32,())) else some (.inr (.inl (s.take (n + 1),32,()))):=by unfold r254_0;rw [show lenI (s.take (n + 1))=((n + 1:Nat):Int) from congrArg Int.ofNat hl];dsimp only;rw [ltI_yes (show (0:Int) < ((n + 1:Nat):Int) by omega),subW_in (by omega) (by omega),show ((n + 1:Nat):Int) - 1=(n:Int) by omega,inB_lt (xs:=s.take (n + 1)) (by omega),hb,cutB_take (xs:=s.take (n + 1)) (i:=n) (by omega),sub_take,List.take_take,Nat.min_eq_left (Nat.le_succ n)];cases eqI (bytI s (n:Int)) 32 <;> rfl
    cases hc:eqI (bytI s (n:Int)) 32 with
    | true => rw [hc] at e;unfold bareN;rw [hc];exact loopF_step _ e (ih (by omega))
    | false => rw [hc] at e;unfold bareN;rw [hc];exact loopF_end _ e
 have h0:=h s.length (Nat.le_refl _);rw [List.take_length] at h0;unfold g254;refine (bn h0).trans rfl
theorem bare_i (s:List UInt8) (hs:s.length<=big):g180 s=some ((),((bareM s,()),())):=by
 unfold g180 g230;cases he:eqS s [] with
 | true =>
   have:s=[]:=by simpa [eqS] using he
   subst this;rfl
 | false => have e:g254 s (bytI [32] 0)=_:=trim_i s hs;dsimp only;rw [e]; rfl
theorem bare_len (s:List UInt8):(bareM s).length<=s.length:=by unfold bareM; rw [List.length_take]; exact Nat.min_le_right _ _
abbrev StrR:=List UInt8×Unit
theorem less_t (a b:List UInt8):g238 a b=some ((),((ltS a b,()),())):=by unfold g238 g261;rw [eqS_refl]; rfl
theorem less_n (a b:Int):g218 a b=some ((),((ltI a b,()),())):=by unfold g218 g249;rw [eqI_refl]; rfl
theorem bits1:g167 1=some ((),((1,()),())):=rfl
theorem bits2:g167 2=some ((),((2,()),())):=rfl
theorem sort1_t (x:StrR):g128 [x]=some ((([x],()),()),()):=by have h:l232_0 [x] 0 1 1=some (.inl ([x],0,1,1,())):=loopF_end _ rfl;unfold g128;refine (bn bits1).trans ?_;show Option.bind (Option.bind (Option.bind (l232_0 [x] 0 1 1) _) _) _=_;rw [h]; rfl
def s2T (x y:StrR):List StrR:=bif ltS y.1 x.1 then [y,x] else [x,y]
theorem sort2_t (x y:StrR):g128 [x,y]=some (((s2T x y,()),()),()):=by
 have hi:l232_2 [x,y] 0 2 1 1=some (.inl (s2T x y,0,2,1,(bif ltS y.1 x.1 then 0 else 1),())):=by
  have e:r232_2 [x,y] 0 2 1 1=bif ltS y.1 x.1 then some (.inl ([y,x],0,2,1,0,())) else some (.inr (.inl ([x,y],0,2,1,1,()))):=by unfold r232_2;dsimp only;rw [less_t];rfl
  unfold s2T;cases hc:ltS y.1 x.1 with
  | true=>rw [hc] at e; exact loopF_step _ e (loopF_end _ rfl)
  | false=>rw [hc] at e; exact loopF_end _ e
 have h:l232_0 [x,y] 0 2 1=some (.inl (s2T x y,0,2,2,())):=by
  have e:r232_0 [x,y] 0 2 1=some (.inl (s2T x y,0,2,2,())):=by unfold r232_0;show Option.bind (l232_2 [x,y] 0 2 1 1) _=_;rw [hi]; rfl
  exact loopF_step _ e (loopF_end _ rfl)
 unfold g128;refine (bn bits2).trans ?_;show Option.bind (Option.bind (Option.bind (l232_0 [x,y] 0 2 1) _) _) _=_;rw [h]; rfl
theorem comp2_t (x y:StrR):g129 [x,y]=some ((),((bif eqS y.1 x.1 then [x] else [x,y],()),())):=by
 have e:r129_0 [x,y] 1=bif eqS y.1 x.1 then some (.inr (.inr ([x],()))) else some (.inl ([x,y],2,())):=rfl;have h:l129_0 [x,y] 1=some (bif eqS y.1 x.1 then .inr ([x],()) else .inl ([x,y],2,())):=by
  cases hc:eqS y.1 x.1 with
  | true=>rw [hc] at e; exact loopF_end _ e
  | false=>rw [hc] at e; exact loopF_step _ e (loopF_end _ rfl)
 unfold g129;show Option.bind (l129_0 [x,y] 1) _=_;rw [h];cases eqS y.1 x.1 <;> rfl
abbrev IntR:=Int×Unit
theorem sort1_n (x:IntR):g124 [x]=some ((([x],()),()),()):=by have h:l212_0 [x] 0 1 1=some (.inl ([x],0,1,1,())):=loopF_end _ rfl;unfold g124;refine (bn bits1).trans ?_;show Option.bind (Option.bind (Option.bind (l212_0 [x] 0 1 1) _) _) _=_;rw [h]; rfl
theorem sort0_n:g124 []=some ((([],()),()),()):=by have h:l212_0 [] 0 0 1=some (.inl ([],0,0,1,())):=loopF_end _ rfl;unfold g124;refine (bn (show g167 0=some ((),((0,()),())) from rfl)).trans ?_;show Option.bind (Option.bind (Option.bind (l212_0 [] 0 0 1) _) _) _=_;rw [h]; rfl
def s2N (x y:IntR):List IntR:=bif ltI y.1 x.1 then [y,x] else [x,y]
theorem sort2_n (x y:IntR):g124 [x,y]=some (((s2N x y,()),()),()):=by
 have hi:l212_2 [x,y] 0 2 1 1=some (.inl (s2N x y,0,2,1,(bif ltI y.1 x.1 then 0 else 1),())):=by
  have e:r212_2 [x,y] 0 2 1 1=bif ltI y.1 x.1 then some (.inl ([y,x],0,2,1,0,())) else some (.inr (.inl ([x,y],0,2,1,1,()))):=by unfold r212_2;dsimp only;rw [less_n];rfl
  unfold s2N;cases hc:ltI y.1 x.1 with
  | true=>rw [hc] at e; exact loopF_step _ e (loopF_end _ rfl)
  | false=>rw [hc] at e; exact loopF_end _ e
 have h:l212_0 [x,y] 0 2 1=some (.inl (s2N x y,0,2,2,())):=by
  have e:r212_0 [x,y] 0 2 1=some (.inl (s2N x y,0,2,2,())):=by unfold r212_0;show Option.bind (l212_2 [x,y] 0 2 1 1) _=_;rw [hi]; rfl
  exact loopF_step _ e (loopF_end _ rfl)
 unfold g124;refine (bn bits2).trans ?_;show Option.bind (Option.bind (Option.bind (l212_0 [x,y] 0 2 1) _) _) _=_;rw [h]; rfl
theorem comp2_n (x y:IntR):g125 [x,y]=some ((),((bif eqI y.1 x.1 then [x] else [x,y],()),())):=by
 have e:r125_0 [x,y] 1=bif eqI y.1 x.1 then some (.inr (.inr ([x],()))) else some (.inl ([x,y],2,())):=rfl;have h:l125_0 [x,y] 1=some (bif eqI y.1 x.1 then .inr ([x],()) else .inl ([x,y],2,())):=by
  cases hc:eqI y.1 x.1 with
  | true=>rw [hc] at e; exact loopF_end _ e
  | false=>rw [hc] at e; exact loopF_step _ e (loopF_end _ rfl)
 unfold g125;show Option.bind (l125_0 [x,y] 1) _=_;rw [h];cases eqI y.1 x.1 <;> rfl
def lockM (n:Int):List StrR->List IntR
 | [a]=>[(stripeM a.1 n,())]
 | [a,b]=>bif ltI (stripeM b.1 n) (stripeM a.1 n) then [(stripeM b.1 n,()),(stripeM a.1 n,())] else bif eqI (stripeM b.1 n) (stripeM a.1 n) then [(stripeM a.1 n,())] else [(stripeM a.1 n,()),(stripeM b.1 n,())]
 | _=>[]
def IdsB (l:List StrR):Prop:=l.length<=2/\∀ x∈l,x.1.length<=1048576
theorem fill_lk (n:Int):∀ (ids:List StrR) (h:IdsB ids),l94_0 n [] ids (lenI ids) 0=some (.inl (n,ids.map (fun x=>(stripeM x.1 n,())),ids,lenI ids,lenI ids,())):=fun ids hb=>by
 have h:=loop_inv (step:=un5 r94_0) ids (fun i (o:List IntR)=>(n,o,ids,lenI ids,((i:Nat):Int),())) (fun _ x o=>Sum.inl (o ++ [(stripeM x.1 n,())])) (fun o=> .inl (n,o,ids,lenI ids,lenI ids,())) (fun i o=>o.length=i) (a0:=[]) rfl (fun i x o hx ho=>by
  have hlt:=lt_of_get hx;have:=hb.1;show r94_0 n o ids (lenI ids) (i:Int)=_;unfold r94_0;rw [ltI_in hx,inB_in hx,gt_in _ hx,addW1 (by unfold big; omega),stripe_i x.1 n (le_big (hb.2 x (List.mem_of_getElem? hx)))];dsimp only [cond_true,Option.bind_some];rw [fit8 (by omega)]; rfl) (fun i x o o' hx ho hf=>by
  cases hf;rw [List.length_append,ho]; rfl) (fun o ho=>by
  show r94_0 n o ids (lenI ids) (ids.length:Int)=_;unfold r94_0;rw [ltI_out rfl]; rfl)
 rw [goL_fold] at h;refine Eq.trans h ?_;have:∀ (l:List StrR) (o:List IntR),l.foldl (fun o x=>o ++ [(stripeM x.1 n,())]) o=o ++ l.map (fun x=>(stripeM x.1 n,())):=fun l=>by
  induction l with
  | nil=>intro o; simp
  | cons x r ih=>intro o; rw [List.foldl_cons,ih]; simp
 rw [this]; rfl
theorem lock_i (ids:List StrR) (n:Int) (hb:IdsB ids):g94 ids n=some ((),((lockM n ids,()),())):=by
 unfold g94;refine (bn (fill_lk n ids hb)).trans ?_
 match ids,hb with
 | [],_ => show Option.bind (g124 []) _=_;rw [sort0_n]; rfl
 | [a],_ => show Option.bind (g124 [(stripeM a.1 n,())]) _=_;rw [sort1_n]; rfl
 | [a,b],_ =>
   show Option.bind (g124 [(stripeM a.1 n,()),(stripeM b.1 n,())]) _=_;rw [sort2_n];unfold s2N lockM;dsimp only [Option.bind_some];cases hc:ltI (stripeM b.1 n) (stripeM a.1 n) with
   | true => dsimp only [cond_true];rw [comp2_n];have hlt:stripeM b.1 n < stripeM a.1 n:=of_decide_eq_true hc;rw [show eqI (stripeM a.1 n) (stripeM b.1 n)=false from beq_eq_false_iff_ne.2 (by omega)]; rfl
   | false => dsimp only [cond_false];rw [comp2_n]; rfl
 | _ :: _ :: _ :: _,hb=>exact absurd hb.1 (by simp)
theorem lock_s (ids:List StrR) (n:Int) (hb:IdsB ids):g86 ids n=some ((),((lockM n ids,()),())):=by
 have inn:∀ (o:List IntR) (x:Int) (ids:List StrR) (k j:Int),l86_2 n [] x 0 ids k j=some (.inl (n,[],x,0,ids,k,j,())):=fun o x ids k j=>loopF_end _ rfl
 have in1:∀ (s x:Int) (ids:List StrR) (k j:Int),l86_2 n [(s,())] x 0 ids k j=some (.inl (n,[(s,())],x,(bif ltI s x then 1 else 0),ids,k,j,())):=fun s x ids k j=>by
  have e:r86_2 n [(s,())] x 0 ids k j=bif ltI s x then some (.inl (n,[(s,())],x,1,ids,k,j,())) else some (.inr (.inl (n,[(s,())],x,0,ids,k,j,()))):=rfl;cases hc:ltI s x with
  | true=>rw [hc] at e; exact loopF_step _ e (loopF_end _ rfl)
  | false=>rw [hc] at e; exact loopF_end _ e
 unfold g86
 match ids,hb with
 | [],_ => have h:l86_0 n [] [] 0 0=some (.inl (n,[],[],0,0,())):=loopF_end _ rfl;exact (bn h).trans rfl
 | [a],hb =>
   have e:r86_0 n [] [a] 1 0=some (.inl (n,[(stripeM a.1 n,())],[a],1,1,())):=by unfold r86_0;show Option.bind (g59 a.1 n) _=_;rw [stripe_s a.1 n (le_big (hb.2 a (by simp)))];show Option.bind (l86_2 n [] (stripeM a.1 n) 0 [a] 1 0) _=_;rw [inn []]; rfl
   have h:l86_0 n [] [a] 1 0=some (.inl (n,[(stripeM a.1 n,())],[a],1,1,())):=loopF_step _ e (loopF_end _ rfl);exact (bn h).trans rfl
 | [a,b],hb =>
   have e1:r86_0 n [] [a,b] 2 0=some (.inl (n,[(stripeM a.1 n,())],[a,b],2,1,())):=by unfold r86_0;show Option.bind (g59 a.1 n) _=_;rw [stripe_s a.1 n (le_big (hb.2 a (by simp)))];show Option.bind (l86_2 n [] (stripeM a.1 n) 0 [a,b] 2 0) _=_;rw [inn []]; rfl
   have e2:r86_0 n [(stripeM a.1 n,())] [a,b] 2 1=some (.inl (n,lockM n [a,b],[a,b],2,2,())):=by
    unfold r86_0;show Option.bind (g59 b.1 n) _=_;rw [stripe_s b.1 n (le_big (hb.2 b (by simp)))];show Option.bind (l86_2 n [(stripeM a.1 n,())] (stripeM b.1 n) 0 [a,b] 2 1) _=_;rw [in1,show lockM n [a,b]=bif ltI (stripeM b.1 n) (stripeM a.1 n) then [(stripeM b.1 n,()),(stripeM a.1 n,())] else bif eqI (stripeM b.1 n) (stripeM a.1 n) then [(stripeM a.1 n,())] else [(stripeM a.1 n,()),(stripeM b.1 n,())] from rfl];cases hc:ltI (stripeM a.1 n) (stripeM b.1 n) with
    | true => have hlt:stripeM a.1 n < stripeM b.1 n:=of_decide_eq_true hc;rw [ltI_no (show ¬ stripeM b.1 n < stripeM a.1 n by omega),show eqI (stripeM b.1 n) (stripeM a.1 n)=false from beq_eq_false_iff_ne.2 (by omega)]; rfl
    | false =>
      have hge:¬ stripeM a.1 n < stripeM b.1 n:=of_decide_eq_false hc;dsimp only [Option.bind_some,cond_false,Sum.elim_inl];show cond (eqI (stripeM a.1 n) (stripeM b.1 n)) _ _=_;by_cases he:stripeM a.1 n=stripeM b.1 n
      . rw [he,eqI_refl,ltI_no (show ¬ stripeM b.1 n < stripeM b.1 n by omega)]; rfl
      . rw [show eqI (stripeM a.1 n) (stripeM b.1 n)=false from beq_eq_false_iff_ne.2 he,ltI_yes (show stripeM b.1 n < stripeM a.1 n by omega)]; rfl
   have h:l86_0 n [] [a,b] 2 0=some (.inl (n,lockM n [a,b],[a,b],2,2,())):=loopF_step _ e1 (loopF_step _ e2 (loopF_end _ rfl));exact (bn h).trans rfl
 | _ :: _ :: _ :: _,hb=>exact absurd hb.1 (by simp)
def zeroQ:ReqT:=(0,[],[],[],[],[],0,0,())
def mtiKM (s:List UInt8):Bool:=cond (cond (eqS s [48,49,48,48]) true (eqS s [48,50,48,48])) true (eqS s [48,50,50,48])
abbrev RowQ:=List UInt8×List UInt8×List UInt8×List (Int×Unit)×Unit
def rowsQ:List RowQ:=[([48,49,48,48],[48,48],[97,117,116,104],[(4,()),(14,()),(38,())],()),([48,49,48,48],[48,50],[109,111,114,101],[(4,()),(38,())],()),([48,50,50,48],[48,49],[112,97,114,116],[(4,()),(38,())],()),([48,50,50,48],[48,48],[102,105,110,97,108],[(4,()),(38,())],()),([48,50,50,48],[50,48],[102,114,101,101],[(38,())],()),([48,50,48,48],[52,48],[109,111,118,101],[(38,()),(103,())],()),([48,49,48,48],[51,49],[97,115,107],[],()),([48,50,48,48],[57,48],[115,119,101,101,112],[],())]
def whP (mti c:List UInt8) (r:RowQ):Bool:=cond (eqS r.1 mti) (eqS r.2.1 (sub c 0 2)) false
def whichM (mti c:List UInt8):Int:=1 + findI (whP mti c) 0 rowsQ
theorem which_cases (mti c:List UInt8):whichM mti c=0∨whichM mti c=1∨whichM mti c=2∨whichM mti c=3∨whichM mti c=4∨whichM mti c=5∨whichM mti c=6∨whichM mti c=7∨whichM mti c=8:=by unfold whichM;have:=findI_bd (whP mti c) rowsQ 0;simp only [show rowsQ.length=8 from rfl] at this;omega
theorem which_i (m:MsgT) (c:List UInt8) (hc:2<=c.length) (nm:List UInt8×Unit) (hn:nm=(c,())):g175 rowsQ m nm=some ((),((findI (whP m.1 c) 0 rowsQ,()),())):=by
 subst hn;have hcut:cutB 0 2 c=true:=cutB_take (i:=2) hc;have h:=loop_list (step:=un4 r175_0) rowsQ (fun i (_:Unit)=>(rowsQ,(m,(c,()),()),lenI rowsQ,((i:Nat):Int),())) (fun i x _=>bif whP m.1 c x then Sum.inr (.inr ((i:Int),())) else .inl ()) (fun _=> .inl (rowsQ,(m,(c,()),()),lenI rowsQ,(rowsQ.length:Int),())) (a0:=()) (fun i x a hx=>by
  have hlt:=lt_of_get hx;have h8:rowsQ.length=8:=rfl;show r175_0 rowsQ (m,(c,()),()) (lenI rowsQ) (i:Int)=_;unfold r175_0 g177 whP;rw [ltI_in hx,inB_in hx,gt_in _ hx,addW1 (by unfold big; omega)];dsimp only [cond_true];rw [hcut];cases eqS x.1 m.1 <;> cases eqS x.2.1 (sub c 0 2) <;> rfl) (fun a=>by
  show r175_0 rowsQ (m,(c,()),()) (lenI rowsQ) (rowsQ.length:Int)=_;unfold r175_0;rw [ltI_out rfl]; rfl)
 have hf:=goL_find (Y:=Sum ((List RowQ)×(MsgT×(List UInt8×Unit)×Unit)×Int×Int×Unit) (Int×Unit)) (whP m.1 c) (fun n=> .inr (n,())) (.inl (rowsQ,(m,(c,()),()),lenI rowsQ,(rowsQ.length:Int),())) (fun y=>match y with | .inl _ => -1 | .inr z=>z.1) (fun _=>rfl) rfl rowsQ 0;unfold g175;refine (bn h).trans ?_;rw [<- hf];dsimp only [Option.bind_some];cases goL _ _ 0 rowsQ () <;> rfl
theorem opm {i:Nat} {x:RowQ} (hx:rowsQ[i]? = some x):g206 (((i + 1:Nat)):Int)=some ((),((x.1,()),()))/\g207 (((i + 1:Nat)):Int)=some ((),((x.2.1,()),())):=by
 have hlt:=lt_of_get hx;have h8:rowsQ.length=8:=rfl;have:i=0∨i=1∨i=2∨i=3∨i=4∨i=5∨i=6∨i=7:=by omega
 rcases this with h | h | h | h | h | h | h | h <;> subst h <;> cases hx <;> exact ⟨rfl,rfl⟩
theorem which_s (mti c:List UInt8) (hc:2<=c.length):g155 mti c=some ((),((whichM mti c,()),())):=by
 have hcut:cutB 0 2 c=true:=cutB_take (i:=2) hc;have h8:rowsQ.length=8:=rfl;have h:=loop_list (step:=un3 r155_0) rowsQ (fun i (_:Unit)=>(mti,c,((i + 1:Nat):Int),())) (fun i x _=>bif whP mti c x then Sum.inr (.inr (((i + 1:Nat):Int),())) else .inl ()) (fun _=> .inl (mti,c,9,())) (a0:=()) (fun i x a hx=>by have hlt:=lt_of_get hx;show r155_0 mti c ((i + 1:Nat):Int)=_;unfold r155_0 whP;rw [(opm hx).1,(opm hx).2,show leI ((i + 1:Nat):Int) 8=true from decide_eq_true (by omega),addW1 (by unfold big; omega)];dsimp only [cond_true,Option.bind_some];rw [hcut];cases eqS x.1 mti <;> cases eqS x.2.1 (sub c 0 2) <;> rfl) (fun a=>rfl);have hf:=goL_find (Y:=Sum (List UInt8×List UInt8×Int×Unit) (Int×Unit)) (whP mti c) (fun n=> .inr (1 + n,())) (.inl (mti,c,9,())) (fun y=>match y with | .inl _ => -1 | .inr z=>z.1 - 1) (fun n=>by show 1 + n - 1=n; omega) rfl rowsQ 0;rw [show (fun (i:Nat) (x:RowQ) (_:Unit)=>bif whP mti c x then (Sum.inr (Sum.inr (((i + 1:Nat):Int),())):Sum Unit (Sum (List UInt8×List UInt8×Int×Unit) (Int×Unit))) else .inl ())=fun i x _=>bif whP mti c x then .inr (.inr (1 + (i:Int),())) else .inl () from by funext i x _;rw [show ((i + 1:Nat):Int)=1 + (i:Int) by omega]] at h;unfold g155;have h':l155_0 mti c 1=_:=h;refine (bn h').trans ?_;unfold whichM;rw [<- hf];dsimp only [Option.bind_some];have hneg:findI (whP mti c) 0 rowsQ = -1∨0<=findI (whP mti c) 0 rowsQ:=by
  rcases findI_bd (whP mti c) rowsQ 0 with h | h
  . exact Or.inl h
  . exact Or.inr h.1
 cases hg:goL (fun (i:Nat) (x:RowQ) (_:Unit)=>bif whP mti c x then (Sum.inr (Sum.inr (1 + (i:Int),())):Sum Unit (Sum (List UInt8×List UInt8×Int×Unit) (Int×Unit))) else .inl ()) (fun _=> .inl (mti,c,9,())) 0 rowsQ () with
 | inl y=>rfl
 | inr y => show some ((),((y.1,()),()))=some ((),((1 + (y.1 - 1),()),()));rw [show 1 + (y.1 - 1)=y.1 by omega]
def fv (m:MsgT) (no:Int):List UInt8:=(fofM m no).getD []
def fs (m:MsgT) (no:Int):Bool:=(fofM m no).isSome
theorem fofR_eq (m:MsgT) (no:Int):fofR (fofM m no)=some ((),((fv m no,()),(fs m no,()),())):=by unfold fofR fv fs;cases fofM m no <;> rfl
theorem fv_none {m:MsgT} {no:Int} (h:fs m no=false):fv m no=[]:=by
 unfold fs at h; unfold fv;cases hf:fofM m no with
 | none=>rfl
 | some s=>rw [hf] at h; cases h
theorem fof_mem {m:MsgT} {no:Int} {s:List UInt8} (h:fofM m no=some s):∃ f∈m.2.1,f.1=no/\f.2.1=s:=by
 unfold fofM at h;cases hf:m.2.1.find? fun f=>eqI f.1 no with
 | none=>rw [hf] at h; cases h
 | some f => rw [hf] at h;refine ⟨f,List.mem_of_find?_eq_some hf,eqI_iff.1 (by have:=List.find?_some hf; exact this),?_⟩;cases h; rfl
theorem fv_len {m:MsgT} (hb:MsgB m) (no:Int):(fv m no).length<=1048576:=by
 unfold fv;cases h:fofM m no with
 | none=>exact Nat.zero_le _
 | some s => obtain ⟨f,h1,_,rfl⟩:=fof_mem h;exact hb.2.2 f h1
theorem msg_fok {m:MsgT} (h:msgM m=true) {no:Int} {s:List UInt8} (hf:fofM m no=some s):fokM no s=true:=by
 unfold msgM at h;obtain ⟨f,h1,h2,h3⟩:=fof_mem hf;obtain ⟨i,hi⟩:=List.mem_iff_getElem?.1 h1;cases hd:cond (digitsM m.1) (eqI (lenI m.1) 4) false with
 | false=>rw [hd] at h; cases h
 | true =>
   rw [hd] at h;have:=allI_get (msgStep m.2.1) h hi;unfold msgStep at this;rw [h2,h3] at this;cases hk:fokM no s with
   | true=>rfl
   | false=>rw [hk] at this; cases this
theorem three_len {m:MsgT} (h:msgM m=true) {s:List UInt8} (hf:fofM m 3=some s):2<=s.length:=by
 have:=msg_fok h hf;have e:fokM 3 s=cond (digitsM s) (eqI (lenI s) 6) false:=rfl;rw [e] at this;cases hd:digitsM s with
 | false=>rw [hd] at this; cases this
 | true => rw [hd] at this;have:=eqI_iff.1 (show eqI (lenI s) 6=true from this);have:(s.length:Int)=6:=this;omega
def nvM (s:List UInt8):Int:=match narO s with | some n=>(n:Int) | none=>0
def nkM (s:List UInt8):Bool:=(narO s).isSome
theorem narR_eq (s:List UInt8):narR (narO s)=some ((),((nvM s,()),(nkM s,()),())):=by unfold narR nvM nkM;cases narO s <;> rfl
def reqQ (m:MsgT) (op:Int):ReqT:=(op,fv m 2,cond (eqI op 6) (fv m 103) [],cond (cond (inM op 1 8) (ltI op 7) false) (bareM (fv m 38)) [],fv m 11,m.1,cond (inM op 1 4) (nvM (fv m 4)) 0,cond (eqI op 1) (nvM (fv m 14)) 0,())
def reqK (m:MsgT) (op:Int):Bool:=cond (cond (inM op 1 4) (fs m 4) true) (cond (eqI op 1) (fs m 14) true) false
def reqD (m:MsgT) (op:Int):ReqT×Int:=cond (reqK m op) (cond (reqM (reqQ m op)) (reqQ m op,0) (zeroQ,1)) (zeroQ,1)
def reqOfM (m:MsgT):ReqT×Int:=cond (msgM m) (cond (mtiKM m.1) (match fofM m 3 with | none=>(zeroQ,1) | some c=>reqD m (whichM m.1 c)) (zeroQ,2)) (zeroQ,1)
def reqR (p:ReqT×Int):Option (Unit×(ReqT×(Int×Unit)×Unit)):=some ((),(p.1,(p.2,()),()))
theorem reqQ_b {m:MsgT} (hb:MsgB m) (op:Int):ReqB (reqQ m op):=by
 refine ⟨fv_len hb 2,?_,?_,fv_len hb 11,hb.1⟩
 . show (cond (eqI op 6) (fv m 103) []).length<=_;cases eqI op 6 with
   | true=>exact fv_len hb 103
   | false=>exact Nat.zero_le _
 . show (cond (cond (inM op 1 8) (ltI op 7) false) (bareM (fv m 38)) []).length<=_;cases cond (inM op 1 8) (ltI op 7) false with
   | true=>exact Nat.le_trans (bare_len _) (fv_len hb 38)
   | false=>exact Nat.zero_le _
theorem rq_s (m:MsgT) (hb:MsgB m):g120 m=reqR (reqOfM m):=by
 unfold g120 reqOfM;rw [msg_s m hb];cases hm:msgM m with
 | false=>rfl
 | true =>
 have hk:g153 m.1=some ((),((mtiKM m.1,()),())):=rfl;dsimp only [Option.bind_some,Bool.not_true,cond_false];rw [hk];cases mtiKM m.1 with
 | false=>rfl
 | true =>
 show Option.bind (g154 m 3) _=_;rw [fof_s m 3 hb];cases h3:fofM m 3 with
 | none=>rfl
 | some c =>
 show Option.bind (g155 m.1 c) _=_;rw [which_s m.1 c (three_len hm h3)];have f2:=(fof_s m 2 hb).trans (fofR_eq m 2);have f11:=(fof_s m 11 hb).trans (fofR_eq m 11);have f38:=(fof_s m 38 hb).trans (fofR_eq m 38);have f4:=(fof_s m 4 hb).trans (fofR_eq m 4);have f14:=(fof_s m 14 hb).trans (fofR_eq m 14);have f103:=(fof_s m 103 hb).trans (fofR_eq m 103);have b38:=bare_s (fv m 38) (le_big (fv_len hb 38));have n4:=(nar_s (fv m 4) (le_big (fv_len hb 4))).trans (narR_eq _);have n14:=(nar_s (fv m 14) (le_big (fv_len hb 14))).trans (narR_eq _);dsimp only [Option.bind_some];rw [f2,f11];dsimp only [Option.bind_some];have hop:=which_cases m.1 c;generalize whichM m.1 c=op at hop ⊢;have hq:=req_s (reqQ m op) (reqQ_b hb op);have hH:g156 op=some ((),((cond (inM op 1 8) (ltI op 7) false,()),())):=rfl;have hA:g158 op=some ((),((inM op 1 4,()),())):=rfl;unfold reqD;generalize reqM (reqQ m op)=z at hq ⊢;rw [hH,hA,f38,f4,f14,f103];dsimp only [Option.bind_some];rw [b38,n4,n14];dsimp only [Option.bind_some];unfold reqK;unfold reqQ at hq ⊢;generalize cond (inM op 1 8) (ltI op 7) false=c1 at hq ⊢;generalize inM op 1 4=c2 at hq ⊢;generalize eqI op 1=c3 at hq ⊢;generalize eqI op 6=c4 at hq ⊢;cases c1 <;> cases c2 <;> cases c3 <;> cases c4 <;> dsimp only [cond_true,cond_false] at hq ⊢ <;> rw [hq] <;> cases fs m 4 <;> cases fs m 14 <;> cases z <;> rfl
theorem req_fs {m:MsgT} {op:Int} (h:reqM (reqQ m op)=true):fs m 2=true/\fs m 11=true/\(cond (inM op 1 8) (ltI op 7) false=true->fs m 38=true)/\(eqI op 6=true->fs m 103=true):=by
 unfold reqM reqQ at h;simp only [Bool.and_eq_true] at h;obtain ⟨⟨⟨⟨⟨⟨⟨⟨h1,_⟩,h2⟩,h3⟩,_⟩,h4⟩,_⟩,_⟩,h5⟩:=h;refine ⟨?_,?_,fun hc => ?_,fun hc => ?_⟩
 . cases hf:fs m 2 with
   | true=>rfl
   | false=>rw [fv_none hf] at h2; cases h2
 . cases hf:fs m 11 with
   | true=>rfl
   | false=>rw [fv_none hf] at h3; cases h3
 . cases hf:fs m 38 with
   | true=>rfl
   | false => rw [hc,fv_none hf] at h4;rw [h1] at hc;rw [show ltI op 7=true from hc] at h4;cases h4
 . cases hf:fs m 103 with
   | true=>rfl
   | false=>rw [hc,fv_none hf] at h5; cases h5
def fieldsM (op:Int):List IntR:=cond (inM op 1 8) (gt ([],[],[],[],()) rowsQ (op - 1)).2.2.2.1 []
def allF (m:MsgT) (op:Int):Bool:=fs m 2 && (fs m 11 && (fieldsM op).all fun x=>fs m x.1)
def OpC (op:Int):Prop:=op=0∨op=1∨op=2∨op=3∨op=4∨op=5∨op=6∨op=7∨op=8
theorem reqD_all (m:MsgT) (op:Int) (hop:OpC op):reqD m op=bif allF m op then (bif reqM (reqQ m op) then (reqQ m op,0) else (zeroQ,1)) else (zeroQ,1):=by
 have hz:= @req_fs m op;unfold reqD;generalize reqM (reqQ m op)=z at hz ⊢;generalize reqQ m op=q at hz ⊢;cases z with
 | false=>cases allF m op <;> cases reqK m op <;> rfl
 | true =>
   obtain ⟨h1,h2,h3,h4⟩:=hz rfl;unfold allF reqK;rw [h1,h2];rcases hop with h | h | h | h | h | h | h | h | h <;> subst h
   . rfl
   . have:=h3 rfl;show (bif cond (fs m 4) (fs m 14) false then _ else _)=bif true && (true && (fs m 4 && (fs m 14 && (fs m 38 && true)))) then _ else _;rw [this];cases fs m 4 <;> cases fs m 14 <;> rfl
   . have:=h3 rfl;show (bif cond (fs m 4) true false then _ else _)=bif true && (true && (fs m 4 && (fs m 38 && true))) then _ else _;rw [this];cases fs m 4 <;> rfl
   . have:=h3 rfl;show (bif cond (fs m 4) true false then _ else _)=bif true && (true && (fs m 4 && (fs m 38 && true))) then _ else _;rw [this];cases fs m 4 <;> rfl
   . have:=h3 rfl;show (bif cond (fs m 4) true false then _ else _)=bif true && (true && (fs m 4 && (fs m 38 && true))) then _ else _;rw [this];cases fs m 4 <;> rfl
   . have:=h3 rfl;show _=bif true && (true && (fs m 38 && true)) then _ else _;rw [this]; rfl
   . have:=h3 rfl;have h6:=h4 rfl;show _=bif true && (true && (fs m 38 && (fs m 103 && true))) then _ else _;rw [this,h6]; rfl
   . rfl
   . rfl
def updM (m:MsgT) (no:Int) (q:ReqT):ReqT :=
 cond (eqI no 2) (q.1,fv m no,q.2.2.1,q.2.2.2.1,q.2.2.2.2.1,q.2.2.2.2.2.1,q.2.2.2.2.2.2.1,q.2.2.2.2.2.2.2.1,())
  (cond (eqI no 4) (q.1,q.2.1,q.2.2.1,q.2.2.2.1,q.2.2.2.2.1,q.2.2.2.2.2.1,nvM (fv m no),q.2.2.2.2.2.2.2.1,())
    (cond (eqI no 11) (q.1,q.2.1,q.2.2.1,q.2.2.2.1,fv m no,q.2.2.2.2.2.1,q.2.2.2.2.2.2.1,q.2.2.2.2.2.2.2.1,())
      (cond (eqI no 14) (q.1,q.2.1,q.2.2.1,q.2.2.2.1,q.2.2.2.2.1,q.2.2.2.2.2.1,q.2.2.2.2.2.2.1,nvM (fv m no),())
        (cond (eqI no 38) (q.1,q.2.1,q.2.2.1,bareM (fv m no),q.2.2.2.2.1,q.2.2.2.2.2.1,q.2.2.2.2.2.2.1,q.2.2.2.2.2.2.2.1,())
          (cond (eqI no 103) (q.1,q.2.1,fv m no,q.2.2.2.1,q.2.2.2.2.1,q.2.2.2.2.2.1,q.2.2.2.2.2.2.1,q.2.2.2.2.2.2.2.1,()) q)))))
def runQ (m:MsgT):List IntR->ReqT->Option ReqT
 | [],q=>some q
 | x :: r,q=>bif fs m x.1 then runQ m r (updM m x.1 q) else none
def runY (xs:List IntR) (n:Int) (m:MsgT):Option ReqT->Sum (List IntR×Int×Int×MsgT×ReqT×ReqT×Unit) (Int×ReqT×Unit)
 | some q=> .inl (xs,n,n,m,zeroQ,q,())
 | none=> .inr (1,zeroQ,())
theorem goL_run (m:MsgT) (ys:List IntR) (n:Int):∀ (xs:List IntR) (i:Nat) (q:ReqT),goL (fun _ x q=>bif fs m x.1 then Sum.inl (updM m x.1 q) else .inr (.inr (1,zeroQ,()))) (fun q=> .inl (ys,n,n,m,zeroQ,q,())) i xs q=runY ys n m (runQ m xs q)
 | [],_,_=>rfl
 | x :: r,i,q=>by
   rw [goL,runQ];cases fs m x.1 with
   | false=>rfl
   | true=>exact goL_run m ys n r (i + 1) _
theorem rq_loop (m:MsgT) (hb:MsgB m) (xs:List IntR) (hx:xs.length<=10) (q0:ReqT):l127_0 xs (lenI xs) 0 m zeroQ q0=some (runY xs (lenI xs) m (runQ m xs q0)):=by
 have h:=loop_list (step:=un6 r127_0) xs (fun i (q:ReqT)=>(xs,lenI xs,((i:Nat):Int),m,zeroQ,q,())) (fun _ x q=>bif fs m x.1 then Sum.inl (updM m x.1 q) else .inr (.inr (1,zeroQ,()))) (fun q=> .inl (xs,lenI xs,lenI xs,m,zeroQ,q,())) (a0:=q0) (fun i x q hx=>by
  have hlt:=lt_of_get hx;show r127_0 xs (lenI xs) (i:Int) m zeroQ q=_;unfold r127_0;rw [ltI_in hx,inB_in hx,gt_in _ hx,addW1 (by unfold big; omega)];dsimp only [cond_true];rw [fof_i m x.1 hb,fofR_eq];dsimp only [Option.bind_some];rw [(nar_i (fv m x.1) (le_big (fv_len hb x.1))).trans (narR_eq _),bare_i (fv m x.1) (le_big (fv_len hb x.1))];unfold updM;cases fs m x.1 with
  | false=>rfl
  | true=>cases eqI x.1 2 <;> cases eqI x.1 4 <;> cases eqI x.1 11 <;> cases eqI x.1 14 <;> cases eqI x.1 38 <;> cases eqI x.1 103 <;> rfl) (fun q=>by
  show r127_0 xs (lenI xs) (xs.length:Int) m zeroQ q=_;unfold r127_0;rw [ltI_out rfl]; rfl)
 rw [goL_run] at h;exact h
theorem run_all (m:MsgT) (op:Int) (hop:OpC op):runQ m ((2,()) :: (11,()) :: fieldsM op) (op,[],[],[],[],m.1,0,0,())=bif allF m op then some (reqQ m op) else none:=by
 unfold allF;rcases hop with h | h | h | h | h | h | h | h | h <;> subst h
 . show (bif fs m 2 then (bif fs m 11 then some (reqQ m 0) else none) else none)=bif fs m 2 && (fs m 11 && true) then _ else _;cases fs m 2 <;> cases fs m 11 <;> rfl
 . show (bif fs m 2 then (bif fs m 11 then (bif fs m 4 then (bif fs m 14 then (bif fs m 38 then some (reqQ m 1) else none) else none) else none) else none) else none)=bif fs m 2 && (fs m 11 && (fs m 4 && (fs m 14 && (fs m 38 && true)))) then _ else _;cases fs m 2 <;> cases fs m 11 <;> cases fs m 4 <;> cases fs m 14 <;> cases fs m 38 <;> rfl
 . show (bif fs m 2 then (bif fs m 11 then (bif fs m 4 then (bif fs m 38 then some (reqQ m 2) else none) else none) else none) else none)=bif fs m 2 && (fs m 11 && (fs m 4 && (fs m 38 && true))) then _ else _;cases fs m 2 <;> cases fs m 11 <;> cases fs m 4 <;> cases fs m 38 <;> rfl
 . show (bif fs m 2 then (bif fs m 11 then (bif fs m 4 then (bif fs m 38 then some (reqQ m 3) else none) else none) else none) else none)=bif fs m 2 && (fs m 11 && (fs m 4 && (fs m 38 && true))) then _ else _;cases fs m 2 <;> cases fs m 11 <;> cases fs m 4 <;> cases fs m 38 <;> rfl
 . show (bif fs m 2 then (bif fs m 11 then (bif fs m 4 then (bif fs m 38 then some (reqQ m 4) else none) else none) else none) else none)=bif fs m 2 && (fs m 11 && (fs m 4 && (fs m 38 && true))) then _ else _;cases fs m 2 <;> cases fs m 11 <;> cases fs m 4 <;> cases fs m 38 <;> rfl
 . show (bif fs m 2 then (bif fs m 11 then (bif fs m 38 then some (reqQ m 5) else none) else none) else none)=bif fs m 2 && (fs m 11 && (fs m 38 && true)) then _ else _;cases fs m 2 <;> cases fs m 11 <;> cases fs m 38 <;> rfl
 . show (bif fs m 2 then (bif fs m 11 then (bif fs m 38 then (bif fs m 103 then some (reqQ m 6) else none) else none) else none) else none)=bif fs m 2 && (fs m 11 && (fs m 38 && (fs m 103 && true))) then _ else _;cases fs m 2 <;> cases fs m 11 <;> cases fs m 38 <;> cases fs m 103 <;> rfl
 . show (bif fs m 2 then (bif fs m 11 then some (reqQ m 7) else none) else none)=bif fs m 2 && (fs m 11 && true) then _ else _;cases fs m 2 <;> cases fs m 11 <;> rfl
 . show (bif fs m 2 then (bif fs m 11 then some (reqQ m 8) else none) else none)=bif fs m 2 && (fs m 11 && true) then _ else _;cases fs m 2 <;> cases fs m 11 <;> rfl
theorem fields_i (op:Int) (hop:OpC op):∃ a b c,g178 op=some ((),((a,b,c,fieldsM op,()),()))/\(fieldsM op).length<=3:=by rcases hop with h | h | h | h | h | h | h | h | h <;> subst h <;> exact ⟨_,_,_,rfl,by decide⟩
theorem rq_i (m:MsgT) (hb:MsgB m):g127 m=reqR (reqOfM m):=by
 unfold g127 reqOfM;rw [msg_i m hb];cases hm:msgM m with
 | false=>rfl
 | true =>
 have hk:g173 m.1=some ((),((mtiKM m.1,()),())):=rfl;dsimp only [Option.bind_some,Bool.not_true,cond_false];rw [hk];cases mtiKM m.1 with
 | false=>rfl
 | true =>
 show Option.bind (g174 m 3) _=_;rw [fof_i m 3 hb];cases h3:fofM m 3 with
 | none=>rfl
 | some c =>
 have hr:g176=some ((),((rowsQ,()),())):=rfl;unfold fofR;dsimp only [Option.bind_some,Bool.not_true,cond_false];rw [hr];dsimp only [Option.bind_some];refine (bn (which_i m c (three_len hm h3) (c,()) rfl)).trans ?_;have hop:=which_cases m.1 c;have hw:addW .i64 1 (findI (whP m.1 c) 0 rowsQ)=whichM m.1 c:=by unfold whichM at hop ⊢;exact addW_in (by omega) (by omega)
 dsimp only [Option.bind_some];rw [hw];generalize whichM m.1 c=op at hop ⊢;obtain ⟨a1,a2,a3,hf,hfl⟩:=fields_i op hop;rw [hf];dsimp only [Option.bind_some];have hfit:fitB 8 [((2:Int),()),(11,())] (fieldsM op)=true:=Nat.ble_eq_true_of_le (by show (2 + (fieldsM op).length) * 8<=140737488355328; omega);rw [hfit];refine (bn (rq_loop m hb ((2,()) :: (11,()) :: fieldsM op) (by simp only [List.length_cons]; omega) (op,[],[],[],[],m.1,0,0,()))).trans ?_;rw [run_all m op hop];show _=reqR (reqD m op);rw [reqD_all m op hop];cases allF m op with
 | false=>rfl
 | true => refine (bn (req_i (reqQ m op) (reqQ_b hb op))).trans ?_;cases reqM (reqQ m op) <;> rfl
def askM (b:BytT):List StrR:=match parseM b with
 | (m,c)=>bif eqI c 0 then (match reqOfM m with | (q,d)=>bif eqI d 0 then (bif eqI q.1 6 && !(eqS q.2.2.1 q.2.1) then (bif ltS q.2.2.1 q.2.1 then [(q.2.2.1,()),(q.2.1,())] else [(q.2.1,()),(q.2.2.1,())]) else [(q.2.1,())]) else []) else []
theorem fldsM_b {b:BytT}:∀ {nos:BytT} {a:Nat} {o l:List FldT} {e:Nat},a<=b.length->(∀ f∈o,f.2.1.length<=1048576)->fldsM b nos a o=some (l,e)->l.length=o.length + nos.length/\∀ f∈l,f.2.1.length<=1048576
 | [],_,_,_,_,_,ho,h=>by cases h;exact ⟨rfl,ho⟩
 | x :: r,a,o,l,e,ha,ho,h=>by
   rw [fldsM] at h;cases hg:getF b a x.1 with
   | none=>rw [hg] at h; cases h
   | some p =>
     rw [hg] at h;obtain ⟨_,h2,h3⟩:=getF_spec ha hg;obtain ⟨k1,k2⟩:=fldsM_b (nos:=r) h3 (fun f hf=>by
      rcases List.mem_append.1 hf with h | h
      . exact ho f h
      . rcases List.mem_singleton.1 h with rfl
        exact Nat.le_trans h2 (by omega)) h
     refine ⟨?_,k2⟩;rw [k1,List.length_append];simp only [List.length_cons,List.length_nil];omega
theorem parseM_b (b:BytT):MsgB (parseM b).1:=by
 have h0:MsgB ([],[],()):=⟨Nat.zero_le _,Nat.zero_le _,fun f hf=>by cases hf⟩;unfold parseM;cases hc:bcdO b 0 4 with
 | none=>exact h0
 | some mti =>
   cases hn:nosM b with
   | none=>exact h0
   | some p =>
     obtain ⟨nos,a⟩:=p;obtain ⟨n1,n2⟩:=nosM_len hn;dsimp only;cases hf:fldsM b nos a [] with
     | none=>exact h0
     | some q =>
       obtain ⟨l,e⟩:=q;obtain ⟨k1,k2⟩:=fldsM_b n2 (fun f hf=>by cases hf) hf;dsimp only;split
       . refine ⟨?_,?_,k2⟩
         . show mti.length<=_;rw [(bcdO_spec hc).2.1]; omega
         . show l.length<=_;rw [k1]; simp only [List.length_nil]; exact Nat.le_trans (Nat.le_of_eq (Nat.zero_add _)) (Nat.le_trans n1 (by omega))
       . exact h0
theorem reqOf_b {m:MsgT} (hb:MsgB m):ReqB (reqOfM m).1:=by
 have h0:ReqB zeroQ:=⟨Nat.zero_le _,Nat.zero_le _,Nat.zero_le _,Nat.zero_le _,Nat.zero_le _⟩;unfold reqOfM reqD;cases msgM m with
 | false=>exact h0
 | true =>
 cases mtiKM m.1 with
 | false=>exact h0
 | true =>
 cases fofM m 3 with
 | none=>exact h0
 | some c =>
 dsimp only [cond_true];cases reqK m (whichM m.1 c) with
 | false=>exact h0
 | true =>
   dsimp only [cond_true];cases reqM (reqQ m (whichM m.1 c)) with
   | false=>exact h0
   | true=>exact reqQ_b hb _
theorem ask_b (b:BytT):IdsB (askM b):=by
 have h1:=reqOf_b (parseM_b b);have h0:IdsB []:=⟨Nat.zero_le _,fun x hx=>by cases hx⟩;unfold askM;generalize parseM b=p at h1 ⊢;obtain ⟨m,c⟩:=p;dsimp only at h1 ⊢;cases eqI c 0 with
 | false=>exact h0
 | true =>
 generalize reqOfM m=r at h1 ⊢;obtain ⟨q,d⟩:=r;dsimp only [cond_true] at h1 ⊢;have two:∀ x y:List UInt8,x.length<=1048576->y.length<=1048576->IdsB [(x,()),(y,())]:=fun x y hx hy=>⟨Nat.le_refl _,fun z hz=>by
  rcases List.mem_cons.1 hz with rfl | hz
  . exact hx
  . rcases List.mem_singleton.1 hz with rfl
    exact hy⟩
 cases eqI d 0 with
 | false=>exact h0
 | true =>
   dsimp only [cond_true];cases eqI q.1 6 && !(eqS q.2.2.1 q.2.1) with
   | false=>exact ⟨Nat.le_succ 1,fun z hz=>by rcases List.mem_singleton.1 hz with rfl; exact h1.1⟩
   | true =>
     dsimp only [cond_true];cases ltS q.2.2.1 q.2.1 with
     | true=>exact two _ _ h1.2.1 h1.1
     | false=>exact two _ _ h1.1 h1.2.1
theorem ask_s (b:BytT) (hb:ByB b):g87 b=some ((),((askM b,()),())):=by
 unfold g87 askM;rw [par_s b hb];have hm:=parseM_b b;unfold parR;generalize parseM b=p at hm ⊢;obtain ⟨m,c⟩:=p;dsimp only [Option.bind_some] at hm ⊢;cases eqI c 0 with
 | false=>rfl
 | true =>
   dsimp only [Bool.not_true,cond_false,cond_true];rw [rq_s m hm];unfold reqR;generalize reqOfM m=r;obtain ⟨q,d⟩:=r;dsimp only [Option.bind_some];cases eqI d 0 with
   | false=>rfl
   | true => dsimp only [Bool.not_true,cond_false,cond_true];cases eqI q.1 6 <;> cases eqS q.2.2.1 q.2.1 <;> cases ltS q.2.2.1 q.2.1 <;> rfl
theorem eqS_iff {a b:List UInt8}:eqS a b=true↔a=b:=by simp [eqS]
theorem ask_i (b:BytT) (hb:ByB b):g95 b=some ((),((askM b,()),())):=by
 unfold g95 askM;rw [par_i b hb];have hm:=parseM_b b;unfold parR;generalize parseM b=p at hm ⊢;obtain ⟨m,c⟩:=p;dsimp only [Option.bind_some] at hm ⊢;rw [rq_i m hm];unfold reqR;generalize reqOfM m=r;obtain ⟨q,d⟩:=r;dsimp only [Option.bind_some];cases eqI c 0 with
 | false=>rfl
 | true =>
 cases eqI d 0 with
 | false=>rfl
 | true =>
 dsimp only [Bool.not_true,cond_false,cond_true];cases eqI q.1 6 with
 | false => dsimp only [cond_false,Bool.false_and];rw [sort1_t]; rfl
 | true =>
   show Option.bind (g128 [(q.2.1,()),(q.2.2.1,())]) _=_;rw [sort2_t];unfold s2T;dsimp only [Option.bind_some,Bool.true_and];cases he:eqS q.2.2.1 q.2.1 with
   | true => have e:=eqS_iff.1 he;rw [e,ltS_irr];dsimp only [cond_false];rw [comp2_t,eqS_refl]; rfl
   | false =>
     cases hc:ltS q.2.2.1 q.2.1 with
     | true =>
       dsimp only [cond_true];rw [comp2_t];have:eqS q.2.1 q.2.2.1=false:=by
        cases h:eqS q.2.1 q.2.2.1 with
        | false=>rfl
        | true=>rw [eqS_iff.1 h,eqS_refl] at he; cases he
       dsimp only;rw [this]; rfl
     | false => dsimp only [cond_false];rw [comp2_t];dsimp only;rw [he]; rfl
def needM (b:BytT) (n:Int):List IntR:=lockM n (askM b)
abbrev TaskT:=BytT×Int×List IntR×Int×Int×Int×Int×Int×BytT×Unit
def TaskB (t:TaskT):Prop:=ByB t.1/\t.2.2.1.length<=1048576/\t.2.2.2.2.2.2.2.2.1.length<=1048576
def eqnM (a b:List IntR):Bool:=cond (eqI (lenI a) (lenI b)) (allI (fun i x=>eqI x.1 (gt (0,()) b (i:Int)).1) 0 a) false
theorem eqn_s (a b:List IntR) (hs:a.length<=1048576):g63 a b=some ((),((eqnM a b,()),())):=by
 unfold g63 eqnM;dsimp only;cases he:eqI (lenI a) (lenI b) with
 | false=>rfl
 | true =>
   have hl:a.length=b.length:=by have:=eqI_iff.1 he; unfold lenI at this; omega
   have h:=loop_list (step:=un4 r63_0) a (fun i (_:Unit)=>(a,b,lenI a,((i:Nat):Int),())) (fun i x _=>bif eqI x.1 (gt (0,()) b (i:Int)).1 then Sum.inl () else .inr (.inr (false,()))) (fun _=> .inl (a,b,lenI a,(a.length:Int),())) (a0:=()) (fun i x u hx=>by
    have hlt:=lt_of_get hx;show r63_0 a b (lenI a) (i:Int)=_;unfold r63_0;rw [ltI_in hx,inB_in hx,gt_in _ hx,addW1 (by unfold big; omega),inB_lt (xs:=b) (by omega)];dsimp only [cond_true];show cond (!(eqI x.1 (gt (0,()) b (i:Int)).1)) _ _=_;cases eqI x.1 (gt (0,()) b (i:Int)).1 <;> rfl) (fun u=>by
    show r63_0 a b (lenI a) (a.length:Int)=_;unfold r63_0;rw [ltI_out rfl]; rfl)
   rw [goL_allI] at h;refine (bn h).trans ?_;dsimp only [cond_true];cases allI _ 0 a <;> rfl
theorem eqn_i (a b:List IntR) (hs:a.length<=1048576):g70 a b=some ((),((eqnM a b,()),())):=eqn_s a b hs
theorem need_s (t:TaskT) (n:Int) (hb:TaskB t):g64 t n=some ((),((needM t.1 n,()),())):=by unfold g64 needM;rw [ask_s _ hb.1];dsimp only [Option.bind_some];rw [lock_s _ n (ask_b t.1)]; rfl
theorem need_i (t:TaskT) (n:Int) (hb:TaskB t):g71 t n=some ((),((needM t.1 n,()),())):=by unfold g71 needM;rw [ask_i _ hb.1];dsimp only [Option.bind_some];rw [lock_i _ n (ask_b t.1)]; rfl
def heldM (t:TaskT):Bool:=cond (eqI t.2.1 1) (cond (leI 0 t.2.2.2.1) (ltI t.2.2.2.1 (lenI t.2.2.1)) false) (cond (eqI t.2.1 2) (cond (eqI t.2.2.2.1 (lenI t.2.2.1)) (ltI 0 (lenI t.2.2.1)) false) (cond (eqI t.2.1 3) (inM t.2.2.2.1 1 (lenI t.2.2.1)) (eqI t.2.2.2.1 0)))
def endM (t:TaskT):Bool:=cond (leI t.2.1 2) (cond (cond (cond (eqI t.2.2.2.2.2.1 (-1)) (eqI t.2.2.2.2.2.2.1 (-1)) false) (eqI t.2.2.2.2.2.2.2.1 0) false) (eqI (lenI t.2.2.2.2.2.2.2.2.1) 0) false) (cond (cond (!timeM t.2.2.2.2.2.1) true (ltI t.2.2.2.2.2.1 t.2.2.2.2.1)) false (cond (eqI t.2.1 5) (cond (timeM t.2.2.2.2.2.2.1) (leI t.2.2.2.2.2.1 t.2.2.2.2.2.2.1) false) (eqI t.2.2.2.2.2.2.1 (-1))))
def taskM (t:TaskT) (n:Int):Bool:=cond (cond (cond (!inM n 1 5) true (ltI 300 (lenI t.1))) true (ltI 200 (lenI t.2.2.2.2.2.2.2.2.1))) false (cond (timeM t.2.2.2.2.1) (cond (timeM t.2.2.2.2.2.2.2.1) (cond (inM t.2.1 0 5) (cond (heldM t) (cond (cond (eqI t.2.1 0) (ltI 0 (lenI t.2.2.1)) false) false (cond (cond (!(eqI t.2.1 0)) (eqnM t.2.2.1 (needM t.1 n)) true) (endM t) false)) false) false) false) false)
theorem task_s (t:TaskT) (n:Int) (hb:TaskB t):g33 t n=some ((),((taskM t n,()),())):=by
 have hn:=need_s t n hb;have he:=eqn_s t.2.2.1 (needM t.1 n) hb.2.1;have hh:g62 t=some ((),((heldM t,()),())):=by unfold g62 heldM;dsimp only;rw [in_s];cases eqI t.2.1 1 <;> cases eqI t.2.1 2 <;> cases eqI t.2.1 3 <;> rfl
 unfold g33;dsimp only;rw [in_s,time_s,time_s,in_s,hh,hn];dsimp only [Option.bind_some];rw [he,time_s,time_s];dsimp only [Option.bind_some];unfold taskM endM;generalize heldM t=c1;generalize eqnM t.2.2.1 (needM t.1 n)=c2;generalize inM n 1 5=c3;generalize inM t.2.1 0 5=c4;generalize ltI 300 (lenI t.1)=c5;generalize ltI 200 (lenI t.2.2.2.2.2.2.2.2.1)=c6;generalize timeM t.2.2.2.2.1=c7;generalize timeM t.2.2.2.2.2.2.2.1=c8;generalize timeM t.2.2.2.2.2.1=c9;generalize timeM t.2.2.2.2.2.2.1=ca;generalize leI t.2.1 2=cb;generalize eqI t.2.1 0=cc;generalize eqI t.2.1 5=cd;generalize ltI 0 (lenI t.2.2.1)=ce;cases c3 <;> first | rfl | skip
 cases c5 <;> first | rfl | skip
 cases c6 <;> first | rfl | skip
 cases c7 <;> first | rfl | skip
 cases c8 <;> first | rfl | skip
 cases c4 <;> first | rfl | skip
 cases c1 <;> first | rfl | skip
 cases cc <;> cases ce <;> cases c2 <;> first | rfl | skip
 all_goals (cases cb <;> first | rfl | skip)
 all_goals (cases c9 <;> first | rfl | skip)
 all_goals (cases ltI t.2.2.2.2.2.1 t.2.2.2.2.1 <;> cases cd <;> cases ca <;> rfl)
theorem in_lt {α:Type} {h:Int} {xs:List α} (hs:xs.length<=1048576):inM h 0 (subW .i64 (lenI xs) 1)=cond (leI 0 h) (ltI h (lenI xs)) false:=by
 unfold lenI;rw [subW_in (by omega) (by omega)];unfold inM;have:leI h ((xs.length:Int) - 1)=ltI h (xs.length:Int):=by unfold leI ltI;exact decide_eq_decide.2 (by omega)
 rw [this]
theorem pc_cases {pc:Int} (h:inM pc 0 5=true):pc=0∨pc=1∨pc=2∨pc=3∨pc=4∨pc=5:=by have:=inM_iff.1 h;omega
theorem task_i (t:TaskT) (n:Int) (hb:TaskB t):g39 t n=some ((),((taskM t n,()),())):=by
 obtain ⟨d,pc,st,held,inv,lin,res,at',rep,u⟩:=t;have hn:=need_i (d,pc,st,held,inv,lin,res,at',rep,u) n hb;have he:=eqn_i st (needM d n) hb.2.1;have hl:= @in_lt _ held st hb.2.1;cases hpc:inM pc 0 5 with
 | false =>
   have hp:g69 pc=some ((),(([],()),())):=by unfold g69;rw [in_i,hpc]; rfl
   unfold g39 taskM;dsimp only;rw [in_i,hp];dsimp only [Option.bind_some];rw [hpc];cases inM n 1 5 <;> first | rfl | skip
   cases ltI 300 (lenI d) <;> cases ltI 200 (lenI rep) <;> cases timeM inv <;> cases timeM at' <;> rfl
 | true =>
   have hp:∃ nm,g69 pc=some ((),((nm,()),()))/\eqS nm []=false:=by rcases pc_cases hpc with h | h | h | h | h | h <;> subst h <;> exact ⟨_,rfl,rfl⟩
   obtain ⟨nm,hp,hne⟩:=hp;unfold g39 taskM heldM endM;dsimp only;rw [in_i,hp];dsimp only [Option.bind_some];rw [hne,time_i,time_i,time_i,time_i,in_i,in_i,hn,hl,hpc];dsimp only [Option.bind_some];rw [he];dsimp only [Option.bind_some];generalize eqnM st (needM d n)=c2;generalize inM n 1 5=c3;generalize ltI 300 (lenI d)=c5;generalize ltI 200 (lenI rep)=c6;generalize timeM inv=c7;generalize timeM at'=c8;generalize timeM lin=c9;generalize timeM res=ca;generalize inM held 1 (lenI st)=cg;generalize ltI 0 (lenI st)=ce;generalize eqI held (lenI st)=ch;generalize leI 0 held=ci;generalize ltI held (lenI st)=cj;generalize eqI held 0=ck;cases c3 <;> first | rfl | skip
   cases c5 <;> first | rfl | skip
   cases c6 <;> first | rfl | skip
   cases c7 <;> first | rfl | skip
   cases c8 <;> first | rfl | skip
   clear hp hn he hl;rcases pc_cases hpc with h | h | h | h | h | h <;> subst h
   . simp only [show eqI (0:Int) 0=true from rfl,show eqI (0:Int) 1=false from rfl,show eqI (0:Int) 2=false from rfl,show eqI (0:Int) 3=false from rfl,show ltI (0:Int) 3=true from rfl,show leI (0:Int) 2=true from rfl,cond_true,cond_false,Bool.not_true,Bool.not_false];cases ce <;> cases ck <;> rfl
   . simp only [show eqI (1:Int) 0=false from rfl,show eqI (1:Int) 1=true from rfl,show ltI (1:Int) 3=true from rfl,show leI (1:Int) 2=true from rfl,cond_true,cond_false,Bool.not_true,Bool.not_false];cases c2 <;> cases ci <;> cases cj <;> rfl
   . simp only [show eqI (2:Int) 0=false from rfl,show eqI (2:Int) 1=false from rfl,show eqI (2:Int) 2=true from rfl,show ltI (2:Int) 3=true from rfl,show leI (2:Int) 2=true from rfl,cond_true,cond_false,Bool.not_true,Bool.not_false];cases c2 <;> cases ch <;> cases ce <;> rfl
   . simp only [show eqI (3:Int) 0=false from rfl,show eqI (3:Int) 1=false from rfl,show eqI (3:Int) 2=false from rfl,show eqI (3:Int) 3=true from rfl,show eqI (3:Int) 5=false from rfl,show ltI (3:Int) 3=false from rfl,show leI (3:Int) 2=false from rfl,cond_true,cond_false,Bool.not_true,Bool.not_false];cases c2 <;> cases cg <;> cases c9 <;> cases ltI lin inv <;> rfl
   . simp only [show eqI (4:Int) 0=false from rfl,show eqI (4:Int) 1=false from rfl,show eqI (4:Int) 2=false from rfl,show eqI (4:Int) 3=false from rfl,show eqI (4:Int) 5=false from rfl,show ltI (4:Int) 3=false from rfl,show leI (4:Int) 2=false from rfl,cond_true,cond_false,Bool.not_true,Bool.not_false];cases c2 <;> cases ck <;> cases c9 <;> cases ltI lin inv <;> rfl
   . simp only [show eqI (5:Int) 0=false from rfl,show eqI (5:Int) 1=false from rfl,show eqI (5:Int) 2=false from rfl,show eqI (5:Int) 3=false from rfl,show eqI (5:Int) 5=true from rfl,show ltI (5:Int) 3=false from rfl,show leI (5:Int) 2=false from rfl,cond_true,cond_false,Bool.not_true,Bool.not_false];cases c2 <;> cases ck <;> cases c9 <;> cases ltI lin inv <;> cases ca <;> rfl
theorem find_any {α:Type} (p:α->Bool):∀ (xs:List α) (i:Nat),leI 0 (findI p i xs)=xs.any p
 | [],_=>rfl
 | x :: r,i=>by
   rw [findI,List.any_cons];cases p x with
   | true=>exact decide_eq_true (by show (0:Int)<=(i:Int); omega)
   | false=>exact find_any p r (i + 1)
theorem eqI_comm (a b:Int):eqI a b=eqI b a:=by unfold eqI;exact Bool.beq_comm
def inL (v:Int) (xs:List IntR):Bool:=xs.any fun y=>eqI v y.1
theorem goL_any {α Y:Type} (p:α->Bool) (y:Y) (z:Y):∀ (xs:List α) (i:Nat),goL (fun _ x (_:Unit)=>bif p x then Sum.inr y else .inl ()) (fun _=>z) i xs ()=bif xs.any p then y else z
 | [],_=>rfl
 | x :: r,i=>by
   rw [goL,List.any_cons];cases p x with
   | true=>rfl
   | false=>exact goL_any p y z r (i + 1)
theorem inL_i (xs:List IntR) (v:Int) (hs:xs.length<=1048576):g40 xs v=some ((),((inL v xs,()),())):=by rw [contains_i xs v hs,find_any]; rfl
theorem inL_s (xs:List IntR) (v:Int) (hs:xs.length<=1048576):g61 xs v=some ((),((inL v xs,()),())):=by
 have h:=loop_list (step:=un4 r61_0) xs (fun i (_:Unit)=>(v,xs,lenI xs,((i:Nat):Int),())) (fun _ x _=>bif eqI v x.1 then Sum.inr (.inr (true,())) else .inl ()) (fun _=> .inl (v,xs,lenI xs,(xs.length:Int),())) (a0:=()) (fun i x u hx=>by
  have hlt:=lt_of_get hx;show r61_0 v xs (lenI xs) (i:Int)=_;unfold r61_0;rw [ltI_in hx,inB_in hx,gt_in _ hx,addW1 (by unfold big; omega),eqI_comm x.1 v];cases eqI v x.1 <;> rfl) (fun u=>by
  show r61_0 v xs (lenI xs) (xs.length:Int)=_;unfold r61_0;rw [ltI_out rfl]; rfl)
 rw [goL_any] at h;unfold g61;refine (bn h).trans ?_;unfold inL;cases xs.any fun y=>eqI v y.1 <;> rfl
def hasN (t:TaskT):Nat:=min t.2.2.2.1.toNat t.2.2.1.length
def hasM (t:TaskT) (k:Int):Bool:=inL k (t.2.2.1.take (hasN t))
theorem has_s (t:TaskT) (k:Int) (hb:TaskB t):g34 t k=some ((),((hasM t k,()),())):=by
 have hs:=hb.2.1;have hle:hasN t<=t.2.2.1.length:=Nat.min_le_right _ _;have hl:(t.2.2.1.take (hasN t)).length=hasN t:=by rw [List.length_take]; omega
 have h:=loop_list (step:=un3 r34_0) (t.2.2.1.take (hasN t)) (fun i (_:Unit)=>(k,((i:Nat):Int),t,())) (fun _ x _=>bif eqI k x.1 then Sum.inr (.inr (true,())) else .inl ()) (fun _=> .inl (k,((hasN t:Nat):Int),t,())) (a0:=()) (fun i x u hx=>by
  have hlt:=lt_of_get hx;rw [hl] at hlt;rw [List.getElem?_take,if_pos hlt] at hx;have h1:i < t.2.2.2.1.toNat:=Nat.lt_of_lt_of_le hlt (Nat.min_le_left _ _);show r34_0 k (i:Int) t=_;unfold r34_0;rw [ltI_yes (show (i:Int) < t.2.2.2.1 by omega),ltI_in hx,inB_in hx,gt_in _ hx,addW1 (by unfold big; omega),eqI_comm x.1 k];cases eqI k x.1 <;> rfl) (fun u=>by
  rw [hl];show r34_0 k ((hasN t:Nat):Int) t=_;unfold r34_0;have:cond (ltI ((hasN t:Nat):Int) t.2.2.2.1) (ltI ((hasN t:Nat):Int) (lenI t.2.2.1)) false=false:=by
   unfold hasN;rcases Nat.le_total t.2.2.2.1.toNat t.2.2.1.length with h | h
   . rw [Nat.min_eq_left h,ltI_no (by omega)]; rfl
   . rw [Nat.min_eq_right h,ltI_out rfl]; cases ltI _ _ <;> rfl
  rw [this]; rfl)
 rw [goL_any] at h;unfold g34;refine (bn h).trans ?_;unfold hasM inL;cases List.any _ _ <;> rfl
theorem has_i (t:TaskT) (k:Int) (hb:TaskB t):g41 t k=some ((),((hasM t k,()),())):=by
 have hs:=hb.2.1;have hle:hasN t<=t.2.2.1.length:=Nat.min_le_right _ _;have hu:mxI 0 (mnI t.2.2.2.1 (lenI t.2.2.1))=((hasN t:Nat):Int):=by unfold mxI mnI hasN lenI;split <;> split <;> omega
 unfold g41;dsimp only;rw [hu,cutB_take hle,sub_take,inL_i _ k (by rw [List.length_take]; omega)]; rfl
noncomputable def gatM (l:List StrT):List AcctT:=open Classical in if h:∃ M,Srt ltA M/\Stb ltA (allA l) M then Classical.choose h else []
theorem gat_eq {l:List StrT} (hB:GatB l):(gatM l).length=(allA l).length/\(∀ x∈gatM l,x∈allA l)/\Srt ltA (gatM l)/\Stb ltA (allA l) (gatM l)/\g60 l=some ((),((gatM l,()),()))/\g68 l=some ((),((gatM l,()),())):=by
 obtain ⟨M,⟨m1,m2⟩,m3⟩:=gather_s l hB;obtain ⟨M',p0,p1,p2,p3,p4⟩:=gather_eq l hB;have e0:M=M':=by have h:=m3.symm.trans p3;simp only [Option.some.injEq,Prod.mk.injEq,true_and,and_true] at h;exact h
 subst e0;have hex:∃ M,Srt ltA M/\Stb ltA (allA l) M:=⟨M,m1,m2⟩;have e:gatM l=M:=by unfold gatM;rw [dif_pos hex];exact srt_uniq swoA (Classical.choose_spec hex).1 m1 ((Classical.choose_spec hex).2.symm.trans m2)
 rw [e];exact ⟨p0,p1,m1,m2,p3,p4⟩
theorem gat_b {l:List StrT} (hB:GatB l):BookB (gatM l):=by obtain ⟨h1,h2,_⟩:=gat_eq hB;refine ⟨by rw [h1]; exact hB.2.1,fun a ha => ?_⟩;have:=h2 a ha;unfold allA at this;obtain ⟨xs,hx,hm⟩:=List.mem_flatten.1 this;obtain ⟨s,hs,rfl⟩:=List.mem_map.1 hx;exact hB.2.2 s hs a hm
def stpStep (n k:Int) (xs:List AcctT) (i:Nat) (a:AcctT):Bool:=cond (eqI (stripeM a.1 n) k) (cond (decide (0 < i)) (ltS (gt d92 xs ((i:Int) - 1)).1 a.1) true) false
def stpM (n k:Int) (xs:List AcctT):Bool:=allI (stpStep n k xs) 0 xs
def stpsStep (n:Int) (k:Nat) (s:StrT):Bool:=cond (inM s.1 (-1) 11) (stpM n (k:Int) s.2.1) false
noncomputable def strM (l:List StrT):Bool:=cond (inM (lenI l) 1 5) (cond (allI (stpsStep (lenI l)) 0 l) (bookM (gatM l)) false) false
theorem stp_s (l t11:List StrT) (k t12 t13:Int) (s:StrT) (hl:l.length<=1048576) (hs:s.2.1.length<=1048576) (hb:∀ a∈s.2.1,AcctB a):l30_2 l k t11 t12 t13 s.2.1 (lenI s.2.1) 0 s=some (bif stpM (lenI l) k s.2.1 then .inl (l,k,t11,t12,t13,s.2.1,lenI s.2.1,(s.2.1.length:Int),s,()) else .inr (false,())):=by
 have h:=loop_list (step:=un9 r30_2) s.2.1 (fun i (_:Unit)=>(l,k,t11,t12,t13,s.2.1,lenI s.2.1,((i:Nat):Int),s,())) (fun i x _=>bif stpStep (lenI l) k s.2.1 i x then Sum.inl () else .inr (.inr (false,()))) (fun _=> .inl (l,k,t11,t12,t13,s.2.1,lenI s.2.1,(s.2.1.length:Int),s,())) (a0:=()) (fun i x u hx=>by
  have hlt:=lt_of_get hx;show r30_2 l k t11 t12 t13 s.2.1 (lenI s.2.1) (i:Int) s=_;unfold r30_2 stpStep;rw [ltI_in hx,inB_in hx,gt_in _ hx,stripe_s x.1 (lenI l) (le_big (hb x (List.mem_of_getElem? hx)).1),addW1 (by unfold big; omega)];dsimp only [cond_true,Option.bind_some];cases eqI (stripeM x.1 (lenI l)) k with
  | false=>rfl
  | true =>
    by_cases h0:0 < i
    . rw [ltI_yes (show (0:Int) < i by omega),subW_in (by omega) (by omega),prev_get hx h0,decide_eq_true h0];dsimp only [cond_true,cond_false,Bool.not_true];cases ltS (gt d92 s.2.1 ((i:Int) - 1)).1 x.1 <;> rfl
    . rw [ltI_no (show ¬ (0:Int) < i by omega),decide_eq_false h0]; rfl) (fun u=>by
  show r30_2 l k t11 t12 t13 s.2.1 (lenI s.2.1) (s.2.1.length:Int) s=_;unfold r30_2;rw [ltI_out rfl]; rfl)
 rw [goL_allI] at h;refine Eq.trans h ?_;unfold stpM;cases allI _ 0 s.2.1 <;> rfl
theorem stp_i (l t11:List StrT) (k t12 t13:Int) (s:StrT) (hl:l.length<=1048576) (hs:s.2.1.length<=1048576) (hb:∀ a∈s.2.1,AcctB a):l37_2 l k t11 t12 t13 s.2.1 (lenI s.2.1) 0 s=some (bif stpM (lenI l) k s.2.1 then .inl (l,k,t11,t12,t13,s.2.1,lenI s.2.1,(s.2.1.length:Int),s,()) else .inr (false,())):=by
 have h:=loop_list (step:=un9 r37_2) s.2.1 (fun i (_:Unit)=>(l,k,t11,t12,t13,s.2.1,lenI s.2.1,((i:Nat):Int),s,())) (fun i x _=>bif stpStep (lenI l) k s.2.1 i x then Sum.inl () else .inr (.inr (false,()))) (fun _=> .inl (l,k,t11,t12,t13,s.2.1,lenI s.2.1,(s.2.1.length:Int),s,())) (a0:=()) (fun i x u hx=>by
  have hlt:=lt_of_get hx;show r37_2 l k t11 t12 t13 s.2.1 (lenI s.2.1) (i:Int) s=_;unfold r37_2 stpStep;rw [ltI_in hx,inB_in hx,gt_in _ hx,stripe_i x.1 (lenI l) (le_big (hb x (List.mem_of_getElem? hx)).1),addW1 (by unfold big; omega)];dsimp only [cond_true,Option.bind_some];cases eqI (stripeM x.1 (lenI l)) k with
  | false=>rfl
  | true =>
    by_cases h0:0 < i
    . rw [ltI_yes (show (0:Int) < i by omega),subW_in (by omega) (by omega),prev_get hx h0,decide_eq_true h0,leS_not];dsimp only [cond_true,cond_false,Bool.not_true];cases ltS (gt d92 s.2.1 ((i:Int) - 1)).1 x.1 <;> rfl
    . rw [ltI_no (show ¬ (0:Int) < i by omega),decide_eq_false h0]; rfl) (fun u=>by
  show r37_2 l k t11 t12 t13 s.2.1 (lenI s.2.1) (s.2.1.length:Int) s=_;unfold r37_2;rw [ltI_out rfl]; rfl)
 rw [goL_allI] at h;refine Eq.trans h ?_;unfold stpM;cases allI _ 0 s.2.1 <;> rfl
theorem gat_le {l:List StrT} (hB:GatB l) {i:Nat} {s:StrT} (h:l[i]? = some s):s.2.1.length<=1048576:=by have h1:=allA_take h;have h2:=allA_le l (i + 1);rw [h1,List.length_append] at h2;have:=hB.2.1;omega
theorem str_s (l:List StrT) (hB:GatB l):g30 l=some ((),((strM l,()),())):=by
 have hl:=hB.1;obtain ⟨_,_,_,_,hg,_⟩:=gat_eq hB;unfold g30 strM;dsimp only;rw [in_s];cases inM (lenI l) 1 5 with
 | false=>rfl
 | true =>
 have h:=loop_list (step:=un4 r30_0) l (fun i (_:Unit)=>(l,l,lenI l,((i:Nat):Int),())) (fun i x _=>bif stpsStep (lenI l) i x then Sum.inl () else .inr (.inr (false,()))) (fun _=> .inl (l,l,lenI l,(l.length:Int),())) (a0:=()) (fun i x u hx=>by
  have hlt:=lt_of_get hx;show r30_0 l l (lenI l) (i:Int)=_;unfold r30_0 stpsStep;rw [ltI_in hx,inB_in hx,gt_in _ hx];dsimp only [cond_true];rw [in_s];dsimp only [Option.bind_some];cases inM x.1 (-1) 11 with
  | false=>rfl
  | true =>
    dsimp only [Bool.not_true,cond_false,cond_true];rw [stp_s l l (i:Int) (lenI l) (i:Int) x hl (gat_le hB hx) (hB.2.2 x (List.mem_of_getElem? hx))];cases stpM (lenI l) (i:Int) x.2.1 with
    | false=>rfl
    | true =>
      dsimp only [cond_true,Option.bind_some,Sum.elim_inl];rw [addW1 (by unfold big; omega)]; rfl) (fun u=>by
  show r30_0 l l (lenI l) (l.length:Int)=_;unfold r30_0;rw [ltI_out rfl]; rfl)
 rw [goL_allI] at h;refine (bn h).trans ?_;cases allI (stpsStep (lenI l)) 0 l with
 | false=>rfl
 | true => show Option.bind (g60 l) _=_;rw [hg];show Option.bind (g49 (gatM l,())) _=_;rw [book_s _ (gat_b hB)]; rfl
theorem str_i (l:List StrT) (hB:GatB l):g37 l=some ((),((strM l,()),())):=by
 have hl:=hB.1;obtain ⟨_,_,_,_,_,hg⟩:=gat_eq hB;unfold g37 strM;have h:=loop_list (step:=un4 r37_0) l (fun i (_:Unit)=>(l,l,lenI l,((i:Nat):Int),())) (fun i x _=>bif stpsStep (lenI l) i x then Sum.inl () else .inr (.inr (false,()))) (fun _=> .inl (l,l,lenI l,(l.length:Int),())) (a0:=()) (fun i x u hx=>by
  have hlt:=lt_of_get hx;show r37_0 l l (lenI l) (i:Int)=_;unfold r37_0 stpsStep;rw [ltI_in hx,inB_in hx,gt_in _ hx];dsimp only [cond_true];rw [in_i];dsimp only [Option.bind_some];cases inM x.1 (-1) 11 with
  | false=>rfl
  | true =>
    dsimp only [Bool.not_true,cond_false,cond_true];rw [stp_i l l (i:Int) (lenI l) (i:Int) x hl (gat_le hB hx) (hB.2.2 x (List.mem_of_getElem? hx))];cases stpM (lenI l) (i:Int) x.2.1 with
    | false=>rfl
    | true =>
      dsimp only [cond_true,Option.bind_some,Sum.elim_inl];rw [addW1 (by unfold big; omega)]; rfl) (fun u=>by
  show r37_0 l l (lenI l) (l.length:Int)=_;unfold r37_0;rw [ltI_out rfl]; rfl)
 rw [goL_allI] at h;refine (bn h).trans ?_;cases allI (stpsStep (lenI l)) 0 l with
 | false => cases inM (lenI l) 1 5 <;> rfl
 | true =>
   dsimp only [cond_true,Option.bind_some,Sum.elim_inl];rw [in_i];dsimp only [Option.bind_some];cases inM (lenI l) 1 5 with
   | false=>rfl
   | true => show Option.bind (g68 l) _=_;rw [hg];show Option.bind (g51 (gatM l,())) _=_;rw [book_i _ (gat_b hB)]; rfl
abbrev WorldT:=List StrT×Int×Int×List TaskT×Unit
def WorldB (w:WorldT):Prop:=GatB w.1/\w.2.2.2.1.length<=1048576/\∀ t∈w.2.2.2.1,TaskB t
def stp3 (t:TaskT):List IntR:=[(t.2.2.2.2.1,()),(t.2.2.2.2.2.1,()),(t.2.2.2.2.2.2.1,())]
def stpF (n:Int):List IntR->List IntR->Option (List IntR)
 | [],o=>some o
 | x :: r,o=>bif eqI x.1 (-1) then stpF n r o else bif leI n x.1 then none else bif inL x.1 o then none else stpF n r (o ++ [x])
def stpG (n:Int) (x:IntR) (o:List IntR) (y:Unit):Sum (List IntR) Unit:=bif eqI x.1 (-1) then .inl o else bif leI n x.1 then .inr y else bif inL x.1 o then .inr y else .inl (o ++ [x])
theorem goL_stp {Y:Type} (n:Int) (y:Y) (z:List IntR->Y):∀ (xs:List IntR) (i:Nat) (o:List IntR),goL (fun _ x o=>match stpG n x o () with | .inl o'=>Sum.inl o' | .inr _=> .inr y) z i xs o=match stpF n xs o with | some o'=>z o' | none=>y
 | [],_,_=>rfl
 | x :: r,i,o=>by
   rw [goL,stpF];unfold stpG;cases eqI x.1 (-1) with
   | true=>exact goL_stp n y z r (i + 1) o
   | false =>
     cases leI n x.1 with
     | true=>rfl
     | false =>
       cases inL x.1 o with
       | true=>rfl
       | false=>exact goL_stp n y z r (i + 1) _
theorem stpF_len (n:Int):∀ (xs o o':List IntR),stpF n xs o=some o'->o'.length<=o.length + xs.length
 | [],o,o',h=>by cases h; exact Nat.le_refl _
 | x :: r,o,o',h=>by
   rw [stpF] at h;cases h1:eqI x.1 (-1) <;> rw [h1] at h
   . cases h2:leI n x.1 <;> rw [h2] at h
     . cases h3:inL x.1 o <;> rw [h3] at h
       . have:=stpF_len n r _ _ h;rw [List.length_append] at this;simp only [List.length_cons,List.length_nil] at this ⊢;omega
       . cases h
     . cases h
   . have:=stpF_len n r _ _ h;simp only [List.length_cons];omega
theorem st_s (n:Int) (o:List IntR) (t11:List TaskT) (t12 t13:Int) (xs:List IntR) (hx:xs.length<=3) (ho:o.length<=1000):l32_2 n o t11 t12 t13 xs (lenI xs) 0=some (match stpF n xs o with | some o'=> .inl (n,o',t11,t12,t13,xs,lenI xs,lenI xs,()) | none=> .inr (false,())):=by
 have h:=loop_inv (step:=un8 r32_2) xs (fun i (o:List IntR)=>(n,o,t11,t12,t13,xs,lenI xs,((i:Nat):Int),())) (fun _ x o=>match stpG n x o () with | .inl o'=>Sum.inl o' | .inr _=> .inr (.inr (false,()))) (fun o=> .inl (n,o,t11,t12,t13,xs,lenI xs,lenI xs,())) (fun i o=>o.length<=1000 + i) (a0:=o) ho (fun i x o hx' ho'=>by
  have hlt:=lt_of_get hx';show r32_2 n o t11 t12 t13 xs (lenI xs) (i:Int)=_;unfold r32_2;rw [ltI_in hx',inB_in hx',gt_in _ hx',addW1 (by unfold big; omega)];dsimp only [cond_true];rw [inL_s o x.1 (by omega)];dsimp only [Option.bind_some];rw [fit8 (by omega)];unfold stpG;cases eqI x.1 (-1) <;> cases leI n x.1 <;> cases inL x.1 o <;> rfl) (fun i x o o' hx' ho' hf=>by
  unfold stpG at hf;cases h1:eqI x.1 (-1) <;> rw [h1] at hf
  . cases h2:leI n x.1 <;> rw [h2] at hf
    . cases h3:inL x.1 o <;> rw [h3] at hf
      . cases hf;rw [List.length_append]; show o.length + 1<=_; omega
      . cases hf
    . cases hf
  . cases hf; omega) (fun o ho'=>by
  show r32_2 n o t11 t12 t13 xs (lenI xs) (xs.length:Int)=_;unfold r32_2;rw [ltI_out rfl]; rfl)
 rw [goL_stp] at h;refine Eq.trans h ?_;cases stpF n xs o <;> rfl
theorem st_i (n:Int) (o:List IntR) (t36:List TaskT) (t37 t38:Int) (xs:List IntR) (w:WorldT) (hn:w.2.2.1=n) (hx:xs.length<=3) (ho:o.length<=1000):l11_2 o t36 t37 t38 xs (lenI xs) 0 w=some (match stpF n xs o with | some o'=> .inl (o',t36,t37,t38,xs,lenI xs,lenI xs,w,()) | none=> .inr (false,())):=by
 subst hn;have h:=loop_inv (step:=un8 r11_2) xs (fun i (o:List IntR)=>(o,t36,t37,t38,xs,lenI xs,((i:Nat):Int),w,())) (fun _ x o=>match stpG w.2.2.1 x o () with | .inl o'=>Sum.inl o' | .inr _=> .inr (.inr (false,()))) (fun o=> .inl (o,t36,t37,t38,xs,lenI xs,lenI xs,w,())) (fun i o=>o.length<=1000 + i) (a0:=o) ho (fun i x o hx' ho'=>by
  have hlt:=lt_of_get hx';show r11_2 o t36 t37 t38 xs (lenI xs) (i:Int) w=_;unfold r11_2;rw [ltI_in hx',inB_in hx',gt_in _ hx',addW1 (by unfold big; omega)];dsimp only [cond_true];rw [inL_i o x.1 (by omega)];dsimp only [Option.bind_some];rw [fit8 (by omega)];unfold stpG;cases eqI x.1 (-1) <;> cases leI w.2.2.1 x.1 <;> cases inL x.1 o <;> rfl) (fun i x o o' hx' ho' hf=>by
  unfold stpG at hf;cases h1:eqI x.1 (-1) <;> rw [h1] at hf
  . cases h2:leI w.2.2.1 x.1 <;> rw [h2] at hf
    . cases h3:inL x.1 o <;> rw [h3] at hf
      . cases hf;rw [List.length_append]; show o.length + 1<=_; omega
      . cases hf
    . cases hf
  . cases hf; omega) (fun o ho'=>by
  show r11_2 o t36 t37 t38 xs (lenI xs) (xs.length:Int) w=_;unfold r11_2;rw [ltI_out rfl]; rfl)
 rw [goL_stp] at h;refine Eq.trans h ?_;cases stpF w.2.2.1 xs o <;> rfl
def stpsF (n:Int):List TaskT->List IntR->Option (List IntR)
 | [],o=>some o
 | t :: r,o=>(stpF n (stp3 t) o).bind (stpsF n r)
def tkM (L now:Int) (t:TaskT):Bool:=cond (taskM t L) (!(ltI now t.2.2.2.2.2.2.2.1)) false
theorem goL_sts {Y:Type} (n:Int) (y:Y) (z:List IntR->Y):∀ (xs:List TaskT) (i:Nat) (o:List IntR),goL (fun _ x o=>match stpF n (stp3 x) o with | some o'=>Sum.inl o' | none=> .inr y) z i xs o=match stpsF n xs o with | some o'=>z o' | none=>y
 | [],_,_=>rfl
 | x :: r,i,o=>by
   rw [goL,stpsF];cases stpF n (stp3 x) o with
   | none=>rfl
   | some o'=>exact goL_sts n y z r (i + 1) o'
theorem goL_stk {Y:Type} (L now n:Int) (y:Y) (z:Y->Prop) (Z:List IntR->Y) (hZ:∀ o,z (Z o)):∀ (xs:List TaskT) (i:Nat) (o:List IntR),(bif xs.all (tkM L now) && (stpsF n xs o).isSome then z (goL (fun _ x o=>bif tkM L now x then (match stpF n (stp3 x) o with | some o'=>Sum.inl o' | none=> .inr y) else .inr y) Z i xs o) else goL (fun _ x o=>bif tkM L now x then (match stpF n (stp3 x) o with | some o'=>Sum.inl o' | none=> .inr y) else .inr y) Z i xs o=y:Prop)
 | [],_,o=>hZ o
 | x :: r,i,o=>by
   rw [goL,stpsF,List.all_cons];cases tkM L now x with
   | false=>rfl
   | true =>
     cases stpF n (stp3 x) o with
     | none=>rw [show (none:Option (List IntR)).bind (stpsF n r)=none from rfl]; cases r.all (tkM L now) <;> rfl
     | some o'=>exact goL_stk L now n y z Z hZ r (i + 1) o'
theorem sts_s (n:Int) (ts:List TaskT) (ht:ts.length<=12):g32 ts n=some ((),(((stpsF n ts []).isSome,()),())):=by
 have h:=loop_inv (step:=un5 r32_0) ts (fun i (o:List IntR)=>(n,o,ts,lenI ts,((i:Nat):Int),())) (fun _ x o=>match stpF n (stp3 x) o with | some o'=>Sum.inl o' | none=> .inr (.inr (false,()))) (fun o=> .inl (n,o,ts,lenI ts,(ts.length:Int),())) (fun i o=>o.length<=3 * i) (a0:=[]) (Nat.le_refl _) (fun i x o hx ho=>by
  have hlt:=lt_of_get hx;show r32_0 n o ts (lenI ts) (i:Int)=_;unfold r32_0;rw [ltI_in hx,inB_in hx,gt_in _ hx];dsimp only [cond_true];refine (bn (st_s n o ts (lenI ts) (i:Int) (stp3 x) (Nat.le_refl _) (by omega))).trans ?_;cases stpF n (stp3 x) o with
  | none=>rfl
  | some o' =>
    dsimp only [Option.bind_some,Sum.elim_inl];rw [addW1 (by unfold big; omega)] <;> rfl) (fun i x o o' hx ho hf=>by
  cases hs:stpF n (stp3 x) o with
  | none=>rw [hs] at hf; cases hf
  | some o2 =>
    rw [hs] at hf;cases hf;have:=stpF_len n _ _ _ hs;have e:(stp3 x).length=3:=rfl;omega) (fun o ho=>by
  show r32_0 n o ts (lenI ts) (ts.length:Int)=_;unfold r32_0;rw [ltI_out rfl]; rfl)
 rw [goL_sts] at h;unfold g32;refine (bn h).trans ?_;cases stpsF n ts [] <;> rfl
theorem task_loop_s (w:WorldT) (hb:WorldB w):l9_0 w.2.2.2.1 (lenI w.2.2.2.1) 0 w=some (bif w.2.2.2.1.all (tkM (lenI w.1) w.2.1) then .inl (w.2.2.2.1,lenI w.2.2.2.1,lenI w.2.2.2.1,w,()) else .inr (false,())):=by
 have hl:=hb.2.1;have h:=loop_list (step:=un4 r9_0) w.2.2.2.1 (fun i (_:Unit)=>(w.2.2.2.1,lenI w.2.2.2.1,((i:Nat):Int),w,())) (fun _ x _=>bif tkM (lenI w.1) w.2.1 x then Sum.inl () else .inr (.inr (false,()))) (fun _=> .inl (w.2.2.2.1,lenI w.2.2.2.1,lenI w.2.2.2.1,w,())) (a0:=()) (fun i x u hx=>by
  have hlt:=lt_of_get hx;show r9_0 w.2.2.2.1 (lenI w.2.2.2.1) (i:Int) w=_;unfold r9_0 tkM;rw [ltI_in hx,inB_in hx,gt_in _ hx,addW1 (by unfold big; omega)];dsimp only [cond_true];rw [task_s x (lenI w.1) (hb.2.2 x (List.mem_of_getElem? hx))];dsimp only [Option.bind_some];cases taskM x (lenI w.1) <;> cases ltI w.2.1 x.2.2.2.2.2.2.2.1 <;> rfl) (fun u=>by
  show r9_0 w.2.2.2.1 (lenI w.2.2.2.1) (w.2.2.2.1.length:Int) w=_;unfold r9_0;rw [ltI_out rfl]; rfl)
 rw [goL_all] at h;refine Eq.trans h ?_;cases w.2.2.2.1.all (tkM (lenI w.1) w.2.1) <;> rfl
theorem task_loop_i (w:WorldT) (hb:WorldB w) (h12:w.2.2.2.1.length<=12):∃ y,l11_0 [] w.2.2.2.1 (lenI w.2.2.2.1) 0 w=some y/\(bif w.2.2.2.1.all (tkM (lenI w.1) w.2.1) && (stpsF w.2.2.1 w.2.2.2.1 []).isSome then (∃ o,y= .inl (o,w.2.2.2.1,lenI w.2.2.2.1,lenI w.2.2.2.1,w,())) else y= .inr (false,()):Prop):=by
 have h:=loop_inv (step:=un5 r11_0) w.2.2.2.1 (fun i (o:List IntR)=>(o,w.2.2.2.1,lenI w.2.2.2.1,((i:Nat):Int),w,())) (fun _ x o=>bif tkM (lenI w.1) w.2.1 x then (match stpF w.2.2.1 (stp3 x) o with | some o'=>Sum.inl o' | none=> .inr (.inr (false,()))) else .inr (.inr (false,()))) (fun o=> .inl (o,w.2.2.2.1,lenI w.2.2.2.1,lenI w.2.2.2.1,w,())) (fun i o=>o.length<=3 * i) (a0:=[]) (Nat.le_refl _) (fun i x o hx ho=>by
  have hlt:=lt_of_get hx;show r11_0 o w.2.2.2.1 (lenI w.2.2.2.1) (i:Int) w=_;unfold r11_0 tkM;rw [ltI_in hx,inB_in hx,gt_in _ hx];dsimp only [cond_true];rw [task_i x (lenI w.1) (hb.2.2 x (List.mem_of_getElem? hx))];dsimp only [Option.bind_some];cases taskM x (lenI w.1) with
  | false=>rfl
  | true =>
  cases ltI w.2.1 x.2.2.2.2.2.2.2.1 with
  | true=>rfl
  | false =>
    dsimp only [Bool.not_true,Bool.not_false,cond_false,cond_true];refine (bn (st_i w.2.2.1 o w.2.2.2.1 (lenI w.2.2.2.1) (i:Int) (stp3 x) w rfl (Nat.le_refl _) (by omega))).trans ?_;cases stpF w.2.2.1 (stp3 x) o with
    | none=>rfl
    | some o' =>
      dsimp only [Option.bind_some,Sum.elim_inl];rw [addW1 (by unfold big; omega)] <;> rfl) (fun i x o o' hx ho hf=>by
  cases hk:tkM (lenI w.1) w.2.1 x with
  | false=>rw [hk] at hf; cases hf
  | true =>
    rw [hk] at hf;cases hs:stpF w.2.2.1 (stp3 x) o with
    | none=>rw [hs] at hf; cases hf
    | some o2 =>
      rw [hs] at hf;cases hf;have:=stpF_len w.2.2.1 _ _ _ hs;have e:(stp3 x).length=3:=rfl;omega) (fun o ho=>by
  show r11_0 o w.2.2.2.1 (lenI w.2.2.2.1) (w.2.2.2.1.length:Int) w=_;unfold r11_0;rw [ltI_out rfl]; rfl)
 exact ⟨_,h,goL_stk (Y:=Sum (List IntR×List TaskT×Int×Int×WorldT×Unit) (Bool×Unit)) (lenI w.1) w.2.1 w.2.2.1 (.inr (false,())) (fun y=>∃ o,y= .inl (o,w.2.2.2.1,lenI w.2.2.2.1,lenI w.2.2.2.1,w,())) _ (fun o=>⟨o,rfl⟩) w.2.2.2.1 0 []⟩
def ownStep (o k:Int) (i:Nat) (t:TaskT):Bool:=eqB (hasM t k) (eqI o (i:Int))
def ownsStep (ts:List TaskT) (k:Nat) (s:StrT):Bool:=cond (leI (lenI ts) s.1) false (allI (ownStep s.1 (k:Int)) 0 ts)
theorem own_s (w:WorldT) (hb:WorldB w) (k t62:Int) (l:List StrT) (s:StrT):l9_4 k l t62 k w.2.2.2.1 (lenI w.2.2.2.1) 0 w s=some (bif allI (ownStep s.1 k) 0 w.2.2.2.1 then .inl (k,l,t62,k,w.2.2.2.1,lenI w.2.2.2.1,lenI w.2.2.2.1,w,s,()) else .inr (false,())):=by
 have hl:=hb.2.1;have h:=loop_list (step:=un9 r9_4) w.2.2.2.1 (fun i (_:Unit)=>(k,l,t62,k,w.2.2.2.1,lenI w.2.2.2.1,((i:Nat):Int),w,s,())) (fun i x _=>bif ownStep s.1 k i x then Sum.inl () else .inr (.inr (false,()))) (fun _=> .inl (k,l,t62,k,w.2.2.2.1,lenI w.2.2.2.1,lenI w.2.2.2.1,w,s,())) (a0:=()) (fun i x u hx=>by
  have hlt:=lt_of_get hx;show r9_4 k l t62 k w.2.2.2.1 (lenI w.2.2.2.1) (i:Int) w s=_;unfold r9_4 ownStep;rw [ltI_in hx,inB_in hx,gt_in _ hx,addW1 (by unfold big; omega),has_s x k (hb.2.2 x (List.mem_of_getElem? hx))];dsimp only [cond_true,Option.bind_some];cases eqB (hasM x k) (eqI s.1 (i:Int)) <;> rfl) (fun u=>by
  show r9_4 k l t62 k w.2.2.2.1 (lenI w.2.2.2.1) (w.2.2.2.1.length:Int) w s=_;unfold r9_4;rw [ltI_out rfl]; rfl)
 rw [goL_allI] at h;refine Eq.trans h ?_;cases allI (ownStep s.1 k) 0 w.2.2.2.1 <;> rfl
theorem own_i (w:WorldT) (hb:WorldB w) (k t62:Int) (l:List StrT) (s:StrT):l11_6 k l t62 k w.2.2.2.1 (lenI w.2.2.2.1) 0 w s=some (bif allI (ownStep s.1 k) 0 w.2.2.2.1 then .inl (k,l,t62,k,w.2.2.2.1,lenI w.2.2.2.1,lenI w.2.2.2.1,w,s,()) else .inr (false,())):=by
 have hl:=hb.2.1;have h:=loop_list (step:=un9 r11_6) w.2.2.2.1 (fun i (_:Unit)=>(k,l,t62,k,w.2.2.2.1,lenI w.2.2.2.1,((i:Nat):Int),w,s,())) (fun i x _=>bif ownStep s.1 k i x then Sum.inl () else .inr (.inr (false,()))) (fun _=> .inl (k,l,t62,k,w.2.2.2.1,lenI w.2.2.2.1,lenI w.2.2.2.1,w,s,())) (a0:=()) (fun i x u hx=>by
  have hlt:=lt_of_get hx;show r11_6 k l t62 k w.2.2.2.1 (lenI w.2.2.2.1) (i:Int) w s=_;unfold r11_6 ownStep;rw [ltI_in hx,inB_in hx,gt_in _ hx,addW1 (by unfold big; omega),has_i x k (hb.2.2 x (List.mem_of_getElem? hx))];dsimp only [cond_true,Option.bind_some];cases eqB (hasM x k) (eqI s.1 (i:Int)) <;> rfl) (fun u=>by
  show r11_6 k l t62 k w.2.2.2.1 (lenI w.2.2.2.1) (w.2.2.2.1.length:Int) w s=_;unfold r11_6;rw [ltI_out rfl]; rfl)
 rw [goL_allI] at h;refine Eq.trans h ?_;cases allI (ownStep s.1 k) 0 w.2.2.2.1 <;> rfl
theorem owns_s (w:WorldT) (hb:WorldB w):l9_2 w.1 (lenI w.1) 0 w=some (bif allI (ownsStep w.2.2.2.1) 0 w.1 then .inl (w.1,lenI w.1,lenI w.1,w,()) else .inr (false,())):=by
 have hl:=hb.1.1;have h:=loop_list (step:=un4 r9_2) w.1 (fun i (_:Unit)=>(w.1,lenI w.1,((i:Nat):Int),w,())) (fun i x _=>bif ownsStep w.2.2.2.1 i x then Sum.inl () else .inr (.inr (false,()))) (fun _=> .inl (w.1,lenI w.1,lenI w.1,w,())) (a0:=()) (fun i x u hx=>by
  have hlt:=lt_of_get hx;show r9_2 w.1 (lenI w.1) (i:Int) w=_;unfold r9_2 ownsStep;rw [ltI_in hx,inB_in hx,gt_in _ hx];dsimp only [cond_true];cases leI (lenI w.2.2.2.1) x.1 with
  | true=>rfl
  | false =>
    dsimp only [cond_false];rw [own_s w hb (i:Int) (lenI w.1) w.1 x];cases allI (ownStep x.1 (i:Int)) 0 w.2.2.2.1 with
    | false=>rfl
    | true =>
      dsimp only [cond_true,Option.bind_some,Sum.elim_inl];rw [addW1 (by unfold big; omega)] <;> rfl) (fun u=>by
  show r9_2 w.1 (lenI w.1) (w.1.length:Int) w=_;unfold r9_2;rw [ltI_out rfl]; rfl)
 rw [goL_allI] at h;refine Eq.trans h ?_;cases allI (ownsStep w.2.2.2.1) 0 w.1 <;> rfl
theorem owns_i (w:WorldT) (hb:WorldB w):l11_4 w.1 (lenI w.1) 0 w=some (bif allI (ownsStep w.2.2.2.1) 0 w.1 then .inl (w.1,lenI w.1,lenI w.1,w,()) else .inr (false,())):=by
 have hl:=hb.1.1;have h:=loop_list (step:=un4 r11_4) w.1 (fun i (_:Unit)=>(w.1,lenI w.1,((i:Nat):Int),w,())) (fun i x _=>bif ownsStep w.2.2.2.1 i x then Sum.inl () else .inr (.inr (false,()))) (fun _=> .inl (w.1,lenI w.1,lenI w.1,w,())) (a0:=()) (fun i x u hx=>by
  have hlt:=lt_of_get hx;show r11_4 w.1 (lenI w.1) (i:Int) w=_;unfold r11_4 ownsStep;rw [ltI_in hx,inB_in hx,gt_in _ hx];dsimp only [cond_true];cases leI (lenI w.2.2.2.1) x.1 with
  | true=>rfl
  | false =>
    dsimp only [cond_false];rw [own_i w hb (i:Int) (lenI w.1) w.1 x];cases allI (ownStep x.1 (i:Int)) 0 w.2.2.2.1 with
    | false=>rfl
    | true =>
      dsimp only [cond_true,Option.bind_some,Sum.elim_inl];rw [addW1 (by unfold big; omega)] <;> rfl) (fun u=>by
  show r11_4 w.1 (lenI w.1) (w.1.length:Int) w=_;unfold r11_4;rw [ltI_out rfl]; rfl)
 rw [goL_allI] at h;refine Eq.trans h ?_;cases allI (ownsStep w.2.2.2.1) 0 w.1 <;> rfl
noncomputable def worldOkM (w:WorldT):Bool:=cond (strM w.1) (cond (timeM w.2.1) (cond (cond (!timeM w.2.2.1) true (ltI 12 (lenI w.2.2.2.1))) false (cond (w.2.2.2.1.all (tkM (lenI w.1) w.2.1) && (stpsF w.2.2.1 w.2.2.2.1 []).isSome) (allI (ownsStep w.2.2.2.1) 0 w.1) false)) false) false
theorem wok_s (w:WorldT) (hb:WorldB w):g9 w=some ((),((worldOkM w,()),())):=by
 unfold g9 worldOkM;rw [str_s w.1 hb.1,time_s,time_s];dsimp only [Option.bind_some];cases strM w.1 with
 | false=>rfl
 | true =>
 cases timeM w.2.1 with
 | false=>rfl
 | true =>
 cases timeM w.2.2.1 with
 | false=>rfl
 | true =>
 cases h12:ltI 12 (lenI w.2.2.2.1) with
 | true=>rfl
 | false =>
 have hl:w.2.2.2.1.length<=12:=by have:=of_decide_eq_false h12;unfold lenI at this;omega
 dsimp only [Bool.not_true,cond_false,cond_true];rw [sts_s w.2.2.1 w.2.2.2.1 hl];dsimp only [Option.bind_some];cases (stpsF w.2.2.1 w.2.2.2.1 []).isSome with
 | false=>rw [Bool.and_false]; rfl
 | true =>
 show Option.bind (l9_0 w.2.2.2.1 (lenI w.2.2.2.1) 0 w) _=_;rw [task_loop_s w hb,Bool.and_true];cases w.2.2.2.1.all (tkM (lenI w.1) w.2.1) with
 | false=>rfl
 | true =>
 dsimp only [cond_true,Option.bind_some,Sum.elim_inl];rw [owns_s w hb];cases allI (ownsStep w.2.2.2.1) 0 w.1 <;> rfl
theorem wok_i (w:WorldT) (hb:WorldB w):g11 w=some ((),((worldOkM w,()),())):=by
 unfold g11 worldOkM;rw [str_i w.1 hb.1,time_i,time_i];dsimp only [Option.bind_some];cases strM w.1 with
 | false=>rfl
 | true =>
 cases timeM w.2.1 with
 | false=>rfl
 | true =>
 cases timeM w.2.2.1 with
 | false=>rfl
 | true =>
 cases h12:ltI 12 (lenI w.2.2.2.1) with
 | true=>rfl
 | false =>
 have hl:w.2.2.2.1.length<=12:=by have:=of_decide_eq_false h12;unfold lenI at this;omega
 dsimp only [Bool.not_true,cond_false,cond_true];obtain ⟨y,h1,h2⟩:=task_loop_i w hb hl;rw [h1];dsimp only [Option.bind_some];cases hc:w.2.2.2.1.all (tkM (lenI w.1) w.2.1) && (stpsF w.2.2.1 w.2.2.2.1 []).isSome with
 | false => rw [hc] at h2;have h2:y= .inr (false,()):=h2;rw [h2]; rfl
 | true => rw [hc] at h2;obtain ⟨o,rfl⟩:=h2;dsimp only [cond_true,Sum.elim_inl];rw [owns_i w hb];cases allI (ownsStep w.2.2.2.1) 0 w.1 <;> rfl
def tk0:TaskT:=([],0,[],0,0,0,0,0,[],())
def st0:StrT:=(0,[],())
theorem eqn_iff {a b:List IntR} (h:eqnM a b=true):a=b:=by
 unfold eqnM at h;cases hl:eqI (lenI a) (lenI b) with
 | false=>rw [hl] at h; cases h
 | true =>
   rw [hl] at h;have hlen:a.length=b.length:=by have:=eqI_iff.1 hl; unfold lenI at this; omega
   refine List.ext_getElem? fun i => ?_
   by_cases hi:i < a.length
   . have hx:a[i]? = some (a[i]'hi):=List.getElem?_eq_getElem hi;have hy:b[i]? = some (b[i]'(by omega)):=List.getElem?_eq_getElem (by omega);have:=allI_get _ h hx;rw [Nat.zero_add,gt_in _ hy] at this;rw [hx,hy];exact congrArg some (Prod.ext (eqI_iff.1 this) rfl)
   . rw [List.getElem?_eq_none (by omega),List.getElem?_eq_none (by omega)]
theorem lock2 (n:Int) (a b:StrR):lockM n [a,b]=bif ltI (stripeM b.1 n) (stripeM a.1 n) then [(stripeM b.1 n,()),(stripeM a.1 n,())] else bif eqI (stripeM b.1 n) (stripeM a.1 n) then [(stripeM a.1 n,())] else [(stripeM a.1 n,()),(stripeM b.1 n,())]:=rfl
theorem lock_mem {n:Int} (hn:1<=n):∀ {ids:List StrR} {x:IntR},x∈lockM n ids->0<=x.1/\x.1 < n
 | [],x,h=>by cases h
 | [a],x,h=>by
   rcases List.mem_singleton.1 h with rfl
   exact stripe_bd a.1 hn
 | [a,b],x,h=>by
   have ha:=stripe_bd a.1 hn;have hb:=stripe_bd b.1 hn;rw [lock2] at h;cases h1:ltI (stripeM b.1 n) (stripeM a.1 n) <;> rw [h1] at h
   . cases h2:eqI (stripeM b.1 n) (stripeM a.1 n) <;> rw [h2] at h
     . rcases List.mem_cons.1 h with rfl | h
       . exact ha
       . rcases List.mem_singleton.1 h with rfl
         exact hb
     . rcases List.mem_singleton.1 h with rfl
       exact ha
   . rcases List.mem_cons.1 h with rfl | h
     . exact hb
     . rcases List.mem_singleton.1 h with rfl
       exact ha
 | _ :: _ :: _ :: _,x,h=>by cases h
theorem lock_len (n:Int):∀ (ids:List StrR),(lockM n ids).length<=2
 | []=>Nat.zero_le _
 | [a]=>by show 1<=2; omega
 | [a,b]=>by rw [lock2];cases ltI (stripeM b.1 n) (stripeM a.1 n) <;> cases eqI (stripeM b.1 n) (stripeM a.1 n) <;> first | exact Nat.le_refl 2 | exact Nat.le_succ 1
 | _ :: _ :: _ :: _=>Nat.zero_le _
theorem task_spec {t:TaskT} {n:Int} (h:taskM t n=true):(1<=n/\n<=5)/\(0<=t.2.1/\t.2.1<=5)/\heldM t=true/\(t.2.1=0->t.2.2.1=[])/\(t.2.1≠0->t.2.2.1=needM t.1 n)/\endM t=true/\timeM t.2.2.2.2.1=true/\timeM t.2.2.2.2.2.2.2.1=true/\t.1.length<=300/\t.2.2.2.2.2.2.2.2.1.length<=200:=by
 unfold taskM at h;cases h1:inM n 1 5 with
 | false=>rw [h1] at h; cases h
 | true =>
 cases h2:ltI 300 (lenI t.1) with
 | true=>rw [h1,h2] at h; cases h
 | false =>
 cases h3:ltI 200 (lenI t.2.2.2.2.2.2.2.2.1) with
 | true=>rw [h1,h2,h3] at h; cases h
 | false =>
 rw [h1,h2,h3] at h;cases h4:timeM t.2.2.2.2.1 with
 | false=>rw [h4] at h; cases h
 | true =>
 cases h5:timeM t.2.2.2.2.2.2.2.1 with
 | false=>rw [h4,h5] at h; cases h
 | true =>
 cases h6:inM t.2.1 0 5 with
 | false=>rw [h4,h5,h6] at h; cases h
 | true =>
 cases h7:heldM t with
 | false=>rw [h4,h5,h6,h7] at h; cases h
 | true =>
 rw [h4,h5,h6,h7] at h;cases h8:cond (eqI t.2.1 0) (ltI 0 (lenI t.2.2.1)) false with
 | true=>rw [h8] at h; cases h
 | false =>
 rw [h8] at h;cases h9:cond (!(eqI t.2.1 0)) (eqnM t.2.2.1 (needM t.1 n)) true with
 | false=>rw [h9] at h; cases h
 | true =>
 rw [h9] at h;refine ⟨inM_iff.1 h1,inM_iff.1 h6,rfl,fun e => ?_,fun e => ?_,h,rfl,rfl,?_,?_⟩
 . rw [e] at h8;have:=of_decide_eq_false (show decide ((0:Int) < (t.2.2.1.length:Int))=false from h8);exact List.length_eq_zero_iff.1 (by omega)
 . rw [show eqI t.2.1 0=false from beq_eq_false_iff_ne.2 e] at h9;exact eqn_iff h9
 . have:=of_decide_eq_false (show decide ((300:Int) < (t.1.length:Int))=false from h2);omega
 . have:=of_decide_eq_false (show decide ((200:Int) < (t.2.2.2.2.2.2.2.2.1.length:Int))=false from h3);omega
theorem wok_spec {w:WorldT} (h:worldOkM w=true):strM w.1=true/\timeM w.2.1=true/\timeM w.2.2.1=true/\w.2.2.2.1.length<=12/\(∀ t∈w.2.2.2.1,taskM t (lenI w.1)=true/\ltI w.2.1 t.2.2.2.2.2.2.2.1=false)/\(stpsF w.2.2.1 w.2.2.2.1 []).isSome=true/\allI (ownsStep w.2.2.2.1) 0 w.1=true:=by
 unfold worldOkM at h;cases h1:strM w.1 with
 | false=>rw [h1] at h; cases h
 | true =>
 cases h2:timeM w.2.1 with
 | false=>rw [h1,h2] at h; cases h
 | true =>
 cases h3:timeM w.2.2.1 with
 | false=>rw [h1,h2,h3] at h; cases h
 | true =>
 cases h4:ltI 12 (lenI w.2.2.2.1) with
 | true=>rw [h1,h2,h3,h4] at h; cases h
 | false =>
 rw [h1,h2,h3,h4] at h;cases h5:w.2.2.2.1.all (tkM (lenI w.1) w.2.1) && (stpsF w.2.2.1 w.2.2.2.1 []).isSome with
 | false=>rw [h5] at h; cases h
 | true =>
 rw [h5] at h;have h6:=(Bool.and_eq_true _ _).mp h5;refine ⟨rfl,rfl,rfl,?_,fun t ht => ?_,h6.2,h⟩
 . have:=of_decide_eq_false (show decide ((12:Int) < (w.2.2.2.1.length:Int))=false from h4);omega
 . have:=List.all_eq_true.1 h6.1 t ht;unfold tkM at this;cases h7:taskM t (lenI w.1) with
   | false=>rw [h7] at this; cases this
   | true =>
     rw [h7] at this;refine ⟨rfl,?_⟩;cases h8:ltI w.2.1 t.2.2.2.2.2.2.2.1 with
     | false=>rfl
     | true=>rw [h8] at this; cases this
def wantM (t:TaskT):Int:=cond (!(eqI t.2.1 1)) (-1) (cond (inM t.2.2.2.1 0 (subW .i64 (lenI t.2.2.1) 1)) (gt (0,()) t.2.2.1 t.2.2.2.1).1 (-1))
theorem in_get {α:Type} {k:Int} {xs:List α} (hs:xs.length<=1048576) (h:inM k 0 (subW .i64 (lenI xs) 1)=true):∃ (n:Nat) (x:α),k=n/\xs[n]? = some x:=by
 rw [in_lt hs] at h;cases h1:leI 0 k with
 | false=>rw [h1] at h; cases h
 | true => rw [h1] at h;have a1:(0:Int)<=k:=of_decide_eq_true h1;have a2:k < (xs.length:Int):=of_decide_eq_true h;exact ⟨k.toNat,xs[k.toNat]'(by omega),by omega,List.getElem?_eq_getElem (by omega)⟩
theorem want_s (t:TaskT) (hb:t.2.2.1.length<=1048576):g45 t=some ((),((wantM t,()),())):=by
 unfold g45 wantM;rw [in_s];cases eqI t.2.1 1 with
 | false=>rfl
 | true =>
   dsimp only [Bool.not_true,cond_false,Option.bind_some];cases hi:inM t.2.2.2.1 0 (subW .i64 (lenI t.2.2.1) 1) with
   | false=>rfl
   | true => obtain ⟨n,x,hk,hx⟩:=in_get hb hi;rw [hk,inB_in hx]; rfl
theorem want_i (t:TaskT) (hb:t.2.2.1.length<=1048576):g47 t=some ((),((wantM t,()),())):=want_s t hb
theorem want_bd {t:TaskT} {n:Int} (h:taskM t n=true):wantM t = -1∨(0<=wantM t/\wantM t < n):=by
 obtain ⟨h1,_,_,_,h5,_⟩:=task_spec h;have hle:t.2.2.1.length<=2∨t.2.1=0:=by
  by_cases h0:t.2.1=0
  . exact Or.inr h0
  . rw [h5 h0]; exact Or.inl (lock_len _ _)
 unfold wantM;cases he:eqI t.2.1 1 with
 | false=>exact Or.inl rfl
 | true =>
   have e:=eqI_iff.1 he;have hne:t.2.1≠0:=by omega
   rcases hle with hl | hl
   rotate_left
   . exact absurd hl hne
   cases hi:inM t.2.2.2.1 0 (subW .i64 (lenI t.2.2.1) 1) with
   | false=>exact Or.inl rfl
   | true => obtain ⟨k,x,hk,hx⟩:=in_get (by omega) hi;rw [hk];dsimp only [cond_true];rw [gt_in _ hx];have:=List.mem_of_getElem? hx;rw [h5 hne] at this;exact Or.inr (lock_mem h1.1 this)
noncomputable def waitM (w:WorldT) (k:Int):Int:=cond (worldOkM w) (cond (inM k 0 (subW .i64 (lenI w.2.2.2.1) 1)) (cond (ltI (wantM (gt tk0 w.2.2.2.1 k)) 0) (-1) (gt st0 w.1 (wantM (gt tk0 w.2.2.2.1 k))).1) (-1)) (-1)
theorem want_in {w:WorldT} (h:worldOkM w=true) {t:TaskT} (ht:t∈w.2.2.2.1) (h0:ltI (wantM t) 0=false):inB (wantM t) w.1=true:=by
 have h0:¬ wantM t < 0:=of_decide_eq_false h0;rcases want_bd ((wok_spec h).2.2.2.2.1 t ht).1 with h1 | ⟨h1,h2⟩
 . omega
 . have h2:wantM t < (w.1.length:Int):=h2;have:wantM t=((wantM t).toNat:Int):=by omega
   rw [this];exact inB_lt (by omega)
theorem wait_s (w:WorldT) (k:Int) (hb:WorldB w):g13 w k=some ((),((waitM w k,()),())):=by
 unfold g13 waitM;rw [wok_s w hb,in_s];dsimp only [Option.bind_some];cases hw:worldOkM w with
 | false=>rfl
 | true =>
   dsimp only [Bool.not_true,cond_false,cond_true];cases hi:inM k 0 (subW .i64 (lenI w.2.2.2.1) 1) with
   | false=>rfl
   | true =>
     obtain ⟨n,t,rfl,hx⟩:=in_get hb.2.1 hi;have ht:=List.mem_of_getElem? hx;dsimp only [Bool.not_true,cond_false,cond_true];rw [inB_in hx,gt_in _ hx,gt_in _ hx];dsimp only [cond_true];rw [want_s t (hb.2.2 t ht).2.1];dsimp only [Option.bind_some];cases h0:ltI (wantM t) 0 with
     | true=>rfl
     | false=>rw [want_in hw ht h0]; rfl
theorem wait_i (w:WorldT) (k:Int) (hb:WorldB w):g14 w k=some ((),((waitM w k,()),())):=by
 unfold g14 waitM;rw [wok_i w hb,in_i];dsimp only [Option.bind_some];cases hi:inM k 0 (subW .i64 (lenI w.2.2.2.1) 1) with
 | false=>cases worldOkM w <;> rfl
 | true =>
   dsimp only [Bool.not_true,cond_false,cond_true];cases hw:worldOkM w with
   | false=>rfl
   | true =>
     obtain ⟨n,t,rfl,hx⟩:=in_get hb.2.1 hi;have ht:=List.mem_of_getElem? hx;dsimp only [Bool.not_true,cond_false,cond_true];rw [inB_in hx,gt_in _ hx,gt_in _ hx];dsimp only [cond_true];rw [want_i t (hb.2.2 t ht).2.1];dsimp only [Option.bind_some];cases h0:ltI (wantM t) 0 with
     | true=>rfl
     | false=>rw [want_in hw ht h0]; rfl
end Go.Av
