/- Part of a proof that the law FnExactRestripe answers true for every input: the printed functions of this program and their plain laws. No conditions beyond the statement. -/
import Derived.Test.YtbgoaopannojjaaGreatDoorQ3
set_option maxRecDepth 100000
set_option maxHeartbeats 4000000
namespace Go.Av
abbrev qn:=Int×List UInt8×Unit
abbrev cP:=List UInt8×List qn×Unit
def sf (m:cP):Prop:=m.1.length<=1048576/\m.2.1.length<=1048576/\∀ f∈m.2.1,f.2.1.length<=1048576
def gw (xs:List qn) (i:Nat) (x:qn):Bool:=cond (jC x.1 x.2.1) (cond (decide (0 < i)) (!(bL x.1 (gt (0,[],()) xs ((i:Int) - 1)).1)) true) false
def wj (m:cP):Bool:=cond (cond (aZ m.1) (aq (ae m.1) 4) false) (allI (gw m.2.1) 0 m.2.1) false
theorem EI (m:cP) (hb:sf m):D6 m.2.1 (ae m.2.1) 0 m=some (bif allI (gw m.2.1) 0 m.2.1 then .inl (m.2.1,ae m.2.1,(m.2.1.length:Int),m,()) else .inr (false,())):=by
 have hbig:aT=140737488355328:=rfl;obtain ⟨mti,xs,u⟩:=m;obtain ⟨_,hl,hf⟩:=hb;dsimp only at hl hf ⊢;have h:=aI (step:=cV oK) xs (fun i (_:Unit)=>(xs,ae xs,((i:Nat):Int),(mti,xs,()),())) (fun i x _=>bif gw xs i x then Sum.inl () else .inr (.inr (false,()))) (fun _=> .inl (xs,ae xs,(xs.length:Int),(mti,xs,()),())) (a0:=()) (fun i x a hx=>by
  have hlt:=ai hx;show oK xs (ae xs) (i:Int) (mti,xs,())=_;unfold oK gw;rw [aC hx,az hx,aS _ hx];dsimp only [cond_true];rw [VR _ _ (cE (hf x (ade hx))),aK (by omega)];dsimp only [Option.bind_some];cases jC x.1 x.2.1 with
  | false=>rfl
  | true =>
    by_cases h0:0 < i
    . rw [aJ (show (0:Int) < i by omega),aU (by omega) (by omega),iY hx h0];dsimp only [cond_true,cond_false,Bool.not_true];have e:gt d175 xs ((i:Int) - 1)=gt (0,[],()) xs ((i:Int) - 1):=rfl;rw [e,ada h0];cases bL x.1 (gt (0,[],()) xs ((i:Int) - 1)).1 <;> rfl
    . rw [ay (show ¬ (0:Int) < i by omega),adD h0]; rfl) (fun a=>by
  show oK xs (ae xs) (xs.length:Int) (mti,xs,())=_;unfold oK;rw [au rfl]; rfl)
 rw [cT] at h;have h':D6 xs (ae xs) 0 (mti,xs,())=_:=h;rw [h']
theorem VW (m:cP) (hb:sf m):Ov m=some ((),((wj m,()),())):=by
 unfold Ov wj;rw [gq _ (cE hb.1)];dsimp only [Option.bind_some];cases aZ m.1 with
 | false=>rfl
 | true =>
 cases aq (ae m.1) 4 with
 | false=>rfl
 | true => refine (bn (EI m hb)).trans ?_;show _=some ((),((allI (gw m.2.1) 0 m.2.1,()),()));cases allI (gw m.2.1) 0 m.2.1 <;> rfl
theorem EJ (m:cP) (hb:sf m):DK m.2.1 (ae m.2.1) 0 m=some (bif allI (gw m.2.1) 0 m.2.1 then .inl (m.2.1,ae m.2.1,(m.2.1.length:Int),m,()) else .inr (false,())):=by
 have hbig:aT=140737488355328:=rfl;obtain ⟨mti,xs,u⟩:=m;obtain ⟨_,hl,hf⟩:=hb;dsimp only at hl hf ⊢;have h:=aI (step:=cV oL) xs (fun i (_:Unit)=>(xs,ae xs,((i:Nat):Int),(mti,xs,()),())) (fun i x _=>bif gw xs i x then Sum.inl () else .inr (.inr (false,()))) (fun _=> .inl (xs,ae xs,(xs.length:Int),(mti,xs,()),())) (a0:=()) (fun i x a hx=>by
  have hlt:=ai hx;show oL xs (ae xs) (i:Int) (mti,xs,())=_;unfold oL gw;rw [aC hx,az hx,aS _ hx];dsimp only [cond_true];rw [LB _ _ (cE (hf x (ade hx))),aK (by omega)];dsimp only [Option.bind_some];cases jC x.1 x.2.1 with
  | false=>rfl
  | true =>
    by_cases h0:0 < i
    . rw [aJ (show (0:Int) < i by omega),aU (by omega) (by omega),iY hx h0];dsimp only [cond_true,cond_false,Bool.not_true];have e:gt d175 xs ((i:Int) - 1)=gt (0,[],()) xs ((i:Int) - 1):=rfl;rw [e,ada h0];cases bL x.1 (gt (0,[],()) xs ((i:Int) - 1)).1 <;> rfl
    . rw [ay (show ¬ (0:Int) < i by omega),adD h0]; rfl) (fun a=>by
  show oL xs (ae xs) (xs.length:Int) (mti,xs,())=_;unfold oL;rw [au rfl]; rfl)
 rw [cT] at h;have h':DK xs (ae xs) 0 (mti,xs,())=_:=h;rw [h']
theorem HL (s:List UInt8) (n:Int) (hs:s.length<=aT):xy s n=some ((),((cond (aZ s) (aq (ae s) n) false,()),())):=by unfold xy;rw [hD s hs]; rfl
theorem Xy (m:cP) (hb:sf m):OT m=some ((),((wj m,()),())):=by
 unfold OT wj;refine (bn (EJ m hb)).trans ?_;cases allI (gw m.2.1) 0 m.2.1 with
 | true =>
   show Option.bind (xy m.1 4) _=_;rw [HL m.1 4 (cE hb.1)];dsimp only [Option.bind_some];cases aZ m.1 with
   | false=>rfl
   | true=>cases aq (ae m.1) 4 <;> rfl
 | false =>
   cases aZ m.1 with
   | false=>rfl
   | true=>cases aq (ae m.1) 4 <;> rfl
def mB (m:cP) (no:Int):Option (List UInt8):=(m.2.1.find? fun f=>aq f.1 no).map (·.2.1)
def EN (o:Option (List UInt8)):Option (Unit×((List UInt8×Unit)×(Bool×Unit)×Unit)):=some ((),match o with | some s=>((s,()),(true,()),()) | none=>(([],()),(false,()),()))
theorem vP (m:cP) (no:Int) (hb:sf m):kh m no=EN (mB m no):=by
 have hbig:aT=140737488355328:=rfl;have hl:=hb.2.1;unfold kh;have h:=aI (step:=cV pr) m.2.1 (fun i (_:Unit)=>(no,m.2.1,ae m.2.1,((i:Nat):Int),())) (fun i x _=>bif aq x.1 no then .inr (.inr (x.2.1,true,())) else .inl ()) (fun _=> .inl (no,m.2.1,ae m.2.1,(m.2.1.length:Int),())) (a0:=()) (fun i x a hx=>by
  have hlt:=ai hx;show pr no m.2.1 (ae m.2.1) (i:Int)=_;unfold pr;rw [aC hx,az hx,aS _ hx,aK (by omega)];dsimp only [cond_true];cases aq x.1 no <;> rfl) (fun a=>by
  show pr no m.2.1 (ae m.2.1) (m.2.1.length:Int)=_;unfold pr;rw [au rfl]; rfl)
 rw [nS] at h;have h':Jt no m.2.1 (ae m.2.1) 0=_:=h;refine (bn h').trans ?_;unfold mB EN;cases m.2.1.find? _ <;> rfl
theorem P0 (m:cP) (no:Int) (hb:sf m):Gt m no=EN (mB m no):=by
 have hbig:aT=140737488355328:=rfl;have hl:=hb.2.1;unfold Gt;have h:=aI (step:=cV qj) m.2.1 (fun i (_:Unit)=>(no,m.2.1,ae m.2.1,((i:Nat):Int),())) (fun i x _=>bif aq x.1 no then .inr (.inr (x.2.1,true,())) else .inl ()) (fun _=> .inl (no,m.2.1,ae m.2.1,(m.2.1.length:Int),())) (a0:=()) (fun i x a hx=>by
  have hlt:=ai hx;show qj no m.2.1 (ae m.2.1) (i:Int)=_;unfold qj;rw [aC hx,az hx,aS _ hx,aK (by omega)];dsimp only [cond_true];cases aq x.1 no <;> rfl) (fun a=>by
  show qj no m.2.1 (ae m.2.1) (m.2.1.length:Int)=_;unfold qj;rw [au rfl]; rfl)
 rw [nS] at h;have h':Ls no m.2.1 (ae m.2.1) 0=_:=h;refine (bn h').trans ?_;unfold mB EN;cases m.2.1.find? _ <;> rfl
def ly (b:aY):aY->Nat->List qn->Option (List qn×Nat)
 | [],a,o=>some (o,a)
 | x :: r,a,o=>match ob b a x.1 with
   | some (s,e)=>ly b r e (o ++ [(x.1,s,())])
   | none=>none
def jl (l:aY):aY:=l.map fun x=>(aj .i64 x.1 64,())
def uV (x:Int×Unit):Bool:= !(aq (bC x.1) 0)
def fh (l:aY):aY:=l.filter fun x=> !(aq x.1 1)
def gG (l:aY):Bool:=l.any fun x=>aq x.1 1
def BG (b:aY):Option (aY×Nat) :=
 if 10<=b.length then
  (bif gG (eh (fc b 2 8)) then
    (if 18<=b.length/\eh (fc b 10 8)≠[] then (bif (fh (eh (fc b 2 8)) ++ jl (eh (fc b 10 8))).all uV then some (fh (eh (fc b 2 8)) ++ jl (eh (fc b 10 8)),18) else none) else none)
  else (bif (fh (eh (fc b 2 8))).all uV then some (fh (eh (fc b 2 8)),10) else none))
 else none
def kS (b:aY):cP×Int:=match jy b 0 4 with
 | none=>(([],[],()),1)
 | some mti=>match BG b with
   | none=>(([],[],()),2)
   | some (nos,a)=>match ly b nos a [] with
     | none=>(([],[],()),3)
     | some (l,e)=>if e=b.length then ((mti,l,()),0) else (([],[],()),4)
def He (p:cP×Int):Option (Unit×(cP×(Int×Unit)×Unit)):=some ((),(p.1,(p.2,()),()))
theorem XR (b:aY) (hb:zA b) (h2:2<=b.length):JR b=some ((),match BG b with | some p=>((p.1,()),((p.2:Int),()),(true,()),()) | none=>(([],()),(0,()),(false,()),())):=by
 have hbig:aT=140737488355328:=rfl;have hl:=hb.1;unfold JR BG;have h0:DQ b 2=_:=KU b 2 hb h2;unfold oq at h0;refine (bn h0).trans ?_;by_cases h10:10<=b.length;rotate_left
 . rw [if_neg h10,if_neg h10]; rfl
 rw [if_pos h10,if_pos h10];have k1:=lq (fc b 2 8);generalize eh (fc b 2 8)=lo at k1 ⊢;have hlow:I9 b 10 [] false lo (ae lo) 0=some (.inl (b,10,fh lo,gG lo,lo,ae lo,(lo.length:Int),())):=by
  have h:=aF (step:=LC py) lo (fun i (o:aY×Bool)=>(b,10,o.1,o.2,lo,ae lo,((i:Nat):Int),())) (fun _ x o=>Sum.inl (bif aq x.1 1 then (o.1,true) else (o.1 ++ [x],o.2))) (fun o=> .inl (b,10,o.1,o.2,lo,ae lo,(lo.length:Int),())) (fun i o=>o.1.length<=i) (a0:=([],false)) (ac7 _) (fun i x o hx ho=>by
   have hlt:=ai hx;show py b 10 o.1 o.2 lo (ae lo) (i:Int)=_;unfold py;rw [aC hx,az hx,aS _ hx,aK (by omega)];have:bT 8 o.1 [x]=true:=adn (by show (o.1.length + 1) * 8<=aT; omega);dsimp only [cond_true];rw [this];cases aq x.1 1 <;> rfl) (fun i x o o' hx ho hf=>by
   simp only [ads] at hf;rw [<- hf];cases aq x.1 1 with
   | true=>show o.1.length<=_; omega
   | false=>show (o.1 ++ [x]).length<=_; rw [ac4]; show o.1.length + 1<=_; omega) (fun o ho=>by
   show py b 10 o.1 o.2 lo (ae lo) (lo.length:Int)=_;unfold py;rw [au rfl]; rfl)
  have hfold:∀ (l:aY) (o:aY×Bool),l.foldl (fun o x=>bif aq x.1 1 then (o.1,true) else (o.1 ++ [x],o.2)) o=(o.1 ++ fh l,o.2 || gG l):=fun l=>by
   induction l with
   | nil=>intro o; simp [fh,gG]
   | cons x r ih => intro o;rw [aes,ih];unfold fh gG;rw [aeS,afJ];cases aq x.1 1 <;> simp
  rw [cr,hfold] at h;exact h
 have hchk:∀ (nos:aY) (a:Int),nos.length<=1000->DJ () a nos (ae nos) 0=some (bif nos.all uV then .inl ((),a,nos,ae nos,(nos.length:Int),()) else .inr ([],0,false,())):=fun nos a hn=>by
  have h:=aI (step:=dQ pY) nos (fun i (_:Unit)=>((),a,nos,ae nos,((i:Nat):Int),())) (fun _ x _=>bif uV x then Sum.inl () else .inr (.inr ([],0,false,()))) (fun _=> .inl ((),a,nos,ae nos,(nos.length:Int),())) (a0:=()) (fun i x o hx=>by
   have hlt:=ai hx;show pY () a nos (ae nos) (i:Int)=_;unfold pY;rw [aC hx,az hx,aS _ hx,aK (by omega),EA];dsimp only [cond_true,Option.bind_some];unfold uV;cases aq (bC x.1) 0 <;> rfl) (fun o=>by
   show pY () a nos (ae nos) (nos.length:Int)=_;unfold pY;rw [au rfl]; rfl)
  rw [fS] at h;refine aeJ h ?_;cases nos.all uV <;> rfl
 have hlen:(fh lo).length<=64:=ady (aeW _ _) k1;refine (bn hlow).trans ?_;show cond (gG lo) _ _=_;cases gG lo with
 | false => refine (bn (hchk (fh lo) 10 (by omega))).trans ?_;cases (fh lo).all uV <;> rfl
 | true =>
   have h1:DQ b 10=_:=KU b 10 hb h10;unfold oq at h1;refine (bn h1).trans ?_;by_cases h18:18<=b.length;rotate_left
   . rw [if_neg h18,if_neg (fun h=>h18 h.1)]; rfl
   rw [if_pos h18];have k2:=lq (fc b 10 8);have k3:= @IQ (fc b 10 8);generalize eh (fc b 10 8)=hi at k2 k3 ⊢;by_cases hne:hi=[]
   . rw [if_neg (fun h=>h.2 hne),hne]; rfl
   rw [if_pos ⟨h18,hne⟩];have he:aq (ae hi) 0=false:=beq_eq_false_iff_ne.2 (by
    show (hi.length:Int)≠0;cases hi with
    | nil=>exact absurd rfl hne
    | cons x r=>show ((r.length + 1:Nat):Int)≠0; omega)
   have hhi:Mu (fh lo) 18 hi (ae hi) 0=some (.inl (fh lo ++ jl hi,18,hi,ae hi,(hi.length:Int),())):=by
    have h:=aF (step:=dQ qA) hi (fun i (o:aY)=>(o,18,hi,ae hi,((i:Nat):Int),())) (fun _ x o=>Sum.inl (o ++ [(aj .i64 x.1 64,())])) (fun o=> .inl (o,18,hi,ae hi,(hi.length:Int),())) (fun i o=>o.length=(fh lo).length + i) (a0:=fh lo) rfl (fun i x o hx ho=>by
     have hlt:=ai hx;show qA o 18 hi (ae hi) (i:Int)=_;unfold qA;rw [aC hx,az hx,aS _ hx,aK (by omega)];have:bT 8 o [(aj .i64 x.1 64,())]=true:=adn (by show (o.length + 1) * 8<=aT; omega);rw [this]; rfl) (fun i x o o' hx ho hf=>by
     simp only [ads] at hf;rw [<- hf,ac4,ho]; rfl) (fun o ho=>by
     show qA o 18 hi (ae hi) (hi.length:Int)=_;unfold qA;rw [au rfl]; rfl)
    have hfold:∀ (l o:aY),l.foldl (fun o x=>o ++ [(aj .i64 x.1 64,())]) o=o ++ jl l:=fun l=>by
     induction l with
     | nil=>intro o; simp [jl]
     | cons x r ih=>intro o; rw [aes,ih]; simp [jl]
    rw [cr,hfold] at h;exact h
   show cond (cond (!true) true (aq (ae hi) 0)) _ _=_;rw [he];refine (bn hhi).trans ?_;have hla:(fh lo ++ jl hi).length<=1000:=by rw [ac4]; unfold jl; rw [ae0]; omega
   refine (bn (hchk (fh lo ++ jl hi) 18 hla)).trans ?_;cases (fh lo ++ jl hi).all uV <;> rfl
theorem vo {α A Y:Type} (p:α->Bool) (f:α->A->A) (y:Y) (z:A->Y):∀ (xs:List α) (i:Nat) (a:A),iv (fun _ x a=>bif p x then .inl (f x a) else .inr y) z i xs a=bif xs.all p then z (xs.foldl (fun a x=>f x a) a) else y
 | [],_,_=>rfl
 | x :: r,i,a=>by
   rw [iv,aef,aes];cases hp:p x with
   | true=>simp only [ac6,afn]; exact vo p f y z r (i + 1) _
   | false=>rfl
def Lu (x:Int×Unit) (o:aY×Bool):aY×Bool:=bif aq x.1 1 then (o.1,true) else (o.1 ++ [x],o.2)
theorem HA:∀ (l:aY) (o:aY×Bool),l.foldl (fun o x=>Lu x o) o=(o.1 ++ fh l,o.2 || gG l):=fun l=>by
 induction l with
 | nil=>intro o; simp [fh,gG]
 | cons x r ih => intro o;rw [aes,ih];unfold Lu fh gG;rw [aeS,afJ];cases aq x.1 1 <;> simp
def Jn (x:Int×Unit):Bool:=aq x.1 1 || uV x
theorem L3 (l:aY):l.all Jn=(fh l).all uV:=by
 induction l with
 | nil=>rfl
 | cons x r ih => unfold fh at ih ⊢;rw [aef,aeS,ih];unfold Jn;cases h:aq x.1 1 <;> simp
theorem I6 {o:aY} {x:Int×Unit} (h:o.length<=1048576):bT 8 o [x]=true:=adn (by show (o.length + 1) * 8<=140737488355328; omega)
theorem W7 (b:aY) (mti:List UInt8) (at':Int) (lo:aY) (hl:lo.length<=64) (m0:cP):IS b mti at' [] false lo (ae lo) 0 m0=some (bif (fh lo).all uV then .inl (b,mti,at',fh lo,gG lo,lo,ae lo,(lo.length:Int),m0,()) else .inr (2,([],[],()),())):=by
 have h:=aF (step:=DD po) lo (fun i (o:aY×Bool)=>(b,mti,at',o.1,o.2,lo,ae lo,((i:Nat):Int),m0,())) (fun _ x o=>bif Jn x then Sum.inl (Lu x o) else .inr (.inr (2,([],[],()),()))) (fun o=> .inl (b,mti,at',o.1,o.2,lo,ae lo,(lo.length:Int),m0,())) (fun i o=>o.1.length<=i) (a0:=([],false)) (ac7 _) (fun i x o hx ho=>by
  have hlt:=ai hx;show po b mti at' o.1 o.2 lo (ae lo) (i:Int) m0=_;unfold po;rw [aC hx,az hx,aS _ hx,aK (by unfold aT; omega)];dsimp only [cond_true];rw [Bi];dsimp only [Option.bind_some];rw [I6 (by omega)];unfold Jn Lu uV;cases aq x.1 1 <;> cases aq (bC x.1) 0 <;> rfl) (fun i x o o' hx ho hf=>by
  unfold Lu at hf;cases hk:Jn x <;> rw [hk] at hf
  . cases hf
  . cases hf;cases aq x.1 1 with
    | true=>show o.1.length<=_; omega
    | false=>show (o.1 ++ [x]).length<=_; rw [ac4]; show o.1.length + 1<=_; omega) (fun o ho=>by
  show po b mti at' o.1 o.2 lo (ae lo) (lo.length:Int) m0=_;unfold po;rw [au rfl]; rfl)
 rw [vo,HA,L3] at h;refine aeJ h ?_;cases (fh lo).all uV <;> rfl
theorem Mt (l:aY):(jl l).all uV=l.all fun x=>uV (aj .i64 x.1 64,()):=by unfold jl; rw [List.all_map]; rfl
theorem Gx:∀ (l o:aY),l.foldl (fun o x=>o ++ [(aj .i64 x.1 64,())]) o=o ++ jl l:=fun l=>by
 induction l with
 | nil=>intro o; simp [jl]
 | cons x r ih=>intro o; rw [aes,ih]; simp [jl]
theorem Sy (b:aY) (mti:List UInt8) (at':Int) (o0 hi:aY) (h0:o0.length<=64) (hl:hi.length<=64) (m0:cP):J9 b mti at' o0 hi (ae hi) 0 m0=some (bif (jl hi).all uV then .inl (b,mti,at',o0 ++ jl hi,hi,ae hi,(hi.length:Int),m0,()) else .inr (2,([],[],()),())):=by
 have h:=aF (step:=xx oG) hi (fun i (o:aY)=>(b,mti,at',o,hi,ae hi,((i:Nat):Int),m0,())) (fun _ x o=>bif uV (aj .i64 x.1 64,()) then Sum.inl (o ++ [(aj .i64 x.1 64,())]) else .inr (.inr (2,([],[],()),()))) (fun o=> .inl (b,mti,at',o,hi,ae hi,(hi.length:Int),m0,())) (fun i o=>o.length<=64 + i) (a0:=o0) h0 (fun i x o hx ho=>by
  have hlt:=ai hx;show oG b mti at' o hi (ae hi) (i:Int) m0=_;unfold oG;rw [aC hx,az hx,aS _ hx,aK (by unfold aT; omega)];dsimp only [cond_true];rw [Bi];dsimp only [Option.bind_some];rw [I6 (by omega)];unfold uV;cases aq (bC (aj .i64 x.1 64)) 0 <;> rfl) (fun i x o o' hx ho hf=>by
  cases hk:uV (aj .i64 x.1 64,()) <;> rw [hk] at hf
  . cases hf
  . cases hf;rw [ac4]; show o.length + 1<=_; omega) (fun o ho=>by
  show oG b mti at' o hi (ae hi) (hi.length:Int) m0=_;unfold oG;rw [au rfl]; rfl)
 rw [vo,Gx,<- Mt] at h;refine aeJ h ?_;cases (jl hi).all uV <;> rfl
def T5 (b:aY) (mti:List UInt8) (m0:cP) (nos:aY) (n:Int):Option (List qn×Nat)->Sum (aY×Int×aY×Int×Int×cP×cP×Unit) (Int×cP×Unit)
 | some (l,e)=> .inl (b,(e:Int),nos,n,n,m0,(mti,l,()),())
 | none=> .inr (3,([],[],()),())
theorem Br (b:aY) (mti:List UInt8) (m0:cP) (ns:aY) (n:Int):∀ (nos:aY) (i a:Nat) (o:List qn),iv (fun _ x (q:Nat×List qn)=>match ob b q.1 x.1 with | some (s,e)=>Sum.inl (e,q.2 ++ [(x.1,s,())]) | none=> .inr (.inr (3,([],[],()),()))) (fun q=> .inl (b,(q.1:Int),ns,n,n,m0,(mti,q.2,()),())) i nos (a,o)=T5 b mti m0 ns n (ly b nos a o)
 | [],_,_,_=>rfl
 | x :: r,i,a,o=>by
   rw [iv,ly];cases ob b a x.1 with
   | none=>rfl
   | some p=>exact Br b mti m0 ns n r (i + 1) p.2 _
theorem PV {o:List qn} {x:qn} (h:o.length<=1048576):bT 24 o [x]=true:=adn (by show (o.length + 1) * 24<=140737488355328; omega)
theorem Tx (b:aY) (hb:zA b) (a:Nat) (ha:a<=b.length) (nos:aY) (hn:nos.length<=1000) (mti:List UInt8) (m0:cP):JI b (a:Int) nos (ae nos) 0 m0 (mti,[],())=some (T5 b mti m0 nos (ae nos) (ly b nos a [])):=by
 have h:=aF (step:=LC oD) nos (fun i (q:Nat×List qn)=>(b,(q.1:Int),nos,ae nos,((i:Nat):Int),m0,(mti,q.2,()),())) (fun _ x q=>match ob b q.1 x.1 with | some (s,e)=>Sum.inl (e,q.2 ++ [(x.1,s,())]) | none=> .inr (.inr (3,([],[],()),()))) (fun q=> .inl (b,(q.1:Int),nos,ae nos,(nos.length:Int),m0,(mti,q.2,()),())) (fun i q=>q.1<=b.length/\q.2.length<=i) (a0:=(a,[])) ⟨ha,ac7 _⟩ (fun i x q hx hq=>by
  have hlt:=ai hx;show oD b (q.1:Int) nos (ae nos) (i:Int) m0 (mti,q.2,())=_;unfold oD;rw [aC hx,az hx,aS _ hx,aK (by unfold aT; omega),W4 b q.1 x.1 hb hq.1];unfold lO;cases ob b q.1 x.1 with
  | none=>rfl
  | some p =>
    dsimp only [cond_true,Option.bind_some,Bool.not_true,cond_false];rw [PV (ady hq.2 (by omega))]; rfl) (fun i x q q' hx hq hf=>by
  cases hg:ob b q.1 x.1 with
  | none=>rw [hg] at hf; cases hf
  | some p =>
    rw [hg] at hf;cases hf;refine ⟨(sW hq.1 hg).2.2,?_⟩;show (q.2 ++ [_]).length<=_;rw [ac4];exact Nat.succ_le_succ hq.2) (fun q hq=>by
  show oD b (q.1:Int) nos (ae nos) (nos.length:Int) m0 (mti,q.2,())=_;unfold oD;rw [au rfl]; rfl)
 rw [show (fun (q:Nat×List qn)=>(Sum.inl (b,(q.1:Int),nos,ae nos,(nos.length:Int),m0,(mti,q.2,()),()):Sum (aY×Int×aY×Int×Int×cP×cP×Unit) (Int×cP×Unit)))=fun q=> .inl (b,(q.1:Int),nos,ae nos,ae nos,m0,(mti,q.2,()),()) from rfl,Br] at h;exact h
theorem SP (b:aY) (hb:zA b) (a:Nat) (ha:a<=b.length) (nos:aY) (hn:nos.length<=1000) (mti:List UInt8) (m0:cP):AO b (a:Int) nos (ae nos) 0 m0 (mti,[],())=some (T5 b mti m0 nos (ae nos) (ly b nos a [])):=by
 have h:=aF (step:=LC qk) nos (fun i (q:Nat×List qn)=>(b,(q.1:Int),nos,ae nos,((i:Nat):Int),m0,(mti,q.2,()),())) (fun _ x q=>match ob b q.1 x.1 with | some (s,e)=>Sum.inl (e,q.2 ++ [(x.1,s,())]) | none=> .inr (.inr (3,([],[],()),()))) (fun q=> .inl (b,(q.1:Int),nos,ae nos,(nos.length:Int),m0,(mti,q.2,()),())) (fun i q=>q.1<=b.length/\q.2.length<=i) (a0:=(a,[])) ⟨ha,ac7 _⟩ (fun i x q hx hq=>by
  have hlt:=ai hx;show qk b (q.1:Int) nos (ae nos) (i:Int) m0 (mti,q.2,())=_;unfold qk;rw [aC hx,az hx,aS _ hx,aK (by unfold aT; omega),WX b q.1 x.1 hb hq.1];unfold lO;cases ob b q.1 x.1 with
  | none=>rfl
  | some p =>
    dsimp only [cond_true,Option.bind_some,Bool.not_true,cond_false];rw [PV (ady hq.2 (by omega))]; rfl) (fun i x q q' hx hq hf=>by
  cases hg:ob b q.1 x.1 with
  | none=>rw [hg] at hf; cases hf
  | some p =>
    rw [hg] at hf;cases hf;refine ⟨(sW hq.1 hg).2.2,?_⟩;show (q.2 ++ [_]).length<=_;rw [ac4];exact Nat.succ_le_succ hq.2) (fun q hq=>by
  show qk b (q.1:Int) nos (ae nos) (nos.length:Int) m0 (mti,q.2,())=_;unfold qk;rw [au rfl]; rfl)
 rw [show (fun (q:Nat×List qn)=>(Sum.inl (b,(q.1:Int),nos,ae nos,(nos.length:Int),m0,(mti,q.2,()),()):Sum (aY×Int×aY×Int×Int×cP×cP×Unit) (Int×cP×Unit)))=fun q=> .inl (b,(q.1:Int),nos,ae nos,ae nos,m0,(mti,q.2,()),()) from rfl,Br] at h;exact h
theorem Da {b:aY} {p:aY×Nat} (h:BG b=some p):p.1.length<=1000/\p.2<=b.length:=by
 have k1:=lq (fc b 2 8);have k2:=lq (fc b 10 8);have k3:(fh (eh (fc b 2 8))).length<=64:=ady (aeW _ _) k1;have k4:(jl (eh (fc b 10 8))).length<=64:=by unfold jl; rw [ae0]; exact k2
 unfold BG at h;by_cases h10:10<=b.length;rotate_left
 . rw [if_neg h10] at h; cases h
 rw [if_pos h10] at h;cases hm:gG (eh (fc b 2 8)) <;> rw [hm] at h
 . cases hk:(fh (eh (fc b 2 8))).all uV <;> rw [hk] at h <;> cases h;exact ⟨by show (fh (eh (fc b 2 8))).length<=_; omega,h10⟩
 . by_cases h18:18<=b.length/\eh (fc b 10 8)≠[]
   . rw [ac6,if_pos h18] at h;cases hk:(fh (eh (fc b 2 8)) ++ jl (eh (fc b 10 8))).all uV <;> rw [hk] at h <;> cases h;refine ⟨?_,h18.1⟩;show (fh (eh (fc b 2 8)) ++ jl (eh (fc b 10 8))).length<=_;rw [ac4]; omega
   . rw [ac6,if_neg h18] at h; cases h
theorem Vc (b:aY) (hb:zA b):Nj b=He (kS b):=by
 unfold Nj kS He;have h0:wT b 0 4=yR (jy b 0 4) 2:=Gq b 0 4 hb (adM _) (by omega);rw [h0];cases hc:jy b 0 4 with
 | none=>rfl
 | some mti =>
   have h2:2<=b.length:=(eg hc).2.2.2.2;show Option.bind (JR b) _=_;rw [XR b hb h2];cases hn:BG b with
   | none=>rfl
   | some p =>
     obtain ⟨n1,n2⟩:=Da hn;obtain ⟨nos,a⟩:=p;refine (bn (Tx b hb a n2 nos n1 mti ([],[],()))).trans ?_;dsimp only;cases ly b nos a [] with
     | none=>rfl
     | some q =>
       obtain ⟨l,e⟩:=q;show cond (!(aq (e:Int) (b.length:Int))) _ _=_;dsimp only;by_cases he:e=b.length
       . rw [if_pos he,he,bk]; rfl
       . rw [if_neg he,show aq (e:Int) (b.length:Int)=false from beq_eq_false_iff_ne.2 (by omega)]; rfl
theorem Xw (b:aY) (hb:zA b):O8 b=He (kS b):=by
 unfold O8 kS He;have h0:Bj b 0 4=yR (jy b 0 4) 2:=KA b 0 4 hb (adM _) (by omega);rw [h0];cases hc:jy b 0 4 with
 | none=>rfl
 | some mti =>
   have h2:2<=b.length:=(eg hc).2.2.2.2;have h1:C7 b 2=oq b 2:=IT b 2 hb h2;show Option.bind (C7 b 2) _=_;rw [h1];unfold oq BG;have k1:=lq (fc b 2 8);generalize hlo:eh (fc b 2 8)=lo at k1 ⊢;have k3:(fh lo).length<=64:=ady (aeW _ _) k1;have tail:∀ (nos:aY) (a:Nat),a<=b.length->nos.length<=1000->∀ m0:cP,(Option.bind (AO b (a:Int) nos (ae nos) 0 m0 (mti,[],())) (Sum.elim (fun y6=>cond (!(aq y6.2.1 (ae y6.1))) (some ((),(([],[],()),(4,()),()))) (some ((),(y6.2.2.2.2.2.2.1,(0,()),())))) (fun y6=>some ((),(y6.2.1,(y6.1,()),())))))=some ((),(match ly b nos a [] with | none=>(([],[],()),3) | some (l,e)=>if e=b.length then ((mti,l,()),0) else (([],[],()),4):cP×Int).1,((match ly b nos a [] with | none=>(([],[],()),3) | some (l,e)=>if e=b.length then ((mti,l,()),0) else (([],[],()),4):cP×Int).2,()),()):=fun nos a ha hn m0=>by
    rw [SP b hb a ha nos hn mti m0];cases ly b nos a [] with
    | none=>rfl
    | some q =>
      obtain ⟨l,e⟩:=q;show cond (!(aq (e:Int) (b.length:Int))) _ _=_;dsimp only;by_cases he:e=b.length
      . rw [if_pos he,he,bk]; rfl
      . rw [if_neg he,show aq (e:Int) (b.length:Int)=false from beq_eq_false_iff_ne.2 (by omega)]; rfl
   by_cases h10:10<=b.length;rotate_left
   . rw [if_neg h10,if_neg (show ¬ 2 + 8<=b.length from h10)]; rfl
   rw [if_pos h10,if_pos (show 2 + 8<=b.length from h10)];refine (bn (W7 b mti 10 lo k1 ([],[],()))).trans ?_;cases hk:(fh lo).all uV with
   | false =>
     dsimp only [cond_false];cases gG lo with
     | false=>rfl
     | true =>
       dsimp only [cond_true];rw [List.all_append,hk];by_cases h18:18<=b.length/\eh (fc b 10 8)≠[]
       . rw [if_pos h18]; rfl
       . rw [if_neg h18]; rfl
   | true =>
     dsimp only [cond_true];show cond (gG lo) _ _=_;cases gG lo with
     | false=>exact tail (fh lo) 10 h10 (by omega) _
     | true =>
       dsimp only [cond_true];have h3:C7 b 10=oq b 10:=IT b 10 hb h10;refine (bn h3).trans ?_;unfold oq;have k2:=lq (fc b 10 8);generalize eh (fc b 10 8)=hi at k2 ⊢;by_cases h18:18<=b.length;rotate_left
       . rw [if_neg (show ¬ 10 + 8<=b.length from h18),if_neg (fun h=>h18 h.1)]; rfl
       rw [if_pos (show 10 + 8<=b.length from h18)];by_cases hne:hi=[]
       . rw [if_neg (fun h=>h.2 hne),hne]; rfl
       rw [if_pos ⟨h18,hne⟩];have he:aq (ae hi) 0=false:=beq_eq_false_iff_ne.2 (by
        show (hi.length:Int)≠0;cases hi with
        | nil=>exact absurd rfl hne
        | cons x r=>show ((r.length + 1:Nat):Int)≠0; omega)
       show cond (cond (!true) true (aq (ae hi) 0)) _ _=_;rw [he];refine (bn (Sy b mti 18 (fh lo) hi k3 k2 ([],[],()))).trans ?_;rw [List.all_append,hk];cases (jl hi).all uV with
       | false=>rfl
       | true=>exact tail (fh lo ++ jl hi) 18 h18 (by rw [ac4]; unfold jl; rw [ae0]; omega) _
abbrev kK:=Int×(List UInt8)×(List UInt8)×(List UInt8)×(List UInt8)×(List UInt8)×Int×Int×Unit
theorem xe (xs:List (Int×Unit)) (v:Int) (hs:xs.length<=1048576):SX xs v=some ((),((bL 0 (gm (fun y=>aq v y.1) 0 xs),()),())):=by
 have hbig:aT=140737488355328:=rfl;unfold SX TR;have h:=aI (step:=cV qa) xs (fun i (_:Unit)=>(xs,v,ae xs,((i:Nat):Int),())) (fun i y _=>bif aq v y.1 then Sum.inr (.inr ((i:Int),())) else Sum.inl ()) (fun _=> .inl (xs,v,ae xs,(xs.length:Int),())) (a0:=()) (fun i y u hy=>by
  have hlt:=ai hy;show qa xs v (ae xs) (i:Int)=_;unfold qa;rw [aC hy,az hy,aS _ hy,aK (by omega)];dsimp only [cond_true];cases aq v y.1 <;> rfl) (fun u=>by
  show qa xs v (ae xs) (xs.length:Int)=_;unfold qa;rw [au rfl]; rfl)
 have h':ME xs v (ae xs) 0=_:=h;rw [h'];have hf:=ll (Y:=Sum ((List (Int×Unit))×Int×Int×Int×Unit) (Int×Unit)) (fun (y:Int×Unit)=>aq v y.1) (fun n=> .inr (n,())) (.inl (xs,v,ae xs,(xs.length:Int),())) (fun y=>match y with | .inl _ => -1 | .inr z=>z.1) (fun _=>rfl) rfl xs 0;rw [<- hf];dsimp only [Option.bind_some];cases iv _ _ 0 xs () <;> rfl
def Ml (op:Int):List UInt8:=gt ([],()) [([],()),([48,49,48,48],()),([48,49,48,48],()),([48,50,50,48],()),([48,50,50,48],()),([48,50,50,48],()),([48,50,48,48],()),([48,49,48,48],()),([48,50,48,48],())] op |>.1
def qO (q:kK):Bool:=dC q.1 1 8 && cC q.2.2.2.2.2.1 (Ml q.1) && fR q.2.1 && aZ q.2.2.2.2.1 && aq (ae q.2.2.2.2.1) 6 && (cond (aw q.1 7) (iN q.2.2.2.1) (cC q.2.2.2.1 [])) && (cond (aw q.1 5) (dC q.2.2.2.2.2.2.1 0 999999999999) (aq q.2.2.2.2.2.2.1 0)) && (cond (aq q.1 1) (dC q.2.2.2.2.2.2.2.1 0 9999) (aq q.2.2.2.2.2.2.2.1 0)) && (cond (aq q.1 6) (fR q.2.2.1) (cC q.2.2.1 []))
def Kd (q:kK):Prop:=q.2.1.length<=1048576/\q.2.2.1.length<=1048576/\q.2.2.2.1.length<=1048576/\q.2.2.2.2.1.length<=1048576/\q.2.2.2.2.2.1.length<=1048576
theorem qJ {op:Int} (h:dC op 1 8=true):op=1∨op=2∨op=3∨op=4∨op=5∨op=6∨op=7∨op=8:=by have:=fb.1 h;omega
theorem WU (q:kK) (hb:Kd q):lz q=some ((),((qO q,()),())):=by
 obtain ⟨op,acct,other,hold,trace,mti,amt,ttl,_⟩:=q;obtain ⟨b1,b2,b3,b4,b5⟩:=hb;cases hop:dC op 1 8 with
 | false => unfold lz Cl qO;rw [kU,hop]; rfl
 | true =>
   have k1:=wJ acct (cE b1);have k2:=wJ other (cE b2);have k3:=CA hold (cE b3);have k4:=gq trace (cE b4);have k5:Cl op=some ((),((true,()),())):=by unfold Cl; rw [kU,hop]; rfl
   have k6:HS op=some ((),((Ml op,()),())):=by unfold HS;rw [k5];rcases qJ hop with h | h | h | h | h | h | h | h <;> subst h <;> rfl
   have k7:GB op=some ((),((aw op 7,()),())):=by unfold GB; rw [k5]; rfl
   have k8:Dt op=some ((),((aw op 5,()),())):=by unfold Dt;rw [kU];rcases qJ hop with h | h | h | h | h | h | h | h <;> subst h <;> rfl
   have k9:=kU amt 0 999999999999;have k10:=kU ttl 0 9999;unfold lz qO;dsimp only;rw [k5,k6,k1,k4,k7,k8,k3,k9,k10,k2];dsimp only [Option.bind_some];rw [hop];cases cC mti (Ml op) <;> first | rfl | skip
   cases fR acct <;> first | rfl | skip
   cases aZ trace <;> first | rfl | skip
   cases aq (ae trace) 6 <;> first | rfl | skip
   cases aw op 7 <;> cases iN hold <;> cases cC hold [] <;> first | rfl | skip
   all_goals (cases aw op 5 <;> cases dC amt 0 999999999999 <;> cases aq amt 0 <;> first | rfl | skip)
   all_goals (cases aq op 1 <;> cases dC ttl 0 9999 <;> cases aq ttl 0 <;> first | rfl | skip)
   all_goals (cases aq op 6 <;> cases fR other <;> rfl)
theorem R6 {op:Int} (hop:dC op 1 8=true):kP op 38=some ((),((aw op 7,()),()))/\kP op 4=some ((),((aw op 5,()),()))/\kP op 14=some ((),((aq op 1,()),()))/\kP op 103=some ((),((aq op 6,()),())):=by unfold kP AP;rw [ji,hop];rcases qJ hop with h | h | h | h | h | h | h | h <;> subst h <;> refine ⟨?_,?_,?_,?_⟩ <;> (refine (adU (fun z=>Option.bind z fun y2=>some ((),(y2.2.1,()))) (xe _ _ ?_)).trans ?_) <;> first | rfl | decide
theorem Tw {op:Int} (hop:dC op 1 8=true):∃ (nm:List UInt8×List UInt8) (fs:List (Int×Unit)),AP op=some ((),((Ml op,nm.1,nm.2,fs,()),()))/\cC nm.2 []=false:=by unfold AP;rw [ji,hop];rcases qJ hop with h | h | h | h | h | h | h | h <;> subst h <;> exact ⟨(_,_),_,rfl,rfl⟩
theorem Vt (q:kK) (hb:Kd q):Mx q=some ((),((qO q,()),())):=by
 obtain ⟨op,acct,other,hold,trace,mti,amt,ttl,_⟩:=q;obtain ⟨b1,b2,b3,b4,b5⟩:=hb;cases hop:dC op 1 8 with
 | false => unfold Mx AP qO;rw [ji,hop]; rfl
 | true =>
   have k1:=yt acct (cE b1);have k2:=yt other (cE b2);have k3:=Df hold (cE b3);have k4:xy trace 6=some ((),((cond (aZ trace) (aq (ae trace) 6) false,()),())):=by unfold xy; rw [hD trace (cE b4)]; rfl
   obtain ⟨nm,fs,k5,k6⟩:=Tw hop;obtain ⟨u1,u2,u3,u4⟩:=R6 hop;have k9:=ji amt 0 999999999999;have k10:=ji ttl 0 9999;unfold Mx qO;dsimp only;rw [k5,k1,k4,u1,u2,u3,u4,k3,k9,k10,k2];dsimp only [Option.bind_some];rw [hop,k6];cases cC mti (Ml op) <;> first | rfl | skip
   cases fR acct <;> first | rfl | skip
   cases aZ trace <;> first | rfl | skip
   cases aq (ae trace) 6 <;> first | rfl | skip
   cases aw op 7 <;> cases iN hold <;> cases cC hold [] <;> cases aw op 5 <;> cases dC amt 0 999999999999 <;> cases aq amt 0 <;> cases aq op 1 <;> cases dC ttl 0 9999 <;> cases aq ttl 0 <;> cases aq op 6 <;> cases fR other <;> cases cC other [] <;> rfl
def mr (s:List UInt8):Nat->Nat
 | 0=>0
 | n + 1=>bif aq (dE s (n:Int)) 32 then mr s n else n + 1
def uB (s:List UInt8):List UInt8:=s.take (mr s s.length)
theorem BY (s:List UInt8):∀ n,mr s n<=n
 | 0=>ac7 _
 | n + 1=>by
   unfold mr;cases aq (dE s (n:Int)) 32 with
   | true=>exact Nat.le_succ_of_le (BY s n)
   | false=>exact ac7 _
theorem To (s:List UInt8) (hs:s.length<=aT):Nv s=some ((),((uB s,()),())):=by
 have hbig:aT=140737488355328:=rfl;have h:∀ n:Nat,n<=s.length->LX s (n:Int)=some (.inl (s,((mr s n:Nat):Int),())):=fun n=>by
  induction n with
  | zero=>intro _; exact aN _ rfl
  | succ n ih =>
    intro hn;have e:Bv s ((n + 1:Nat):Int)=bif aq (dE s (n:Int)) 32 then some (.inl (s,(n:Int),())) else some (.inr (.inl (s,((n + 1:Nat):Int),()))):=by unfold Bv;rw [aJ (show (0:Int) < ((n + 1:Nat):Int) by omega),aU (by omega) (by omega),show ((n + 1:Nat):Int) - 1=(n:Int) by omega];dsimp only [cond_true];rw [lT (xs:=s) (by omega)];cases aq (dE s (n:Int)) 32 <;> rfl
    cases hc:aq (dE s (n:Int)) 32 with
    | true => rw [hc] at e;unfold mr;rw [hc];exact aV _ e (ih (by omega))
    | false => rw [hc] at e;unfold mr;rw [hc];exact aN _ e
 unfold Nv;refine (bn (h s.length (ac7 _))).trans ?_;show cond (dW 0 ((mr s s.length:Nat):Int) s) (some ((),((sub s 0 ((mr s s.length:Nat):Int),()),()))) none=_;rw [jD (BY s s.length),sj]; rfl
theorem TB (s:List UInt8) (hs:s.length<=aT):JV s 32=some ((),((uB s,()),())):=by
 have hbig:aT=140737488355328:=rfl;have h:∀ n:Nat,n<=s.length->JL (s.take n) 32=some (.inl (s.take (mr s n),32,())):=fun n=>by
  induction n with
  | zero=>intro _; exact aN _ rfl
  | succ n ih =>
    intro hn;have hl:(s.take (n + 1)).length=n + 1:=by rw [adJ]; omega
    have hb:dE (s.take (n + 1)) (n:Int)=dE s (n:Int):=by have hx:s[n]? = some (s[n]'(by omega)):=adi (by omega);rw [e9 hx,e9 (xs:=s.take (n + 1)) (x:=s[n]'(by omega)) (by rw [ad6,if_pos (by omega)]; exact hx)]
    have e:At (s.take (n + 1)) 32=bif aq (dE s (n:Int)) 32 then some (.inl (s.take n,32,())) else some (.inr (.inl (s.take (n + 1),32,()))):=by unfold At;rw [show ae (s.take (n + 1))=((n + 1:Nat):Int) from adU Int.ofNat hl];dsimp only;rw [aJ (show (0:Int) < ((n + 1:Nat):Int) by omega),aU (by omega) (by omega),show ((n + 1:Nat):Int) - 1=(n:Int) by omega,lT (xs:=s.take (n + 1)) (by omega),hb,jD (xs:=s.take (n + 1)) (i:=n) (by omega),sj,List.take_take,afb (afi n)];cases aq (dE s (n:Int)) 32 <;> rfl
    cases hc:aq (dE s (n:Int)) 32 with
    | true => rw [hc] at e;unfold mr;rw [hc];exact aV _ e (ih (by omega))
    | false => rw [hc] at e;unfold mr;rw [hc];exact aN _ e
 have h0:=h s.length (ac7 _);rw [aeT] at h0;unfold JV;refine (bn h0).trans rfl
theorem RH (s:List UInt8) (hs:s.length<=aT):Na s=some ((),((uB s,()),())):=by
 unfold Na Tz;cases he:cC s [] with
 | true =>
   have:s=[]:=by simpa [cC] using he
   subst this;rfl
 | false => have e:JV s (dE [32] 0)=_:=TB s hs;dsimp only;rw [e]; rfl
theorem Mf (s:List UInt8):(uB s).length<=s.length:=by unfold uB; rw [adJ]; exact afM _ _
abbrev nZ:=List UInt8×Unit
theorem So (a b:List UInt8):Og a b=some ((),((kB a b,()),())):=by unfold Og O3;rw [da]; rfl
theorem R8 (a b:Int):MX a b=some ((),((aw a b,()),())):=by unfold MX Oc;rw [bk]; rfl
theorem Qw:G6 1=some ((),((1,()),())):=rfl
theorem Qp:G6 2=some ((),((2,()),())):=rfl
theorem OC (x:nZ):Dp [x]=some ((([x],()),()),()):=by have h:pd [x] 0 1 1=some (.inl ([x],0,1,1,())):=aN _ rfl;unfold Dp;refine (bn Qw).trans ?_;show Option.bind (Option.bind (Option.bind (pd [x] 0 1 1) _) _) _=_;rw [h]; rfl
def Uk (x y:nZ):List nZ:=bif kB y.1 x.1 then [y,x] else [x,y]
theorem Ok (x y:nZ):Dp [x,y]=some (((Uk x y,()),()),()):=by
 have hi:yu [x,y] 0 2 1 1=some (.inl (Uk x y,0,2,1,(bif kB y.1 x.1 then 0 else 1),())):=by
  have e:wu [x,y] 0 2 1 1=bif kB y.1 x.1 then some (.inl ([y,x],0,2,1,0,())) else some (.inr (.inl ([x,y],0,2,1,1,()))):=by unfold wu;dsimp only;rw [So];rfl
  unfold Uk;cases hc:kB y.1 x.1 with
  | true=>rw [hc] at e; exact aV _ e (aN _ rfl)
  | false=>rw [hc] at e; exact aN _ e
 have h:pd [x,y] 0 2 1=some (.inl (Uk x y,0,2,2,())):=by
  have e:vU [x,y] 0 2 1=some (.inl (Uk x y,0,2,2,())):=by unfold vU;show Option.bind (yu [x,y] 0 2 1 1) _=_;rw [hi]; rfl
  exact aV _ e (aN _ rfl)
 unfold Dp;refine (bn Qp).trans ?_;show Option.bind (Option.bind (Option.bind (pd [x,y] 0 2 1) _) _) _=_;rw [h]; rfl
theorem Ba (x y:nZ):Hn [x,y]=some ((),((bif cC y.1 x.1 then [x] else [x,y],()),())):=by
 have e:Ah [x,y] 1=bif cC y.1 x.1 then some (.inr (.inr ([x],()))) else some (.inl ([x,y],2,())):=rfl;have h:xO [x,y] 1=some (bif cC y.1 x.1 then .inr ([x],()) else .inl ([x,y],2,())):=by
  cases hc:cC y.1 x.1 with
  | true=>rw [hc] at e; exact aN _ e
  | false=>rw [hc] at e; exact aV _ e (aN _ rfl)
 unfold Hn;show Option.bind (xO [x,y] 1) _=_;rw [h];cases cC y.1 x.1 <;> rfl
abbrev dn:=Int×Unit
theorem M6 (x:dn):vX [x]=some ((([x],()),()),()):=by have h:mc [x] 0 1 1=some (.inl ([x],0,1,1,())):=aN _ rfl;unfold vX;refine (bn Qw).trans ?_;show Option.bind (Option.bind (Option.bind (mc [x] 0 1 1) _) _) _=_;rw [h]; rfl
theorem Oq:vX []=some ((([],()),()),()):=by have h:mc [] 0 0 1=some (.inl ([],0,0,1,())):=aN _ rfl;unfold vX;refine (bn (show G6 0=some ((),((0,()),())) from rfl)).trans ?_;show Option.bind (Option.bind (Option.bind (mc [] 0 0 1) _) _) _=_;rw [h]; rfl
def Uf (x y:dn):List dn:=bif aw y.1 x.1 then [y,x] else [x,y]
theorem OI (x y:dn):vX [x,y]=some (((Uf x y,()),()),()):=by
 have hi:wx [x,y] 0 2 1 1=some (.inl (Uf x y,0,2,1,(bif aw y.1 x.1 then 0 else 1),())):=by
  have e:vz [x,y] 0 2 1 1=bif aw y.1 x.1 then some (.inl ([y,x],0,2,1,0,())) else some (.inr (.inl ([x,y],0,2,1,1,()))):=by unfold vz;dsimp only;rw [R8];rfl
  unfold Uf;cases hc:aw y.1 x.1 with
  | true=>rw [hc] at e; exact aV _ e (aN _ rfl)
  | false=>rw [hc] at e; exact aN _ e
 have h:mc [x,y] 0 2 1=some (.inl (Uf x y,0,2,2,())):=by
  have e:vq [x,y] 0 2 1=some (.inl (Uf x y,0,2,2,())):=by unfold vq;show Option.bind (wx [x,y] 0 2 1 1) _=_;rw [hi]; rfl
  exact aV _ e (aN _ rfl)
 unfold vX;refine (bn Qp).trans ?_;show Option.bind (Option.bind (Option.bind (mc [x,y] 0 2 1) _) _) _=_;rw [h]; rfl
theorem Ff (x y:dn):Mh [x,y]=some ((),((bif aq y.1 x.1 then [x] else [x,y],()),())):=by
 have e:Bg [x,y] 1=bif aq y.1 x.1 then some (.inr (.inr ([x],()))) else some (.inl ([x,y],2,())):=rfl;have h:wy [x,y] 1=some (bif aq y.1 x.1 then .inr ([x],()) else .inl ([x,y],2,())):=by
  cases hc:aq y.1 x.1 with
  | true=>rw [hc] at e; exact aN _ e
  | false=>rw [hc] at e; exact aV _ e (aN _ rfl)
 unfold Mh;show Option.bind (wy [x,y] 1) _=_;rw [h];cases aq y.1 x.1 <;> rfl
def rG (n:Int):List nZ->List dn
 | [a]=>[(ax a.1 n,())]
 | [a,b]=>bif aw (ax b.1 n) (ax a.1 n) then [(ax b.1 n,()),(ax a.1 n,())] else bif aq (ax b.1 n) (ax a.1 n) then [(ax a.1 n,())] else [(ax a.1 n,()),(ax b.1 n,())]
 | _=>[]
def GS (l:List nZ):Prop:=l.length<=2/\∀ x∈l,x.1.length<=1048576
theorem N0 (n:Int):∀ (ids:List nZ) (h:GS ids),KG n [] ids (ae ids) 0=some (.inl (n,ids.map (fun x=>(ax x.1 n,())),ids,ae ids,ae ids,())):=fun ids hb=>by
 have h:=aF (step:=dQ oz) ids (fun i (o:List dn)=>(n,o,ids,ae ids,((i:Nat):Int),())) (fun _ x o=>Sum.inl (o ++ [(ax x.1 n,())])) (fun o=> .inl (n,o,ids,ae ids,ae ids,())) (fun i o=>o.length=i) (a0:=[]) rfl (fun i x o hx ho=>by
  have hlt:=ai hx;have:=hb.1;show oz n o ids (ae ids) (i:Int)=_;unfold oz;rw [aC hx,az hx,aS _ hx,aK (by unfold aT; omega),vn x.1 n (cE (hb.2 x (ade hx)))];dsimp only [cond_true,Option.bind_some];rw [I6 (by omega)]; rfl) (fun i x o o' hx ho hf=>by
  cases hf;rw [ac4,ho]; rfl) (fun o ho=>by
  show oz n o ids (ae ids) (ids.length:Int)=_;unfold oz;rw [au rfl]; rfl)
 rw [cr] at h;refine aeJ h ?_;have:∀ (l:List nZ) (o:List dn),l.foldl (fun o x=>o ++ [(ax x.1 n,())]) o=o ++ l.map (fun x=>(ax x.1 n,())):=fun l=>by
  induction l with
  | nil=>intro o; simp
  | cons x r ih=>intro o; rw [aes,ih]; simp
 rw [this]; rfl
theorem Td (ids:List nZ) (n:Int) (hb:GS ids):OP ids n=some ((),((rG n ids,()),())):=by
 unfold OP;refine (bn (N0 n ids hb)).trans ?_
 match ids,hb with
 | [],_ => show Option.bind (vX []) _=_;rw [Oq]; rfl
 | [a],_ => show Option.bind (vX [(ax a.1 n,())]) _=_;rw [M6]; rfl
 | [a,b],_ =>
   show Option.bind (vX [(ax a.1 n,()),(ax b.1 n,())]) _=_;rw [OI];unfold Uf rG;dsimp only [Option.bind_some];cases hc:aw (ax b.1 n) (ax a.1 n) with
   | true => dsimp only [cond_true];rw [Ff];have hlt:ax b.1 n < ax a.1 n:=of_decide_eq_true hc;rw [show aq (ax a.1 n) (ax b.1 n)=false from beq_eq_false_iff_ne.2 (by omega)]; rfl
   | false => dsimp only [cond_false];rw [Ff]; rfl
 | _ :: _ :: _ :: _,hb=>exact absurd hb.1 (by simp)
theorem TF (ids:List nZ) (n:Int) (hb:GS ids):Od ids n=some ((),((rG n ids,()),())):=by
 have inn:∀ (o:List dn) (x:Int) (ids:List nZ) (k j:Int),sI n [] x 0 ids k j=some (.inl (n,[],x,0,ids,k,j,())):=fun o x ids k j=>aN _ rfl
 have in1:∀ (s x:Int) (ids:List nZ) (k j:Int),sI n [(s,())] x 0 ids k j=some (.inl (n,[(s,())],x,(bif aw s x then 1 else 0),ids,k,j,())):=fun s x ids k j=>by
  have e:EF n [(s,())] x 0 ids k j=bif aw s x then some (.inl (n,[(s,())],x,1,ids,k,j,())) else some (.inr (.inl (n,[(s,())],x,0,ids,k,j,()))):=rfl;cases hc:aw s x with
  | true=>rw [hc] at e; exact aV _ e (aN _ rfl)
  | false=>rw [hc] at e; exact aN _ e
 unfold Od
 match ids,hb with
 | [],_ => have h:A6 n [] [] 0 0=some (.inl (n,[],[],0,0,())):=aN _ rfl;exact (bn h).trans rfl
 | [a],hb =>
   have e:np n [] [a] 1 0=some (.inl (n,[(ax a.1 n,())],[a],1,1,())):=by unfold np;show Option.bind (An a.1 n) _=_;rw [nh a.1 n (cE (hb.2 a (by simp)))];show Option.bind (sI n [] (ax a.1 n) 0 [a] 1 0) _=_;rw [inn []]; rfl
   have h:A6 n [] [a] 1 0=some (.inl (n,[(ax a.1 n,())],[a],1,1,())):=aV _ e (aN _ rfl);exact (bn h).trans rfl
 | [a,b],hb =>
   have e1:np n [] [a,b] 2 0=some (.inl (n,[(ax a.1 n,())],[a,b],2,1,())):=by unfold np;show Option.bind (An a.1 n) _=_;rw [nh a.1 n (cE (hb.2 a (by simp)))];show Option.bind (sI n [] (ax a.1 n) 0 [a,b] 2 0) _=_;rw [inn []]; rfl
   have e2:np n [(ax a.1 n,())] [a,b] 2 1=some (.inl (n,rG n [a,b],[a,b],2,2,())):=by
    unfold np;show Option.bind (An b.1 n) _=_;rw [nh b.1 n (cE (hb.2 b (by simp)))];show Option.bind (sI n [(ax a.1 n,())] (ax b.1 n) 0 [a,b] 2 1) _=_;rw [in1,show rG n [a,b]=bif aw (ax b.1 n) (ax a.1 n) then [(ax b.1 n,()),(ax a.1 n,())] else bif aq (ax b.1 n) (ax a.1 n) then [(ax a.1 n,())] else [(ax a.1 n,()),(ax b.1 n,())] from rfl];cases hc:aw (ax a.1 n) (ax b.1 n) with
    | true => have hlt:ax a.1 n < ax b.1 n:=of_decide_eq_true hc;rw [ay (show ¬ ax b.1 n < ax a.1 n by omega),show aq (ax b.1 n) (ax a.1 n)=false from beq_eq_false_iff_ne.2 (by omega)]; rfl
    | false =>
      have hge:¬ ax a.1 n < ax b.1 n:=of_decide_eq_false hc;dsimp only [Option.bind_some,cond_false,Sum.elim_inl];show cond (aq (ax a.1 n) (ax b.1 n)) _ _=_;by_cases he:ax a.1 n=ax b.1 n
      . rw [he,bk,ay (show ¬ ax b.1 n < ax b.1 n by omega)]; rfl
      . rw [show aq (ax a.1 n) (ax b.1 n)=false from beq_eq_false_iff_ne.2 he,aJ (show ax b.1 n < ax a.1 n by omega)]; rfl
   have h:A6 n [] [a,b] 2 0=some (.inl (n,rG n [a,b],[a,b],2,2,())):=aV _ e1 (aV _ e2 (aN _ rfl));exact (bn h).trans rfl
 | _ :: _ :: _ :: _,hb=>exact absurd hb.1 (by simp)
def iw:kK:=(0,[],[],[],[],[],0,0,())
def zh (s:List UInt8):Bool:=cond (cond (cC s [48,49,48,48]) true (cC s [48,50,48,48])) true (cC s [48,50,50,48])
abbrev Ia:=List UInt8×List UInt8×List UInt8×List (Int×Unit)×Unit
def dh:List Ia:=[([48,49,48,48],[48,48],[97,117,116,104],[(4,()),(14,()),(38,())],()),([48,49,48,48],[48,50],[109,111,114,101],[(4,()),(38,())],()),([48,50,50,48],[48,49],[112,97,114,116],[(4,()),(38,())],()),([48,50,50,48],[48,48],[102,105,110,97,108],[(4,()),(38,())],()),([48,50,50,48],[50,48],[102,114,101,101],[(38,())],()),([48,50,48,48],[52,48],[109,111,118,101],[(38,()),(103,())],()),([48,49,48,48],[51,49],[97,115,107],[],()),([48,50,48,48],[57,48],[115,119,101,101,112],[],())]
def Dx (mti c:List UInt8) (r:Ia):Bool:=cond (cC r.1 mti) (cC r.2.1 (sub c 0 2)) false
def ez (mti c:List UInt8):Int:=1 + gm (Dx mti c) 0 dh
theorem uu (mti c:List UInt8):ez mti c=0∨ez mti c=1∨ez mti c=2∨ez mti c=3∨ez mti c=4∨ez mti c=5∨ez mti c=6∨ez mti c=7∨ez mti c=8:=by unfold ez;have:=xk (Dx mti c) dh 0;simp only [show dh.length=8 from rfl] at this;omega
theorem Nh (m:cP) (c:List UInt8) (hc:2<=c.length) (nm:List UInt8×Unit) (hn:nm=(c,())):OO dh m nm=some ((),((gm (Dx m.1 c) 0 dh,()),())):=by
 subst hn;have hcut:dW 0 2 c=true:=jD (i:=2) hc;have h:=aI (step:=cV oE) dh (fun i (_:Unit)=>(dh,(m,(c,()),()),ae dh,((i:Nat):Int),())) (fun i x _=>bif Dx m.1 c x then Sum.inr (.inr ((i:Int),())) else .inl ()) (fun _=> .inl (dh,(m,(c,()),()),ae dh,(dh.length:Int),())) (a0:=()) (fun i x a hx=>by
  have hlt:=ai hx;have h8:dh.length=8:=rfl;show oE dh (m,(c,()),()) (ae dh) (i:Int)=_;unfold oE RA Dx;rw [aC hx,az hx,aS _ hx,aK (by unfold aT; omega)];dsimp only [cond_true];rw [hcut];cases cC x.1 m.1 <;> cases cC x.2.1 (sub c 0 2) <;> rfl) (fun a=>by
  show oE dh (m,(c,()),()) (ae dh) (dh.length:Int)=_;unfold oE;rw [au rfl]; rfl)
 have hf:=ll (Y:=Sum ((List Ia)×(cP×(List UInt8×Unit)×Unit)×Int×Int×Unit) (Int×Unit)) (Dx m.1 c) (fun n=> .inr (n,())) (.inl (dh,(m,(c,()),()),ae dh,(dh.length:Int),())) (fun y=>match y with | .inl _ => -1 | .inr z=>z.1) (fun _=>rfl) rfl dh 0;unfold OO;refine (bn h).trans ?_;rw [<- hf];dsimp only [Option.bind_some];cases iv _ _ 0 dh () <;> rfl
theorem opm {i:Nat} {x:Ia} (hx:dh[i]? = some x):HS (((i + 1:Nat)):Int)=some ((),((x.1,()),()))/\RE (((i + 1:Nat)):Int)=some ((),((x.2.1,()),())):=by
 have hlt:=ai hx;have h8:dh.length=8:=rfl;have:i=0∨i=1∨i=2∨i=3∨i=4∨i=5∨i=6∨i=7:=by omega
 rcases this with h | h | h | h | h | h | h | h <;> subst h <;> cases hx <;> exact ⟨rfl,rfl⟩
theorem Pg (mti c:List UInt8) (hc:2<=c.length):ID mti c=some ((),((ez mti c,()),())):=by
 have hcut:dW 0 2 c=true:=jD (i:=2) hc;have h8:dh.length=8:=rfl;have h:=aI (step:=dq vY) dh (fun i (_:Unit)=>(mti,c,((i + 1:Nat):Int),())) (fun i x _=>bif Dx mti c x then Sum.inr (.inr (((i + 1:Nat):Int),())) else .inl ()) (fun _=> .inl (mti,c,9,())) (a0:=()) (fun i x a hx=>by have hlt:=ai hx;show vY mti c ((i + 1:Nat):Int)=_;unfold vY Dx;rw [(opm hx).1,(opm hx).2,show bL ((i + 1:Nat):Int) 8=true from ada (by omega),aK (by unfold aT; omega)];dsimp only [cond_true,Option.bind_some];rw [hcut];cases cC x.1 mti <;> cases cC x.2.1 (sub c 0 2) <;> rfl) (fun a=>rfl);have hf:=ll (Y:=Sum (List UInt8×List UInt8×Int×Unit) (Int×Unit)) (Dx mti c) (fun n=> .inr (1 + n,())) (.inl (mti,c,9,())) (fun y=>match y with | .inl _ => -1 | .inr z=>z.1 - 1) (fun n=>by show 1 + n - 1=n; omega) rfl dh 0;rw [show (fun (i:Nat) (x:Ia) (_:Unit)=>bif Dx mti c x then (Sum.inr (Sum.inr (((i + 1:Nat):Int),())):Sum Unit (Sum (List UInt8×List UInt8×Int×Unit) (Int×Unit))) else .inl ())=fun i x _=>bif Dx mti c x then .inr (.inr (1 + (i:Int),())) else .inl () from by funext i x _;rw [show ((i + 1:Nat):Int)=1 + (i:Int) by omega]] at h;unfold ID;have h':II mti c 1=_:=h;refine (bn h').trans ?_;unfold ez;rw [<- hf];dsimp only [Option.bind_some];have hneg:gm (Dx mti c) 0 dh = -1∨0<=gm (Dx mti c) 0 dh:=by
  rcases xk (Dx mti c) dh 0 with h | h
  . exact Or.inl h
  . exact Or.inr h.1
 cases hg:iv (fun (i:Nat) (x:Ia) (_:Unit)=>bif Dx mti c x then (Sum.inr (Sum.inr (1 + (i:Int),())):Sum Unit (Sum (List UInt8×List UInt8×Int×Unit) (Int×Unit))) else .inl ()) (fun _=> .inl (mti,c,9,())) 0 dh () with
 | inl y=>rfl
 | inr y => show some ((),((y.1,()),()))=some ((),((1 + (y.1 - 1),()),()));rw [show 1 + (y.1 - 1)=y.1 by omega]
def fv (m:cP) (no:Int):List UInt8:=(mB m no).getD []
def fs (m:cP) (no:Int):Bool:=(mB m no).isSome
theorem lW (m:cP) (no:Int):EN (mB m no)=some ((),((fv m no,()),(fs m no,()),())):=by unfold EN fv fs;cases mB m no <;> rfl
theorem vg {m:cP} {no:Int} (h:fs m no=false):fv m no=[]:=by
 unfold fs at h; unfold fv;cases hf:mB m no with
 | none=>rfl
 | some s=>rw [hf] at h; cases h
theorem FJ {m:cP} {no:Int} {s:List UInt8} (h:mB m no=some s):∃ f∈m.2.1,f.1=no/\f.2.1=s:=by
 unfold mB at h;cases hf:m.2.1.find? fun f=>aq f.1 no with
 | none=>rw [hf] at h; cases h
 | some f => rw [hf] at h;refine ⟨f,List.mem_of_find?_eq_some hf,e8.1 (by have:=List.find?_some hf; exact this),?_⟩;cases h; rfl
theorem l9 {m:cP} (hb:sf m) (no:Int):(fv m no).length<=1048576:=by
 unfold fv;cases h:mB m no with
 | none=>exact adM _
 | some s => obtain ⟨f,h1,_,rfl⟩:=FJ h;exact hb.2.2 f h1
theorem M4 {m:cP} (h:wj m=true) {no:Int} {s:List UInt8} (hf:mB m no=some s):jC no s=true:=by
 unfold wj at h;obtain ⟨f,h1,h2,h3⟩:=FJ hf;obtain ⟨i,hi⟩:=List.mem_iff_getElem?.1 h1;cases hd:cond (aZ m.1) (aq (ae m.1) 4) false with
 | false=>rw [hd] at h; cases h
 | true =>
   rw [hd] at h;have:=Di (gw m.2.1) h hi;unfold gw at this;rw [h2,h3] at this;cases hk:jC no s with
   | true=>rfl
   | false=>rw [hk] at this; cases this
theorem zL {m:cP} (h:wj m=true) {s:List UInt8} (hf:mB m 3=some s):2<=s.length:=by
 have:=M4 h hf;have e:jC 3 s=cond (aZ s) (aq (ae s) 6) false:=rfl;rw [e] at this;cases hd:aZ s with
 | false=>rw [hd] at this; cases this
 | true => rw [hd] at this;have:=e8.1 (show aq (ae s) 6=true from this);have:(s.length:Int)=6:=this;omega
def Un (s:List UInt8):Int:=match yU s with | some n=>(n:Int) | none=>0
def nkM (s:List UInt8):Bool:=(yU s).isSome
theorem AG (s:List UInt8):Oa (yU s)=some ((),((Un s,()),(nkM s,()),())):=by unfold Oa Un nkM;cases yU s <;> rfl
def jj (m:cP) (op:Int):kK:=(op,fv m 2,cond (aq op 6) (fv m 103) [],cond (cond (dC op 1 8) (aw op 7) false) (uB (fv m 38)) [],fv m 11,m.1,cond (dC op 1 4) (Un (fv m 4)) 0,cond (aq op 1) (Un (fv m 14)) 0,())
def K6 (m:cP) (op:Int):Bool:=cond (cond (dC op 1 4) (fs m 4) true) (cond (aq op 1) (fs m 14) true) false
def Hc (m:cP) (op:Int):kK×Int:=cond (K6 m op) (cond (qO (jj m op)) (jj m op,0) (iw,1)) (iw,1)
def kW (m:cP):kK×Int:=cond (wj m) (cond (zh m.1) (match mB m 3 with | none=>(iw,1) | some c=>Hc m (ez m.1 c)) (iw,2)) (iw,1)
def Kf (p:kK×Int):Option (Unit×(kK×(Int×Unit)×Unit)):=some ((),(p.1,(p.2,()),()))
theorem EX {m:cP} (hb:sf m) (op:Int):Kd (jj m op):=by
 refine ⟨l9 hb 2,?_,?_,l9 hb 11,hb.1⟩
 . show (cond (aq op 6) (fv m 103) []).length<=_;cases aq op 6 with
   | true=>exact l9 hb 103
   | false=>exact adM _
 . show (cond (cond (dC op 1 8) (aw op 7) false) (uB (fv m 38)) []).length<=_;cases cond (dC op 1 8) (aw op 7) false with
   | true=>exact ady (Mf _) (l9 hb 38)
   | false=>exact adM _
theorem Z4 (m:cP) (hb:sf m):O2 m=Kf (kW m):=by
 unfold O2 kW;rw [VW m hb];cases hm:wj m with
 | false=>rfl
 | true =>
 have hk:T1 m.1=some ((),((zh m.1,()),())):=rfl;dsimp only [Option.bind_some,Bool.not_true,cond_false];rw [hk];cases zh m.1 with
 | false=>rfl
 | true =>
 show Option.bind (kh m 3) _=_;rw [vP m 3 hb];cases h3:mB m 3 with
 | none=>rfl
 | some c =>
 show Option.bind (ID m.1 c) _=_;rw [Pg m.1 c (zL hm h3)];have f2:=(vP m 2 hb).trans (lW m 2);have f11:=(vP m 11 hb).trans (lW m 11);have f38:=(vP m 38 hb).trans (lW m 38);have f4:=(vP m 4 hb).trans (lW m 4);have f14:=(vP m 14 hb).trans (lW m 14);have f103:=(vP m 103 hb).trans (lW m 103);have b38:=To (fv m 38) (cE (l9 hb 38));have n4:=(F9 (fv m 4) (cE (l9 hb 4))).trans (AG _);have n14:=(F9 (fv m 14) (cE (l9 hb 14))).trans (AG _);dsimp only [Option.bind_some];rw [f2,f11];dsimp only [Option.bind_some];have hop:=uu m.1 c;generalize ez m.1 c=op at hop ⊢;have hq:=WU (jj m op) (EX hb op);have hH:GB op=some ((),((cond (dC op 1 8) (aw op 7) false,()),())):=rfl;have hA:Dt op=some ((),((dC op 1 4,()),())):=rfl;unfold Hc;generalize qO (jj m op)=z at hq ⊢;rw [hH,hA,f38,f4,f14,f103];dsimp only [Option.bind_some];rw [b38,n4,n14];dsimp only [Option.bind_some];unfold K6;unfold jj at hq ⊢;generalize cond (dC op 1 8) (aw op 7) false=c1 at hq ⊢;generalize dC op 1 4=c2 at hq ⊢;generalize aq op 1=c3 at hq ⊢;generalize aq op 6=c4 at hq ⊢;cases c1 <;> cases c2 <;> cases c3 <;> cases c4 <;> dsimp only [cond_true,cond_false] at hq ⊢ <;> rw [hq] <;> cases fs m 4 <;> cases fs m 14 <;> cases z <;> rfl
theorem Tv {m:cP} {op:Int} (h:qO (jj m op)=true):fs m 2=true/\fs m 11=true/\(cond (dC op 1 8) (aw op 7) false=true->fs m 38=true)/\(aq op 6=true->fs m 103=true):=by
 unfold qO jj at h;simp only [ac5] at h;obtain ⟨⟨⟨⟨⟨⟨⟨⟨h1,_⟩,h2⟩,h3⟩,_⟩,h4⟩,_⟩,_⟩,h5⟩:=h;refine ⟨?_,?_,fun hc => ?_,fun hc => ?_⟩
 . cases hf:fs m 2 with
   | true=>rfl
   | false=>rw [vg hf] at h2; cases h2
 . cases hf:fs m 11 with
   | true=>rfl
   | false=>rw [vg hf] at h3; cases h3
 . cases hf:fs m 38 with
   | true=>rfl
   | false => rw [hc,vg hf] at h4;rw [h1] at hc;rw [show aw op 7=true from hc] at h4;cases h4
 . cases hf:fs m 103 with
   | true=>rfl
   | false=>rw [hc,vg hf] at h5; cases h5
def l5 (op:Int):List dn:=cond (dC op 1 8) (gt ([],[],[],[],()) dh (op - 1)).2.2.2.1 []
def Hh (m:cP) (op:Int):Bool:=fs m 2 && (fs m 11 && (l5 op).all fun x=>fs m x.1)
def OpC (op:Int):Prop:=op=0∨op=1∨op=2∨op=3∨op=4∨op=5∨op=6∨op=7∨op=8
theorem K9 (m:cP) (op:Int) (hop:OpC op):Hc m op=bif Hh m op then (bif qO (jj m op) then (jj m op,0) else (iw,1)) else (iw,1):=by
 have hz:= @Tv m op;unfold Hc;generalize qO (jj m op)=z at hz ⊢;generalize jj m op=q at hz ⊢;cases z with
 | false=>cases Hh m op <;> cases K6 m op <;> rfl
 | true =>
   obtain ⟨h1,h2,h3,h4⟩:=hz rfl;unfold Hh K6;rw [h1,h2];rcases hop with h | h | h | h | h | h | h | h | h <;> subst h
   . rfl
   . have:=h3 rfl;show (bif cond (fs m 4) (fs m 14) false then _ else _)=bif true && (true && (fs m 4 && (fs m 14 && (fs m 38 && true)))) then _ else _;rw [this];cases fs m 4 <;> cases fs m 14 <;> rfl
   . have:=h3 rfl;show (bif cond (fs m 4) true false then _ else _)=bif true && (true && (fs m 4 && (fs m 38 && true))) then _ else _;rw [this];cases fs m 4 <;> rfl
   . have:=h3 rfl;show (bif cond (fs m 4) true false then _ else _)=bif true && (true && (fs m 4 && (fs m 38 && true))) then _ else _;rw [this];cases fs m 4 <;> rfl
   . have:=h3 rfl;show (bif cond (fs m 4) true false then _ else _)=bif true && (true && (fs m 4 && (fs m 38 && true))) then _ else _;rw [this];cases fs m 4 <;> rfl
   . have:=h3 rfl;show _=bif true && (true && (fs m 38 && true)) then _ else _;rw [this]; rfl
   . have:=h3 rfl;have h6:=h4 rfl;show _=bif true && (true && (fs m 38 && (fs m 103 && true))) then _ else _;rw [this,h6]; rfl
   . rfl
   . rfl
def MW (m:cP) (no:Int) (q:kK):kK :=
 cond (aq no 2) (q.1,fv m no,q.2.2.1,q.2.2.2.1,q.2.2.2.2.1,q.2.2.2.2.2.1,q.2.2.2.2.2.2.1,q.2.2.2.2.2.2.2.1,())
  (cond (aq no 4) (q.1,q.2.1,q.2.2.1,q.2.2.2.1,q.2.2.2.2.1,q.2.2.2.2.2.1,Un (fv m no),q.2.2.2.2.2.2.2.1,())
    (cond (aq no 11) (q.1,q.2.1,q.2.2.1,q.2.2.2.1,fv m no,q.2.2.2.2.2.1,q.2.2.2.2.2.2.1,q.2.2.2.2.2.2.2.1,())
      (cond (aq no 14) (q.1,q.2.1,q.2.2.1,q.2.2.2.1,q.2.2.2.2.1,q.2.2.2.2.2.1,q.2.2.2.2.2.2.1,Un (fv m no),())
        (cond (aq no 38) (q.1,q.2.1,q.2.2.1,uB (fv m no),q.2.2.2.2.1,q.2.2.2.2.2.1,q.2.2.2.2.2.2.1,q.2.2.2.2.2.2.2.1,())
          (cond (aq no 103) (q.1,q.2.1,fv m no,q.2.2.2.1,q.2.2.2.2.1,q.2.2.2.2.2.1,q.2.2.2.2.2.2.1,q.2.2.2.2.2.2.2.1,()) q)))))
def Mi (m:cP):List dn->kK->Option kK
 | [],q=>some q
 | x :: r,q=>bif fs m x.1 then Mi m r (MW m x.1 q) else none
def Yi (xs:List dn) (n:Int) (m:cP):Option kK->Sum (List dn×Int×Int×cP×kK×kK×Unit) (Int×kK×Unit)
 | some q=> .inl (xs,n,n,m,iw,q,())
 | none=> .inr (1,iw,())
theorem Gi (m:cP) (ys:List dn) (n:Int):∀ (xs:List dn) (i:Nat) (q:kK),iv (fun _ x q=>bif fs m x.1 then Sum.inl (MW m x.1 q) else .inr (.inr (1,iw,()))) (fun q=> .inl (ys,n,n,m,iw,q,())) i xs q=Yi ys n m (Mi m xs q)
 | [],_,_=>rfl
 | x :: r,i,q=>by
   rw [iv,Mi];cases fs m x.1 with
   | false=>rfl
   | true=>exact Gi m ys n r (i + 1) _
theorem OY (m:cP) (hb:sf m) (xs:List dn) (hx:xs.length<=10) (q0:kK):Lc xs (ae xs) 0 m iw q0=some (Yi xs (ae xs) m (Mi m xs q0)):=by
 have h:=aI (step:=FO qe) xs (fun i (q:kK)=>(xs,ae xs,((i:Nat):Int),m,iw,q,())) (fun _ x q=>bif fs m x.1 then Sum.inl (MW m x.1 q) else .inr (.inr (1,iw,()))) (fun q=> .inl (xs,ae xs,ae xs,m,iw,q,())) (a0:=q0) (fun i x q hx=>by
  have hlt:=ai hx;show qe xs (ae xs) (i:Int) m iw q=_;unfold qe;rw [aC hx,az hx,aS _ hx,aK (by unfold aT; omega)];dsimp only [cond_true];rw [P0 m x.1 hb,lW];dsimp only [Option.bind_some];rw [(QR (fv m x.1) (cE (l9 hb x.1))).trans (AG _),RH (fv m x.1) (cE (l9 hb x.1))];unfold MW;cases fs m x.1 with
  | false=>rfl
  | true=>cases aq x.1 2 <;> cases aq x.1 4 <;> cases aq x.1 11 <;> cases aq x.1 14 <;> cases aq x.1 38 <;> cases aq x.1 103 <;> rfl) (fun q=>by
  show qe xs (ae xs) (xs.length:Int) m iw q=_;unfold qe;rw [au rfl]; rfl)
 rw [Gi] at h;exact h
theorem Nd (m:cP) (op:Int) (hop:OpC op):Mi m ((2,()) :: (11,()) :: l5 op) (op,[],[],[],[],m.1,0,0,())=bif Hh m op then some (jj m op) else none:=by
 unfold Hh;rcases hop with h | h | h | h | h | h | h | h | h <;> subst h
 . show (bif fs m 2 then (bif fs m 11 then some (jj m 0) else none) else none)=bif fs m 2 && (fs m 11 && true) then _ else _;cases fs m 2 <;> cases fs m 11 <;> rfl
 . show (bif fs m 2 then (bif fs m 11 then (bif fs m 4 then (bif fs m 14 then (bif fs m 38 then some (jj m 1) else none) else none) else none) else none) else none)=bif fs m 2 && (fs m 11 && (fs m 4 && (fs m 14 && (fs m 38 && true)))) then _ else _;cases fs m 2 <;> cases fs m 11 <;> cases fs m 4 <;> cases fs m 14 <;> cases fs m 38 <;> rfl
 . show (bif fs m 2 then (bif fs m 11 then (bif fs m 4 then (bif fs m 38 then some (jj m 2) else none) else none) else none) else none)=bif fs m 2 && (fs m 11 && (fs m 4 && (fs m 38 && true))) then _ else _;cases fs m 2 <;> cases fs m 11 <;> cases fs m 4 <;> cases fs m 38 <;> rfl
 . show (bif fs m 2 then (bif fs m 11 then (bif fs m 4 then (bif fs m 38 then some (jj m 3) else none) else none) else none) else none)=bif fs m 2 && (fs m 11 && (fs m 4 && (fs m 38 && true))) then _ else _;cases fs m 2 <;> cases fs m 11 <;> cases fs m 4 <;> cases fs m 38 <;> rfl
 . show (bif fs m 2 then (bif fs m 11 then (bif fs m 4 then (bif fs m 38 then some (jj m 4) else none) else none) else none) else none)=bif fs m 2 && (fs m 11 && (fs m 4 && (fs m 38 && true))) then _ else _;cases fs m 2 <;> cases fs m 11 <;> cases fs m 4 <;> cases fs m 38 <;> rfl
 . show (bif fs m 2 then (bif fs m 11 then (bif fs m 38 then some (jj m 5) else none) else none) else none)=bif fs m 2 && (fs m 11 && (fs m 38 && true)) then _ else _;cases fs m 2 <;> cases fs m 11 <;> cases fs m 38 <;> rfl
 . show (bif fs m 2 then (bif fs m 11 then (bif fs m 38 then (bif fs m 103 then some (jj m 6) else none) else none) else none) else none)=bif fs m 2 && (fs m 11 && (fs m 38 && (fs m 103 && true))) then _ else _;cases fs m 2 <;> cases fs m 11 <;> cases fs m 38 <;> cases fs m 103 <;> rfl
 . show (bif fs m 2 then (bif fs m 11 then some (jj m 7) else none) else none)=bif fs m 2 && (fs m 11 && true) then _ else _;cases fs m 2 <;> cases fs m 11 <;> rfl
 . show (bif fs m 2 then (bif fs m 11 then some (jj m 8) else none) else none)=bif fs m 2 && (fs m 11 && true) then _ else _;cases fs m 2 <;> cases fs m 11 <;> rfl
theorem JH (op:Int) (hop:OpC op):∃ a b c,AP op=some ((),((a,b,c,l5 op,()),()))/\(l5 op).length<=3:=by rcases hop with h | h | h | h | h | h | h | h | h <;> subst h <;> exact ⟨_,_,_,rfl,by decide⟩
theorem abG (m:cP) (hb:sf m):Pd m=Kf (kW m):=by
 unfold Pd kW;rw [Xy m hb];cases hm:wj m with
 | false=>rfl
 | true =>
 have hk:SQ m.1=some ((),((zh m.1,()),())):=rfl;dsimp only [Option.bind_some,Bool.not_true,cond_false];rw [hk];cases zh m.1 with
 | false=>rfl
 | true =>
 show Option.bind (Gt m 3) _=_;rw [P0 m 3 hb];cases h3:mB m 3 with
 | none=>rfl
 | some c =>
 have hr:OQ=some ((),((dh,()),())):=rfl;unfold EN;dsimp only [Option.bind_some,Bool.not_true,cond_false];rw [hr];dsimp only [Option.bind_some];refine (bn (Nh m c (zL hm h3) (c,()) rfl)).trans ?_;have hop:=uu m.1 c;have hw:aj .i64 1 (gm (Dx m.1 c) 0 dh)=ez m.1 c:=by unfold ez at hop ⊢;exact aA (by omega) (by omega)
 dsimp only [Option.bind_some];rw [hw];generalize ez m.1 c=op at hop ⊢;obtain ⟨a1,a2,a3,hf,hfl⟩:=JH op hop;rw [hf];dsimp only [Option.bind_some];have hfit:bT 8 [((2:Int),()),(11,())] (l5 op)=true:=adn (by show (2 + (l5 op).length) * 8<=140737488355328; omega);rw [hfit];refine (bn (OY m hb ((2,()) :: (11,()) :: l5 op) (by simp only [ac9]; omega) (op,[],[],[],[],m.1,0,0,()))).trans ?_;rw [Nd m op hop];show _=Kf (Hc m op);rw [K9 m op hop];cases Hh m op with
 | false=>rfl
 | true => refine (bn (Vt (jj m op) (EX hb op))).trans ?_;cases qO (jj m op) <;> rfl
def Cw (b:aY):List nZ:=match kS b with
 | (m,c)=>bif aq c 0 then (match kW m with | (q,d)=>bif aq d 0 then (bif aq q.1 6 && !(cC q.2.2.1 q.2.1) then (bif kB q.2.2.1 q.2.1 then [(q.2.2.1,()),(q.2.1,())] else [(q.2.1,()),(q.2.2.1,())]) else [(q.2.1,())]) else []) else []
theorem E3 {b:aY}:∀ {nos:aY} {a:Nat} {o l:List qn} {e:Nat},a<=b.length->(∀ f∈o,f.2.1.length<=1048576)->ly b nos a o=some (l,e)->l.length=o.length + nos.length/\∀ f∈l,f.2.1.length<=1048576
 | [],_,_,_,_,_,ho,h=>by cases h;exact ⟨rfl,ho⟩
 | x :: r,a,o,l,e,ha,ho,h=>by
   rw [ly] at h;cases hg:ob b a x.1 with
   | none=>rw [hg] at h; cases h
   | some p =>
     rw [hg] at h;obtain ⟨_,h2,h3⟩:=sW ha hg;obtain ⟨k1,k2⟩:=E3 (nos:=r) h3 (fun f hf=>by
      rcases aeA.1 hf with h | h
      . exact ho f h
      . rcases aev.1 h with rfl
        exact ady h2 (by omega)) h
     refine ⟨?_,k2⟩;rw [k1,ac4];simp only [ac9,adk];omega
theorem wZ (b:aY):sf (kS b).1:=by
 have h0:sf ([],[],()):=⟨adM _,adM _,fun f hf=>by cases hf⟩;unfold kS;cases hc:jy b 0 4 with
 | none=>exact h0
 | some mti =>
   cases hn:BG b with
   | none=>exact h0
   | some p =>
     obtain ⟨nos,a⟩:=p;obtain ⟨n1,n2⟩:=Da hn;dsimp only;cases hf:ly b nos a [] with
     | none=>exact h0
     | some q =>
       obtain ⟨l,e⟩:=q;obtain ⟨k1,k2⟩:=E3 n2 (fun f hf=>by cases hf) hf;dsimp only;split
       . refine ⟨?_,?_,k2⟩
         . show mti.length<=_;rw [(eg hc).2.1]; omega
         . show l.length<=_;rw [k1]; simp only [adk]; exact ady (Nat.le_of_eq (adA _)) (ady n1 (by omega))
       . exact h0
theorem Pr {m:cP} (hb:sf m):Kd (kW m).1:=by
 have h0:Kd iw:=⟨adM _,adM _,adM _,adM _,adM _⟩;unfold kW Hc;cases wj m with
 | false=>exact h0
 | true =>
 cases zh m.1 with
 | false=>exact h0
 | true =>
 cases mB m 3 with
 | none=>exact h0
 | some c =>
 dsimp only [cond_true];cases K6 m (ez m.1 c) with
 | false=>exact h0
 | true =>
   dsimp only [cond_true];cases qO (jj m (ez m.1 c)) with
   | false=>exact h0
   | true=>exact EX hb _
theorem Qj (b:aY):GS (Cw b):=by
 have h1:=Pr (wZ b);have h0:GS []:=⟨adM _,fun x hx=>by cases hx⟩;unfold Cw;generalize kS b=p at h1 ⊢;obtain ⟨m,c⟩:=p;dsimp only at h1 ⊢;cases aq c 0 with
 | false=>exact h0
 | true =>
 generalize kW m=r at h1 ⊢;obtain ⟨q,d⟩:=r;dsimp only [cond_true] at h1 ⊢;have two:∀ x y:List UInt8,x.length<=1048576->y.length<=1048576->GS [(x,()),(y,())]:=fun x y hx hy=>⟨ac7 _,fun z hz=>by
  rcases adg.1 hz with rfl | hz
  . exact hx
  . rcases aev.1 hz with rfl
    exact hy⟩
 cases aq d 0 with
 | false=>exact h0
 | true =>
   dsimp only [cond_true];cases aq q.1 6 && !(cC q.2.2.1 q.2.1) with
   | false=>exact ⟨afi 1,fun z hz=>by rcases aev.1 hz with rfl; exact h1.1⟩
   | true =>
     dsimp only [cond_true];cases kB q.2.2.1 q.2.1 with
     | true=>exact two _ _ h1.2.1 h1.1
     | false=>exact two _ _ h1.1 h1.2.1
theorem U0 (b:aY) (hb:zA b):OW b=some ((),((Cw b,()),())):=by
 unfold OW Cw;rw [Vc b hb];have hm:=wZ b;unfold He;generalize kS b=p at hm ⊢;obtain ⟨m,c⟩:=p;dsimp only [Option.bind_some] at hm ⊢;cases aq c 0 with
 | false=>rfl
 | true =>
   dsimp only [Bool.not_true,cond_false,cond_true];rw [Z4 m hm];unfold Kf;generalize kW m=r;obtain ⟨q,d⟩:=r;dsimp only [Option.bind_some];cases aq d 0 with
   | false=>rfl
   | true => dsimp only [Bool.not_true,cond_false,cond_true];cases aq q.1 6 <;> cases cC q.2.2.1 q.2.1 <;> cases kB q.2.2.1 q.2.1 <;> rfl
theorem E9 {a b:List UInt8}:cC a b=true↔a=b:=by simp [cC]
theorem WH (b:aY) (hb:zA b):Pf b=some ((),((Cw b,()),())):=by
 unfold Pf Cw;rw [Xw b hb];have hm:=wZ b;unfold He;generalize kS b=p at hm ⊢;obtain ⟨m,c⟩:=p;dsimp only [Option.bind_some] at hm ⊢;rw [abG m hm];unfold Kf;generalize kW m=r;obtain ⟨q,d⟩:=r;dsimp only [Option.bind_some];cases aq c 0 with
 | false=>rfl
 | true =>
 cases aq d 0 with
 | false=>rfl
 | true =>
 dsimp only [Bool.not_true,cond_false,cond_true];cases aq q.1 6 with
 | false => dsimp only [cond_false,Bool.false_and];rw [OC]; rfl
 | true =>
   show Option.bind (Dp [(q.2.1,()),(q.2.2.1,())]) _=_;rw [Ok];unfold Uk;dsimp only [Option.bind_some,Bool.true_and];cases he:cC q.2.2.1 q.2.1 with
   | true => have e:=E9.1 he;rw [e,Ap];dsimp only [cond_false];rw [Ba,da]; rfl
   | false =>
     cases hc:kB q.2.2.1 q.2.1 with
     | true =>
       dsimp only [cond_true];rw [Ba];have:cC q.2.1 q.2.2.1=false:=by
        cases h:cC q.2.1 q.2.2.1 with
        | false=>rfl
        | true=>rw [E9.1 h,da] at he; cases he
       dsimp only;rw [this]; rfl
     | false => dsimp only [cond_false];rw [Ba];dsimp only;rw [he]; rfl
def mu (b:aY) (n:Int):List dn:=rG n (Cw b)
abbrev cK:=aY×Int×List dn×Int×Int×Int×Int×Int×aY×Unit
def my (t:cK):Prop:=zA t.1/\t.2.2.1.length<=1048576/\t.2.2.2.2.2.2.2.2.1.length<=1048576
def G1 (a b:List dn):Bool:=cond (aq (ae a) (ae b)) (allI (fun i x=>aq x.1 (gt (0,()) b (i:Int)).1) 0 a) false
theorem Qc (a b:List dn) (hs:a.length<=1048576):NT a b=some ((),((G1 a b,()),())):=by
 unfold NT G1;dsimp only;cases he:aq (ae a) (ae b) with
 | false=>rfl
 | true =>
   have hl:a.length=b.length:=by have:=e8.1 he; unfold ae at this; omega
   have h:=aI (step:=cV p7) a (fun i (_:Unit)=>(a,b,ae a,((i:Nat):Int),())) (fun i x _=>bif aq x.1 (gt (0,()) b (i:Int)).1 then Sum.inl () else .inr (.inr (false,()))) (fun _=> .inl (a,b,ae a,(a.length:Int),())) (a0:=()) (fun i x u hx=>by
    have hlt:=ai hx;show p7 a b (ae a) (i:Int)=_;unfold p7;rw [aC hx,az hx,aS _ hx,aK (by unfold aT; omega),lT (xs:=b) (by omega)];dsimp only [cond_true];show cond (!(aq x.1 (gt (0,()) b (i:Int)).1)) _ _=_;cases aq x.1 (gt (0,()) b (i:Int)).1 <;> rfl) (fun u=>by
    show p7 a b (ae a) (a.length:Int)=_;unfold p7;rw [au rfl]; rfl)
   rw [cT] at h;refine (bn h).trans ?_;dsimp only [cond_true];cases allI _ 0 a <;> rfl
theorem Wv (a b:List dn) (hs:a.length<=1048576):RS a b=some ((),((G1 a b,()),())):=Qc a b hs
theorem JQ (t:cK) (n:Int) (hb:my t):Xe t n=some ((),((mu t.1 n,()),())):=by unfold Xe mu;rw [U0 _ hb.1];dsimp only [Option.bind_some];rw [TF _ n (Qj t.1)]; rfl
theorem J2 (t:cK) (n:Int) (hb:my t):Vh t n=some ((),((mu t.1 n,()),())):=by unfold Vh mu;rw [WH _ hb.1];dsimp only [Option.bind_some];rw [Td _ n (Qj t.1)]; rfl
def Ch (t:cK):Bool:=cond (aq t.2.1 1) (cond (bL 0 t.2.2.2.1) (aw t.2.2.2.1 (ae t.2.2.1)) false) (cond (aq t.2.1 2) (cond (aq t.2.2.2.1 (ae t.2.2.1)) (aw 0 (ae t.2.2.1)) false) (cond (aq t.2.1 3) (dC t.2.2.2.1 1 (ae t.2.2.1)) (aq t.2.2.2.1 0)))
def T0 (t:cK):Bool:=cond (bL t.2.1 2) (cond (cond (cond (aq t.2.2.2.2.2.1 (-1)) (aq t.2.2.2.2.2.2.1 (-1)) false) (aq t.2.2.2.2.2.2.2.1 0) false) (aq (ae t.2.2.2.2.2.2.2.2.1) 0) false) (cond (cond (!ed t.2.2.2.2.2.1) true (aw t.2.2.2.2.2.1 t.2.2.2.2.1)) false (cond (aq t.2.1 5) (cond (ed t.2.2.2.2.2.2.1) (bL t.2.2.2.2.2.1 t.2.2.2.2.2.2.1) false) (aq t.2.2.2.2.2.2.1 (-1))))
def tY (t:cK) (n:Int):Bool:=cond (cond (cond (!dC n 1 5) true (aw 300 (ae t.1))) true (aw 200 (ae t.2.2.2.2.2.2.2.2.1))) false (cond (ed t.2.2.2.2.1) (cond (ed t.2.2.2.2.2.2.2.1) (cond (dC t.2.1 0 5) (cond (Ch t) (cond (cond (aq t.2.1 0) (aw 0 (ae t.2.2.1)) false) false (cond (cond (!(aq t.2.1 0)) (G1 t.2.2.1 (mu t.1 n)) true) (T0 t) false)) false) false) false) false)
theorem Ta (t:cK) (n:Int) (hb:my t):YS t n=some ((),((tY t n,()),())):=by
 have hn:=JQ t n hb;have he:=Qc t.2.2.1 (mu t.1 n) hb.2.1;have hh:O7 t=some ((),((Ch t,()),())):=by unfold O7 Ch;dsimp only;rw [kU];cases aq t.2.1 1 <;> cases aq t.2.1 2 <;> cases aq t.2.1 3 <;> rfl
 unfold YS;dsimp only;rw [kU,ni,ni,kU,hh,hn];dsimp only [Option.bind_some];rw [he,ni,ni];dsimp only [Option.bind_some];unfold tY T0;generalize Ch t=c1;generalize G1 t.2.2.1 (mu t.1 n)=c2;generalize dC n 1 5=c3;generalize dC t.2.1 0 5=c4;generalize aw 300 (ae t.1)=c5;generalize aw 200 (ae t.2.2.2.2.2.2.2.2.1)=c6;generalize ed t.2.2.2.2.1=c7;generalize ed t.2.2.2.2.2.2.2.1=c8;generalize ed t.2.2.2.2.2.1=c9;generalize ed t.2.2.2.2.2.2.1=ca;generalize bL t.2.1 2=cb;generalize aq t.2.1 0=cc;generalize aq t.2.1 5=cd;generalize aw 0 (ae t.2.2.1)=ce;cases c3 <;> first | rfl | skip
 cases c5 <;> first | rfl | skip
 cases c6 <;> first | rfl | skip
 cases c7 <;> first | rfl | skip
 cases c8 <;> first | rfl | skip
 cases c4 <;> first | rfl | skip
 cases c1 <;> first | rfl | skip
 cases cc <;> cases ce <;> cases c2 <;> first | rfl | skip
 all_goals (cases cb <;> first | rfl | skip)
 all_goals (cases c9 <;> first | rfl | skip)
 all_goals (cases aw t.2.2.2.2.2.1 t.2.2.2.2.1 <;> cases cd <;> cases ca <;> rfl)
theorem U4 {α:Type} {h:Int} {xs:List α} (hs:xs.length<=1048576):dC h 0 (aO .i64 (ae xs) 1)=cond (bL 0 h) (aw h (ae xs)) false:=by
 unfold ae;rw [aU (by omega) (by omega)];unfold dC;have:bL h ((xs.length:Int) - 1)=aw h (xs.length:Int):=by unfold bL aw;exact decide_eq_decide.2 (by omega)
 rw [this]
theorem CS {pc:Int} (h:dC pc 0 5=true):pc=0∨pc=1∨pc=2∨pc=3∨pc=4∨pc=5:=by have:=fb.1 h;omega
theorem Ua (t:cK) (n:Int) (hb:my t):Vi t n=some ((),((tY t n,()),())):=by
 obtain ⟨d,pc,st,held,inv,lin,res,at',rep,u⟩:=t;have hn:=J2 (d,pc,st,held,inv,lin,res,at',rep,u) n hb;have he:=Wv st (mu d n) hb.2.1;have hl:= @U4 _ held st hb.2.1;cases hpc:dC pc 0 5 with
 | false =>
   have hp:WN pc=some ((),(([],()),())):=by unfold WN;rw [ji,hpc]; rfl
   unfold Vi tY;dsimp only;rw [ji,hp];dsimp only [Option.bind_some];rw [hpc];cases dC n 1 5 <;> first | rfl | skip
   cases aw 300 (ae d) <;> cases aw 200 (ae rep) <;> cases ed inv <;> cases ed at' <;> rfl
 | true =>
   have hp:∃ nm,WN pc=some ((),((nm,()),()))/\cC nm []=false:=by rcases CS hpc with h | h | h | h | h | h <;> subst h <;> exact ⟨_,rfl,rfl⟩
   obtain ⟨nm,hp,hne⟩:=hp;unfold Vi tY Ch T0;dsimp only;rw [ji,hp];dsimp only [Option.bind_some];rw [hne,mZ,mZ,mZ,mZ,ji,ji,hn,hl,hpc];dsimp only [Option.bind_some];rw [he];dsimp only [Option.bind_some];generalize G1 st (mu d n)=c2;generalize dC n 1 5=c3;generalize aw 300 (ae d)=c5;generalize aw 200 (ae rep)=c6;generalize ed inv=c7;generalize ed at'=c8;generalize ed lin=c9;generalize ed res=ca;generalize dC held 1 (ae st)=cg;generalize aw 0 (ae st)=ce;generalize aq held (ae st)=ch;generalize bL 0 held=ci;generalize aw held (ae st)=cj;generalize aq held 0=ck;cases c3 <;> first | rfl | skip
   cases c5 <;> first | rfl | skip
   cases c6 <;> first | rfl | skip
   cases c7 <;> first | rfl | skip
   cases c8 <;> first | rfl | skip
   clear hp hn he hl;rcases CS hpc with h | h | h | h | h | h <;> subst h
   . simp only [show aq (0:Int) 0=true from rfl,show aq (0:Int) 1=false from rfl,show aq (0:Int) 2=false from rfl,show aq (0:Int) 3=false from rfl,show aw (0:Int) 3=true from rfl,show bL (0:Int) 2=true from rfl,ac6,adm,adL,aeV];cases ce <;> cases ck <;> rfl
   . simp only [show aq (1:Int) 0=false from rfl,show aq (1:Int) 1=true from rfl,show aw (1:Int) 3=true from rfl,show bL (1:Int) 2=true from rfl,ac6,adm,adL,aeV];cases c2 <;> cases ci <;> cases cj <;> rfl
   . simp only [show aq (2:Int) 0=false from rfl,show aq (2:Int) 1=false from rfl,show aq (2:Int) 2=true from rfl,show aw (2:Int) 3=true from rfl,show bL (2:Int) 2=true from rfl,ac6,adm,adL,aeV];cases c2 <;> cases ch <;> cases ce <;> rfl
   . simp only [show aq (3:Int) 0=false from rfl,show aq (3:Int) 1=false from rfl,show aq (3:Int) 2=false from rfl,show aq (3:Int) 3=true from rfl,show aq (3:Int) 5=false from rfl,show aw (3:Int) 3=false from rfl,show bL (3:Int) 2=false from rfl,ac6,adm,adL,aeV];cases c2 <;> cases cg <;> cases c9 <;> cases aw lin inv <;> rfl
   . simp only [show aq (4:Int) 0=false from rfl,show aq (4:Int) 1=false from rfl,show aq (4:Int) 2=false from rfl,show aq (4:Int) 3=false from rfl,show aq (4:Int) 5=false from rfl,show aw (4:Int) 3=false from rfl,show bL (4:Int) 2=false from rfl,ac6,adm,adL,aeV];cases c2 <;> cases ck <;> cases c9 <;> cases aw lin inv <;> rfl
   . simp only [show aq (5:Int) 0=false from rfl,show aq (5:Int) 1=false from rfl,show aq (5:Int) 2=false from rfl,show aq (5:Int) 3=false from rfl,show aq (5:Int) 5=true from rfl,show aw (5:Int) 3=false from rfl,show bL (5:Int) 2=false from rfl,ac6,adm,adL,aeV];cases c2 <;> cases ck <;> cases c9 <;> cases aw lin inv <;> cases ca <;> rfl
theorem xA {α:Type} (p:α->Bool):∀ (xs:List α) (i:Nat),bL 0 (gm p i xs)=xs.any p
 | [],_=>rfl
 | x :: r,i=>by
   rw [gm,afJ];cases p x with
   | true=>exact ada (by show (0:Int)<=(i:Int); omega)
   | false=>exact xA p r (i + 1)
theorem BZ (a b:Int):aq a b=aq b a:=by unfold aq;exact Bool.beq_comm
def GP (v:Int) (xs:List dn):Bool:=xs.any fun y=>aq v y.1
theorem By {α Y:Type} (p:α->Bool) (y:Y) (z:Y):∀ (xs:List α) (i:Nat),iv (fun _ x (_:Unit)=>bif p x then Sum.inr y else .inl ()) (fun _=>z) i xs ()=bif xs.any p then y else z
 | [],_=>rfl
 | x :: r,i=>by
   rw [iv,afJ];cases p x with
   | true=>rfl
   | false=>exact By p y z r (i + 1)
theorem QG (xs:List dn) (v:Int) (hs:xs.length<=1048576):SX xs v=some ((),((GP v xs,()),())):=by rw [xe xs v hs,xA]; rfl
theorem VI (xs:List dn) (v:Int) (hs:xs.length<=1048576):Np xs v=some ((),((GP v xs,()),())):=by
 have h:=aI (step:=cV pE) xs (fun i (_:Unit)=>(v,xs,ae xs,((i:Nat):Int),())) (fun _ x _=>bif aq v x.1 then Sum.inr (.inr (true,())) else .inl ()) (fun _=> .inl (v,xs,ae xs,(xs.length:Int),())) (a0:=()) (fun i x u hx=>by
  have hlt:=ai hx;show pE v xs (ae xs) (i:Int)=_;unfold pE;rw [aC hx,az hx,aS _ hx,aK (by unfold aT; omega),BZ x.1 v];cases aq v x.1 <;> rfl) (fun u=>by
  show pE v xs (ae xs) (xs.length:Int)=_;unfold pE;rw [au rfl]; rfl)
 rw [By] at h;unfold Np;refine (bn h).trans ?_;unfold GP;cases xs.any fun y=>aq v y.1 <;> rfl
def sV (t:cK):Nat:=min t.2.2.2.1.toNat t.2.2.1.length
def G9 (t:cK) (k:Int):Bool:=GP k (t.2.2.1.take (sV t))
theorem UQ (t:cK) (k:Int) (hb:my t):Zn t k=some ((),((G9 t k,()),())):=by
 have hs:=hb.2.1;have hle:sV t<=t.2.2.1.length:=afM _ _;have hl:(t.2.2.1.take (sV t)).length=sV t:=by rw [adJ]; omega
 have h:=aI (step:=dq vZ) (t.2.2.1.take (sV t)) (fun i (_:Unit)=>(k,((i:Nat):Int),t,())) (fun _ x _=>bif aq k x.1 then Sum.inr (.inr (true,())) else .inl ()) (fun _=> .inl (k,((sV t:Nat):Int),t,())) (a0:=()) (fun i x u hx=>by
  have hlt:=ai hx;rw [hl] at hlt;rw [ad6,if_pos hlt] at hx;have h1:i < t.2.2.2.1.toNat:=adw hlt (Nat.min_le_left _ _);show vZ k (i:Int) t=_;unfold vZ;rw [aJ (show (i:Int) < t.2.2.2.1 by omega),aC hx,az hx,aS _ hx,aK (by unfold aT; omega),BZ x.1 k];cases aq k x.1 <;> rfl) (fun u=>by
  rw [hl];show vZ k ((sV t:Nat):Int) t=_;unfold vZ;have:cond (aw ((sV t:Nat):Int) t.2.2.2.1) (aw ((sV t:Nat):Int) (ae t.2.2.1)) false=false:=by
   unfold sV;rcases Nat.le_total t.2.2.2.1.toNat t.2.2.1.length with h | h
   . rw [afb h,ay (by omega)]; rfl
   . rw [Nat.min_eq_right h,au rfl]; cases aw _ _ <;> rfl
  rw [this]; rfl)
 rw [By] at h;unfold Zn;refine (bn h).trans ?_;unfold G9 GP;cases List.any _ _ <;> rfl
theorem VU (t:cK) (k:Int) (hb:my t):YW t k=some ((),((G9 t k,()),())):=by
 have hs:=hb.2.1;have hle:sV t<=t.2.2.1.length:=afM _ _;have hu:Ik 0 (Iu t.2.2.2.1 (ae t.2.2.1))=((sV t:Nat):Int):=by unfold Ik Iu sV ae;split <;> split <;> omega
 unfold YW;dsimp only;rw [hu,jD hle,sj,QG _ k (by rw [adJ]; omega)]; rfl
noncomputable def kI (l:List ep):List aL:=open Classical in if h:∃ M,l7 dG M/\eL dG (eQ l) M then Classical.choose h else []
theorem tE {l:List ep} (hB:pj l):(kI l).length=(eQ l).length/\(∀ x∈kI l,x∈eQ l)/\l7 dG (kI l)/\eL dG (eQ l) (kI l)/\MU l=some ((),((kI l,()),()))/\Q1 l=some ((),((kI l,()),())):=by
 obtain ⟨M,⟨m1,m2⟩,m3⟩:=C3 l hB;obtain ⟨M',p0,p1,p2,p3,p4⟩:=G0 l hB;have e0:M=M':=by have h:=m3.symm.trans p3;simp only [ac3,adF,true_and,aej] at h;exact h
 subst e0;have hex:∃ M,l7 dG M/\eL dG (eQ l) M:=⟨M,m1,m2⟩;have e:kI l=M:=by unfold kI;rw [dif_pos hex];exact rR fx (ad7 hex).1 m1 ((ad7 hex).2.symm.trans m2)
 rw [e];exact ⟨p0,p1,m1,m2,p3,p4⟩
theorem E1 {l:List ep} (hB:pj l):uh (kI l):=by obtain ⟨h1,h2,_⟩:=tE hB;refine ⟨by rw [h1]; exact hB.2.1,fun a ha => ?_⟩;have:=h2 a ha;unfold eQ at this;obtain ⟨xs,hx,hm⟩:=List.mem_flatten.1 this;obtain ⟨s,hs,rfl⟩:=ae9.1 hx;exact hB.2.2 s hs a hm
def rL (n k:Int) (xs:List aL) (i:Nat) (a:aL):Bool:=cond (aq (ax a.1 n) k) (cond (decide (0 < i)) (kB (gt d59 xs ((i:Int) - 1)).1 a.1) true) false
def EW (n k:Int) (xs:List aL):Bool:=allI (rL n k xs) 0 xs
def j3 (n:Int) (k:Nat) (s:ep):Bool:=cond (dC s.1 (-1) 11) (EW n (k:Int) s.2.1) false
noncomputable def Ew (l:List ep):Bool:=cond (dC (ae l) 1 5) (cond (allI (j3 (ae l)) 0 l) (qM (kI l)) false) false
theorem Wy (l t11:List ep) (k t12 t13:Int) (s:ep) (hl:l.length<=1048576) (hs:s.2.1.length<=1048576) (hb:∀ a∈s.2.1,jq a):Qg l k t11 t12 t13 s.2.1 (ae s.2.1) 0 s=some (bif EW (ae l) k s.2.1 then .inl (l,k,t11,t12,t13,s.2.1,ae s.2.1,(s.2.1.length:Int),s,()) else .inr (false,())):=by
 have h:=aI (step:=DD yB) s.2.1 (fun i (_:Unit)=>(l,k,t11,t12,t13,s.2.1,ae s.2.1,((i:Nat):Int),s,())) (fun i x _=>bif rL (ae l) k s.2.1 i x then Sum.inl () else .inr (.inr (false,()))) (fun _=> .inl (l,k,t11,t12,t13,s.2.1,ae s.2.1,(s.2.1.length:Int),s,())) (a0:=()) (fun i x u hx=>by
  have hlt:=ai hx;show yB l k t11 t12 t13 s.2.1 (ae s.2.1) (i:Int) s=_;unfold yB rL;rw [aC hx,az hx,aS _ hx,nh x.1 (ae l) (cE (hb x (ade hx)).1),aK (by unfold aT; omega)];dsimp only [cond_true,Option.bind_some];cases aq (ax x.1 (ae l)) k with
  | false=>rfl
  | true =>
    by_cases h0:0 < i
    . rw [aJ (show (0:Int) < i by omega),aU (by omega) (by omega),iY hx h0,ada h0];dsimp only [cond_true,cond_false,Bool.not_true];cases kB (gt d59 s.2.1 ((i:Int) - 1)).1 x.1 <;> rfl
    . rw [ay (show ¬ (0:Int) < i by omega),adD h0]; rfl) (fun u=>by
  show yB l k t11 t12 t13 s.2.1 (ae s.2.1) (s.2.1.length:Int) s=_;unfold yB;rw [au rfl]; rfl)
 rw [cT] at h;refine aeJ h ?_;unfold EW;cases allI _ 0 s.2.1 <;> rfl
theorem Vr (l t11:List ep) (k t12 t13:Int) (s:ep) (hl:l.length<=1048576) (hs:s.2.1.length<=1048576) (hb:∀ a∈s.2.1,jq a):PW l k t11 t12 t13 s.2.1 (ae s.2.1) 0 s=some (bif EW (ae l) k s.2.1 then .inl (l,k,t11,t12,t13,s.2.1,ae s.2.1,(s.2.1.length:Int),s,()) else .inr (false,())):=by
 have h:=aI (step:=DD wq) s.2.1 (fun i (_:Unit)=>(l,k,t11,t12,t13,s.2.1,ae s.2.1,((i:Nat):Int),s,())) (fun i x _=>bif rL (ae l) k s.2.1 i x then Sum.inl () else .inr (.inr (false,()))) (fun _=> .inl (l,k,t11,t12,t13,s.2.1,ae s.2.1,(s.2.1.length:Int),s,())) (a0:=()) (fun i x u hx=>by
  have hlt:=ai hx;show wq l k t11 t12 t13 s.2.1 (ae s.2.1) (i:Int) s=_;unfold wq rL;rw [aC hx,az hx,aS _ hx,vn x.1 (ae l) (cE (hb x (ade hx)).1),aK (by unfold aT; omega)];dsimp only [cond_true,Option.bind_some];cases aq (ax x.1 (ae l)) k with
  | false=>rfl
  | true =>
    by_cases h0:0 < i
    . rw [aJ (show (0:Int) < i by omega),aU (by omega) (by omega),iY hx h0,ada h0,uW];dsimp only [cond_true,cond_false,Bool.not_true];cases kB (gt d59 s.2.1 ((i:Int) - 1)).1 x.1 <;> rfl
    . rw [ay (show ¬ (0:Int) < i by omega),adD h0]; rfl) (fun u=>by
  show wq l k t11 t12 t13 s.2.1 (ae s.2.1) (s.2.1.length:Int) s=_;unfold wq;rw [au rfl]; rfl)
 rw [cT] at h;refine aeJ h ?_;unfold EW;cases allI _ 0 s.2.1 <;> rfl
theorem LL {l:List ep} (hB:pj l) {i:Nat} {s:ep} (h:l[i]? = some s):s.2.1.length<=1048576:=by have h1:=nG h;have h2:=uT l (i + 1);rw [h1,ac4] at h2;have:=hB.2.1;omega
theorem VD (l:List ep) (hB:pj l):Yv l=some ((),((Ew l,()),())):=by
 have hl:=hB.1;obtain ⟨_,_,_,_,hg,_⟩:=tE hB;unfold Yv Ew;dsimp only;rw [kU];cases dC (ae l) 1 5 with
 | false=>rfl
 | true =>
 have h:=aI (step:=cV ya) l (fun i (_:Unit)=>(l,l,ae l,((i:Nat):Int),())) (fun i x _=>bif j3 (ae l) i x then Sum.inl () else .inr (.inr (false,()))) (fun _=> .inl (l,l,ae l,(l.length:Int),())) (a0:=()) (fun i x u hx=>by
  have hlt:=ai hx;show ya l l (ae l) (i:Int)=_;unfold ya j3;rw [aC hx,az hx,aS _ hx];dsimp only [cond_true];rw [kU];dsimp only [Option.bind_some];cases dC x.1 (-1) 11 with
  | false=>rfl
  | true =>
    dsimp only [Bool.not_true,cond_false,cond_true];rw [Wy l l (i:Int) (ae l) (i:Int) x hl (LL hB hx) (hB.2.2 x (ade hx))];cases EW (ae l) (i:Int) x.2.1 with
    | false=>rfl
    | true =>
      dsimp only [cond_true,Option.bind_some,Sum.elim_inl];rw [aK (by unfold aT; omega)]; rfl) (fun u=>by
  show ya l l (ae l) (l.length:Int)=_;unfold ya;rw [au rfl]; rfl)
 rw [cT] at h;refine (bn h).trans ?_;cases allI (j3 (ae l)) 0 l with
 | false=>rfl
 | true => show Option.bind (MU l) _=_;rw [hg];show Option.bind (Hl (kI l,())) _=_;rw [IJ _ (E1 hB)]; rfl
theorem Yu (l:List ep) (hB:pj l):YQ l=some ((),((Ew l,()),())):=by
 have hl:=hB.1;obtain ⟨_,_,_,_,_,hg⟩:=tE hB;unfold YQ Ew;have h:=aI (step:=cV vR) l (fun i (_:Unit)=>(l,l,ae l,((i:Nat):Int),())) (fun i x _=>bif j3 (ae l) i x then Sum.inl () else .inr (.inr (false,()))) (fun _=> .inl (l,l,ae l,(l.length:Int),())) (a0:=()) (fun i x u hx=>by
  have hlt:=ai hx;show vR l l (ae l) (i:Int)=_;unfold vR j3;rw [aC hx,az hx,aS _ hx];dsimp only [cond_true];rw [ji];dsimp only [Option.bind_some];cases dC x.1 (-1) 11 with
  | false=>rfl
  | true =>
    dsimp only [Bool.not_true,cond_false,cond_true];rw [Vr l l (i:Int) (ae l) (i:Int) x hl (LL hB hx) (hB.2.2 x (ade hx))];cases EW (ae l) (i:Int) x.2.1 with
    | false=>rfl
    | true =>
      dsimp only [cond_true,Option.bind_some,Sum.elim_inl];rw [aK (by unfold aT; omega)]; rfl) (fun u=>by
  show vR l l (ae l) (l.length:Int)=_;unfold vR;rw [au rfl]; rfl)
 rw [cT] at h;refine (bn h).trans ?_;cases allI (j3 (ae l)) 0 l with
 | false => cases dC (ae l) 1 5 <;> rfl
 | true =>
   dsimp only [cond_true,Option.bind_some,Sum.elim_inl];rw [ji];dsimp only [Option.bind_some];cases dC (ae l) 1 5 with
   | false=>rfl
   | true => show Option.bind (Q1 l) _=_;rw [hg];show Option.bind (GF (kI l,())) _=_;rw [LH _ (E1 hB)]; rfl
abbrev dj:=List ep×Int×Int×List cK×Unit
def gF (w:dj):Prop:=pj w.1/\w.2.2.2.1.length<=1048576/\∀ t∈w.2.2.2.1,my t
def oa (t:cK):List dn:=[(t.2.2.2.2.1,()),(t.2.2.2.2.2.1,()),(t.2.2.2.2.2.2.1,())]
def kj (n:Int):List dn->List dn->Option (List dn)
 | [],o=>some o
 | x :: r,o=>bif aq x.1 (-1) then kj n r o else bif bL n x.1 then none else bif GP x.1 o then none else kj n r (o ++ [x])
def CK (n:Int) (x:dn) (o:List dn) (y:Unit):Sum (List dn) Unit:=bif aq x.1 (-1) then .inl o else bif bL n x.1 then .inr y else bif GP x.1 o then .inr y else .inl (o ++ [x])
theorem uS {Y:Type} (n:Int) (y:Y) (z:List dn->Y):∀ (xs:List dn) (i:Nat) (o:List dn),iv (fun _ x o=>match CK n x o () with | .inl o'=>Sum.inl o' | .inr _=> .inr y) z i xs o=match kj n xs o with | some o'=>z o' | none=>y
 | [],_,_=>rfl
 | x :: r,i,o=>by
   rw [iv,kj];unfold CK;cases aq x.1 (-1) with
   | true=>exact uS n y z r (i + 1) o
   | false =>
     cases bL n x.1 with
     | true=>rfl
     | false =>
       cases GP x.1 o with
       | true=>rfl
       | false=>exact uS n y z r (i + 1) _
theorem qE (n:Int):∀ (xs o o':List dn),kj n xs o=some o'->o'.length<=o.length + xs.length
 | [],o,o',h=>by cases h; exact ac7 _
 | x :: r,o,o',h=>by
   rw [kj] at h;cases h1:aq x.1 (-1) <;> rw [h1] at h
   . cases h2:bL n x.1 <;> rw [h2] at h
     . cases h3:GP x.1 o <;> rw [h3] at h
       . have:=qE n r _ _ h;rw [ac4] at this;simp only [ac9,adk] at this ⊢;omega
       . cases h
     . cases h
   . have:=qE n r _ _ h;simp only [ac9];omega
theorem acD (n:Int) (o:List dn) (t11:List cK) (t12 t13:Int) (xs:List dn) (hx:xs.length<=3) (ho:o.length<=1000):Q9 n o t11 t12 t13 xs (ae xs) 0=some (match kj n xs o with | some o'=> .inl (n,o',t11,t12,t13,xs,ae xs,ae xs,()) | none=> .inr (false,())):=by
 have h:=aF (step:=xx wI) xs (fun i (o:List dn)=>(n,o,t11,t12,t13,xs,ae xs,((i:Nat):Int),())) (fun _ x o=>match CK n x o () with | .inl o'=>Sum.inl o' | .inr _=> .inr (.inr (false,()))) (fun o=> .inl (n,o,t11,t12,t13,xs,ae xs,ae xs,())) (fun i o=>o.length<=1000 + i) (a0:=o) ho (fun i x o hx' ho'=>by
  have hlt:=ai hx';show wI n o t11 t12 t13 xs (ae xs) (i:Int)=_;unfold wI;rw [aC hx',az hx',aS _ hx',aK (by unfold aT; omega)];dsimp only [cond_true];rw [VI o x.1 (by omega)];dsimp only [Option.bind_some];rw [I6 (by omega)];unfold CK;cases aq x.1 (-1) <;> cases bL n x.1 <;> cases GP x.1 o <;> rfl) (fun i x o o' hx' ho' hf=>by
  unfold CK at hf;cases h1:aq x.1 (-1) <;> rw [h1] at hf
  . cases h2:bL n x.1 <;> rw [h2] at hf
    . cases h3:GP x.1 o <;> rw [h3] at hf
      . cases hf;rw [ac4]; show o.length + 1<=_; omega
      . cases hf
    . cases hf
  . cases hf; omega) (fun o ho'=>by
  show wI n o t11 t12 t13 xs (ae xs) (xs.length:Int)=_;unfold wI;rw [au rfl]; rfl)
 rw [uS] at h;refine aeJ h ?_;cases kj n xs o <;> rfl
theorem abN (n:Int) (o:List dn) (t36:List cK) (t37 t38:Int) (xs:List dn) (w:dj) (hn:w.2.2.1=n) (hx:xs.length<=3) (ho:o.length<=1000):Rs o t36 t37 t38 xs (ae xs) 0 w=some (match kj n xs o with | some o'=> .inl (o',t36,t37,t38,xs,ae xs,ae xs,w,()) | none=> .inr (false,())):=by
 subst hn;have h:=aF (step:=xx yc) xs (fun i (o:List dn)=>(o,t36,t37,t38,xs,ae xs,((i:Nat):Int),w,())) (fun _ x o=>match CK w.2.2.1 x o () with | .inl o'=>Sum.inl o' | .inr _=> .inr (.inr (false,()))) (fun o=> .inl (o,t36,t37,t38,xs,ae xs,ae xs,w,())) (fun i o=>o.length<=1000 + i) (a0:=o) ho (fun i x o hx' ho'=>by
  have hlt:=ai hx';show yc o t36 t37 t38 xs (ae xs) (i:Int) w=_;unfold yc;rw [aC hx',az hx',aS _ hx',aK (by unfold aT; omega)];dsimp only [cond_true];rw [QG o x.1 (by omega)];dsimp only [Option.bind_some];rw [I6 (by omega)];unfold CK;cases aq x.1 (-1) <;> cases bL w.2.2.1 x.1 <;> cases GP x.1 o <;> rfl) (fun i x o o' hx' ho' hf=>by
  unfold CK at hf;cases h1:aq x.1 (-1) <;> rw [h1] at hf
  . cases h2:bL w.2.2.1 x.1 <;> rw [h2] at hf
    . cases h3:GP x.1 o <;> rw [h3] at hf
      . cases hf;rw [ac4]; show o.length + 1<=_; omega
      . cases hf
    . cases hf
  . cases hf; omega) (fun o ho'=>by
  show yc o t36 t37 t38 xs (ae xs) (xs.length:Int) w=_;unfold yc;rw [au rfl]; rfl)
 rw [uS] at h;refine aeJ h ?_;cases kj w.2.2.1 xs o <;> rfl
def mw (n:Int):List cK->List dn->Option (List dn)
 | [],o=>some o
 | t :: r,o=>(kj n (oa t) o).bind (mw n r)
def DA (L now:Int) (t:cK):Bool:=cond (tY t L) (!(aw now t.2.2.2.2.2.2.2.1)) false
theorem F2 {Y:Type} (n:Int) (y:Y) (z:List dn->Y):∀ (xs:List cK) (i:Nat) (o:List dn),iv (fun _ x o=>match kj n (oa x) o with | some o'=>Sum.inl o' | none=> .inr y) z i xs o=match mw n xs o with | some o'=>z o' | none=>y
 | [],_,_=>rfl
 | x :: r,i,o=>by
   rw [iv,mw];cases kj n (oa x) o with
   | none=>rfl
   | some o'=>exact F2 n y z r (i + 1) o'
theorem FI {Y:Type} (L now n:Int) (y:Y) (z:Y->Prop) (Z:List dn->Y) (hZ:∀ o,z (Z o)):∀ (xs:List cK) (i:Nat) (o:List dn),(bif xs.all (DA L now) && (mw n xs o).isSome then z (iv (fun _ x o=>bif DA L now x then (match kj n (oa x) o with | some o'=>Sum.inl o' | none=> .inr y) else .inr y) Z i xs o) else iv (fun _ x o=>bif DA L now x then (match kj n (oa x) o with | some o'=>Sum.inl o' | none=> .inr y) else .inr y) Z i xs o=y:Prop)
 | [],_,o=>hZ o
 | x :: r,i,o=>by
   rw [iv,mw,aef];cases DA L now x with
   | false=>rfl
   | true =>
     cases kj n (oa x) o with
     | none=>rw [show (none:Option (List dn)).bind (mw n r)=none from rfl]; cases r.all (DA L now) <;> rfl
     | some o'=>exact FI L now n y z Z hZ r (i + 1) o'
theorem U2 (n:Int) (ts:List cK) (ht:ts.length<=12):YL ts n=some ((),(((mw n ts []).isSome,()),())):=by
 have h:=aF (step:=dQ xG) ts (fun i (o:List dn)=>(n,o,ts,ae ts,((i:Nat):Int),())) (fun _ x o=>match kj n (oa x) o with | some o'=>Sum.inl o' | none=> .inr (.inr (false,()))) (fun o=> .inl (n,o,ts,ae ts,(ts.length:Int),())) (fun i o=>o.length<=3 * i) (a0:=[]) (ac7 _) (fun i x o hx ho=>by
  have hlt:=ai hx;show xG n o ts (ae ts) (i:Int)=_;unfold xG;rw [aC hx,az hx,aS _ hx];dsimp only [cond_true];refine (bn (acD n o ts (ae ts) (i:Int) (oa x) (ac7 _) (by omega))).trans ?_;cases kj n (oa x) o with
  | none=>rfl
  | some o' =>
    dsimp only [Option.bind_some,Sum.elim_inl];rw [aK (by unfold aT; omega)] <;> rfl) (fun i x o o' hx ho hf=>by
  cases hs:kj n (oa x) o with
  | none=>rw [hs] at hf; cases hf
  | some o2 =>
    rw [hs] at hf;cases hf;have:=qE n _ _ _ hs;have e:(oa x).length=3:=rfl;omega) (fun o ho=>by
  show xG n o ts (ae ts) (ts.length:Int)=_;unfold xG;rw [au rfl]; rfl)
 rw [F2] at h;unfold YL;refine (bn h).trans ?_;cases mw n ts [] <;> rfl
theorem CV (w:dj) (hb:gF w):KL w.2.2.2.1 (ae w.2.2.2.1) 0 w=some (bif w.2.2.2.1.all (DA (ae w.1) w.2.1) then .inl (w.2.2.2.1,ae w.2.2.2.1,ae w.2.2.2.1,w,()) else .inr (false,())):=by
 have hl:=hb.2.1;have h:=aI (step:=cV wV) w.2.2.2.1 (fun i (_:Unit)=>(w.2.2.2.1,ae w.2.2.2.1,((i:Nat):Int),w,())) (fun _ x _=>bif DA (ae w.1) w.2.1 x then Sum.inl () else .inr (.inr (false,()))) (fun _=> .inl (w.2.2.2.1,ae w.2.2.2.1,ae w.2.2.2.1,w,())) (a0:=()) (fun i x u hx=>by
  have hlt:=ai hx;show wV w.2.2.2.1 (ae w.2.2.2.1) (i:Int) w=_;unfold wV DA;rw [aC hx,az hx,aS _ hx,aK (by unfold aT; omega)];dsimp only [cond_true];rw [Ta x (ae w.1) (hb.2.2 x (ade hx))];dsimp only [Option.bind_some];cases tY x (ae w.1) <;> cases aw w.2.1 x.2.2.2.2.2.2.2.1 <;> rfl) (fun u=>by
  show wV w.2.2.2.1 (ae w.2.2.2.1) (w.2.2.2.1.length:Int) w=_;unfold wV;rw [au rfl]; rfl)
 rw [fS] at h;refine aeJ h ?_;cases w.2.2.2.1.all (DA (ae w.1) w.2.1) <;> rfl
theorem BK (w:dj) (hb:gF w) (h12:w.2.2.2.1.length<=12):∃ y,Q0 [] w.2.2.2.1 (ae w.2.2.2.1) 0 w=some y/\(bif w.2.2.2.1.all (DA (ae w.1) w.2.1) && (mw w.2.2.1 w.2.2.2.1 []).isSome then (∃ o,y= .inl (o,w.2.2.2.1,ae w.2.2.2.1,ae w.2.2.2.1,w,())) else y= .inr (false,()):Prop):=by
 have h:=aF (step:=dQ xM) w.2.2.2.1 (fun i (o:List dn)=>(o,w.2.2.2.1,ae w.2.2.2.1,((i:Nat):Int),w,())) (fun _ x o=>bif DA (ae w.1) w.2.1 x then (match kj w.2.2.1 (oa x) o with | some o'=>Sum.inl o' | none=> .inr (.inr (false,()))) else .inr (.inr (false,()))) (fun o=> .inl (o,w.2.2.2.1,ae w.2.2.2.1,ae w.2.2.2.1,w,())) (fun i o=>o.length<=3 * i) (a0:=[]) (ac7 _) (fun i x o hx ho=>by
  have hlt:=ai hx;show xM o w.2.2.2.1 (ae w.2.2.2.1) (i:Int) w=_;unfold xM DA;rw [aC hx,az hx,aS _ hx];dsimp only [cond_true];rw [Ua x (ae w.1) (hb.2.2 x (ade hx))];dsimp only [Option.bind_some];cases tY x (ae w.1) with
  | false=>rfl
  | true =>
  cases aw w.2.1 x.2.2.2.2.2.2.2.1 with
  | true=>rfl
  | false =>
    dsimp only [Bool.not_true,Bool.not_false,cond_false,cond_true];refine (bn (abN w.2.2.1 o w.2.2.2.1 (ae w.2.2.2.1) (i:Int) (oa x) w rfl (ac7 _) (by omega))).trans ?_;cases kj w.2.2.1 (oa x) o with
    | none=>rfl
    | some o' =>
      dsimp only [Option.bind_some,Sum.elim_inl];rw [aK (by unfold aT; omega)] <;> rfl) (fun i x o o' hx ho hf=>by
  cases hk:DA (ae w.1) w.2.1 x with
  | false=>rw [hk] at hf; cases hf
  | true =>
    rw [hk] at hf;cases hs:kj w.2.2.1 (oa x) o with
    | none=>rw [hs] at hf; cases hf
    | some o2 =>
      rw [hs] at hf;cases hf;have:=qE w.2.2.1 _ _ _ hs;have e:(oa x).length=3:=rfl;omega) (fun o ho=>by
  show xM o w.2.2.2.1 (ae w.2.2.2.1) (w.2.2.2.1.length:Int) w=_;unfold xM;rw [au rfl]; rfl)
 exact ⟨_,h,FI (Y:=Sum (List dn×List cK×Int×Int×dj×Unit) (Bool×Unit)) (ae w.1) w.2.1 w.2.2.1 (.inr (false,())) (fun y=>∃ o,y= .inl (o,w.2.2.2.1,ae w.2.2.2.1,ae w.2.2.2.1,w,())) _ (fun o=>⟨o,rfl⟩) w.2.2.2.1 0 []⟩
def ig (o k:Int) (i:Nat) (t:cK):Bool:=Jg (G9 t k) (aq o (i:Int))
def ft (ts:List cK) (k:Nat) (s:ep):Bool:=cond (bL (ae ts) s.1) false (allI (ig s.1 (k:Int)) 0 ts)
theorem UT (w:dj) (hb:gF w) (k t62:Int) (l:List ep) (s:ep):Qh k l t62 k w.2.2.2.1 (ae w.2.2.2.1) 0 w s=some (bif allI (ig s.1 k) 0 w.2.2.2.1 then .inl (k,l,t62,k,w.2.2.2.1,ae w.2.2.2.1,ae w.2.2.2.1,w,s,()) else .inr (false,())):=by
 have hl:=hb.2.1;have h:=aI (step:=DD yn) w.2.2.2.1 (fun i (_:Unit)=>(k,l,t62,k,w.2.2.2.1,ae w.2.2.2.1,((i:Nat):Int),w,s,())) (fun i x _=>bif ig s.1 k i x then Sum.inl () else .inr (.inr (false,()))) (fun _=> .inl (k,l,t62,k,w.2.2.2.1,ae w.2.2.2.1,ae w.2.2.2.1,w,s,())) (a0:=()) (fun i x u hx=>by
  have hlt:=ai hx;show yn k l t62 k w.2.2.2.1 (ae w.2.2.2.1) (i:Int) w s=_;unfold yn ig;rw [aC hx,az hx,aS _ hx,aK (by unfold aT; omega),UQ x k (hb.2.2 x (ade hx))];dsimp only [cond_true,Option.bind_some];cases Jg (G9 x k) (aq s.1 (i:Int)) <;> rfl) (fun u=>by
  show yn k l t62 k w.2.2.2.1 (ae w.2.2.2.1) (w.2.2.2.1.length:Int) w s=_;unfold yn;rw [au rfl]; rfl)
 rw [cT] at h;refine aeJ h ?_;cases allI (ig s.1 k) 0 w.2.2.2.1 <;> rfl
theorem XT (w:dj) (hb:gF w) (k t62:Int) (l:List ep) (s:ep):Qn k l t62 k w.2.2.2.1 (ae w.2.2.2.1) 0 w s=some (bif allI (ig s.1 k) 0 w.2.2.2.1 then .inl (k,l,t62,k,w.2.2.2.1,ae w.2.2.2.1,ae w.2.2.2.1,w,s,()) else .inr (false,())):=by
 have hl:=hb.2.1;have h:=aI (step:=DD yh) w.2.2.2.1 (fun i (_:Unit)=>(k,l,t62,k,w.2.2.2.1,ae w.2.2.2.1,((i:Nat):Int),w,s,())) (fun i x _=>bif ig s.1 k i x then Sum.inl () else .inr (.inr (false,()))) (fun _=> .inl (k,l,t62,k,w.2.2.2.1,ae w.2.2.2.1,ae w.2.2.2.1,w,s,())) (a0:=()) (fun i x u hx=>by
  have hlt:=ai hx;show yh k l t62 k w.2.2.2.1 (ae w.2.2.2.1) (i:Int) w s=_;unfold yh ig;rw [aC hx,az hx,aS _ hx,aK (by unfold aT; omega),VU x k (hb.2.2 x (ade hx))];dsimp only [cond_true,Option.bind_some];cases Jg (G9 x k) (aq s.1 (i:Int)) <;> rfl) (fun u=>by
  show yh k l t62 k w.2.2.2.1 (ae w.2.2.2.1) (w.2.2.2.1.length:Int) w s=_;unfold yh;rw [au rfl]; rfl)
 rw [cT] at h;refine aeJ h ?_;cases allI (ig s.1 k) 0 w.2.2.2.1 <;> rfl
theorem Ub (w:dj) (hb:gF w):P6 w.1 (ae w.1) 0 w=some (bif allI (ft w.2.2.2.1) 0 w.1 then .inl (w.1,ae w.1,ae w.1,w,()) else .inr (false,())):=by
 have hl:=hb.1.1;have h:=aI (step:=cV vW) w.1 (fun i (_:Unit)=>(w.1,ae w.1,((i:Nat):Int),w,())) (fun i x _=>bif ft w.2.2.2.1 i x then Sum.inl () else .inr (.inr (false,()))) (fun _=> .inl (w.1,ae w.1,ae w.1,w,())) (a0:=()) (fun i x u hx=>by
  have hlt:=ai hx;show vW w.1 (ae w.1) (i:Int) w=_;unfold vW ft;rw [aC hx,az hx,aS _ hx];dsimp only [cond_true];cases bL (ae w.2.2.2.1) x.1 with
  | true=>rfl
  | false =>
    dsimp only [cond_false];rw [UT w hb (i:Int) (ae w.1) w.1 x];cases allI (ig x.1 (i:Int)) 0 w.2.2.2.1 with
    | false=>rfl
    | true =>
      dsimp only [cond_true,Option.bind_some,Sum.elim_inl];rw [aK (by unfold aT; omega)] <;> rfl) (fun u=>by
  show vW w.1 (ae w.1) (w.1.length:Int) w=_;unfold vW;rw [au rfl]; rfl)
 rw [cT] at h;refine aeJ h ?_;cases allI (ft w.2.2.2.1) 0 w.1 <;> rfl
theorem Sx (w:dj) (hb:gF w):Qi w.1 (ae w.1) 0 w=some (bif allI (ft w.2.2.2.1) 0 w.1 then .inl (w.1,ae w.1,ae w.1,w,()) else .inr (false,())):=by
 have hl:=hb.1.1;have h:=aI (step:=cV wb) w.1 (fun i (_:Unit)=>(w.1,ae w.1,((i:Nat):Int),w,())) (fun i x _=>bif ft w.2.2.2.1 i x then Sum.inl () else .inr (.inr (false,()))) (fun _=> .inl (w.1,ae w.1,ae w.1,w,())) (a0:=()) (fun i x u hx=>by
  have hlt:=ai hx;show wb w.1 (ae w.1) (i:Int) w=_;unfold wb ft;rw [aC hx,az hx,aS _ hx];dsimp only [cond_true];cases bL (ae w.2.2.2.1) x.1 with
  | true=>rfl
  | false =>
    dsimp only [cond_false];rw [XT w hb (i:Int) (ae w.1) w.1 x];cases allI (ig x.1 (i:Int)) 0 w.2.2.2.1 with
    | false=>rfl
    | true =>
      dsimp only [cond_true,Option.bind_some,Sum.elim_inl];rw [aK (by unfold aT; omega)] <;> rfl) (fun u=>by
  show wb w.1 (ae w.1) (w.1.length:Int) w=_;unfold wb;rw [au rfl]; rfl)
 rw [cT] at h;refine aeJ h ?_;cases allI (ft w.2.2.2.1) 0 w.1 <;> rfl
noncomputable def je (w:dj):Bool:=cond (Ew w.1) (cond (ed w.2.1) (cond (cond (!ed w.2.2.1) true (aw 12 (ae w.2.2.2.1))) false (cond (w.2.2.2.1.all (DA (ae w.1) w.2.1) && (mw w.2.2.1 w.2.2.2.1 []).isSome) (allI (ft w.2.2.2.1) 0 w.1) false)) false) false
theorem XV (w:dj) (hb:gF w):YF w=some ((),((je w,()),())):=by
 unfold YF je;rw [VD w.1 hb.1,ni,ni];dsimp only [Option.bind_some];cases Ew w.1 with
 | false=>rfl
 | true =>
 cases ed w.2.1 with
 | false=>rfl
 | true =>
 cases ed w.2.2.1 with
 | false=>rfl
 | true =>
 cases h12:aw 12 (ae w.2.2.2.1) with
 | true=>rfl
 | false =>
 have hl:w.2.2.2.1.length<=12:=by have:=of_decide_eq_false h12;unfold ae at this;omega
 dsimp only [Bool.not_true,cond_false,cond_true];rw [U2 w.2.2.1 w.2.2.2.1 hl];dsimp only [Option.bind_some];cases (mw w.2.2.1 w.2.2.2.1 []).isSome with
 | false=>rw [Bool.and_false]; rfl
 | true =>
 show Option.bind (KL w.2.2.2.1 (ae w.2.2.2.1) 0 w) _=_;rw [CV w hb,Bool.and_true];cases w.2.2.2.1.all (DA (ae w.1) w.2.1) with
 | false=>rfl
 | true =>
 dsimp only [cond_true,Option.bind_some,Sum.elim_inl];rw [Ub w hb];cases allI (ft w.2.2.2.1) 0 w.1 <;> rfl
theorem X9 (w:dj) (hb:gF w):YO w=some ((),((je w,()),())):=by
 unfold YO je;rw [Yu w.1 hb.1,mZ,mZ];dsimp only [Option.bind_some];cases Ew w.1 with
 | false=>rfl
 | true =>
 cases ed w.2.1 with
 | false=>rfl
 | true =>
 cases ed w.2.2.1 with
 | false=>rfl
 | true =>
 cases h12:aw 12 (ae w.2.2.2.1) with
 | true=>rfl
 | false =>
 have hl:w.2.2.2.1.length<=12:=by have:=of_decide_eq_false h12;unfold ae at this;omega
 dsimp only [Bool.not_true,cond_false,cond_true];obtain ⟨y,h1,h2⟩:=BK w hb hl;rw [h1];dsimp only [Option.bind_some];cases hc:w.2.2.2.1.all (DA (ae w.1) w.2.1) && (mw w.2.2.1 w.2.2.2.1 []).isSome with
 | false => rw [hc] at h2;have h2:y= .inr (false,()):=h2;rw [h2]; rfl
 | true => rw [hc] at h2;obtain ⟨o,rfl⟩:=h2;dsimp only [cond_true,Sum.elim_inl];rw [Sx w hb];cases allI (ft w.2.2.2.1) 0 w.1 <;> rfl
theorem KJ (xs:List aL) (hb:uh xs):Po (xs,())=some ((),((xs,()),())):=by
 have hbig:aT=140737488355328:=rfl;have hs:=hb.1;unfold Po;have h:=aF (step:=dQ oW) xs (fun i (a:List aL)=>(xs,ae xs,((i:Nat):Int),([],()),(a,()),())) (fun _ x a=>Sum.inl (a ++ [x])) (fun a=> .inl (xs,ae xs,(xs.length:Int),([],()),(a,()),())) (fun i a=>a.length=i) (a0:=[]) rfl (fun i x a hx ha=>by
  have hlt:=ai hx;have hm:=hb.2 x (ade hx);show oW xs (ae xs) (i:Int) ([],()) (a,())=_;unfold oW;have e:∀ y:aL,bT 160 a [y]=true:=fun y=>adn (by simp; omega)
  have e0:gt d59 xs (i:Int)=x:=aS _ hx;rw [aC hx,az hx,e0];dsimp only [cond_true];rw [vD x hm];dsimp only [Option.bind_some];rw [e,aK (by omega)];rfl) (fun i x a a' hx ha hf=>by
  simp only [ads] at hf;rw [<- hf,ac4,ha]; rfl) (fun a ha=>by
  show oW xs (ae xs) (xs.length:Int) ([],()) (a,())=_;unfold oW;rw [au rfl]; rfl)
 rw [gf] at h;have h':LJ xs (ae xs) 0 ([],()) ([],())=_:=h;rw [h']; rfl
theorem Fg {l:List ep} (hB:pj l) {j:Nat} {s:ep} (hx:l[j]? = some s):s.2.1.length<=1048576/\∀ a∈s.2.1,jq a:=by have e1:=nG hx;have e2:=uT l (j + 1);have e3:=hB.2.1;rw [e1,ac4] at e2;exact ⟨by omega,hB.2.2 s (ade hx)⟩
theorem NH (l:List ep) (hB:pj l):YN l=some ((),((l,()),())):=by
 have hbig:aT=140737488355328:=rfl;have hl:=hB.1;have h:=aF (step:=cV xU) l (fun i (a:List ep)=>(a,l,ae l,((i:Nat):Int),())) (fun _ x a=>Sum.inl (a ++ [x])) (fun a=> .inl (a,l,ae l,(l.length:Int),())) (fun i a=>a.length=i) (a0:=[]) rfl (fun i x a hx ha=>by
  have hlt:=ai hx;obtain ⟨s1,s2⟩:=Fg hB hx;show xU a l (ae l) (i:Int)=_;unfold xU;have e:∀ y:ep,bT 32 a [y]=true:=fun y=>adn (by simp; omega)
  rw [aC hx,az hx,aS _ hx];dsimp only [cond_true];rw [Dr x.2.1 s2 s1,aK (by omega)];dsimp only [Option.bind_some];rw [e]; rfl) (fun i x a a' hx ha hf=>by
  simp only [ads] at hf;rw [<- hf,ac4,ha]; rfl) (fun a ha=>by
  show xU a l (ae l) (l.length:Int)=_;unfold xU;rw [au rfl]; rfl)
 rw [gf] at h;have h':Q7 [] l (ae l) 0=_:=h;unfold YN;rw [h']; rfl
theorem MT (l:List ep) (hB:pj l):YH l=some ((),((l,()),())):=by
 have hbig:aT=140737488355328:=rfl;have hl:=hB.1;have h:=aF (step:=cV yg) l (fun i (a:List ep)=>(a,l,ae l,((i:Nat):Int),())) (fun _ x a=>Sum.inl (a ++ [x])) (fun a=> .inl (a,l,ae l,(l.length:Int),())) (fun i a=>a.length=i) (a0:=[]) rfl (fun i x a hx ha=>by
  have hlt:=ai hx;obtain ⟨s1,s2⟩:=Fg hB hx;show yg a l (ae l) (i:Int)=_;unfold yg;have e:∀ y:ep,bT 32 a [y]=true:=fun y=>adn (by simp; omega)
  rw [aC hx,az hx,aS _ hx];dsimp only [cond_true];rw [KJ x.2.1 ⟨s1,s2⟩,aK (by omega)];dsimp only [Option.bind_some];rw [e]; rfl) (fun i x a a' hx ha hf=>by
  simp only [ads] at hf;rw [<- hf,ac4,ha]; rfl) (fun a ha=>by
  show yg a l (ae l) (l.length:Int)=_;unfold yg;rw [au rfl]; rfl)
 rw [gf] at h;have h':Q3 [] l (ae l) 0=_:=h;unfold YH;rw [h']; rfl
theorem Kk (t:cK) (hb:my t):YT t=some ((),(t,())):=by have hbig:aT=140737488355328:=rfl;have h1:=hb.1.1;have h2:=hb.2.1;have h3:=hb.2.2;unfold YT;rw [dL (by omega),dL (by omega),dL (by omega)]; rfl
theorem I0 (t:cK) (hb:my t):YP t=some ((),(t,())):=by have hbig:aT=140737488355328:=rfl;have h1:=hb.1.1;have h2:=hb.2.1;have h3:=hb.2.2;unfold YP P4 Ds;rw [dL (by omega),dL (by omega),dL (by omega)]; rfl
theorem G2 (w:dj) (hb:gF w):YM w=some ((),(w,())):=by
 have hbig:aT=140737488355328:=rfl;have hl:=hb.2.1;have h:=aF (step:=dQ xb) w.2.2.2.1 (fun i (a:List cK)=>(w.2.2.2.1,ae w.2.2.2.1,((i:Nat):Int),([],0,0,[],()),(w.1,w.2.1,w.2.2.1,a,()),())) (fun _ x a=>Sum.inl (a ++ [x])) (fun a=> .inl (w.2.2.2.1,ae w.2.2.2.1,(w.2.2.2.1.length:Int),([],0,0,[],()),(w.1,w.2.1,w.2.2.1,a,()),())) (fun i a=>a.length=i) (a0:=[]) rfl (fun i x a hx ha=>by
  have hlt:=ai hx;show xb w.2.2.2.1 (ae w.2.2.2.1) (i:Int) ([],0,0,[],()) (w.1,w.2.1,w.2.2.1,a,())=_;unfold xb;have e:∀ y:cK,bT 120 a [y]=true:=fun y=>adn (by simp; omega)
  rw [aC hx,az hx,aS _ hx];dsimp only [cond_true];rw [I0 x (hb.2.2 x (ade hx)),aK (by omega)];dsimp only [Option.bind_some];rw [e]; rfl) (fun i x a a' hx ha hf=>by
  simp only [ads] at hf;rw [<- hf,ac4,ha]; rfl) (fun a ha=>by
  show xb w.2.2.2.1 (ae w.2.2.2.1) (w.2.2.2.1.length:Int) ([],0,0,[],()) (w.1,w.2.1,w.2.2.1,a,())=_;unfold xb;rw [au rfl]; rfl)
 rw [gf] at h;have h':QI w.2.2.2.1 (ae w.2.2.2.1) 0 ([],0,0,[],()) (w.1,w.2.1,w.2.2.1,[],())=_:=h;unfold YM;rw [NH w.1 hb.1];dsimp only [Option.bind_some];rw [h']; rfl
theorem Io (w:dj) (hb:gF w):Zg w=some ((),(w,())):=by
 have hbig:aT=140737488355328:=rfl;have hl:=hb.2.1;have h:=aF (step:=dQ wa) w.2.2.2.1 (fun i (a:List cK)=>(w.2.2.2.1,ae w.2.2.2.1,((i:Nat):Int),([],0,0,[],()),(w.1,w.2.1,w.2.2.1,a,()),())) (fun _ x a=>Sum.inl (a ++ [x])) (fun a=> .inl (w.2.2.2.1,ae w.2.2.2.1,(w.2.2.2.1.length:Int),([],0,0,[],()),(w.1,w.2.1,w.2.2.1,a,()),())) (fun i a=>a.length=i) (a0:=[]) rfl (fun i x a hx ha=>by
  have hlt:=ai hx;show wa w.2.2.2.1 (ae w.2.2.2.1) (i:Int) ([],0,0,[],()) (w.1,w.2.1,w.2.2.1,a,())=_;unfold wa;have e:∀ y:cK,bT 120 a [y]=true:=fun y=>adn (by simp; omega)
  rw [aC hx,az hx,aS _ hx];dsimp only [cond_true];rw [Kk x (hb.2.2 x (ade hx)),aK (by omega)];dsimp only [Option.bind_some];rw [e]; rfl) (fun i x a a' hx ha hf=>by
  simp only [ads] at hf;rw [<- hf,ac4,ha]; rfl) (fun a ha=>by
  show wa w.2.2.2.1 (ae w.2.2.2.1) (w.2.2.2.1.length:Int) ([],0,0,[],()) (w.1,w.2.1,w.2.2.1,a,())=_;unfold wa;rw [au rfl]; rfl)
 rw [gf] at h;have h':PH w.2.2.2.1 (ae w.2.2.2.1) 0 ([],0,0,[],()) (w.1,w.2.1,w.2.2.1,[],())=_:=h;unfold Zg;rw [MT w.1 hb.1];dsimp only [Option.bind_some];rw [h']; rfl
def Dc:dj:=([],0,0,[],())
abbrev kr:=Int×List aL×Unit
def sp (n:Nat) (m:Int) (b:List aL):List kr:=(List.range n).map fun (k:Nat)=>((-1:Int),b.filter (fun a=>aq (ax a.1 m) (k:Int)),())
def iM (b:List aL) (n:Int):List kr:=cond (qM b) (cond (dC n 1 5) (sp n.toNat n b) []) []
theorem zZ {α β Y:Type} (F:α->β) (z:List β->Y):∀ (xs:List α) (i:Nat) (d:List β),iv (fun _ x (a:List β)=>Sum.inl (a ++ [F x])) z i xs d=z (d ++ xs.map F)
 | [],_,d=>by simp [iv]
 | x :: r,i,d=>by rw [iv]; simp only; rw [zZ F z r (i + 1)]; simp
theorem rj {α Y:Type} (z:Unit->Y):∀ (xs:List α) (i:Nat),iv (fun _ _ (_:Unit)=>Sum.inl ()) z i xs ()=z ()
 | [],_=>rfl
 | x :: r,i=>by rw [iv]; exact rj z r (i + 1)
theorem M9 (b:List aL) (n:Int) (out:List kr) (k:Int) (hb:uh b):Qf n out k b (ae b) 0 (b,()) ((-1),[],())=some (.inl (n,out,k,b,ae b,(b.length:Int),(b,()),((-1),b.filter (fun a=>aq (ax a.1 n) k),()),())):=by
 have hbig:aT=140737488355328:=rfl;have hl:=hb.1
 have h:=aF (step:=xx wN) b
  (fun i (a:List aL)=>(n,out,k,b,ae b,((i:Nat):Int),(b,()),((-1),a,()),())) (fun _ x a=>Sum.inl (bif aq (ax x.1 n) k then a ++ [x] else a)) (fun a=> .inl (n,out,k,b,ae b,(b.length:Int),(b,()),((-1),a,()),())) (fun i a=>a.length<=i) (a0:=[]) (ac7 _) (fun i x a hx ha=>by
    have hlt:=ai hx;have hx':=hb.2 x (ade hx);show wN n out k b (ae b) (i:Int) (b,()) ((-1),a,())=_;unfold wN;have e:∀ y:aL,bT 160 a [y]=true:=fun y=>adn (by simp; omega)
    rw [aC hx,az hx,aS _ hx];dsimp only [cond_true];rw [nh x.1 n (cE hx'.1),vD x hx',aK (by omega)];dsimp only [Option.bind_some];rw [e];cases aq (ax x.1 n) k <;> rfl) (fun i x a a' hx ha hf=>by
    simp only [ads] at hf;rw [<- hf];cases aq (ax x.1 n) k with
    | true=>simp; omega
    | false=>simp; omega) (fun a ha=>by
    show wN n out k b (ae b) (b.length:Int) (b,()) ((-1),a,())=_;unfold wN;rw [au rfl]; rfl)
 rw [vJ] at h;exact h
theorem zO {n i x:Nat} (h:(List.range n)[i]? = some x):x=i/\i < n:=by have:=ai h;rw [afH] at this;rw [afW this] at h;exact ⟨(aeb h).symm,this⟩
theorem K2 (b:List aL) (n:Int) (hb:uh b):Ze (b,()) n=some ((),((iM b n,()),())):=by
 have hbig:aT=140737488355328:=rfl;unfold Ze iM;rw [IJ b hb,kU];dsimp only [Option.bind_some];cases qM b with
 | false=>rfl
 | true =>
 cases hn:dC n 1 5 with
 | false=>rfl
 | true =>
 obtain ⟨n1,n2⟩:=fb.1 hn;obtain ⟨m,rfl⟩:=afl (show 0<=n by omega);dsimp only [cond_true,cond_false,Bool.not_true]
 have h:=aF (step:=cV xF) (List.range m)
  (fun i (a:List kr)=>((m:Int),a,((i:Nat):Int),(b,()),())) (fun _ (x:Nat) a=>Sum.inl (a ++ [((-1:Int),b.filter (fun c=>aq (ax c.1 (m:Int)) (x:Int)),())])) (fun a=> .inl ((m:Int),a,(m:Int),(b,()),())) (fun i a=>a.length<=i) (a0:=[]) (ac7 _) (fun i x a hx ha=>by
    obtain ⟨rfl,hlt⟩:=zO hx;show xF (m:Int) a (x:Int) (b,())=_;unfold xF;have e:∀ y:kr,bT 32 a [y]=true:=fun y=>adn (by simp; omega)
    rw [aJ (by omega)];dsimp only [cond_true];rw [M9 b _ a _ hb];dsimp only [Option.bind_some,Sum.elim_inl];rw [e,aK (by omega)];rfl) (fun i x a a' hx ha hf=>by
    simp only [ads] at hf;rw [<- hf]; simp; omega) (fun a ha=>by
    show xF (m:Int) a ((List.range m).length:Int) (b,())=_;unfold xF;rw [afH,ay (by omega)]; rfl)
 rw [zZ] at h;have h':PU (m:Int) [] 0 (b,())=_:=h;rw [h'];rfl
theorem Ai (n:Nat) (m:Int) (b:List aL):(sp n m b).length=n:=by simp [sp]
theorem DH {n:Nat} {m:Int} {b:List aL} {k:Nat} (h:k < n):(sp n m b)[k]? = some ((-1:Int),b.filter (fun a=>aq (ax a.1 m) (k:Int)),()):=by unfold sp;rw [adY,afW h];rfl
theorem Oe {n:Nat} {m:Int} {b:List aL} {x:aL} {k:Nat} (hk:k < n) (hx:ax x.1 m=(k:Int)):(sp n m b).set k ((-1:Int),b.filter (fun a=>aq (ax a.1 m) (k:Int)) ++ [x],())=sp n m (b ++ [x]):=by
 apply afG;intro j;rw [ae5,Ai];by_cases hj:j < n
 . rw [DH hj,DH hj,afD];by_cases e:k=j
   . subst e;rw [if_pos rfl,if_pos hk];have:aq (ax x.1 m) (k:Int)=true:=by rw [e8]; exact hx
     simp [this]
   . rw [if_neg e];have:aq (ax x.1 m) (j:Int)=false:=by
      rw [aeO]; intro hh; rw [e8] at hh; omega
     simp [this]
 . have h1:(sp n m b)[j]? = none:=adp (by rw [Ai]; omega);have h2:(sp n m (b ++ [x]))[j]? = none:=adp (by rw [Ai]; omega);rw [h1,h2,if_neg (by omega)]
theorem T2 (b:List aL) (m:Nat) (h1:1<=m) (h2:m<=5) (hb:uh b):Dq (m:Int) (sp m m []) b (ae b) 0=some (.inl ((m:Int),sp m m b,b,ae b,(b.length:Int),())):=by
 have hbig:aT=140737488355328:=rfl;have hl:=hb.1
 have h:=aF (step:=dQ tW) b
  (fun i (_:Unit)=>((m:Int),sp m m (b.take i),b,ae b,((i:Nat):Int),())) (fun _ _ _=>Sum.inl ()) (fun _=> .inl ((m:Int),sp m m b,b,ae b,(b.length:Int),())) (fun _ _=>True) (a0:=()) trivial (fun i x a hx ha=>by
    have hlt:=ai hx;have hx':=hb.2 x (ade hx);obtain ⟨s0,s1⟩:=HY x.1 (n:=(m:Int)) (by omega);obtain ⟨k,hk⟩:=afl s0;have hk':ax x.1 (m:Int)=(k:Int):=hk;have hkm:k < m:=by omega
    have hget:=DH (m:=(m:Int)) (b:=b.take i) hkm;have hin:aR (k:Int) (sp m m (b.take i))=true:=az hget;have hat:yT (k:Int) (sp m m (b.take i)) (k:Int)=true:=by unfold yT om;rw [show ko (k:Int) (sp m m (b.take i)).length=true from hin,afj];rfl
    have hf:bT 160 ((b.take i).filter (fun a=>aq (ax a.1 (m:Int)) (k:Int))) [x]=true:=by
     refine adn ?_;have:=aeW (fun a=>aq (ax a.1 (m:Int)) (k:Int)) (b.take i);have h3:(b.take i).length<=b.length:=by rw [adJ]; omega
     simp only [List.length_singleton];omega
    have hs:=Oe (b:=b.take i) hkm hk';have ht:b.take (i + 1)=b.take i ++ [x]:=by rw [afv,hx]; rfl
    show tW (m:Int) (sp m m (b.take i)) b (ae b) (i:Int)=_;unfold tW;rw [aC hx,az hx,aS _ hx];dsimp only [cond_true];rw [vn x.1 _ (cE hx'.1),BI x hx',aK (by omega)];dsimp only [Option.bind_some];rw [hk',hin,aS _ hget];dsimp only [cond_true];rw [hf,hat];dsimp only [cond_true];have e:jh (sp m m (b.take i)) (k:Int) ((-1:Int),jn ((b.take i).filter (fun a=>aq (ax a.1 (m:Int)) (k:Int))) [x],())=sp m m (b.take (i + 1)):=by rw [ht]; exact hs
    rw [e]) (fun _ _ _ _ _ _ _=>trivial) (fun a ha=>by
    show tW (m:Int) (sp m m (b.take b.length)) b (ae b) (b.length:Int)=_;unfold tW;rw [au rfl,aeT]; rfl)
 rw [rj] at h;exact h
theorem NV (b:List aL) (m:Nat) (h2:m<=5):zw (m:Int) [] (m:Int) 0 (b,())=some (.inl ((m:Int),sp m m [],(m:Int),(m:Int),(b,()),())):=by
 have hbig:aT=140737488355328:=rfl
 have h:=aF (step:=dQ ug) (List.range m)
  (fun i (a:List kr)=>((m:Int),a,(m:Int),((i:Nat):Int),(b,()),())) (fun _ (x:Nat) a=>Sum.inl (a ++ [((-1:Int),[],())])) (fun a=> .inl ((m:Int),a,(m:Int),(m:Int),(b,()),())) (fun i a=>a.length<=i) (a0:=[]) (ac7 _) (fun i x a hx ha=>by
    obtain ⟨rfl,hlt⟩:=zO hx;show ug (m:Int) a (m:Int) (x:Int) (b,())=_;unfold ug;have e:∀ y:kr,bT 32 a [y]=true:=fun y=>adn (by simp; omega)
    rw [aJ (by omega),e,aK (by omega)];rfl) (fun i x a a' hx ha hf=>by
    simp only [ads] at hf;rw [<- hf]; simp; omega) (fun a ha=>by
    show ug (m:Int) a (m:Int) ((List.range m).length:Int) (b,())=_;unfold ug;rw [afH,ay (by omega)]; rfl)
 rw [zZ (fun (_:Nat)=>((-1:Int),([]:List aL),()))] at h;exact h
theorem JZ (b:List aL) (n:Int) (hb:uh b):Xl (b,()) n=some ((),((iM b n,()),())):=by
 unfold Xl iM;rw [LH b hb,ji];dsimp only [Option.bind_some];cases qM b with
 | false=>rfl
 | true =>
 cases hn:dC n 1 5 with
 | false=>rfl
 | true =>
 obtain ⟨n1,n2⟩:=fb.1 hn;obtain ⟨m,rfl⟩:=afl (show 0<=n by omega);dsimp only [cond_true,cond_false,Bool.not_true];have hz:zw (m:Int) [] (m:Int) 0 (b,())=_:=NV b m (by omega);have hf:Dq (m:Int) (sp m m []) b (ae b) 0=_:=T2 b m (by omega) (by omega) hb;show Option.bind (zw (m:Int) [] (m:Int) 0 (b,())) _=_;rw [hz];dsimp only [Option.bind_some,Sum.elim_inl];rw [hf];rfl
def um (w:dj):Bool:=w.2.2.2.1.all fun t=>aq t.2.1 5
theorem Rv (w:dj) (hb:gF w):YR w=some ((),((um w,()),())):=by
 have hbig:aT=140737488355328:=rfl;have hl:=hb.2.1;have h:=aI (step:=dq wO) w.2.2.2.1 (fun i (_:Unit)=>(w.2.2.2.1,ae w.2.2.2.1,((i:Nat):Int),())) (fun _ x _=>bif aq x.2.1 5 then Sum.inl () else .inr (.inr (false,()))) (fun _=> .inl (w.2.2.2.1,ae w.2.2.2.1,(w.2.2.2.1.length:Int),())) (a0:=()) (fun i x u hx=>by
  have hlt:=ai hx;show wO w.2.2.2.1 (ae w.2.2.2.1) (i:Int)=_;unfold wO;rw [aC hx,az hx,aS _ hx,aK (by omega)];dsimp only [cond_true];cases aq x.2.1 5 <;> rfl) (fun u=>by
  show wO w.2.2.2.1 (ae w.2.2.2.1) (w.2.2.2.1.length:Int)=_;unfold wO;rw [au rfl]; rfl)
 rw [fS] at h;unfold YR;refine (bn h).trans ?_;unfold um;cases w.2.2.2.1.all (fun t=>aq t.2.1 5) <;> rfl
theorem Fl {α:Type} (p:α->Bool):∀ l:List α,(!l.any fun x=> !p x)=l.all p
 | []=>rfl
 | x :: l=>by rw [afJ,aef,<- Fl p l];cases p x <;> cases l.any _ <;> rfl
theorem S7 (w:dj) (hb:gF w):Yz w=some ((),((um w,()),())):=by
 have hbig:aT=140737488355328:=rfl;have hl:=hb.2.1;have h:=aI (step:=cV pQ) w.2.2.2.1 (fun i (_:Unit)=>(w.2.2.2.1,(),ae w.2.2.2.1,((i:Nat):Int),())) (fun i x _=>bif !aq x.2.1 5 then Sum.inr (.inr ((i:Int),())) else .inl ()) (fun _=> .inl (w.2.2.2.1,(),ae w.2.2.2.1,(w.2.2.2.1.length:Int),())) (a0:=()) (fun i x u hx=>by
  have hlt:=ai hx;show pQ w.2.2.2.1 () (ae w.2.2.2.1) (i:Int)=_;unfold pQ S3;rw [aC hx,az hx,aS _ hx,aK (by omega)];dsimp only [cond_true];cases aq x.2.1 5 <;> rfl) (fun u=>by
  show pQ w.2.2.2.1 () (ae w.2.2.2.1) (w.2.2.2.1.length:Int)=_;unfold pQ;rw [au rfl]; rfl)
 have hf:=ll (Y:=Sum (List cK×Unit×Int×Int×Unit) (Int×Unit)) (fun (t:cK)=> !aq t.2.1 5) (fun n=> .inr (n,())) (.inl (w.2.2.2.1,(),ae w.2.2.2.1,(w.2.2.2.1.length:Int),())) (fun y=>match y with | .inl _ => -1 | .inr z=>z.1) (fun _=>rfl) rfl w.2.2.2.1 0;have hi:OE w.2.2.2.1=some ((),((gm (fun (t:cK)=> !aq t.2.1 5) 0 w.2.2.2.1,()),())):=by unfold OE;refine (bn h).trans ?_;rw [<- hf];dsimp only [Option.bind_some];cases iv _ _ 0 w.2.2.2.1 () <;> rfl
 unfold Yz Tk um;rw [hi];dsimp only [Option.bind_some];rw [xA,Fl]
def hE (n:Int) (t:cK):cK:=(t.1,t.2.1,mu t.1 n,t.2.2.2.1,t.2.2.2.2.1,t.2.2.2.2.2.1,t.2.2.2.2.2.2.1,t.2.2.2.2.2.2.2.1,t.2.2.2.2.2.2.2.2.1,())
theorem BN {α:Type} (F:α->α) {ts:List α} {i:Nat} {x:α} (h:ts[i]? = some x):((ts.take i).map F ++ ts.drop i)[i]? = some x/\((ts.take i).map F ++ ts.drop i).set i (F x)=(ts.take (i + 1)).map F ++ ts.drop (i + 1):=by
 have hlt:=ai h;have hl:((ts.take i).map F).length=i:=by rw [ae0,adJ]; omega
 have hd:ts.drop i=x :: ts.drop (i + 1):=by rw [afA hlt];rw [adi hlt] at h;rw [aeb h]
 have ht:ts.take (i + 1)=ts.take i ++ [x]:=by rw [afv,h]; rfl
 refine ⟨?_,?_⟩
 . rw [adV (by omega),hl,aeh,hd]; rfl
 . rw [hd,List.set_append_right _ _ (by omega),hl,aeh,ht,afU];simp
theorem Eb (n:Int) (ts:List cK) (s:List ep) (a b:Int) (hl:ts.length<=1048576) (hb:∀ t∈ts,my t):Rm n (ae ts) 0 Dc (s,a,b,ts,())=some (.inl (n,ae ts,(ts.length:Int),Dc,(s,a,b,ts.map (hE n),()),())):=by
 have hbig:aT=140737488355328:=rfl;have h:=aF (step:=dQ wW) ts (fun i (_:Unit)=>(n,ae ts,((i:Nat):Int),Dc,(s,a,b,(ts.take i).map (hE n) ++ ts.drop i,()),())) (fun _ _ _=>Sum.inl ()) (fun _=> .inl (n,ae ts,(ts.length:Int),Dc,(s,a,b,ts.map (hE n),()),())) (fun _ _=>True) (a0:=()) trivial (fun i x u hx _=>by
  have hlt:=ai hx;obtain ⟨p1,p2⟩:=BN (hE n) hx;have hn:=J2 x n (hb x (ade hx));show wW n (ae ts) (i:Int) Dc (s,a,b,(ts.take i).map (hE n) ++ ts.drop i,())=_;unfold wW;dsimp only;rw [aC hx,az p1,aS _ p1,hn,aK (by omega)];dsimp only [cond_true,Option.bind_some];show some (Sum.inl (n,ae ts,((i + 1:Nat):Int),Dc,(s,a,b,((ts.take i).map (hE n) ++ ts.drop i).set i (hE n x),()),()))=_;rw [p2]) (fun _ _ _ _ _ _ _=>trivial) (fun u _=>by
  show wW n (ae ts) (ts.length:Int) Dc (s,a,b,(ts.take ts.length).map (hE n) ++ ts.drop ts.length,())=_;unfold wW;rw [au rfl,aeT,aeI,adE]; rfl)
 rw [rj] at h;exact h
theorem Eg (n:Int) (ts:List cK) (s:List ep) (a b:Int) (hl:ts.length<=1048576) (hb:∀ t∈ts,my t):Rq n (ae ts) 0 Dc (s,a,b,ts,())=some (.inl (n,ae ts,(ts.length:Int),Dc,(s,a,b,ts.map (hE n),()),())):=by
 have hbig:aT=140737488355328:=rfl;have h:=aF (step:=dQ vQ) ts (fun i (_:Unit)=>(n,ae ts,((i:Nat):Int),Dc,(s,a,b,(ts.take i).map (hE n) ++ ts.drop i,()),())) (fun _ _ _=>Sum.inl ()) (fun _=> .inl (n,ae ts,(ts.length:Int),Dc,(s,a,b,ts.map (hE n),()),())) (fun _ _=>True) (a0:=()) trivial (fun i x u hx _=>by
  have hlt:=ai hx;obtain ⟨p1,p2⟩:=BN (hE n) hx;have hn:=JQ x n (hb x (ade hx));show vQ n (ae ts) (i:Int) Dc (s,a,b,(ts.take i).map (hE n) ++ ts.drop i,())=_;unfold vQ;dsimp only;rw [aC hx,az p1,aS _ p1,hn,aK (by omega)];dsimp only [cond_true,Option.bind_some];show some (Sum.inl (n,ae ts,((i + 1:Nat):Int),Dc,(s,a,b,((ts.take i).map (hE n) ++ ts.drop i).set i (hE n x),()),()))=_;rw [p2]) (fun _ _ _ _ _ _ _=>trivial) (fun u _=>by
  show vQ n (ae ts) (ts.length:Int) Dc (s,a,b,(ts.take ts.length).map (hE n) ++ ts.drop ts.length,())=_;unfold vQ;rw [au rfl,aeT,aeI,adE]; rfl)
 rw [rj] at h;exact h
noncomputable def yL (w:dj) (n:Int):dj×Bool :=
 cond (je w) (cond (um w) (cond (dC n 1 5) ((iM (kI w.1) n,w.2.1,w.2.2.1,w.2.2.2.1.map (hE n),()),true) (Dc,false)) (Dc,false)) (Dc,false)
theorem Xu (w:dj) (n:Int) (hb:gF w):g21 w n=some ((),((yL w n).1,((yL w n).2,()),())):=by
 have hg:=(tE hb.1).2.2.2.2.1;unfold g21 yL;rw [XV w hb,Rv w hb,kU,Io w hb,hg];dsimp only [Option.bind_some];rw [K2 _ n (E1 hb.1)];dsimp only [Option.bind_some];cases je w <;> first | rfl | skip
 cases um w <;> first | rfl | skip
 cases dC n 1 5 <;> first | rfl | skip
 exact bn (Eg n w.2.2.2.1 (iM (kI w.1) n) w.2.1 w.2.2.1 hb.2.1 hb.2.2)
theorem Vq (w:dj) (n:Int) (hb:gF w):g22 w n=some ((),((yL w n).1,((yL w n).2,()),())):=by
 have hg:=(tE hb.1).2.2.2.2.2;unfold g22 g34 yL;rw [X9 w hb,S7 w hb,ji,G2 w hb,hg];dsimp only [Option.bind_some];rw [JZ _ n (E1 hb.1)];dsimp only [Option.bind_some];cases je w <;> first | rfl | skip
 cases um w <;> first | rfl | skip
 cases dC n 1 5 <;> first | rfl | skip
 exact bn (Eb n w.2.2.2.1 (iM (kI w.1) n) w.2.1 w.2.2.1 hb.2.1 hb.2.2)
end Go.Av
