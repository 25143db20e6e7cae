/- Part of a proof that the law FnExactWorldShow answers true for every input: the printed functions of this program and their plain laws. No conditions beyond the statement. -/
import Derived.Test.YtbgoaopannojjaaGreatDoorQ3
set_option maxRecDepth 100000
set_option maxHeartbeats 4000000
namespace Go.Av
abbrev nP:=Int×List UInt8×Unit
abbrev cz:=List UInt8×List nP×Unit
def qB (m:cz):Prop:=m.1.length<=1048576/\m.2.1.length<=1048576/\∀ f∈m.2.1,f.2.1.length<=1048576
def fM (xs:List nP) (i:Nat) (x:nP):Bool:=cond (iO x.1 x.2.1) (cond (decide (0 < i)) (!(bz x.1 (gt (0,[],()) xs ((i:Int) - 1)).1)) true) false
def wP (m:cz):Bool:=cond (cond (aV m.1) (ak (ae m.1) 4) false) (allI (fM m.2.1) 0 m.2.1) false
theorem DJ (m:cz) (hb:qB m):Df m.2.1 (ae m.2.1) 0 m=some (bif allI (fM m.2.1) 0 m.2.1 then .inl (m.2.1,ae m.2.1,(m.2.1.length:Int),m,()) else .inr (false,())):=by
 have hbig:aS=140737488355328:=rfl;obtain ⟨mti,xs,u⟩:=m;obtain ⟨_,hl,hf⟩:=hb;dsimp only at hl hf ⊢;have h:=aD (step:=cf ph) xs (fun i (_:Unit)=>(xs,ae xs,((i:Nat):Int),(mti,xs,()),())) (fun i x _=>bif fM xs i x then Sum.inl () else .inr (.inr (false,()))) (fun _=> .inl (xs,ae xs,(xs.length:Int),(mti,xs,()),())) (a0:=()) (fun i x a hx=>by
  have hlt:=aj hx;show ph xs (ae xs) (i:Int) (mti,xs,())=_;unfold ph fM;rw [aC hx,ax hx,aR _ hx];dsimp only [cond_true];rw [TR _ _ (cl (hf x (acg hx))),aL (by omega)];dsimp only [Option.bind_some];cases iO x.1 x.2.1 with
  | false=>rfl
  | true =>
    by_cases h0:0 < i
    . rw [aF (show (0:Int) < i by omega),aO (by omega) (by omega),iw hx h0];dsimp only [cond_true,cond_false,Bool.not_true];have e:gt d175 xs ((i:Int) - 1)=gt (0,[],()) xs ((i:Int) - 1):=rfl;rw [e,ace h0];cases bz x.1 (gt (0,[],()) xs ((i:Int) - 1)).1 <;> rfl
    . rw [ay (show ¬ (0:Int) < i by omega),acD h0]; rfl) (fun a=>by
  show ph xs (ae xs) (xs.length:Int) (mti,xs,())=_;unfold ph;rw [aw rfl]; rfl)
 rw [cJ] at h;have h':Df xs (ae xs) 0 (mti,xs,())=_:=h;rw [h']
theorem VT (m:cz) (hb:qB m):Nj m=some ((),((wP m,()),())):=by
 unfold Nj wP;rw [fJ _ (cl hb.1)];dsimp only [Option.bind_some];cases aV m.1 with
 | false=>rfl
 | true =>
 cases ak (ae m.1) 4 with
 | false=>rfl
 | true => refine (bn (DJ m hb)).trans ?_;show _=some ((),((allI (fM m.2.1) 0 m.2.1,()),()));cases allI (fM m.2.1) 0 m.2.1 <;> rfl
theorem CS (m:cz) (hb:qB m):CW m.2.1 (ae m.2.1) 0 m=some (bif allI (fM m.2.1) 0 m.2.1 then .inl (m.2.1,ae m.2.1,(m.2.1.length:Int),m,()) else .inr (false,())):=by
 have hbig:aS=140737488355328:=rfl;obtain ⟨mti,xs,u⟩:=m;obtain ⟨_,hl,hf⟩:=hb;dsimp only at hl hf ⊢;have h:=aD (step:=cf px) xs (fun i (_:Unit)=>(xs,ae xs,((i:Nat):Int),(mti,xs,()),())) (fun i x _=>bif fM xs i x then Sum.inl () else .inr (.inr (false,()))) (fun _=> .inl (xs,ae xs,(xs.length:Int),(mti,xs,()),())) (a0:=()) (fun i x a hx=>by
  have hlt:=aj hx;show px xs (ae xs) (i:Int) (mti,xs,())=_;unfold px fM;rw [aC hx,ax hx,aR _ hx];dsimp only [cond_true];rw [J4 _ _ (cl (hf x (acg hx))),aL (by omega)];dsimp only [Option.bind_some];cases iO x.1 x.2.1 with
  | false=>rfl
  | true =>
    by_cases h0:0 < i
    . rw [aF (show (0:Int) < i by omega),aO (by omega) (by omega),iw hx h0];dsimp only [cond_true,cond_false,Bool.not_true];have e:gt d175 xs ((i:Int) - 1)=gt (0,[],()) xs ((i:Int) - 1):=rfl;rw [e,ace h0];cases bz x.1 (gt (0,[],()) xs ((i:Int) - 1)).1 <;> rfl
    . rw [ay (show ¬ (0:Int) < i by omega),acD h0]; rfl) (fun a=>by
  show px xs (ae xs) (xs.length:Int) (mti,xs,())=_;unfold px;rw [aw rfl]; rfl)
 rw [cJ] at h;have h':CW xs (ae xs) 0 (mti,xs,())=_:=h;rw [h']
theorem GU (s:List UInt8) (n:Int) (hs:s.length<=aS):wx s n=some ((),((cond (aV s) (ak (ae s) n) false,()),())):=by unfold wx;rw [gD s hs]; rfl
theorem Vd (m:cz) (hb:qB m):Mx m=some ((),((wP m,()),())):=by
 unfold Mx wP;refine (bn (CS m hb)).trans ?_;cases allI (fM m.2.1) 0 m.2.1 with
 | true =>
   show Option.bind (wx m.1 4) _=_;rw [GU m.1 4 (cl hb.1)];dsimp only [Option.bind_some];cases aV m.1 with
   | false=>rfl
   | true=>cases ak (ae m.1) 4 <;> rfl
 | false =>
   cases aV m.1 with
   | false=>rfl
   | true=>cases ak (ae m.1) 4 <;> rfl
def j6 (m:cz) (no:Int):Option (List UInt8):=(m.2.1.find? fun f=>ak f.1 no).map (·.2.1)
def Aa (o:Option (List UInt8)):Option (Unit×((List UInt8×Unit)×(Bool×Unit)×Unit)):=some ((),match o with | some s=>((s,()),(true,()),()) | none=>(([],()),(false,()),()))
theorem tF (m:cz) (no:Int) (hb:qB m):jH m no=Aa (j6 m no):=by
 have hbig:aS=140737488355328:=rfl;have hl:=hb.2.1;unfold jH;have h:=aD (step:=cf oI) m.2.1 (fun i (_:Unit)=>(no,m.2.1,ae m.2.1,((i:Nat):Int),())) (fun i x _=>bif ak x.1 no then .inr (.inr (x.2.1,true,())) else .inl ()) (fun _=> .inl (no,m.2.1,ae m.2.1,(m.2.1.length:Int),())) (a0:=()) (fun i x a hx=>by
  have hlt:=aj hx;show oI no m.2.1 (ae m.2.1) (i:Int)=_;unfold oI;rw [aC hx,ax hx,aR _ hx,aL (by omega)];dsimp only [cond_true];cases ak x.1 no <;> rfl) (fun a=>by
  show oI no m.2.1 (ae m.2.1) (m.2.1.length:Int)=_;unfold oI;rw [aw rfl]; rfl)
 rw [mL] at h;have h':JN no m.2.1 (ae m.2.1) 0=_:=h;refine (bn h').trans ?_;unfold j6 Aa;cases m.2.1.find? _ <;> rfl
theorem HU (m:cz) (no:Int) (hb:qB m):DS m no=Aa (j6 m no):=by
 have hbig:aS=140737488355328:=rfl;have hl:=hb.2.1;unfold DS;have h:=aD (step:=cf oR) m.2.1 (fun i (_:Unit)=>(no,m.2.1,ae m.2.1,((i:Nat):Int),())) (fun i x _=>bif ak x.1 no then .inr (.inr (x.2.1,true,())) else .inl ()) (fun _=> .inl (no,m.2.1,ae m.2.1,(m.2.1.length:Int),())) (a0:=()) (fun i x a hx=>by
  have hlt:=aj hx;show oR no m.2.1 (ae m.2.1) (i:Int)=_;unfold oR;rw [aC hx,ax hx,aR _ hx,aL (by omega)];dsimp only [cond_true];cases ak x.1 no <;> rfl) (fun a=>by
  show oR no m.2.1 (ae m.2.1) (m.2.1.length:Int)=_;unfold oR;rw [aw rfl]; rfl)
 rw [mL] at h;have h':Ja no m.2.1 (ae m.2.1) 0=_:=h;refine (bn h').trans ?_;unfold j6 Aa;cases m.2.1.find? _ <;> rfl
def kC (b:aU):aU->Nat->List nP->Option (List nP×Nat)
 | [],a,o=>some (o,a)
 | x :: r,a,o=>match nu b a x.1 with
   | some (s,e)=>kC b r e (o ++ [(x.1,s,())])
   | none=>none
def iI (l:aU):aU:=l.map fun x=>(aq .i64 x.1 64,())
def uy (x:Int×Unit):Bool:= !(ak (bk x.1) 0)
def eI (l:aU):aU:=l.filter fun x=> !(ak x.1 1)
def fZ (l:aU):Bool:=l.any fun x=>ak x.1 1
def BD (b:aU):Option (aU×Nat) :=
 if 10<=b.length then
  (bif fZ (dK (eC b 2 8)) then
    (if 18<=b.length/\dK (eC b 10 8)≠[] then (bif (eI (dK (eC b 2 8)) ++ iI (dK (eC b 10 8))).all uy then some (eI (dK (eC b 2 8)) ++ iI (dK (eC b 10 8)),18) else none) else none)
  else (bif (eI (dK (eC b 2 8))).all uy then some (eI (dK (eC b 2 8)),10) else none))
 else none
def fy (b:aU):cz×Int:=match iP b 0 4 with
 | none=>(([],[],()),1)
 | some mti=>match BD b with
   | none=>(([],[],()),2)
   | some (nos,a)=>match kC b nos a [] with
     | none=>(([],[],()),3)
     | some (l,e)=>if e=b.length then ((mti,l,()),0) else (([],[],()),4)
def Bz (p:cz×Int):Option (Unit×(cz×(Int×Unit)×Unit)):=some ((),(p.1,(p.2,()),()))
theorem Vq (b:aU) (hb:qx b) (h2:2<=b.length):Kd b=some ((),match BD b with | some p=>((p.1,()),((p.2:Int),()),(true,()),()) | none=>(([],()),(0,()),(false,()),())):=by
 have hbig:aS=140737488355328:=rfl;have hl:=hb.1;unfold Kd BD;have h0:Dv b 2=_:=Jy b 2 hb h2;unfold nD at h0;refine (bn h0).trans ?_;by_cases h10:10<=b.length;rotate_left
 . rw [if_neg h10,if_neg h10]; rfl
 rw [if_pos h10,if_pos h10];have k1:=kT (eC b 2 8);generalize dK (eC b 2 8)=lo at k1 ⊢;have hlow:Ik b 10 [] false lo (ae lo) 0=some (.inl (b,10,eI lo,fZ lo,lo,ae lo,(lo.length:Int),())):=by
  have h:=aP (step:=JA pK) lo (fun i (o:aU×Bool)=>(b,10,o.1,o.2,lo,ae lo,((i:Nat):Int),())) (fun _ x o=>Sum.inl (bif ak x.1 1 then (o.1,true) else (o.1 ++ [x],o.2))) (fun o=> .inl (b,10,o.1,o.2,lo,ae lo,(lo.length:Int),())) (fun i o=>o.1.length<=i) (a0:=([],false)) (acb _) (fun i x o hx ho=>by
   have hlt:=aj hx;show pK b 10 o.1 o.2 lo (ae lo) (i:Int)=_;unfold pK;rw [aC hx,ax hx,aR _ hx,aL (by omega)];have:cO 8 o.1 [x]=true:=acB (by show (o.1.length + 1) * 8<=aS; omega);dsimp only [cond_true];rw [this];cases ak x.1 1 <;> rfl) (fun i x o o' hx ho hf=>by
   simp only [acJ] at hf;rw [<- hf];cases ak x.1 1 with
   | true=>show o.1.length<=_; omega
   | false=>show (o.1 ++ [x]).length<=_; rw [ab7]; show o.1.length + 1<=_; omega) (fun o ho=>by
   show pK b 10 o.1 o.2 lo (ae lo) (lo.length:Int)=_;unfold pK;rw [aw rfl]; rfl)
  have hfold:∀ (l:aU) (o:aU×Bool),l.foldl (fun o x=>bif ak x.1 1 then (o.1,true) else (o.1 ++ [x],o.2)) o=(o.1 ++ eI l,o.2 || fZ l):=fun l=>by
   induction l with
   | nil=>intro o; simp [eI,fZ]
   | cons x r ih => intro o;rw [ade,ih];unfold eI fZ;rw [ad3,aeU];cases ak x.1 1 <;> simp
  rw [bq,hfold] at h;exact h
 have hchk:∀ (nos:aU) (a:Int),nos.length<=1000->DL () a nos (ae nos) 0=some (bif nos.all uy then .inl ((),a,nos,ae nos,(nos.length:Int),()) else .inr ([],0,false,())):=fun nos a hn=>by
  have h:=aD (step:=eS pk) nos (fun i (_:Unit)=>((),a,nos,ae nos,((i:Nat):Int),())) (fun _ x _=>bif uy x then Sum.inl () else .inr (.inr ([],0,false,()))) (fun _=> .inl ((),a,nos,ae nos,(nos.length:Int),())) (a0:=()) (fun i x o hx=>by
   have hlt:=aj hx;show pk () a nos (ae nos) (i:Int)=_;unfold pk;rw [aC hx,ax hx,aR _ hx,aL (by omega),Dq];dsimp only [cond_true,Option.bind_some];unfold uy;cases ak (bk x.1) 0 <;> rfl) (fun o=>by
   show pk () a nos (ae nos) (nos.length:Int)=_;unfold pk;rw [aw rfl]; rfl)
  rw [fL] at h;refine adL h ?_;cases nos.all uy <;> rfl
 have hlen:(eI lo).length<=64:=acv (adI _ _) k1;refine (bn hlow).trans ?_;show cond (fZ lo) _ _=_;cases fZ lo with
 | false => refine (bn (hchk (eI lo) 10 (by omega))).trans ?_;cases (eI lo).all uy <;> rfl
 | true =>
   have h1:Dv b 10=_:=Jy b 10 hb h10;unfold nD at h1;refine (bn h1).trans ?_;by_cases h18:18<=b.length;rotate_left
   . rw [if_neg h18,if_neg (fun h=>h18 h.1)]; rfl
   rw [if_pos h18];have k2:=kT (eC b 10 8);have k3:= @Ib (eC b 10 8);generalize dK (eC b 10 8)=hi at k2 k3 ⊢;by_cases hne:hi=[]
   . rw [if_neg (fun h=>h.2 hne),hne]; rfl
   rw [if_pos ⟨h18,hne⟩];have he:ak (ae hi) 0=false:=beq_eq_false_iff_ne.2 (by
    show (hi.length:Int)≠0;cases hi with
    | nil=>exact absurd rfl hne
    | cons x r=>show ((r.length + 1:Nat):Int)≠0; omega)
   have hhi:JQ (eI lo) 18 hi (ae hi) 0=some (.inl (eI lo ++ iI hi,18,hi,ae hi,(hi.length:Int),())):=by
    have h:=aP (step:=eS oV) hi (fun i (o:aU)=>(o,18,hi,ae hi,((i:Nat):Int),())) (fun _ x o=>Sum.inl (o ++ [(aq .i64 x.1 64,())])) (fun o=> .inl (o,18,hi,ae hi,(hi.length:Int),())) (fun i o=>o.length=(eI lo).length + i) (a0:=eI lo) rfl (fun i x o hx ho=>by
     have hlt:=aj hx;show oV o 18 hi (ae hi) (i:Int)=_;unfold oV;rw [aC hx,ax hx,aR _ hx,aL (by omega)];have:cO 8 o [(aq .i64 x.1 64,())]=true:=acB (by show (o.length + 1) * 8<=aS; omega);rw [this]; rfl) (fun i x o o' hx ho hf=>by
     simp only [acJ] at hf;rw [<- hf,ab7,ho]; rfl) (fun o ho=>by
     show oV o 18 hi (ae hi) (hi.length:Int)=_;unfold oV;rw [aw rfl]; rfl)
    have hfold:∀ (l o:aU),l.foldl (fun o x=>o ++ [(aq .i64 x.1 64,())]) o=o ++ iI l:=fun l=>by
     induction l with
     | nil=>intro o; simp [iI]
     | cons x r ih=>intro o; rw [ade,ih]; simp [iI]
    rw [bq,hfold] at h;exact h
   show cond (cond (!true) true (ak (ae hi) 0)) _ _=_;rw [he];refine (bn hhi).trans ?_;have hla:(eI lo ++ iI hi).length<=1000:=by rw [ab7]; unfold iI; rw [aeb]; omega
   refine (bn (hchk (eI lo ++ iI hi) 18 hla)).trans ?_;cases (eI lo ++ iI hi).all uy <;> rfl
theorem w9 {α A Y:Type} (p:α->Bool) (f:α->A->A) (y:Y) (z:A->Y):∀ (xs:List α) (i:Nat) (a:A),iV (fun _ x a=>bif p x then .inl (f x a) else .inr y) z i xs a=bif xs.all p then z (xs.foldl (fun a x=>f x a) a) else y
 | [],_,_=>rfl
 | x :: r,i,a=>by
   rw [iV,adj,ade];cases hp:p x with
   | true=>simp only [ab9,aem]; exact w9 p f y z r (i + 1) _
   | false=>rfl
def Jq (x:Int×Unit) (o:aU×Bool):aU×Bool:=bif ak x.1 1 then (o.1,true) else (o.1 ++ [x],o.2)
theorem Gc:∀ (l:aU) (o:aU×Bool),l.foldl (fun o x=>Jq x o) o=(o.1 ++ eI l,o.2 || fZ l):=fun l=>by
 induction l with
 | nil=>intro o; simp [eI,fZ]
 | cons x r ih => intro o;rw [ade,ih];unfold Jq eI fZ;rw [ad3,aeU];cases ak x.1 1 <;> simp
def KE (x:Int×Unit):Bool:=ak x.1 1 || uy x
theorem HN (l:aU):l.all KE=(eI l).all uy:=by
 induction l with
 | nil=>rfl
 | cons x r ih => unfold eI at ih ⊢;rw [adj,ad3,ih];unfold KE;cases h:ak x.1 1 <;> simp
theorem K9 {o:aU} {x:Int×Unit} (h:o.length<=1048576):cO 8 o [x]=true:=acB (by show (o.length + 1) * 8<=140737488355328; omega)
theorem Vx (b:aU) (mti:List UInt8) (at':Int) (lo:aU) (hl:lo.length<=64) (m0:cz):JE b mti at' [] false lo (ae lo) 0 m0=some (bif (eI lo).all uy then .inl (b,mti,at',eI lo,fZ lo,lo,ae lo,(lo.length:Int),m0,()) else .inr (2,([],[],()),())):=by
 have h:=aP (step:=D9 nQ) lo (fun i (o:aU×Bool)=>(b,mti,at',o.1,o.2,lo,ae lo,((i:Nat):Int),m0,())) (fun _ x o=>bif KE x then Sum.inl (Jq x o) else .inr (.inr (2,([],[],()),()))) (fun o=> .inl (b,mti,at',o.1,o.2,lo,ae lo,(lo.length:Int),m0,())) (fun i o=>o.1.length<=i) (a0:=([],false)) (acb _) (fun i x o hx ho=>by
  have hlt:=aj hx;show nQ b mti at' o.1 o.2 lo (ae lo) (i:Int) m0=_;unfold nQ;rw [aC hx,ax hx,aR _ hx,aL (by unfold aS; omega)];dsimp only [cond_true];rw [Aw];dsimp only [Option.bind_some];rw [K9 (by omega)];unfold KE Jq uy;cases ak x.1 1 <;> cases ak (bk x.1) 0 <;> rfl) (fun i x o o' hx ho hf=>by
  unfold Jq at hf;cases hk:KE x <;> rw [hk] at hf
  . cases hf
  . cases hf;cases ak x.1 1 with
    | true=>show o.1.length<=_; omega
    | false=>show (o.1 ++ [x]).length<=_; rw [ab7]; show o.1.length + 1<=_; omega) (fun o ho=>by
  show nQ b mti at' o.1 o.2 lo (ae lo) (lo.length:Int) m0=_;unfold nQ;rw [aw rfl]; rfl)
 rw [w9,Gc,HN] at h;refine adL h ?_;cases (eI lo).all uy <;> rfl
theorem Ij (l:aU):(iI l).all uy=l.all fun x=>uy (aq .i64 x.1 64,()):=by unfold iI; rw [List.all_map]; rfl
theorem He:∀ (l o:aU),l.foldl (fun o x=>o ++ [(aq .i64 x.1 64,())]) o=o ++ iI l:=fun l=>by
 induction l with
 | nil=>intro o; simp [iI]
 | cons x r ih=>intro o; rw [ade,ih]; simp [iI]
theorem SK (b:aU) (mti:List UInt8) (at':Int) (o0 hi:aU) (h0:o0.length<=64) (hl:hi.length<=64) (m0:cz):Lq b mti at' o0 hi (ae hi) 0 m0=some (bif (iI hi).all uy then .inl (b,mti,at',o0 ++ iI hi,hi,ae hi,(hi.length:Int),m0,()) else .inr (2,([],[],()),())):=by
 have h:=aP (step:=yF ob) hi (fun i (o:aU)=>(b,mti,at',o,hi,ae hi,((i:Nat):Int),m0,())) (fun _ x o=>bif uy (aq .i64 x.1 64,()) then Sum.inl (o ++ [(aq .i64 x.1 64,())]) else .inr (.inr (2,([],[],()),()))) (fun o=> .inl (b,mti,at',o,hi,ae hi,(hi.length:Int),m0,())) (fun i o=>o.length<=64 + i) (a0:=o0) h0 (fun i x o hx ho=>by
  have hlt:=aj hx;show ob b mti at' o hi (ae hi) (i:Int) m0=_;unfold ob;rw [aC hx,ax hx,aR _ hx,aL (by unfold aS; omega)];dsimp only [cond_true];rw [Aw];dsimp only [Option.bind_some];rw [K9 (by omega)];unfold uy;cases ak (bk (aq .i64 x.1 64)) 0 <;> rfl) (fun i x o o' hx ho hf=>by
  cases hk:uy (aq .i64 x.1 64,()) <;> rw [hk] at hf
  . cases hf
  . cases hf;rw [ab7]; show o.length + 1<=_; omega) (fun o ho=>by
  show ob b mti at' o hi (ae hi) (hi.length:Int) m0=_;unfold ob;rw [aw rfl]; rfl)
 rw [w9,He,<- Ij] at h;refine adL h ?_;cases (iI hi).all uy <;> rfl
def SJ (b:aU) (mti:List UInt8) (m0:cz) (nos:aU) (n:Int):Option (List nP×Nat)->Sum (aU×Int×aU×Int×Int×cz×cz×Unit) (Int×cz×Unit)
 | some (l,e)=> .inl (b,(e:Int),nos,n,n,m0,(mti,l,()),())
 | none=> .inr (3,([],[],()),())
theorem zl (b:aU) (mti:List UInt8) (m0:cz) (ns:aU) (n:Int):∀ (nos:aU) (i a:Nat) (o:List nP),iV (fun _ x (q:Nat×List nP)=>match nu b q.1 x.1 with | some (s,e)=>Sum.inl (e,q.2 ++ [(x.1,s,())]) | none=> .inr (.inr (3,([],[],()),()))) (fun q=> .inl (b,(q.1:Int),ns,n,n,m0,(mti,q.2,()),())) i nos (a,o)=SJ b mti m0 ns n (kC b nos a o)
 | [],_,_,_=>rfl
 | x :: r,i,a,o=>by
   rw [iV,kC];cases nu b a x.1 with
   | none=>rfl
   | some p=>exact zl b mti m0 ns n r (i + 1) p.2 _
theorem OI {o:List nP} {x:nP} (h:o.length<=1048576):cO 24 o [x]=true:=acB (by show (o.length + 1) * 24<=140737488355328; omega)
theorem Q3 (b:aU) (hb:qx b) (a:Nat) (ha:a<=b.length) (nos:aU) (hn:nos.length<=1000) (mti:List UInt8) (m0:cz):JM b (a:Int) nos (ae nos) 0 m0 (mti,[],())=some (SJ b mti m0 nos (ae nos) (kC b nos a [])):=by
 have h:=aP (step:=JA nK) nos (fun i (q:Nat×List nP)=>(b,(q.1:Int),nos,ae nos,((i:Nat):Int),m0,(mti,q.2,()),())) (fun _ x q=>match nu b q.1 x.1 with | some (s,e)=>Sum.inl (e,q.2 ++ [(x.1,s,())]) | none=> .inr (.inr (3,([],[],()),()))) (fun q=> .inl (b,(q.1:Int),nos,ae nos,(nos.length:Int),m0,(mti,q.2,()),())) (fun i q=>q.1<=b.length/\q.2.length<=i) (a0:=(a,[])) ⟨ha,acb _⟩ (fun i x q hx hq=>by
  have hlt:=aj hx;show nK b (q.1:Int) nos (ae nos) (i:Int) m0 (mti,q.2,())=_;unfold nK;rw [aC hx,ax hx,aR _ hx,aL (by unfold aS; omega),Wl b q.1 x.1 hb hq.1];unfold ly;cases nu b q.1 x.1 with
  | none=>rfl
  | some p =>
    dsimp only [cond_true,Option.bind_some,Bool.not_true,cond_false];rw [OI (acv hq.2 (by omega))]; rfl) (fun i x q q' hx hq hf=>by
  cases hg:nu b q.1 x.1 with
  | none=>rw [hg] at hf; cases hf
  | some p =>
    rw [hg] at hf;cases hf;refine ⟨(rW hq.1 hg).2.2,?_⟩;show (q.2 ++ [_]).length<=_;rw [ab7];exact Nat.succ_le_succ hq.2) (fun q hq=>by
  show nK b (q.1:Int) nos (ae nos) (nos.length:Int) m0 (mti,q.2,())=_;unfold nK;rw [aw rfl]; rfl)
 rw [show (fun (q:Nat×List nP)=>(Sum.inl (b,(q.1:Int),nos,ae nos,(nos.length:Int),m0,(mti,q.2,()),()):Sum (aU×Int×aU×Int×Int×cz×cz×Unit) (Int×cz×Unit)))=fun q=> .inl (b,(q.1:Int),nos,ae nos,ae nos,m0,(mti,q.2,()),()) from rfl,zl] at h;exact h
theorem SC (b:aU) (hb:qx b) (a:Nat) (ha:a<=b.length) (nos:aU) (hn:nos.length<=1000) (mti:List UInt8) (m0:cz):zz b (a:Int) nos (ae nos) 0 m0 (mti,[],())=some (SJ b mti m0 nos (ae nos) (kC b nos a [])):=by
 have h:=aP (step:=JA pq) nos (fun i (q:Nat×List nP)=>(b,(q.1:Int),nos,ae nos,((i:Nat):Int),m0,(mti,q.2,()),())) (fun _ x q=>match nu b q.1 x.1 with | some (s,e)=>Sum.inl (e,q.2 ++ [(x.1,s,())]) | none=> .inr (.inr (3,([],[],()),()))) (fun q=> .inl (b,(q.1:Int),nos,ae nos,(nos.length:Int),m0,(mti,q.2,()),())) (fun i q=>q.1<=b.length/\q.2.length<=i) (a0:=(a,[])) ⟨ha,acb _⟩ (fun i x q hx hq=>by
  have hlt:=aj hx;show pq b (q.1:Int) nos (ae nos) (i:Int) m0 (mti,q.2,())=_;unfold pq;rw [aC hx,ax hx,aR _ hx,aL (by unfold aS; omega),Uw b q.1 x.1 hb hq.1];unfold ly;cases nu b q.1 x.1 with
  | none=>rfl
  | some p =>
    dsimp only [cond_true,Option.bind_some,Bool.not_true,cond_false];rw [OI (acv hq.2 (by omega))]; rfl) (fun i x q q' hx hq hf=>by
  cases hg:nu b q.1 x.1 with
  | none=>rw [hg] at hf; cases hf
  | some p =>
    rw [hg] at hf;cases hf;refine ⟨(rW hq.1 hg).2.2,?_⟩;show (q.2 ++ [_]).length<=_;rw [ab7];exact Nat.succ_le_succ hq.2) (fun q hq=>by
  show pq b (q.1:Int) nos (ae nos) (nos.length:Int) m0 (mti,q.2,())=_;unfold pq;rw [aw rfl]; rfl)
 rw [show (fun (q:Nat×List nP)=>(Sum.inl (b,(q.1:Int),nos,ae nos,(nos.length:Int),m0,(mti,q.2,()),()):Sum (aU×Int×aU×Int×Int×cz×cz×Unit) (Int×cz×Unit)))=fun q=> .inl (b,(q.1:Int),nos,ae nos,ae nos,m0,(mti,q.2,()),()) from rfl,zl] at h;exact h
theorem AZ {b:aU} {p:aU×Nat} (h:BD b=some p):p.1.length<=1000/\p.2<=b.length:=by
 have k1:=kT (eC b 2 8);have k2:=kT (eC b 10 8);have k3:(eI (dK (eC b 2 8))).length<=64:=acv (adI _ _) k1;have k4:(iI (dK (eC b 10 8))).length<=64:=by unfold iI; rw [aeb]; exact k2
 unfold BD at h;by_cases h10:10<=b.length;rotate_left
 . rw [if_neg h10] at h; cases h
 rw [if_pos h10] at h;cases hm:fZ (dK (eC b 2 8)) <;> rw [hm] at h
 . cases hk:(eI (dK (eC b 2 8))).all uy <;> rw [hk] at h <;> cases h;exact ⟨by show (eI (dK (eC b 2 8))).length<=_; omega,h10⟩
 . by_cases h18:18<=b.length/\dK (eC b 10 8)≠[]
   . rw [ab9,if_pos h18] at h;cases hk:(eI (dK (eC b 2 8)) ++ iI (dK (eC b 10 8))).all uy <;> rw [hk] at h <;> cases h;refine ⟨?_,h18.1⟩;show (eI (dK (eC b 2 8)) ++ iI (dK (eC b 10 8))).length<=_;rw [ab7]; omega
   . rw [ab9,if_neg h18] at h; cases h
theorem PN (b:aU) (hb:qx b):Js b=Bz (fy b):=by
 unfold Js fy Bz;have h0:xh b 0 4=xP (iP b 0 4) 2:=Fk b 0 4 hb (acS _) (by omega);rw [h0];cases hc:iP b 0 4 with
 | none=>rfl
 | some mti =>
   have h2:2<=b.length:=(dP hc).2.2.2.2;show Option.bind (Kd b) _=_;rw [Vq b hb h2];cases hn:BD b with
   | none=>rfl
   | some p =>
     obtain ⟨n1,n2⟩:=AZ hn;obtain ⟨nos,a⟩:=p;refine (bn (Q3 b hb a n2 nos n1 mti ([],[],()))).trans ?_;dsimp only;cases kC b nos a [] with
     | none=>rfl
     | some q =>
       obtain ⟨l,e⟩:=q;show cond (!(ak (e:Int) (b.length:Int))) _ _=_;dsimp only;by_cases he:e=b.length
       . rw [if_pos he,he,bu]; rfl
       . rw [if_neg he,show ak (e:Int) (b.length:Int)=false from beq_eq_false_iff_ne.2 (by omega)]; rfl
theorem Pb (b:aU) (hb:qx b):Iz b=Bz (fy b):=by
 unfold Iz fy Bz;have h0:zw b 0 4=xP (iP b 0 4) 2:=HE b 0 4 hb (acS _) (by omega);rw [h0];cases hc:iP b 0 4 with
 | none=>rfl
 | some mti =>
   have h2:2<=b.length:=(dP hc).2.2.2.2;have h1:Bg b 2=nD b 2:=H5 b 2 hb h2;show Option.bind (Bg b 2) _=_;rw [h1];unfold nD BD;have k1:=kT (eC b 2 8);generalize hlo:dK (eC b 2 8)=lo at k1 ⊢;have k3:(eI lo).length<=64:=acv (adI _ _) k1;have tail:∀ (nos:aU) (a:Nat),a<=b.length->nos.length<=1000->∀ m0:cz,(Option.bind (zz b (a:Int) nos (ae nos) 0 m0 (mti,[],())) (Sum.elim (fun y6=>cond (!(ak y6.2.1 (ae y6.1))) (some ((),(([],[],()),(4,()),()))) (some ((),(y6.2.2.2.2.2.2.1,(0,()),())))) (fun y6=>some ((),(y6.2.1,(y6.1,()),())))))=some ((),(match kC b nos a [] with | none=>(([],[],()),3) | some (l,e)=>if e=b.length then ((mti,l,()),0) else (([],[],()),4):cz×Int).1,((match kC b nos a [] with | none=>(([],[],()),3) | some (l,e)=>if e=b.length then ((mti,l,()),0) else (([],[],()),4):cz×Int).2,()),()):=fun nos a ha hn m0=>by
    rw [SC b hb a ha nos hn mti m0];cases kC b nos a [] with
    | none=>rfl
    | some q =>
      obtain ⟨l,e⟩:=q;show cond (!(ak (e:Int) (b.length:Int))) _ _=_;dsimp only;by_cases he:e=b.length
      . rw [if_pos he,he,bu]; rfl
      . rw [if_neg he,show ak (e:Int) (b.length:Int)=false from beq_eq_false_iff_ne.2 (by omega)]; rfl
   by_cases h10:10<=b.length;rotate_left
   . rw [if_neg h10,if_neg (show ¬ 2 + 8<=b.length from h10)]; rfl
   rw [if_pos h10,if_pos (show 2 + 8<=b.length from h10)];refine (bn (Vx b mti 10 lo k1 ([],[],()))).trans ?_;cases hk:(eI lo).all uy with
   | false =>
     dsimp only [cond_false];cases fZ lo with
     | false=>rfl
     | true =>
       dsimp only [cond_true];rw [List.all_append,hk];by_cases h18:18<=b.length/\dK (eC b 10 8)≠[]
       . rw [if_pos h18]; rfl
       . rw [if_neg h18]; rfl
   | true =>
     dsimp only [cond_true];show cond (fZ lo) _ _=_;cases fZ lo with
     | false=>exact tail (eI lo) 10 h10 (by omega) _
     | true =>
       dsimp only [cond_true];have h3:Bg b 10=nD b 10:=H5 b 10 hb h10;refine (bn h3).trans ?_;unfold nD;have k2:=kT (eC b 10 8);generalize dK (eC b 10 8)=hi at k2 ⊢;by_cases h18:18<=b.length;rotate_left
       . rw [if_neg (show ¬ 10 + 8<=b.length from h18),if_neg (fun h=>h18 h.1)]; rfl
       rw [if_pos (show 10 + 8<=b.length from h18)];by_cases hne:hi=[]
       . rw [if_neg (fun h=>h.2 hne),hne]; rfl
       rw [if_pos ⟨h18,hne⟩];have he:ak (ae hi) 0=false:=beq_eq_false_iff_ne.2 (by
        show (hi.length:Int)≠0;cases hi with
        | nil=>exact absurd rfl hne
        | cons x r=>show ((r.length + 1:Nat):Int)≠0; omega)
       show cond (cond (!true) true (ak (ae hi) 0)) _ _=_;rw [he];refine (bn (SK b mti 18 (eI lo) hi k3 k2 ([],[],()))).trans ?_;rw [List.all_append,hk];cases (iI hi).all uy with
       | false=>rfl
       | true=>exact tail (eI lo ++ iI hi) 18 h18 (by rw [ab7]; unfold iI; rw [aeb]; omega) _
abbrev j3:=Int×(List UInt8)×(List UInt8)×(List UInt8)×(List UInt8)×(List UInt8)×Int×Int×Unit
theorem vQ (xs:List (Int×Unit)) (v:Int) (hs:xs.length<=1048576):Rr xs v=some ((),((bz 0 (dQ (fun y=>ak v y.1) 0 xs),()),())):=by
 have hbig:aS=140737488355328:=rfl;unfold Rr SP;have h:=aD (step:=cf ow) xs (fun i (_:Unit)=>(xs,v,ae xs,((i:Nat):Int),())) (fun i y _=>bif ak v y.1 then Sum.inr (.inr ((i:Int),())) else Sum.inl ()) (fun _=> .inl (xs,v,ae xs,(xs.length:Int),())) (a0:=()) (fun i y u hy=>by
  have hlt:=aj hy;show ow xs v (ae xs) (i:Int)=_;unfold ow;rw [aC hy,ax hy,aR _ hy,aL (by omega)];dsimp only [cond_true];cases ak v y.1 <;> rfl) (fun u=>by
  show ow xs v (ae xs) (xs.length:Int)=_;unfold ow;rw [aw rfl]; rfl)
 have h':Ih xs v (ae xs) 0=_:=h;rw [h'];have hf:=kJ (Y:=Sum ((List (Int×Unit))×Int×Int×Int×Unit) (Int×Unit)) (fun (y:Int×Unit)=>ak v y.1) (fun n=> .inr (n,())) (.inl (xs,v,ae xs,(xs.length:Int),())) (fun y=>match y with | .inl _ => -1 | .inr z=>z.1) (fun _=>rfl) rfl xs 0;rw [<- hf];dsimp only [Option.bind_some];cases iV _ _ 0 xs () <;> rfl
def HZ (op:Int):List UInt8:=gt ([],()) [([],()),([48,49,48,48],()),([48,49,48,48],()),([48,50,50,48],()),([48,50,50,48],()),([48,50,50,48],()),([48,50,48,48],()),([48,49,48,48],()),([48,50,48,48],())] op |>.1
def qG (q:j3):Bool:=dm q.1 1 8 && bI q.2.2.2.2.2.1 (HZ q.1) && ew q.2.1 && aV q.2.2.2.2.1 && ak (ae q.2.2.2.2.1) 6 && (cond (au q.1 7) (gG q.2.2.2.1) (bI q.2.2.2.1 [])) && (cond (au q.1 5) (dm q.2.2.2.2.2.2.1 0 999999999999) (ak q.2.2.2.2.2.2.1 0)) && (cond (ak q.1 1) (dm q.2.2.2.2.2.2.2.1 0 9999) (ak q.2.2.2.2.2.2.2.1 0)) && (cond (ak q.1 6) (ew q.2.2.1) (bI q.2.2.1 []))
def IL (q:j3):Prop:=q.2.1.length<=1048576/\q.2.2.1.length<=1048576/\q.2.2.2.1.length<=1048576/\q.2.2.2.2.1.length<=1048576/\q.2.2.2.2.2.1.length<=1048576
theorem qW {op:Int} (h:dm op 1 8=true):op=1∨op=2∨op=3∨op=4∨op=5∨op=6∨op=7∨op=8:=by have:=dJ.1 h;omega
theorem Ut (q:j3) (hb:IL q):kG q=some ((),((qG q,()),())):=by
 obtain ⟨op,acct,other,hold,trace,mti,amt,ttl,_⟩:=q;obtain ⟨b1,b2,b3,b4,b5⟩:=hb;cases hop:dm op 1 8 with
 | false => unfold kG BE qG;rw [j8,hop]; rfl
 | true =>
   have k1:=vZ acct (cl b1);have k2:=vZ other (cl b2);have k3:=Br hold (cl b3);have k4:=fJ trace (cl b4);have k5:BE op=some ((),((true,()),())):=by unfold BE; rw [j8,hop]; rfl
   have k6:GZ op=some ((),((HZ op,()),())):=by unfold GZ;rw [k5];rcases qW hop with h | h | h | h | h | h | h | h <;> subst h <;> rfl
   have k7:GS op=some ((),((au op 7,()),())):=by unfold GS; rw [k5]; rfl
   have k8:Ci op=some ((),((au op 5,()),())):=by unfold Ci;rw [j8];rcases qW hop with h | h | h | h | h | h | h | h <;> subst h <;> rfl
   have k9:=j8 amt 0 999999999999;have k10:=j8 ttl 0 9999;unfold kG qG;dsimp only;rw [k5,k6,k1,k4,k7,k8,k3,k9,k10,k2];dsimp only [Option.bind_some];rw [hop];cases bI mti (HZ op) <;> first | rfl | skip
   cases ew acct <;> first | rfl | skip
   cases aV trace <;> first | rfl | skip
   cases ak (ae trace) 6 <;> first | rfl | skip
   cases au op 7 <;> cases gG hold <;> cases bI hold [] <;> first | rfl | skip
   all_goals (cases au op 5 <;> cases dm amt 0 999999999999 <;> cases ak amt 0 <;> first | rfl | skip)
   all_goals (cases ak op 1 <;> cases dm ttl 0 9999 <;> cases ak ttl 0 <;> first | rfl | skip)
   all_goals (cases ak op 6 <;> cases ew other <;> rfl)
theorem Rh {op:Int} (hop:dm op 1 8=true):kd op 38=some ((),((au op 7,()),()))/\kd op 4=some ((),((au op 5,()),()))/\kd op 14=some ((),((ak op 1,()),()))/\kd op 103=some ((),((ak op 6,()),())):=by unfold kd zo;rw [iD,hop];rcases qW hop with h | h | h | h | h | h | h | h <;> subst h <;> refine ⟨?_,?_,?_,?_⟩ <;> (refine (acT (fun z=>Option.bind z fun y2=>some ((),(y2.2.1,()))) (vQ _ _ ?_)).trans ?_) <;> first | rfl | decide
theorem SV {op:Int} (hop:dm op 1 8=true):∃ (nm:List UInt8×List UInt8) (fs:List (Int×Unit)),zo op=some ((),((HZ op,nm.1,nm.2,fs,()),()))/\bI nm.2 []=false:=by unfold zo;rw [iD,hop];rcases qW hop with h | h | h | h | h | h | h | h <;> subst h <;> exact ⟨(_,_),_,rfl,rfl⟩
theorem WD (q:j3) (hb:IL q):Kh q=some ((),((qG q,()),())):=by
 obtain ⟨op,acct,other,hold,trace,mti,amt,ttl,_⟩:=q;obtain ⟨b1,b2,b3,b4,b5⟩:=hb;cases hop:dm op 1 8 with
 | false => unfold Kh zo qG;rw [iD,hop]; rfl
 | true =>
   have k1:=uJ acct (cl b1);have k2:=uJ other (cl b2);have k3:=Bx hold (cl b3);have k4:wx trace 6=some ((),((cond (aV trace) (ak (ae trace) 6) false,()),())):=by unfold wx; rw [gD trace (cl b4)]; rfl
   obtain ⟨nm,fs,k5,k6⟩:=SV hop;obtain ⟨u1,u2,u3,u4⟩:=Rh hop;have k9:=iD amt 0 999999999999;have k10:=iD ttl 0 9999;unfold Kh qG;dsimp only;rw [k5,k1,k4,u1,u2,u3,u4,k3,k9,k10,k2];dsimp only [Option.bind_some];rw [hop,k6];cases bI mti (HZ op) <;> first | rfl | skip
   cases ew acct <;> first | rfl | skip
   cases aV trace <;> first | rfl | skip
   cases ak (ae trace) 6 <;> first | rfl | skip
   cases au op 7 <;> cases gG hold <;> cases bI hold [] <;> cases au op 5 <;> cases dm amt 0 999999999999 <;> cases ak amt 0 <;> cases ak op 1 <;> cases dm ttl 0 9999 <;> cases ak ttl 0 <;> cases ak op 6 <;> cases ew other <;> cases bI other [] <;> rfl
def lP (s:List UInt8):Nat->Nat
 | 0=>0
 | n + 1=>bif ak (dq s (n:Int)) 32 then lP s n else n + 1
def sX (s:List UInt8):List UInt8:=s.take (lP s s.length)
theorem Bl (s:List UInt8):∀ n,lP s n<=n
 | 0=>acb _
 | n + 1=>by
   unfold lP;cases ak (dq s (n:Int)) 32 with
   | true=>exact Nat.le_succ_of_le (Bl s n)
   | false=>exact acb _
theorem Q6 (s:List UInt8) (hs:s.length<=aS):My s=some ((),((sX s,()),())):=by
 have hbig:aS=140737488355328:=rfl;have h:∀ n:Nat,n<=s.length->KO s (n:Int)=some (.inl (s,((lP s n:Nat):Int),())):=fun n=>by
  induction n with
  | zero=>intro _; exact aJ _ rfl
  | succ n ih =>
    intro hn;have e:zA s ((n + 1:Nat):Int)=bif ak (dq s (n:Int)) 32 then some (.inl (s,(n:Int),())) else some (.inr (.inl (s,((n + 1:Nat):Int),()))):=by unfold zA;rw [aF (show (0:Int) < ((n + 1:Nat):Int) by omega),aO (by omega) (by omega),show ((n + 1:Nat):Int) - 1=(n:Int) by omega];dsimp only [cond_true];rw [jY (xs:=s) (by omega)];cases ak (dq s (n:Int)) 32 <;> rfl
    cases hc:ak (dq s (n:Int)) 32 with
    | true => rw [hc] at e;unfold lP;rw [hc];exact aQ _ e (ih (by omega))
    | false => rw [hc] at e;unfold lP;rw [hc];exact aJ _ e
 unfold My;refine (bn (h s.length (acb _))).trans ?_;show cond (dj 0 ((lP s s.length:Nat):Int) s) (some ((),((sub s 0 ((lP s s.length:Nat):Int),()),()))) none=_;rw [gT (Bl s s.length),pY]; rfl
theorem S1 (s:List UInt8) (hs:s.length<=aS):IJ s 32=some ((),((sX s,()),())):=by
 have hbig:aS=140737488355328:=rfl;have h:∀ n:Nat,n<=s.length->IP (s.take n) 32=some (.inl (s.take (lP s n),32,())):=fun n=>by
  induction n with
  | zero=>intro _; exact aJ _ rfl
  | succ n ih =>
    intro hn;have hl:(s.take (n + 1)).length=n + 1:=by rw [acL]; omega
    have hb:dq (s.take (n + 1)) (n:Int)=dq s (n:Int):=by have hx:s[n]? = some (s[n]'(by omega)):=acm (by omega);rw [eD hx,eD (xs:=s.take (n + 1)) (x:=s[n]'(by omega)) (by rw [ac8,if_pos (by omega)]; exact hx)]
    have e:Ah (s.take (n + 1)) 32=bif ak (dq s (n:Int)) 32 then some (.inl (s.take n,32,())) else some (.inr (.inl (s.take (n + 1),32,()))):=by unfold Ah;rw [show ae (s.take (n + 1))=((n + 1:Nat):Int) from acT Int.ofNat hl];dsimp only;rw [aF (show (0:Int) < ((n + 1:Nat):Int) by omega),aO (by omega) (by omega),show ((n + 1:Nat):Int) - 1=(n:Int) by omega,jY (xs:=s.take (n + 1)) (by omega),hb,gT (xs:=s.take (n + 1)) (i:=n) (by omega),pY,List.take_take,ad9 (aer n)];cases ak (dq s (n:Int)) 32 <;> rfl
    cases hc:ak (dq s (n:Int)) 32 with
    | true => rw [hc] at e;unfold lP;rw [hc];exact aQ _ e (ih (by omega))
    | false => rw [hc] at e;unfold lP;rw [hc];exact aJ _ e
 have h0:=h s.length (acb _);rw [aej] at h0;unfold IJ;refine (bn h0).trans rfl
theorem Sw (s:List UInt8) (hs:s.length<=aS):LN s=some ((),((sX s,()),())):=by
 unfold LN Rb;cases he:bI s [] with
 | true =>
   have:s=[]:=by simpa [bI] using he
   subst this;rfl
 | false => have e:IJ s (dq [32] 0)=_:=S1 s hs;dsimp only;rw [e]; rfl
theorem Ii (s:List UInt8):(sX s).length<=s.length:=by unfold sX; rw [acL]; exact aeH _ _
abbrev qU:=List UInt8×Unit
theorem Rg (a b:List UInt8):Nu a b=some ((),((jU a b,()),())):=by unfold Nu M8;rw [dT]; rfl
theorem Ru (a b:Int):Og a b=some ((),((au a b,()),())):=by unfold Og Ni;rw [bu]; rfl
theorem P2:Gg 1=some ((),((1,()),())):=rfl
theorem Pc:Gg 2=some ((),((2,()),())):=rfl
theorem Oo (x:qU):AT [x]=some ((([x],()),()),()):=by have h:oo [x] 0 1 1=some (.inl ([x],0,1,1,())):=aJ _ rfl;unfold AT;refine (bn P2).trans ?_;show Option.bind (Option.bind (Option.bind (oo [x] 0 1 1) _) _) _=_;rw [h]; rfl
def Tk (x y:qU):List qU:=bif jU y.1 x.1 then [y,x] else [x,y]
theorem Oy (x y:qU):AT [x,y]=some (((Tk x y,()),()),()):=by
 have hi:vu [x,y] 0 2 1 1=some (.inl (Tk x y,0,2,1,(bif jU y.1 x.1 then 0 else 1),())):=by
  have e:vC [x,y] 0 2 1 1=bif jU y.1 x.1 then some (.inl ([y,x],0,2,1,0,())) else some (.inr (.inl ([x,y],0,2,1,1,()))):=by unfold vC;dsimp only;rw [Rg];rfl
  unfold Tk;cases hc:jU y.1 x.1 with
  | true=>rw [hc] at e; exact aQ _ e (aJ _ rfl)
  | false=>rw [hc] at e; exact aJ _ e
 have h:oo [x,y] 0 2 1=some (.inl (Tk x y,0,2,2,())):=by
  have e:uX [x,y] 0 2 1=some (.inl (Tk x y,0,2,2,())):=by unfold uX;show Option.bind (vu [x,y] 0 2 1 1) _=_;rw [hi]; rfl
  exact aQ _ e (aJ _ rfl)
 unfold AT;refine (bn Pc).trans ?_;show Option.bind (Option.bind (Option.bind (oo [x,y] 0 2 1) _) _) _=_;rw [h]; rfl
theorem zD (x y:qU):GY [x,y]=some ((),((bif bI y.1 x.1 then [x] else [x,y],()),())):=by
 have e:Ag [x,y] 1=bif bI y.1 x.1 then some (.inr (.inr ([x],()))) else some (.inl ([x,y],2,())):=rfl;have h:wN [x,y] 1=some (bif bI y.1 x.1 then .inr ([x],()) else .inl ([x,y],2,())):=by
  cases hc:bI y.1 x.1 with
  | true=>rw [hc] at e; exact aJ _ e
  | false=>rw [hc] at e; exact aQ _ e (aJ _ rfl)
 unfold GY;show Option.bind (wN [x,y] 1) _=_;rw [h];cases bI y.1 x.1 <;> rfl
abbrev cW:=Int×Unit
theorem Np (x:cW):vk [x]=some ((([x],()),()),()):=by have h:ld [x] 0 1 1=some (.inl ([x],0,1,1,())):=aJ _ rfl;unfold vk;refine (bn P2).trans ?_;show Option.bind (Option.bind (Option.bind (ld [x] 0 1 1) _) _) _=_;rw [h]; rfl
theorem L9:vk []=some ((([],()),()),()):=by have h:ld [] 0 0 1=some (.inl ([],0,0,1,())):=aJ _ rfl;unfold vk;refine (bn (show Gg 0=some ((),((0,()),())) from rfl)).trans ?_;show Option.bind (Option.bind (Option.bind (ld [] 0 0 1) _) _) _=_;rw [h]; rfl
def Th (x y:cW):List cW:=bif au y.1 x.1 then [y,x] else [x,y]
theorem Oi (x y:cW):vk [x,y]=some (((Th x y,()),()),()):=by
 have hi:vM [x,y] 0 2 1 1=some (.inl (Th x y,0,2,1,(bif au y.1 x.1 then 0 else 1),())):=by
  have e:vT [x,y] 0 2 1 1=bif au y.1 x.1 then some (.inl ([y,x],0,2,1,0,())) else some (.inr (.inl ([x,y],0,2,1,1,()))):=by unfold vT;dsimp only;rw [Ru];rfl
  unfold Th;cases hc:au y.1 x.1 with
  | true=>rw [hc] at e; exact aQ _ e (aJ _ rfl)
  | false=>rw [hc] at e; exact aJ _ e
 have h:ld [x,y] 0 2 1=some (.inl (Th x y,0,2,2,())):=by
  have e:vX [x,y] 0 2 1=some (.inl (Th x y,0,2,2,())):=by unfold vX;show Option.bind (vM [x,y] 0 2 1 1) _=_;rw [hi]; rfl
  exact aQ _ e (aJ _ rfl)
 unfold vk;refine (bn Pc).trans ?_;show Option.bind (Option.bind (Option.bind (ld [x,y] 0 2 1) _) _) _=_;rw [h]; rfl
theorem Em (x y:cW):Kk [x,y]=some ((),((bif ak y.1 x.1 then [x] else [x,y],()),())):=by
 have e:yY [x,y] 1=bif ak y.1 x.1 then some (.inr (.inr ([x],()))) else some (.inl ([x,y],2,())):=rfl;have h:wA [x,y] 1=some (bif ak y.1 x.1 then .inr ([x],()) else .inl ([x,y],2,())):=by
  cases hc:ak y.1 x.1 with
  | true=>rw [hc] at e; exact aJ _ e
  | false=>rw [hc] at e; exact aQ _ e (aJ _ rfl)
 unfold Kk;show Option.bind (wA [x,y] 1) _=_;rw [h];cases ak y.1 x.1 <;> rfl
def uB (n:Int):List qU->List cW
 | [a]=>[(aG a.1 n,())]
 | [a,b]=>bif au (aG b.1 n) (aG a.1 n) then [(aG b.1 n,()),(aG a.1 n,())] else bif ak (aG b.1 n) (aG a.1 n) then [(aG a.1 n,())] else [(aG a.1 n,()),(aG b.1 n,())]
 | _=>[]
def FX (l:List qU):Prop:=l.length<=2/\∀ x∈l,x.1.length<=1048576
theorem N4 (n:Int):∀ (ids:List qU) (h:FX ids),Ke n [] ids (ae ids) 0=some (.inl (n,ids.map (fun x=>(aG x.1 n,())),ids,ae ids,ae ids,())):=fun ids hb=>by
 have h:=aP (step:=eS nX) ids (fun i (o:List cW)=>(n,o,ids,ae ids,((i:Nat):Int),())) (fun _ x o=>Sum.inl (o ++ [(aG x.1 n,())])) (fun o=> .inl (n,o,ids,ae ids,ae ids,())) (fun i o=>o.length=i) (a0:=[]) rfl (fun i x o hx ho=>by
  have hlt:=aj hx;have:=hb.1;show nX n o ids (ae ids) (i:Int)=_;unfold nX;rw [aC hx,ax hx,aR _ hx,aL (by unfold aS; omega),BM x.1 n (cl (hb.2 x (acg hx)))];dsimp only [cond_true,Option.bind_some];rw [K9 (by omega)]; rfl) (fun i x o o' hx ho hf=>by
  cases hf;rw [ab7,ho]; rfl) (fun o ho=>by
  show nX n o ids (ae ids) (ids.length:Int)=_;unfold nX;rw [aw rfl]; rfl)
 rw [bq] at h;refine adL h ?_;have:∀ (l:List qU) (o:List cW),l.foldl (fun o x=>o ++ [(aG x.1 n,())]) o=o ++ l.map (fun x=>(aG x.1 n,())):=fun l=>by
  induction l with
  | nil=>intro o; simp
  | cons x r ih=>intro o; rw [ade,ih]; simp
 rw [this]; rfl
theorem QI (ids:List qU) (n:Int) (hb:FX ids):NP ids n=some ((),((uB n ids,()),())):=by
 unfold NP;refine (bn (N4 n ids hb)).trans ?_
 match ids,hb with
 | [],_ => show Option.bind (vk []) _=_;rw [L9]; rfl
 | [a],_ => show Option.bind (vk [(aG a.1 n,())]) _=_;rw [Np]; rfl
 | [a,b],_ =>
   show Option.bind (vk [(aG a.1 n,()),(aG b.1 n,())]) _=_;rw [Oi];unfold Th uB;dsimp only [Option.bind_some];cases hc:au (aG b.1 n) (aG a.1 n) with
   | true => dsimp only [cond_true];rw [Em];have hlt:aG b.1 n < aG a.1 n:=of_decide_eq_true hc;rw [show ak (aG a.1 n) (aG b.1 n)=false from beq_eq_false_iff_ne.2 (by omega)]; rfl
   | false => dsimp only [cond_false];rw [Em]; rfl
 | _ :: _ :: _ :: _,hb=>exact absurd hb.1 (by simp)
theorem QM (ids:List qU) (n:Int) (hb:FX ids):Oq ids n=some ((),((uB n ids,()),())):=by
 have inn:∀ (o:List cW) (x:Int) (ids:List qU) (k j:Int),sx n [] x 0 ids k j=some (.inl (n,[],x,0,ids,k,j,())):=fun o x ids k j=>aJ _ rfl
 have in1:∀ (s x:Int) (ids:List qU) (k j:Int),sx n [(s,())] x 0 ids k j=some (.inl (n,[(s,())],x,(bif au s x then 1 else 0),ids,k,j,())):=fun s x ids k j=>by
  have e:DO n [(s,())] x 0 ids k j=bif au s x then some (.inl (n,[(s,())],x,1,ids,k,j,())) else some (.inr (.inl (n,[(s,())],x,0,ids,k,j,()))):=rfl;cases hc:au s x with
  | true=>rw [hc] at e; exact aQ _ e (aJ _ rfl)
  | false=>rw [hc] at e; exact aJ _ e
 unfold Oq
 match ids,hb with
 | [],_ => have h:Aq n [] [] 0 0=some (.inl (n,[],[],0,0,())):=aJ _ rfl;exact (bn h).trans rfl
 | [a],hb =>
   have e:mD n [] [a] 1 0=some (.inl (n,[(aG a.1 n,())],[a],1,1,())):=by unfold mD;show Option.bind (Bc a.1 n) _=_;rw [ql a.1 n (cl (hb.2 a (by simp)))];show Option.bind (sx n [] (aG a.1 n) 0 [a] 1 0) _=_;rw [inn []]; rfl
   have h:Aq n [] [a] 1 0=some (.inl (n,[(aG a.1 n,())],[a],1,1,())):=aQ _ e (aJ _ rfl);exact (bn h).trans rfl
 | [a,b],hb =>
   have e1:mD n [] [a,b] 2 0=some (.inl (n,[(aG a.1 n,())],[a,b],2,1,())):=by unfold mD;show Option.bind (Bc a.1 n) _=_;rw [ql a.1 n (cl (hb.2 a (by simp)))];show Option.bind (sx n [] (aG a.1 n) 0 [a,b] 2 0) _=_;rw [inn []]; rfl
   have e2:mD n [(aG a.1 n,())] [a,b] 2 1=some (.inl (n,uB n [a,b],[a,b],2,2,())):=by
    unfold mD;show Option.bind (Bc b.1 n) _=_;rw [ql b.1 n (cl (hb.2 b (by simp)))];show Option.bind (sx n [(aG a.1 n,())] (aG b.1 n) 0 [a,b] 2 1) _=_;rw [in1,show uB n [a,b]=bif au (aG b.1 n) (aG a.1 n) then [(aG b.1 n,()),(aG a.1 n,())] else bif ak (aG b.1 n) (aG a.1 n) then [(aG a.1 n,())] else [(aG a.1 n,()),(aG b.1 n,())] from rfl];cases hc:au (aG a.1 n) (aG b.1 n) with
    | true => have hlt:aG a.1 n < aG b.1 n:=of_decide_eq_true hc;rw [ay (show ¬ aG b.1 n < aG a.1 n by omega),show ak (aG b.1 n) (aG a.1 n)=false from beq_eq_false_iff_ne.2 (by omega)]; rfl
    | false =>
      have hge:¬ aG a.1 n < aG b.1 n:=of_decide_eq_false hc;dsimp only [Option.bind_some,cond_false,Sum.elim_inl];show cond (ak (aG a.1 n) (aG b.1 n)) _ _=_;by_cases he:aG a.1 n=aG b.1 n
      . rw [he,bu,ay (show ¬ aG b.1 n < aG b.1 n by omega)]; rfl
      . rw [show ak (aG a.1 n) (aG b.1 n)=false from beq_eq_false_iff_ne.2 he,aF (show aG b.1 n < aG a.1 n by omega)]; rfl
   have h:Aq n [] [a,b] 2 0=some (.inl (n,uB n [a,b],[a,b],2,2,())):=aQ _ e1 (aQ _ e2 (aJ _ rfl));exact (bn h).trans rfl
 | _ :: _ :: _ :: _,hb=>exact absurd hb.1 (by simp)
def gN:j3:=(0,[],[],[],[],[],0,0,())
def yn (s:List UInt8):Bool:=cond (cond (bI s [48,49,48,48]) true (bI s [48,50,48,48])) true (bI s [48,50,50,48])
abbrev Gi:=List UInt8×List UInt8×List UInt8×List (Int×Unit)×Unit
def cT:List Gi:=[([48,49,48,48],[48,48],[97,117,116,104],[(4,()),(14,()),(38,())],()),([48,49,48,48],[48,50],[109,111,114,101],[(4,()),(38,())],()),([48,50,50,48],[48,49],[112,97,114,116],[(4,()),(38,())],()),([48,50,50,48],[48,48],[102,105,110,97,108],[(4,()),(38,())],()),([48,50,50,48],[50,48],[102,114,101,101],[(38,())],()),([48,50,48,48],[52,48],[109,111,118,101],[(38,()),(103,())],()),([48,49,48,48],[51,49],[97,115,107],[],()),([48,50,48,48],[57,48],[115,119,101,101,112],[],())]
def CG (mti c:List UInt8) (r:Gi):Bool:=cond (bI r.1 mti) (bI r.2.1 (sub c 0 2)) false
def dY (mti c:List UInt8):Int:=1 + dQ (CG mti c) 0 cT
theorem tV (mti c:List UInt8):dY mti c=0∨dY mti c=1∨dY mti c=2∨dY mti c=3∨dY mti c=4∨dY mti c=5∨dY mti c=6∨dY mti c=7∨dY mti c=8:=by unfold dY;have:=uE (CG mti c) cT 0;simp only [show cT.length=8 from rfl] at this;omega
theorem NS (m:cz) (c:List UInt8) (hc:2<=c.length) (nm:List UInt8×Unit) (hn:nm=(c,())):MP cT m nm=some ((),((dQ (CG m.1 c) 0 cT,()),())):=by
 subst hn;have hcut:dj 0 2 c=true:=gT (i:=2) hc;have h:=aD (step:=cf pw) cT (fun i (_:Unit)=>(cT,(m,(c,()),()),ae cT,((i:Nat):Int),())) (fun i x _=>bif CG m.1 c x then Sum.inr (.inr ((i:Int),())) else .inl ()) (fun _=> .inl (cT,(m,(c,()),()),ae cT,(cT.length:Int),())) (a0:=()) (fun i x a hx=>by
  have hlt:=aj hx;have h8:cT.length=8:=rfl;show pw cT (m,(c,()),()) (ae cT) (i:Int)=_;unfold pw Rq CG;rw [aC hx,ax hx,aR _ hx,aL (by unfold aS; omega)];dsimp only [cond_true];rw [hcut];cases bI x.1 m.1 <;> cases bI x.2.1 (sub c 0 2) <;> rfl) (fun a=>by
  show pw cT (m,(c,()),()) (ae cT) (cT.length:Int)=_;unfold pw;rw [aw rfl]; rfl)
 have hf:=kJ (Y:=Sum ((List Gi)×(cz×(List UInt8×Unit)×Unit)×Int×Int×Unit) (Int×Unit)) (CG m.1 c) (fun n=> .inr (n,())) (.inl (cT,(m,(c,()),()),ae cT,(cT.length:Int),())) (fun y=>match y with | .inl _ => -1 | .inr z=>z.1) (fun _=>rfl) rfl cT 0;unfold MP;refine (bn h).trans ?_;rw [<- hf];dsimp only [Option.bind_some];cases iV _ _ 0 cT () <;> rfl
theorem opm {i:Nat} {x:Gi} (hx:cT[i]? = some x):GZ (((i + 1:Nat)):Int)=some ((),((x.1,()),()))/\RX (((i + 1:Nat)):Int)=some ((),((x.2.1,()),())):=by
 have hlt:=aj hx;have h8:cT.length=8:=rfl;have:i=0∨i=1∨i=2∨i=3∨i=4∨i=5∨i=6∨i=7:=by omega
 rcases this with h | h | h | h | h | h | h | h <;> subst h <;> cases hx <;> exact ⟨rfl,rfl⟩
theorem MY (mti c:List UInt8) (hc:2<=c.length):K5 mti c=some ((),((dY mti c,()),())):=by
 have hcut:dj 0 2 c=true:=gT (i:=2) hc;have h8:cT.length=8:=rfl;have h:=aD (step:=ff uI) cT (fun i (_:Unit)=>(mti,c,((i + 1:Nat):Int),())) (fun i x _=>bif CG mti c x then Sum.inr (.inr (((i + 1:Nat):Int),())) else .inl ()) (fun _=> .inl (mti,c,9,())) (a0:=()) (fun i x a hx=>by have hlt:=aj hx;show uI mti c ((i + 1:Nat):Int)=_;unfold uI CG;rw [(opm hx).1,(opm hx).2,show bz ((i + 1:Nat):Int) 8=true from ace (by omega),aL (by unfold aS; omega)];dsimp only [cond_true,Option.bind_some];rw [hcut];cases bI x.1 mti <;> cases bI x.2.1 (sub c 0 2) <;> rfl) (fun a=>rfl);have hf:=kJ (Y:=Sum (List UInt8×List UInt8×Int×Unit) (Int×Unit)) (CG mti c) (fun n=> .inr (1 + n,())) (.inl (mti,c,9,())) (fun y=>match y with | .inl _ => -1 | .inr z=>z.1 - 1) (fun n=>by show 1 + n - 1=n; omega) rfl cT 0;rw [show (fun (i:Nat) (x:Gi) (_:Unit)=>bif CG mti c x then (Sum.inr (Sum.inr (((i + 1:Nat):Int),())):Sum Unit (Sum (List UInt8×List UInt8×Int×Unit) (Int×Unit))) else .inl ())=fun i x _=>bif CG mti c x then .inr (.inr (1 + (i:Int),())) else .inl () from by funext i x _;rw [show ((i + 1:Nat):Int)=1 + (i:Int) by omega]] at h;unfold K5;have h':Iu mti c 1=_:=h;refine (bn h').trans ?_;unfold dY;rw [<- hf];dsimp only [Option.bind_some];have hneg:dQ (CG mti c) 0 cT = -1∨0<=dQ (CG mti c) 0 cT:=by
  rcases uE (CG mti c) cT 0 with h | h
  . exact Or.inl h
  . exact Or.inr h.1
 cases hg:iV (fun (i:Nat) (x:Gi) (_:Unit)=>bif CG mti c x then (Sum.inr (Sum.inr (1 + (i:Int),())):Sum Unit (Sum (List UInt8×List UInt8×Int×Unit) (Int×Unit))) else .inl ()) (fun _=> .inl (mti,c,9,())) 0 cT () with
 | inl y=>rfl
 | inr y => show some ((),((y.1,()),()))=some ((),((1 + (y.1 - 1),()),()));rw [show 1 + (y.1 - 1)=y.1 by omega]
def fv (m:cz) (no:Int):List UInt8:=(j6 m no).getD []
def fs (m:cz) (no:Int):Bool:=(j6 m no).isSome
theorem lv (m:cz) (no:Int):Aa (j6 m no)=some ((),((fv m no,()),(fs m no,()),())):=by unfold Aa fv fs;cases j6 m no <;> rfl
theorem uc {m:cz} {no:Int} (h:fs m no=false):fv m no=[]:=by
 unfold fs at h; unfold fv;cases hf:j6 m no with
 | none=>rfl
 | some s=>rw [hf] at h; cases h
theorem Ev {m:cz} {no:Int} {s:List UInt8} (h:j6 m no=some s):∃ f∈m.2.1,f.1=no/\f.2.1=s:=by
 unfold j6 at h;cases hf:m.2.1.find? fun f=>ak f.1 no with
 | none=>rw [hf] at h; cases h
 | some f => rw [hf] at h;refine ⟨f,List.mem_of_find?_eq_some hf,fN.1 (by have:=List.find?_some hf; exact this),?_⟩;cases h; rfl
theorem lC {m:cz} (hb:qB m) (no:Int):(fv m no).length<=1048576:=by
 unfold fv;cases h:j6 m no with
 | none=>exact acS _
 | some s => obtain ⟨f,h1,_,rfl⟩:=Ev h;exact hb.2.2 f h1
theorem Nv {m:cz} (h:wP m=true) {no:Int} {s:List UInt8} (hf:j6 m no=some s):iO no s=true:=by
 unfold wP at h;obtain ⟨f,h1,h2,h3⟩:=Ev hf;obtain ⟨i,hi⟩:=List.mem_iff_getElem?.1 h1;cases hd:cond (aV m.1) (ak (ae m.1) 4) false with
 | false=>rw [hd] at h; cases h
 | true =>
   rw [hd] at h;have:=uN (fM m.2.1) h hi;unfold fM at this;rw [h2,h3] at this;cases hk:iO no s with
   | true=>rfl
   | false=>rw [hk] at this; cases this
theorem yt {m:cz} (h:wP m=true) {s:List UInt8} (hf:j6 m 3=some s):2<=s.length:=by
 have:=Nv h hf;have e:iO 3 s=cond (aV s) (ak (ae s) 6) false:=rfl;rw [e] at this;cases hd:aV s with
 | false=>rw [hd] at this; cases this
 | true => rw [hd] at this;have:=fN.1 (show ak (ae s) 6=true from this);have:(s.length:Int)=6:=this;omega
def Tg (s:List UInt8):Int:=match xV s with | some n=>(n:Int) | none=>0
def nkM (s:List UInt8):Bool:=(xV s).isSome
theorem zG (s:List UInt8):NT (xV s)=some ((),((Tg s,()),(nkM s,()),())):=by unfold NT Tg nkM;cases xV s <;> rfl
def iH (m:cz) (op:Int):j3:=(op,fv m 2,cond (ak op 6) (fv m 103) [],cond (cond (dm op 1 8) (au op 7) false) (sX (fv m 38)) [],fv m 11,m.1,cond (dm op 1 4) (Tg (fv m 4)) 0,cond (ak op 1) (Tg (fv m 14)) 0,())
def I1 (m:cz) (op:Int):Bool:=cond (cond (dm op 1 4) (fs m 4) true) (cond (ak op 1) (fs m 14) true) false
def Gj (m:cz) (op:Int):j3×Int:=cond (I1 m op) (cond (qG (iH m op)) (iH m op,0) (gN,1)) (gN,1)
def kl (m:cz):j3×Int:=cond (wP m) (cond (yn m.1) (match j6 m 3 with | none=>(gN,1) | some c=>Gj m (dY m.1 c)) (gN,2)) (gN,1)
def J6 (p:j3×Int):Option (Unit×(j3×(Int×Unit)×Unit)):=some ((),(p.1,(p.2,()),()))
theorem C7 {m:cz} (hb:qB m) (op:Int):IL (iH m op):=by
 refine ⟨lC hb 2,?_,?_,lC hb 11,hb.1⟩
 . show (cond (ak op 6) (fv m 103) []).length<=_;cases ak op 6 with
   | true=>exact lC hb 103
   | false=>exact acS _
 . show (cond (cond (dm op 1 8) (au op 7) false) (sX (fv m 38)) []).length<=_;cases cond (dm op 1 8) (au op 7) false with
   | true=>exact acv (Ii _) (lC hb 38)
   | false=>exact acS _
theorem aaN (m:cz) (hb:qB m):M3 m=J6 (kl m):=by
 unfold M3 kl;rw [VT m hb];cases hm:wP m with
 | false=>rfl
 | true =>
 have hk:Ri m.1=some ((),((yn m.1,()),())):=rfl;dsimp only [Option.bind_some,Bool.not_true,cond_false];rw [hk];cases yn m.1 with
 | false=>rfl
 | true =>
 show Option.bind (jH m 3) _=_;rw [tF m 3 hb];cases h3:j6 m 3 with
 | none=>rfl
 | some c =>
 show Option.bind (K5 m.1 c) _=_;rw [MY m.1 c (yt hm h3)];have f2:=(tF m 2 hb).trans (lv m 2);have f11:=(tF m 11 hb).trans (lv m 11);have f38:=(tF m 38 hb).trans (lv m 38);have f4:=(tF m 4 hb).trans (lv m 4);have f14:=(tF m 14 hb).trans (lv m 14);have f103:=(tF m 103 hb).trans (lv m 103);have b38:=Q6 (fv m 38) (cl (lC hb 38));have n4:=(Fw (fv m 4) (cl (lC hb 4))).trans (zG _);have n14:=(Fw (fv m 14) (cl (lC hb 14))).trans (zG _);dsimp only [Option.bind_some];rw [f2,f11];dsimp only [Option.bind_some];have hop:=tV m.1 c;generalize dY m.1 c=op at hop ⊢;have hq:=Ut (iH m op) (C7 hb op);have hH:GS op=some ((),((cond (dm op 1 8) (au op 7) false,()),())):=rfl;have hA:Ci op=some ((),((dm op 1 4,()),())):=rfl;unfold Gj;generalize qG (iH m op)=z at hq ⊢;rw [hH,hA,f38,f4,f14,f103];dsimp only [Option.bind_some];rw [b38,n4,n14];dsimp only [Option.bind_some];unfold I1;unfold iH at hq ⊢;generalize cond (dm op 1 8) (au op 7) false=c1 at hq ⊢;generalize dm op 1 4=c2 at hq ⊢;generalize ak op 1=c3 at hq ⊢;generalize ak op 6=c4 at hq ⊢;cases c1 <;> cases c2 <;> cases c3 <;> cases c4 <;> dsimp only [cond_true,cond_false] at hq ⊢ <;> rw [hq] <;> cases fs m 4 <;> cases fs m 14 <;> cases z <;> rfl
theorem RN {m:cz} {op:Int} (h:qG (iH m op)=true):fs m 2=true/\fs m 11=true/\(cond (dm op 1 8) (au op 7) false=true->fs m 38=true)/\(ak op 6=true->fs m 103=true):=by
 unfold qG iH at h;simp only [ab8] at h;obtain ⟨⟨⟨⟨⟨⟨⟨⟨h1,_⟩,h2⟩,h3⟩,_⟩,h4⟩,_⟩,_⟩,h5⟩:=h;refine ⟨?_,?_,fun hc => ?_,fun hc => ?_⟩
 . cases hf:fs m 2 with
   | true=>rfl
   | false=>rw [uc hf] at h2; cases h2
 . cases hf:fs m 11 with
   | true=>rfl
   | false=>rw [uc hf] at h3; cases h3
 . cases hf:fs m 38 with
   | true=>rfl
   | false => rw [hc,uc hf] at h4;rw [h1] at hc;rw [show au op 7=true from hc] at h4;cases h4
 . cases hf:fs m 103 with
   | true=>rfl
   | false=>rw [hc,uc hf] at h5; cases h5
def lg (op:Int):List cW:=cond (dm op 1 8) (gt ([],[],[],[],()) cT (op - 1)).2.2.2.1 []
def GO (m:cz) (op:Int):Bool:=fs m 2 && (fs m 11 && (lg op).all fun x=>fs m x.1)
def Yk (op:Int):Prop:=op=0∨op=1∨op=2∨op=3∨op=4∨op=5∨op=6∨op=7∨op=8
theorem KX (m:cz) (op:Int) (hop:Yk op):Gj m op=bif GO m op then (bif qG (iH m op) then (iH m op,0) else (gN,1)) else (gN,1):=by
 have hz:= @RN m op;unfold Gj;generalize qG (iH m op)=z at hz ⊢;generalize iH m op=q at hz ⊢;cases z with
 | false=>cases GO m op <;> cases I1 m op <;> rfl
 | true =>
   obtain ⟨h1,h2,h3,h4⟩:=hz rfl;unfold GO I1;rw [h1,h2];rcases hop with h | h | h | h | h | h | h | h | h <;> subst h
   . rfl
   . have:=h3 rfl;show (bif cond (fs m 4) (fs m 14) false then _ else _)=bif true && (true && (fs m 4 && (fs m 14 && (fs m 38 && true)))) then _ else _;rw [this];cases fs m 4 <;> cases fs m 14 <;> rfl
   . have:=h3 rfl;show (bif cond (fs m 4) true false then _ else _)=bif true && (true && (fs m 4 && (fs m 38 && true))) then _ else _;rw [this];cases fs m 4 <;> rfl
   . have:=h3 rfl;show (bif cond (fs m 4) true false then _ else _)=bif true && (true && (fs m 4 && (fs m 38 && true))) then _ else _;rw [this];cases fs m 4 <;> rfl
   . have:=h3 rfl;show (bif cond (fs m 4) true false then _ else _)=bif true && (true && (fs m 4 && (fs m 38 && true))) then _ else _;rw [this];cases fs m 4 <;> rfl
   . have:=h3 rfl;show _=bif true && (true && (fs m 38 && true)) then _ else _;rw [this]; rfl
   . have:=h3 rfl;have h6:=h4 rfl;show _=bif true && (true && (fs m 38 && (fs m 103 && true))) then _ else _;rw [this,h6]; rfl
   . rfl
   . rfl
def LM (m:cz) (no:Int) (q:j3):j3 :=
 cond (ak no 2) (q.1,fv m no,q.2.2.1,q.2.2.2.1,q.2.2.2.2.1,q.2.2.2.2.2.1,q.2.2.2.2.2.2.1,q.2.2.2.2.2.2.2.1,())
  (cond (ak no 4) (q.1,q.2.1,q.2.2.1,q.2.2.2.1,q.2.2.2.2.1,q.2.2.2.2.2.1,Tg (fv m no),q.2.2.2.2.2.2.2.1,())
    (cond (ak no 11) (q.1,q.2.1,q.2.2.1,q.2.2.2.1,fv m no,q.2.2.2.2.2.1,q.2.2.2.2.2.2.1,q.2.2.2.2.2.2.2.1,())
      (cond (ak no 14) (q.1,q.2.1,q.2.2.1,q.2.2.2.1,q.2.2.2.2.1,q.2.2.2.2.2.1,q.2.2.2.2.2.2.1,Tg (fv m no),())
        (cond (ak no 38) (q.1,q.2.1,q.2.2.1,sX (fv m no),q.2.2.2.2.1,q.2.2.2.2.2.1,q.2.2.2.2.2.2.1,q.2.2.2.2.2.2.2.1,())
          (cond (ak no 103) (q.1,q.2.1,fv m no,q.2.2.2.1,q.2.2.2.2.1,q.2.2.2.2.2.1,q.2.2.2.2.2.2.1,q.2.2.2.2.2.2.2.1,()) q)))))
def Ir (m:cz):List cW->j3->Option j3
 | [],q=>some q
 | x :: r,q=>bif fs m x.1 then Ir m r (LM m x.1 q) else none
def Wa (xs:List cW) (n:Int) (m:cz):Option j3->Sum (List cW×Int×Int×cz×j3×j3×Unit) (Int×j3×Unit)
 | some q=> .inl (xs,n,n,m,gN,q,())
 | none=> .inr (1,gN,())
theorem EB (m:cz) (ys:List cW) (n:Int):∀ (xs:List cW) (i:Nat) (q:j3),iV (fun _ x q=>bif fs m x.1 then Sum.inl (LM m x.1 q) else .inr (.inr (1,gN,()))) (fun q=> .inl (ys,n,n,m,gN,q,())) i xs q=Wa ys n m (Ir m xs q)
 | [],_,_=>rfl
 | x :: r,i,q=>by
   rw [iV,Ir];cases fs m x.1 with
   | false=>rfl
   | true=>exact EB m ys n r (i + 1) _
theorem M0 (m:cz) (hb:qB m) (xs:List cW) (hx:xs.length<=10) (q0:j3):KW xs (ae xs) 0 m gN q0=some (Wa xs (ae xs) m (Ir m xs q0)):=by
 have h:=aD (step:=FB oe) xs (fun i (q:j3)=>(xs,ae xs,((i:Nat):Int),m,gN,q,())) (fun _ x q=>bif fs m x.1 then Sum.inl (LM m x.1 q) else .inr (.inr (1,gN,()))) (fun q=> .inl (xs,ae xs,ae xs,m,gN,q,())) (a0:=q0) (fun i x q hx=>by
  have hlt:=aj hx;show oe xs (ae xs) (i:Int) m gN q=_;unfold oe;rw [aC hx,ax hx,aR _ hx,aL (by unfold aS; omega)];dsimp only [cond_true];rw [HU m x.1 hb,lv];dsimp only [Option.bind_some];rw [(O9 (fv m x.1) (cl (lC hb x.1))).trans (zG _),Sw (fv m x.1) (cl (lC hb x.1))];unfold LM;cases fs m x.1 with
  | false=>rfl
  | true=>cases ak x.1 2 <;> cases ak x.1 4 <;> cases ak x.1 11 <;> cases ak x.1 14 <;> cases ak x.1 38 <;> cases ak x.1 103 <;> rfl) (fun q=>by
  show oe xs (ae xs) (xs.length:Int) m gN q=_;unfold oe;rw [aw rfl]; rfl)
 rw [EB] at h;exact h
theorem LU (m:cz) (op:Int) (hop:Yk op):Ir m ((2,()) :: (11,()) :: lg op) (op,[],[],[],[],m.1,0,0,())=bif GO m op then some (iH m op) else none:=by
 unfold GO;rcases hop with h | h | h | h | h | h | h | h | h <;> subst h
 . show (bif fs m 2 then (bif fs m 11 then some (iH m 0) else none) else none)=bif fs m 2 && (fs m 11 && true) then _ else _;cases fs m 2 <;> cases fs m 11 <;> rfl
 . show (bif fs m 2 then (bif fs m 11 then (bif fs m 4 then (bif fs m 14 then (bif fs m 38 then some (iH m 1) else none) else none) else none) else none) else none)=bif fs m 2 && (fs m 11 && (fs m 4 && (fs m 14 && (fs m 38 && true)))) then _ else _;cases fs m 2 <;> cases fs m 11 <;> cases fs m 4 <;> cases fs m 14 <;> cases fs m 38 <;> rfl
 . show (bif fs m 2 then (bif fs m 11 then (bif fs m 4 then (bif fs m 38 then some (iH m 2) else none) else none) else none) else none)=bif fs m 2 && (fs m 11 && (fs m 4 && (fs m 38 && true))) then _ else _;cases fs m 2 <;> cases fs m 11 <;> cases fs m 4 <;> cases fs m 38 <;> rfl
 . show (bif fs m 2 then (bif fs m 11 then (bif fs m 4 then (bif fs m 38 then some (iH m 3) else none) else none) else none) else none)=bif fs m 2 && (fs m 11 && (fs m 4 && (fs m 38 && true))) then _ else _;cases fs m 2 <;> cases fs m 11 <;> cases fs m 4 <;> cases fs m 38 <;> rfl
 . show (bif fs m 2 then (bif fs m 11 then (bif fs m 4 then (bif fs m 38 then some (iH m 4) else none) else none) else none) else none)=bif fs m 2 && (fs m 11 && (fs m 4 && (fs m 38 && true))) then _ else _;cases fs m 2 <;> cases fs m 11 <;> cases fs m 4 <;> cases fs m 38 <;> rfl
 . show (bif fs m 2 then (bif fs m 11 then (bif fs m 38 then some (iH m 5) else none) else none) else none)=bif fs m 2 && (fs m 11 && (fs m 38 && true)) then _ else _;cases fs m 2 <;> cases fs m 11 <;> cases fs m 38 <;> rfl
 . show (bif fs m 2 then (bif fs m 11 then (bif fs m 38 then (bif fs m 103 then some (iH m 6) else none) else none) else none) else none)=bif fs m 2 && (fs m 11 && (fs m 38 && (fs m 103 && true))) then _ else _;cases fs m 2 <;> cases fs m 11 <;> cases fs m 38 <;> cases fs m 103 <;> rfl
 . show (bif fs m 2 then (bif fs m 11 then some (iH m 7) else none) else none)=bif fs m 2 && (fs m 11 && true) then _ else _;cases fs m 2 <;> cases fs m 11 <;> rfl
 . show (bif fs m 2 then (bif fs m 11 then some (iH m 8) else none) else none)=bif fs m 2 && (fs m 11 && true) then _ else _;cases fs m 2 <;> cases fs m 11 <;> rfl
theorem Jc (op:Int) (hop:Yk op):∃ a b c,zo op=some ((),((a,b,c,lg op,()),()))/\(lg op).length<=3:=by rcases hop with h | h | h | h | h | h | h | h | h <;> subst h <;> exact ⟨_,_,_,rfl,by decide⟩
theorem Zd (m:cz) (hb:qB m):Nh m=J6 (kl m):=by
 unfold Nh kl;rw [Vd m hb];cases hm:wP m with
 | false=>rfl
 | true =>
 have hk:QA m.1=some ((),((yn m.1,()),())):=rfl;dsimp only [Option.bind_some,Bool.not_true,cond_false];rw [hk];cases yn m.1 with
 | false=>rfl
 | true =>
 show Option.bind (DS m 3) _=_;rw [HU m 3 hb];cases h3:j6 m 3 with
 | none=>rfl
 | some c =>
 have hr:LP=some ((),((cT,()),())):=rfl;unfold Aa;dsimp only [Option.bind_some,Bool.not_true,cond_false];rw [hr];dsimp only [Option.bind_some];refine (bn (NS m c (yt hm h3) (c,()) rfl)).trans ?_;have hop:=tV m.1 c;have hw:aq .i64 1 (dQ (CG m.1 c) 0 cT)=dY m.1 c:=by unfold dY at hop ⊢;exact bb (by omega) (by omega)
 dsimp only [Option.bind_some];rw [hw];generalize dY m.1 c=op at hop ⊢;obtain ⟨a1,a2,a3,hf,hfl⟩:=Jc op hop;rw [hf];dsimp only [Option.bind_some];have hfit:cO 8 [((2:Int),()),(11,())] (lg op)=true:=acB (by show (2 + (lg op).length) * 8<=140737488355328; omega);rw [hfit];refine (bn (M0 m hb ((2,()) :: (11,()) :: lg op) (by simp only [aca]; omega) (op,[],[],[],[],m.1,0,0,()))).trans ?_;rw [LU m op hop];show _=J6 (Gj m op);rw [KX m op hop];cases GO m op with
 | false=>rfl
 | true => refine (bn (WD (iH m op) (C7 hb op))).trans ?_;cases qG (iH m op) <;> rfl
def DK (b:aU):List qU:=match fy b with
 | (m,c)=>bif ak c 0 then (match kl m with | (q,d)=>bif ak d 0 then (bif ak q.1 6 && !(bI q.2.2.1 q.2.1) then (bif jU q.2.2.1 q.2.1 then [(q.2.2.1,()),(q.2.1,())] else [(q.2.1,()),(q.2.2.1,())]) else [(q.2.1,())]) else []) else []
theorem Ex {b:aU}:∀ {nos:aU} {a:Nat} {o l:List nP} {e:Nat},a<=b.length->(∀ f∈o,f.2.1.length<=1048576)->kC b nos a o=some (l,e)->l.length=o.length + nos.length/\∀ f∈l,f.2.1.length<=1048576
 | [],_,_,_,_,_,ho,h=>by cases h;exact ⟨rfl,ho⟩
 | x :: r,a,o,l,e,ha,ho,h=>by
   rw [kC] at h;cases hg:nu b a x.1 with
   | none=>rw [hg] at h; cases h
   | some p =>
     rw [hg] at h;obtain ⟨_,h2,h3⟩:=rW ha hg;obtain ⟨k1,k2⟩:=Ex (nos:=r) h3 (fun f hf=>by
      rcases adD.1 hf with h | h
      . exact ho f h
      . rcases adx.1 h with rfl
        exact acv h2 (by omega)) h
     refine ⟨?_,k2⟩;rw [k1,ab7];simp only [aca,acd];omega
theorem mJ (b:aU):qB (fy b).1:=by
 have h0:qB ([],[],()):=⟨acS _,acS _,fun f hf=>by cases hf⟩;unfold fy;cases hc:iP b 0 4 with
 | none=>exact h0
 | some mti =>
   cases hn:BD b with
   | none=>exact h0
   | some p =>
     obtain ⟨nos,a⟩:=p;obtain ⟨n1,n2⟩:=AZ hn;dsimp only;cases hf:kC b nos a [] with
     | none=>exact h0
     | some q =>
       obtain ⟨l,e⟩:=q;obtain ⟨k1,k2⟩:=Ex n2 (fun f hf=>by cases hf) hf;dsimp only;split
       . refine ⟨?_,?_,k2⟩
         . show mti.length<=_;rw [(dP hc).2.1]; omega
         . show l.length<=_;rw [k1]; simp only [acd]; exact acv (Nat.le_of_eq (acz _)) (acv n1 (by omega))
       . exact h0
theorem Nw {m:cz} (hb:qB m):IL (kl m).1:=by
 have h0:IL gN:=⟨acS _,acS _,acS _,acS _,acS _⟩;unfold kl Gj;cases wP m with
 | false=>exact h0
 | true =>
 cases yn m.1 with
 | false=>exact h0
 | true =>
 cases j6 m 3 with
 | none=>exact h0
 | some c =>
 dsimp only [cond_true];cases I1 m (dY m.1 c) with
 | false=>exact h0
 | true =>
   dsimp only [cond_true];cases qG (iH m (dY m.1 c)) with
   | false=>exact h0
   | true=>exact C7 hb _
theorem OJ (b:aU):FX (DK b):=by
 have h1:=Nw (mJ b);have h0:FX []:=⟨acS _,fun x hx=>by cases hx⟩;unfold DK;generalize fy b=p at h1 ⊢;obtain ⟨m,c⟩:=p;dsimp only at h1 ⊢;cases ak c 0 with
 | false=>exact h0
 | true =>
 generalize kl m=r at h1 ⊢;obtain ⟨q,d⟩:=r;dsimp only [cond_true] at h1 ⊢;have two:∀ x y:List UInt8,x.length<=1048576->y.length<=1048576->FX [(x,()),(y,())]:=fun x y hx hy=>⟨acb _,fun z hz=>by
  rcases aci.1 hz with rfl | hz
  . exact hx
  . rcases adx.1 hz with rfl
    exact hy⟩
 cases ak d 0 with
 | false=>exact h0
 | true =>
   dsimp only [cond_true];cases ak q.1 6 && !(bI q.2.2.1 q.2.1) with
   | false=>exact ⟨aer 1,fun z hz=>by rcases adx.1 hz with rfl; exact h1.1⟩
   | true =>
     dsimp only [cond_true];cases jU q.2.2.1 q.2.1 with
     | true=>exact two _ _ h1.2.1 h1.1
     | false=>exact two _ _ h1.1 h1.2.1
theorem TM (b:aU) (hb:qx b):NF b=some ((),((DK b,()),())):=by
 unfold NF DK;rw [PN b hb];have hm:=mJ b;unfold Bz;generalize fy b=p at hm ⊢;obtain ⟨m,c⟩:=p;dsimp only [Option.bind_some] at hm ⊢;cases ak c 0 with
 | false=>rfl
 | true =>
   dsimp only [Bool.not_true,cond_false,cond_true];rw [aaN m hm];unfold J6;generalize kl m=r;obtain ⟨q,d⟩:=r;dsimp only [Option.bind_some];cases ak d 0 with
   | false=>rfl
   | true => dsimp only [Bool.not_true,cond_false,cond_true];cases ak q.1 6 <;> cases bI q.2.2.1 q.2.1 <;> cases jU q.2.2.1 q.2.1 <;> rfl
theorem Fc {a b:List UInt8}:bI a b=true↔a=b:=by simp [bI]
theorem U4 (b:aU) (hb:qx b):NZ b=some ((),((DK b,()),())):=by
 unfold NZ DK;rw [Pb b hb];have hm:=mJ b;unfold Bz;generalize fy b=p at hm ⊢;obtain ⟨m,c⟩:=p;dsimp only [Option.bind_some] at hm ⊢;rw [Zd m hm];unfold J6;generalize kl m=r;obtain ⟨q,d⟩:=r;dsimp only [Option.bind_some];cases ak c 0 with
 | false=>rfl
 | true =>
 cases ak d 0 with
 | false=>rfl
 | true =>
 dsimp only [Bool.not_true,cond_false,cond_true];cases ak q.1 6 with
 | false => dsimp only [cond_false,Bool.false_and];rw [Oo]; rfl
 | true =>
   show Option.bind (AT [(q.2.1,()),(q.2.2.1,())]) _=_;rw [Oy];unfold Tk;dsimp only [Option.bind_some,Bool.true_and];cases he:bI q.2.2.1 q.2.1 with
   | true => have e:=Fc.1 he;rw [e,zI];dsimp only [cond_false];rw [zD,dT]; rfl
   | false =>
     cases hc:jU q.2.2.1 q.2.1 with
     | true =>
       dsimp only [cond_true];rw [zD];have:bI q.2.1 q.2.2.1=false:=by
        cases h:bI q.2.1 q.2.2.1 with
        | false=>rfl
        | true=>rw [Fc.1 h,dT] at he; cases he
       dsimp only;rw [this]; rfl
     | false => dsimp only [cond_false];rw [zD];dsimp only;rw [he]; rfl
def qV (b:aU) (n:Int):List cW:=uB n (DK b)
abbrev cH:=aU×Int×List cW×Int×Int×Int×Int×Int×aU×Unit
def sQ (t:cH):Prop:=qx t.1/\t.2.2.1.length<=1048576/\t.2.2.2.2.2.2.2.2.1.length<=1048576
def GR (a b:List cW):Bool:=cond (ak (ae a) (ae b)) (allI (fun i x=>ak x.1 (gt (0,()) b (i:Int)).1) 0 a) false
theorem OK (a b:List cW) (hs:a.length<=1048576):MK a b=some ((),((GR a b,()),())):=by
 unfold MK GR;dsimp only;cases he:ak (ae a) (ae b) with
 | false=>rfl
 | true =>
   have hl:a.length=b.length:=by have:=fN.1 he; unfold ae at this; omega
   have h:=aD (step:=cf oG) a (fun i (_:Unit)=>(a,b,ae a,((i:Nat):Int),())) (fun i x _=>bif ak x.1 (gt (0,()) b (i:Int)).1 then Sum.inl () else .inr (.inr (false,()))) (fun _=> .inl (a,b,ae a,(a.length:Int),())) (a0:=()) (fun i x u hx=>by
    have hlt:=aj hx;show oG a b (ae a) (i:Int)=_;unfold oG;rw [aC hx,ax hx,aR _ hx,aL (by unfold aS; omega),jY (xs:=b) (by omega)];dsimp only [cond_true];show cond (!(ak x.1 (gt (0,()) b (i:Int)).1)) _ _=_;cases ak x.1 (gt (0,()) b (i:Int)).1 <;> rfl) (fun u=>by
    show oG a b (ae a) (a.length:Int)=_;unfold oG;rw [aw rfl]; rfl)
   rw [cJ] at h;refine (bn h).trans ?_;dsimp only [cond_true];cases allI _ 0 a <;> rfl
theorem Xz (a b:List cW) (hs:a.length<=1048576):Sx a b=some ((),((GR a b,()),())):=OK a b hs
theorem Qz (t:cH) (n:Int) (hb:sQ t):XU t n=some ((),((qV t.1 n,()),())):=by unfold XU qV;rw [TM _ hb.1];dsimp only [Option.bind_some];rw [QM _ n (OJ t.1)]; rfl
theorem So (t:cH) (n:Int) (hb:sQ t):Ye t n=some ((),((qV t.1 n,()),())):=by unfold Ye qV;rw [U4 _ hb.1];dsimp only [Option.bind_some];rw [QI _ n (OJ t.1)]; rfl
def B6 (t:cH):Bool:=cond (ak t.2.1 1) (cond (bz 0 t.2.2.2.1) (au t.2.2.2.1 (ae t.2.2.1)) false) (cond (ak t.2.1 2) (cond (ak t.2.2.2.1 (ae t.2.2.1)) (au 0 (ae t.2.2.1)) false) (cond (ak t.2.1 3) (dm t.2.2.2.1 1 (ae t.2.2.1)) (ak t.2.2.2.1 0)))
def Rs (t:cH):Bool:=cond (bz t.2.1 2) (cond (cond (cond (ak t.2.2.2.2.2.1 (-1)) (ak t.2.2.2.2.2.2.1 (-1)) false) (ak t.2.2.2.2.2.2.2.1 0) false) (ak (ae t.2.2.2.2.2.2.2.2.1) 0) false) (cond (cond (!cS t.2.2.2.2.2.1) true (au t.2.2.2.2.2.1 t.2.2.2.2.1)) false (cond (ak t.2.1 5) (cond (cS t.2.2.2.2.2.2.1) (bz t.2.2.2.2.2.1 t.2.2.2.2.2.2.1) false) (ak t.2.2.2.2.2.2.1 (-1))))
def tM (t:cH) (n:Int):Bool:=cond (cond (cond (!dm n 1 5) true (au 300 (ae t.1))) true (au 200 (ae t.2.2.2.2.2.2.2.2.1))) false (cond (cS t.2.2.2.2.1) (cond (cS t.2.2.2.2.2.2.2.1) (cond (dm t.2.1 0 5) (cond (B6 t) (cond (cond (ak t.2.1 0) (au 0 (ae t.2.2.1)) false) false (cond (cond (!(ak t.2.1 0)) (GR t.2.2.1 (qV t.1 n)) true) (Rs t) false)) false) false) false) false)
theorem R8 (t:cH) (n:Int) (hb:sQ t):Yg t n=some ((),((tM t n,()),())):=by
 have hn:=Qz t n hb;have he:=OK t.2.2.1 (qV t.1 n) hb.2.1;have hh:L6 t=some ((),((B6 t,()),())):=by unfold L6 B6;dsimp only;rw [j8];cases ak t.2.1 1 <;> cases ak t.2.1 2 <;> cases ak t.2.1 3 <;> rfl
 unfold Yg;dsimp only;rw [j8,ke,ke,j8,hh,hn];dsimp only [Option.bind_some];rw [he,ke,ke];dsimp only [Option.bind_some];unfold tM Rs;generalize B6 t=c1;generalize GR t.2.2.1 (qV t.1 n)=c2;generalize dm n 1 5=c3;generalize dm t.2.1 0 5=c4;generalize au 300 (ae t.1)=c5;generalize au 200 (ae t.2.2.2.2.2.2.2.2.1)=c6;generalize cS t.2.2.2.2.1=c7;generalize cS t.2.2.2.2.2.2.2.1=c8;generalize cS t.2.2.2.2.2.1=c9;generalize cS t.2.2.2.2.2.2.1=ca;generalize bz t.2.1 2=cb;generalize ak t.2.1 0=cc;generalize ak t.2.1 5=cd;generalize au 0 (ae t.2.2.1)=ce;cases c3 <;> first | rfl | skip
 cases c5 <;> first | rfl | skip
 cases c6 <;> first | rfl | skip
 cases c7 <;> first | rfl | skip
 cases c8 <;> first | rfl | skip
 cases c4 <;> first | rfl | skip
 cases c1 <;> first | rfl | skip
 cases cc <;> cases ce <;> cases c2 <;> first | rfl | skip
 all_goals (cases cb <;> first | rfl | skip)
 all_goals (cases c9 <;> first | rfl | skip)
 all_goals (cases au t.2.2.2.2.2.1 t.2.2.2.2.1 <;> cases cd <;> cases ca <;> rfl)
theorem Vb {α:Type} {h:Int} {xs:List α} (hs:xs.length<=1048576):dm h 0 (aI .i64 (ae xs) 1)=cond (bz 0 h) (au h (ae xs)) false:=by
 unfold ae;rw [aO (by omega) (by omega)];unfold dm;have:bz h ((xs.length:Int) - 1)=au h (xs.length:Int):=by unfold bz au;exact decide_eq_decide.2 (by omega)
 rw [this]
theorem Cf {pc:Int} (h:dm pc 0 5=true):pc=0∨pc=1∨pc=2∨pc=3∨pc=4∨pc=5:=by have:=dJ.1 h;omega
theorem S7 (t:cH) (n:Int) (hb:sQ t):US t n=some ((),((tM t n,()),())):=by
 obtain ⟨d,pc,st,held,inv,lin,res,at',rep,u⟩:=t;have hn:=So (d,pc,st,held,inv,lin,res,at',rep,u) n hb;have he:=Xz st (qV d n) hb.2.1;have hl:= @Vb _ held st hb.2.1;cases hpc:dm pc 0 5 with
 | false =>
   have hp:PB pc=some ((),(([],()),())):=by unfold PB;rw [iD,hpc]; rfl
   unfold US tM;dsimp only;rw [iD,hp];dsimp only [Option.bind_some];rw [hpc];cases dm n 1 5 <;> first | rfl | skip
   cases au 300 (ae d) <;> cases au 200 (ae rep) <;> cases cS inv <;> cases cS at' <;> rfl
 | true =>
   have hp:∃ nm,PB pc=some ((),((nm,()),()))/\bI nm []=false:=by rcases Cf hpc with h | h | h | h | h | h <;> subst h <;> exact ⟨_,rfl,rfl⟩
   obtain ⟨nm,hp,hne⟩:=hp;unfold US tM B6 Rs;dsimp only;rw [iD,hp];dsimp only [Option.bind_some];rw [hne,jZ,jZ,jZ,jZ,iD,iD,hn,hl,hpc];dsimp only [Option.bind_some];rw [he];dsimp only [Option.bind_some];generalize GR st (qV d n)=c2;generalize dm n 1 5=c3;generalize au 300 (ae d)=c5;generalize au 200 (ae rep)=c6;generalize cS inv=c7;generalize cS at'=c8;generalize cS lin=c9;generalize cS res=ca;generalize dm held 1 (ae st)=cg;generalize au 0 (ae st)=ce;generalize ak held (ae st)=ch;generalize bz 0 held=ci;generalize au held (ae st)=cj;generalize ak held 0=ck;cases c3 <;> first | rfl | skip
   cases c5 <;> first | rfl | skip
   cases c6 <;> first | rfl | skip
   cases c7 <;> first | rfl | skip
   cases c8 <;> first | rfl | skip
   clear hp hn he hl;rcases Cf hpc with h | h | h | h | h | h <;> subst h
   . simp only [show ak (0:Int) 0=true from rfl,show ak (0:Int) 1=false from rfl,show ak (0:Int) 2=false from rfl,show ak (0:Int) 3=false from rfl,show au (0:Int) 3=true from rfl,show bz (0:Int) 2=true from rfl,ab9,aco,acY,adG];cases ce <;> cases ck <;> rfl
   . simp only [show ak (1:Int) 0=false from rfl,show ak (1:Int) 1=true from rfl,show au (1:Int) 3=true from rfl,show bz (1:Int) 2=true from rfl,ab9,aco,acY,adG];cases c2 <;> cases ci <;> cases cj <;> rfl
   . simp only [show ak (2:Int) 0=false from rfl,show ak (2:Int) 1=false from rfl,show ak (2:Int) 2=true from rfl,show au (2:Int) 3=true from rfl,show bz (2:Int) 2=true from rfl,ab9,aco,acY,adG];cases c2 <;> cases ch <;> cases ce <;> rfl
   . simp only [show ak (3:Int) 0=false from rfl,show ak (3:Int) 1=false from rfl,show ak (3:Int) 2=false from rfl,show ak (3:Int) 3=true from rfl,show ak (3:Int) 5=false from rfl,show au (3:Int) 3=false from rfl,show bz (3:Int) 2=false from rfl,ab9,aco,acY,adG];cases c2 <;> cases cg <;> cases c9 <;> cases au lin inv <;> rfl
   . simp only [show ak (4:Int) 0=false from rfl,show ak (4:Int) 1=false from rfl,show ak (4:Int) 2=false from rfl,show ak (4:Int) 3=false from rfl,show ak (4:Int) 5=false from rfl,show au (4:Int) 3=false from rfl,show bz (4:Int) 2=false from rfl,ab9,aco,acY,adG];cases c2 <;> cases ck <;> cases c9 <;> cases au lin inv <;> rfl
   . simp only [show ak (5:Int) 0=false from rfl,show ak (5:Int) 1=false from rfl,show ak (5:Int) 2=false from rfl,show ak (5:Int) 3=false from rfl,show ak (5:Int) 5=true from rfl,show au (5:Int) 3=false from rfl,show bz (5:Int) 2=false from rfl,ab9,aco,acY,adG];cases c2 <;> cases ck <;> cases c9 <;> cases au lin inv <;> cases ca <;> rfl
theorem Bf {α:Type} (p:α->Bool):∀ (xs:List α) (i:Nat),bz 0 (dQ p i xs)=xs.any p
 | [],_=>rfl
 | x :: r,i=>by
   rw [dQ,aeU];cases p x with
   | true=>exact ace (by show (0:Int)<=(i:Int); omega)
   | false=>exact Bf p r (i + 1)
theorem BA (a b:Int):ak a b=ak b a:=by unfold ak;exact Bool.beq_comm
def G7 (v:Int) (xs:List cW):Bool:=xs.any fun y=>ak v y.1
theorem ze {α Y:Type} (p:α->Bool) (y:Y) (z:Y):∀ (xs:List α) (i:Nat),iV (fun _ x (_:Unit)=>bif p x then Sum.inr y else .inl ()) (fun _=>z) i xs ()=bif xs.any p then y else z
 | [],_=>rfl
 | x :: r,i=>by
   rw [iV,aeU];cases p x with
   | true=>rfl
   | false=>exact ze p y z r (i + 1)
theorem Pk (xs:List cW) (v:Int) (hs:xs.length<=1048576):Rr xs v=some ((),((G7 v xs,()),())):=by rw [vQ xs v hs,Bf]; rfl
theorem W9 (xs:List cW) (v:Int) (hs:xs.length<=1048576):Nk xs v=some ((),((G7 v xs,()),())):=by
 have h:=aD (step:=cf n9) xs (fun i (_:Unit)=>(v,xs,ae xs,((i:Nat):Int),())) (fun _ x _=>bif ak v x.1 then Sum.inr (.inr (true,())) else .inl ()) (fun _=> .inl (v,xs,ae xs,(xs.length:Int),())) (a0:=()) (fun i x u hx=>by
  have hlt:=aj hx;show n9 v xs (ae xs) (i:Int)=_;unfold n9;rw [aC hx,ax hx,aR _ hx,aL (by unfold aS; omega),BA x.1 v];cases ak v x.1 <;> rfl) (fun u=>by
  show n9 v xs (ae xs) (xs.length:Int)=_;unfold n9;rw [aw rfl]; rfl)
 rw [ze] at h;unfold Nk;refine (bn h).trans ?_;unfold G7;cases xs.any fun y=>ak v y.1 <;> rfl
def sD (t:cH):Nat:=min t.2.2.2.1.toNat t.2.2.1.length
def FJ (t:cH) (k:Int):Bool:=G7 k (t.2.2.1.take (sD t))
theorem TY (t:cH) (k:Int) (hb:sQ t):XG t k=some ((),((FJ t k,()),())):=by
 have hs:=hb.2.1;have hle:sD t<=t.2.2.1.length:=aeH _ _;have hl:(t.2.2.1.take (sD t)).length=sD t:=by rw [acL]; omega
 have h:=aD (step:=ff xB) (t.2.2.1.take (sD t)) (fun i (_:Unit)=>(k,((i:Nat):Int),t,())) (fun _ x _=>bif ak k x.1 then Sum.inr (.inr (true,())) else .inl ()) (fun _=> .inl (k,((sD t:Nat):Int),t,())) (a0:=()) (fun i x u hx=>by
  have hlt:=aj hx;rw [hl] at hlt;rw [ac8,if_pos hlt] at hx;have h1:i < t.2.2.2.1.toNat:=acA hlt (Nat.min_le_left _ _);show xB k (i:Int) t=_;unfold xB;rw [aF (show (i:Int) < t.2.2.2.1 by omega),aC hx,ax hx,aR _ hx,aL (by unfold aS; omega),BA x.1 k];cases ak k x.1 <;> rfl) (fun u=>by
  rw [hl];show xB k ((sD t:Nat):Int) t=_;unfold xB;have:cond (au ((sD t:Nat):Int) t.2.2.2.1) (au ((sD t:Nat):Int) (ae t.2.2.1)) false=false:=by
   unfold sD;rcases Nat.le_total t.2.2.2.1.toNat t.2.2.1.length with h | h
   . rw [ad9 h,ay (by omega)]; rfl
   . rw [Nat.min_eq_right h,aw rfl]; cases au _ _ <;> rfl
  rw [this]; rfl)
 rw [ze] at h;unfold XG;refine (bn h).trans ?_;unfold FJ G7;cases List.any _ _ <;> rfl
theorem Xp (t:cH) (k:Int) (hb:sQ t):XD t k=some ((),((FJ t k,()),())):=by
 have hs:=hb.2.1;have hle:sD t<=t.2.2.1.length:=aeH _ _;have hu:B3 0 (Gm t.2.2.2.1 (ae t.2.2.1))=((sD t:Nat):Int):=by unfold B3 Gm sD ae;split <;> split <;> omega
 unfold XD;dsimp only;rw [hu,gT hle,pY,Pk _ k (by rw [acL]; omega)]; rfl
noncomputable def lz (l:List gp):List aH:=open Classical in if h:∃ M,lM dt M/\en dt (fj l) M then Classical.choose h else []
theorem uG {l:List gp} (hB:xR l):(lz l).length=(fj l).length/\(∀ x∈lz l,x∈fj l)/\lM dt (lz l)/\en dt (fj l) (lz l)/\Nr l=some ((),((lz l,()),()))/\OP l=some ((),((lz l,()),())):=by
 obtain ⟨M,⟨m1,m2⟩,m3⟩:=AH l hB;obtain ⟨M',p0,p1,p2,p3,p4⟩:=Hp l hB;have e0:M=M':=by have h:=m3.symm.trans p3;simp only [ab6,acI,true_and,adn] at h;exact h
 subst e0;have hex:∃ M,lM dt M/\en dt (fj l) M:=⟨M,m1,m2⟩;have e:lz l=M:=by unfold lz;rw [dif_pos hex];exact qu fk (ac6 hex).1 m1 ((ac6 hex).2.symm.trans m2)
 rw [e];exact ⟨p0,p1,m1,m2,p3,p4⟩
theorem EF {l:List gp} (hB:xR l):B7 (lz l):=by obtain ⟨h1,h2,_⟩:=uG hB;refine ⟨by rw [h1]; exact hB.2.1,fun a ha => ?_⟩;have:=h2 a ha;unfold fj at this;obtain ⟨xs,hx,hm⟩:=List.mem_flatten.1 this;obtain ⟨s,hs,rfl⟩:=ad7.1 hx;exact hB.2.2 s hs a hm
def qM (n k:Int) (xs:List aH) (i:Nat) (a:aH):Bool:=cond (ak (aG a.1 n) k) (cond (decide (0 < i)) (jU (gt d59 xs ((i:Int) - 1)).1 a.1) true) false
def D3 (n k:Int) (xs:List aH):Bool:=allI (qM n k xs) 0 xs
def jI (n:Int) (k:Nat) (s:gp):Bool:=cond (dm s.1 (-1) 11) (D3 n (k:Int) s.2.1) false
noncomputable def C6 (l:List gp):Bool:=cond (dm (ae l) 1 5) (cond (allI (jI (ae l)) 0 l) (Cm (lz l)) false) false
theorem TO (l t11:List gp) (k t12 t13:Int) (s:gp) (hl:l.length<=1048576) (hs:s.2.1.length<=1048576) (hb:∀ a∈s.2.1,gB a):Py l k t11 t12 t13 s.2.1 (ae s.2.1) 0 s=some (bif D3 (ae l) k s.2.1 then .inl (l,k,t11,t12,t13,s.2.1,ae s.2.1,(s.2.1.length:Int),s,()) else .inr (false,())):=by
 have h:=aD (step:=D9 vj) s.2.1 (fun i (_:Unit)=>(l,k,t11,t12,t13,s.2.1,ae s.2.1,((i:Nat):Int),s,())) (fun i x _=>bif qM (ae l) k s.2.1 i x then Sum.inl () else .inr (.inr (false,()))) (fun _=> .inl (l,k,t11,t12,t13,s.2.1,ae s.2.1,(s.2.1.length:Int),s,())) (a0:=()) (fun i x u hx=>by
  have hlt:=aj hx;show vj l k t11 t12 t13 s.2.1 (ae s.2.1) (i:Int) s=_;unfold vj qM;rw [aC hx,ax hx,aR _ hx,ql x.1 (ae l) (cl (hb x (acg hx)).1),aL (by unfold aS; omega)];dsimp only [cond_true,Option.bind_some];cases ak (aG x.1 (ae l)) k with
  | false=>rfl
  | true =>
    by_cases h0:0 < i
    . rw [aF (show (0:Int) < i by omega),aO (by omega) (by omega),iw hx h0,ace h0];dsimp only [cond_true,cond_false,Bool.not_true];cases jU (gt d59 s.2.1 ((i:Int) - 1)).1 x.1 <;> rfl
    . rw [ay (show ¬ (0:Int) < i by omega),acD h0]; rfl) (fun u=>by
  show vj l k t11 t12 t13 s.2.1 (ae s.2.1) (s.2.1.length:Int) s=_;unfold vj;rw [aw rfl]; rfl)
 rw [cJ] at h;refine adL h ?_;unfold D3;cases allI _ 0 s.2.1 <;> rfl
theorem VC (l t11:List gp) (k t12 t13:Int) (s:gp) (hl:l.length<=1048576) (hs:s.2.1.length<=1048576) (hb:∀ a∈s.2.1,gB a):OY l k t11 t12 t13 s.2.1 (ae s.2.1) 0 s=some (bif D3 (ae l) k s.2.1 then .inl (l,k,t11,t12,t13,s.2.1,ae s.2.1,(s.2.1.length:Int),s,()) else .inr (false,())):=by
 have h:=aD (step:=D9 wq) s.2.1 (fun i (_:Unit)=>(l,k,t11,t12,t13,s.2.1,ae s.2.1,((i:Nat):Int),s,())) (fun i x _=>bif qM (ae l) k s.2.1 i x then Sum.inl () else .inr (.inr (false,()))) (fun _=> .inl (l,k,t11,t12,t13,s.2.1,ae s.2.1,(s.2.1.length:Int),s,())) (a0:=()) (fun i x u hx=>by
  have hlt:=aj hx;show wq l k t11 t12 t13 s.2.1 (ae s.2.1) (i:Int) s=_;unfold wq qM;rw [aC hx,ax hx,aR _ hx,BM x.1 (ae l) (cl (hb x (acg hx)).1),aL (by unfold aS; omega)];dsimp only [cond_true,Option.bind_some];cases ak (aG x.1 (ae l)) k with
  | false=>rfl
  | true =>
    by_cases h0:0 < i
    . rw [aF (show (0:Int) < i by omega),aO (by omega) (by omega),iw hx h0,ace h0,uh];dsimp only [cond_true,cond_false,Bool.not_true];cases jU (gt d59 s.2.1 ((i:Int) - 1)).1 x.1 <;> rfl
    . rw [ay (show ¬ (0:Int) < i by omega),acD h0]; rfl) (fun u=>by
  show wq l k t11 t12 t13 s.2.1 (ae s.2.1) (s.2.1.length:Int) s=_;unfold wq;rw [aw rfl]; rfl)
 rw [cJ] at h;refine adL h ?_;unfold D3;cases allI _ 0 s.2.1 <;> rfl
theorem H6 {l:List gp} (hB:xR l) {i:Nat} {s:gp} (h:l[i]? = some s):s.2.1.length<=1048576:=by have h1:=si h;have h2:=Ac l (i + 1);rw [h1,ab7] at h2;have:=hB.2.1;omega
theorem Uy (l:List gp) (hB:xR l):XB l=some ((),((C6 l,()),())):=by
 have hl:=hB.1;obtain ⟨_,_,_,_,hg,_⟩:=uG hB;unfold XB C6;dsimp only;rw [j8];cases dm (ae l) 1 5 with
 | false=>rfl
 | true =>
 have h:=aD (step:=cf wZ) l (fun i (_:Unit)=>(l,l,ae l,((i:Nat):Int),())) (fun i x _=>bif jI (ae l) i x then Sum.inl () else .inr (.inr (false,()))) (fun _=> .inl (l,l,ae l,(l.length:Int),())) (a0:=()) (fun i x u hx=>by
  have hlt:=aj hx;show wZ l l (ae l) (i:Int)=_;unfold wZ jI;rw [aC hx,ax hx,aR _ hx];dsimp only [cond_true];rw [j8];dsimp only [Option.bind_some];cases dm x.1 (-1) 11 with
  | false=>rfl
  | true =>
    dsimp only [Bool.not_true,cond_false,cond_true];rw [TO l l (i:Int) (ae l) (i:Int) x hl (H6 hB hx) (hB.2.2 x (acg hx))];cases D3 (ae l) (i:Int) x.2.1 with
    | false=>rfl
    | true =>
      dsimp only [cond_true,Option.bind_some,Sum.elim_inl];rw [aL (by unfold aS; omega)]; rfl) (fun u=>by
  show wZ l l (ae l) (l.length:Int)=_;unfold wZ;rw [aw rfl]; rfl)
 rw [cJ] at h;refine (bn h).trans ?_;cases allI (jI (ae l)) 0 l with
 | false=>rfl
 | true => show Option.bind (Nr l) _=_;rw [hg];show Option.bind (JK (lz l,())) _=_;rw [Rl _ (EF hB)]; rfl
theorem Vo (l:List gp) (hB:xR l):Yf l=some ((),((C6 l,()),())):=by
 have hl:=hB.1;obtain ⟨_,_,_,_,_,hg⟩:=uG hB;unfold Yf C6;have h:=aD (step:=cf vI) l (fun i (_:Unit)=>(l,l,ae l,((i:Nat):Int),())) (fun i x _=>bif jI (ae l) i x then Sum.inl () else .inr (.inr (false,()))) (fun _=> .inl (l,l,ae l,(l.length:Int),())) (a0:=()) (fun i x u hx=>by
  have hlt:=aj hx;show vI l l (ae l) (i:Int)=_;unfold vI jI;rw [aC hx,ax hx,aR _ hx];dsimp only [cond_true];rw [iD];dsimp only [Option.bind_some];cases dm x.1 (-1) 11 with
  | false=>rfl
  | true =>
    dsimp only [Bool.not_true,cond_false,cond_true];rw [VC l l (i:Int) (ae l) (i:Int) x hl (H6 hB hx) (hB.2.2 x (acg hx))];cases D3 (ae l) (i:Int) x.2.1 with
    | false=>rfl
    | true =>
      dsimp only [cond_true,Option.bind_some,Sum.elim_inl];rw [aL (by unfold aS; omega)]; rfl) (fun u=>by
  show vI l l (ae l) (l.length:Int)=_;unfold vI;rw [aw rfl]; rfl)
 rw [cJ] at h;refine (bn h).trans ?_;cases allI (jI (ae l)) 0 l with
 | false => cases dm (ae l) 1 5 <;> rfl
 | true =>
   dsimp only [cond_true,Option.bind_some,Sum.elim_inl];rw [iD];dsimp only [Option.bind_some];cases dm (ae l) 1 5 with
   | false=>rfl
   | true => show Option.bind (OP l) _=_;rw [hg];show Option.bind (Jg (lz l,())) _=_;rw [SG _ (EF hB)]; rfl
abbrev dM:=List gp×Int×Int×List cH×Unit
def jf (w:dM):Prop:=xR w.1/\w.2.2.2.1.length<=1048576/\∀ t∈w.2.2.2.1,sQ t
def nv (t:cH):List cW:=[(t.2.2.2.2.1,()),(t.2.2.2.2.2.1,()),(t.2.2.2.2.2.2.1,())]
def jM (n:Int):List cW->List cW->Option (List cW)
 | [],o=>some o
 | x :: r,o=>bif ak x.1 (-1) then jM n r o else bif bz n x.1 then none else bif G7 x.1 o then none else jM n r (o ++ [x])
def Cw (n:Int) (x:cW) (o:List cW) (y:Unit):Sum (List cW) Unit:=bif ak x.1 (-1) then .inl o else bif bz n x.1 then .inr y else bif G7 x.1 o then .inr y else .inl (o ++ [x])
theorem uf {Y:Type} (n:Int) (y:Y) (z:List cW->Y):∀ (xs:List cW) (i:Nat) (o:List cW),iV (fun _ x o=>match Cw n x o () with | .inl o'=>Sum.inl o' | .inr _=> .inr y) z i xs o=match jM n xs o with | some o'=>z o' | none=>y
 | [],_,_=>rfl
 | x :: r,i,o=>by
   rw [iV,jM];unfold Cw;cases ak x.1 (-1) with
   | true=>exact uf n y z r (i + 1) o
   | false =>
     cases bz n x.1 with
     | true=>rfl
     | false =>
       cases G7 x.1 o with
       | true=>rfl
       | false=>exact uf n y z r (i + 1) _
theorem qJ (n:Int):∀ (xs o o':List cW),jM n xs o=some o'->o'.length<=o.length + xs.length
 | [],o,o',h=>by cases h; exact acb _
 | x :: r,o,o',h=>by
   rw [jM] at h;cases h1:ak x.1 (-1) <;> rw [h1] at h
   . cases h2:bz n x.1 <;> rw [h2] at h
     . cases h3:G7 x.1 o <;> rw [h3] at h
       . have:=qJ n r _ _ h;rw [ab7] at this;simp only [aca,acd] at this ⊢;omega
       . cases h
     . cases h
   . have:=qJ n r _ _ h;simp only [aca];omega
theorem Zt (n:Int) (o:List cW) (t11:List cH) (t12 t13:Int) (xs:List cW) (hx:xs.length<=3) (ho:o.length<=1000):PZ n o t11 t12 t13 xs (ae xs) 0=some (match jM n xs o with | some o'=> .inl (n,o',t11,t12,t13,xs,ae xs,ae xs,()) | none=> .inr (false,())):=by
 have h:=aP (step:=yF uT) xs (fun i (o:List cW)=>(n,o,t11,t12,t13,xs,ae xs,((i:Nat):Int),())) (fun _ x o=>match Cw n x o () with | .inl o'=>Sum.inl o' | .inr _=> .inr (.inr (false,()))) (fun o=> .inl (n,o,t11,t12,t13,xs,ae xs,ae xs,())) (fun i o=>o.length<=1000 + i) (a0:=o) ho (fun i x o hx' ho'=>by
  have hlt:=aj hx';show uT n o t11 t12 t13 xs (ae xs) (i:Int)=_;unfold uT;rw [aC hx',ax hx',aR _ hx',aL (by unfold aS; omega)];dsimp only [cond_true];rw [W9 o x.1 (by omega)];dsimp only [Option.bind_some];rw [K9 (by omega)];unfold Cw;cases ak x.1 (-1) <;> cases bz n x.1 <;> cases G7 x.1 o <;> rfl) (fun i x o o' hx' ho' hf=>by
  unfold Cw at hf;cases h1:ak x.1 (-1) <;> rw [h1] at hf
  . cases h2:bz n x.1 <;> rw [h2] at hf
    . cases h3:G7 x.1 o <;> rw [h3] at hf
      . cases hf;rw [ab7]; show o.length + 1<=_; omega
      . cases hf
    . cases hf
  . cases hf; omega) (fun o ho'=>by
  show uT n o t11 t12 t13 xs (ae xs) (xs.length:Int)=_;unfold uT;rw [aw rfl]; rfl)
 rw [uf] at h;refine adL h ?_;cases jM n xs o <;> rfl
theorem YU (n:Int) (o:List cW) (t36:List cH) (t37 t38:Int) (xs:List cW) (w:dM) (hn:w.2.2.1=n) (hx:xs.length<=3) (ho:o.length<=1000):OG o t36 t37 t38 xs (ae xs) 0 w=some (match jM n xs o with | some o'=> .inl (o',t36,t37,t38,xs,ae xs,ae xs,w,()) | none=> .inr (false,())):=by
 subst hn;have h:=aP (step:=yF xg) xs (fun i (o:List cW)=>(o,t36,t37,t38,xs,ae xs,((i:Nat):Int),w,())) (fun _ x o=>match Cw w.2.2.1 x o () with | .inl o'=>Sum.inl o' | .inr _=> .inr (.inr (false,()))) (fun o=> .inl (o,t36,t37,t38,xs,ae xs,ae xs,w,())) (fun i o=>o.length<=1000 + i) (a0:=o) ho (fun i x o hx' ho'=>by
  have hlt:=aj hx';show xg o t36 t37 t38 xs (ae xs) (i:Int) w=_;unfold xg;rw [aC hx',ax hx',aR _ hx',aL (by unfold aS; omega)];dsimp only [cond_true];rw [Pk o x.1 (by omega)];dsimp only [Option.bind_some];rw [K9 (by omega)];unfold Cw;cases ak x.1 (-1) <;> cases bz w.2.2.1 x.1 <;> cases G7 x.1 o <;> rfl) (fun i x o o' hx' ho' hf=>by
  unfold Cw at hf;cases h1:ak x.1 (-1) <;> rw [h1] at hf
  . cases h2:bz w.2.2.1 x.1 <;> rw [h2] at hf
    . cases h3:G7 x.1 o <;> rw [h3] at hf
      . cases hf;rw [ab7]; show o.length + 1<=_; omega
      . cases hf
    . cases hf
  . cases hf; omega) (fun o ho'=>by
  show xg o t36 t37 t38 xs (ae xs) (xs.length:Int) w=_;unfold xg;rw [aw rfl]; rfl)
 rw [uf] at h;refine adL h ?_;cases jM w.2.2.1 xs o <;> rfl
def lR (n:Int):List cH->List cW->Option (List cW)
 | [],o=>some o
 | t :: r,o=>(jM n (nv t) o).bind (lR n r)
def CD (L now:Int) (t:cH):Bool:=cond (tM t L) (!(au now t.2.2.2.2.2.2.2.1)) false
theorem Ff {Y:Type} (n:Int) (y:Y) (z:List cW->Y):∀ (xs:List cH) (i:Nat) (o:List cW),iV (fun _ x o=>match jM n (nv x) o with | some o'=>Sum.inl o' | none=> .inr y) z i xs o=match lR n xs o with | some o'=>z o' | none=>y
 | [],_,_=>rfl
 | x :: r,i,o=>by
   rw [iV,lR];cases jM n (nv x) o with
   | none=>rfl
   | some o'=>exact Ff n y z r (i + 1) o'
theorem Et {Y:Type} (L now n:Int) (y:Y) (z:Y->Prop) (Z:List cW->Y) (hZ:∀ o,z (Z o)):∀ (xs:List cH) (i:Nat) (o:List cW),(bif xs.all (CD L now) && (lR n xs o).isSome then z (iV (fun _ x o=>bif CD L now x then (match jM n (nv x) o with | some o'=>Sum.inl o' | none=> .inr y) else .inr y) Z i xs o) else iV (fun _ x o=>bif CD L now x then (match jM n (nv x) o with | some o'=>Sum.inl o' | none=> .inr y) else .inr y) Z i xs o=y:Prop)
 | [],_,o=>hZ o
 | x :: r,i,o=>by
   rw [iV,lR,adj];cases CD L now x with
   | false=>rfl
   | true =>
     cases jM n (nv x) o with
     | none=>rw [show (none:Option (List cW)).bind (lR n r)=none from rfl]; cases r.all (CD L now) <;> rfl
     | some o'=>exact Et L now n y z Z hZ r (i + 1) o'
theorem TC (n:Int) (ts:List cH) (ht:ts.length<=12):XO ts n=some ((),(((lR n ts []).isSome,()),())):=by
 have h:=aP (step:=eS xj) ts (fun i (o:List cW)=>(n,o,ts,ae ts,((i:Nat):Int),())) (fun _ x o=>match jM n (nv x) o with | some o'=>Sum.inl o' | none=> .inr (.inr (false,()))) (fun o=> .inl (n,o,ts,ae ts,(ts.length:Int),())) (fun i o=>o.length<=3 * i) (a0:=[]) (acb _) (fun i x o hx ho=>by
  have hlt:=aj hx;show xj n o ts (ae ts) (i:Int)=_;unfold xj;rw [aC hx,ax hx,aR _ hx];dsimp only [cond_true];refine (bn (Zt n o ts (ae ts) (i:Int) (nv x) (acb _) (by omega))).trans ?_;cases jM n (nv x) o with
  | none=>rfl
  | some o' =>
    dsimp only [Option.bind_some,Sum.elim_inl];rw [aL (by unfold aS; omega)] <;> rfl) (fun i x o o' hx ho hf=>by
  cases hs:jM n (nv x) o with
  | none=>rw [hs] at hf; cases hf
  | some o2 =>
    rw [hs] at hf;cases hf;have:=qJ n _ _ _ hs;have e:(nv x).length=3:=rfl;omega) (fun o ho=>by
  show xj n o ts (ae ts) (ts.length:Int)=_;unfold xj;rw [aw rfl]; rfl)
 rw [Ff] at h;unfold XO;refine (bn h).trans ?_;cases lR n ts [] <;> rfl
theorem Ca (w:dM) (hb:jf w):IY w.2.2.2.1 (ae w.2.2.2.1) 0 w=some (bif w.2.2.2.1.all (CD (ae w.1) w.2.1) then .inl (w.2.2.2.1,ae w.2.2.2.1,ae w.2.2.2.1,w,()) else .inr (false,())):=by
 have hl:=hb.2.1;have h:=aD (step:=cf wy) w.2.2.2.1 (fun i (_:Unit)=>(w.2.2.2.1,ae w.2.2.2.1,((i:Nat):Int),w,())) (fun _ x _=>bif CD (ae w.1) w.2.1 x then Sum.inl () else .inr (.inr (false,()))) (fun _=> .inl (w.2.2.2.1,ae w.2.2.2.1,ae w.2.2.2.1,w,())) (a0:=()) (fun i x u hx=>by
  have hlt:=aj hx;show wy w.2.2.2.1 (ae w.2.2.2.1) (i:Int) w=_;unfold wy CD;rw [aC hx,ax hx,aR _ hx,aL (by unfold aS; omega)];dsimp only [cond_true];rw [R8 x (ae w.1) (hb.2.2 x (acg hx))];dsimp only [Option.bind_some];cases tM x (ae w.1) <;> cases au w.2.1 x.2.2.2.2.2.2.2.1 <;> rfl) (fun u=>by
  show wy w.2.2.2.1 (ae w.2.2.2.1) (w.2.2.2.1.length:Int) w=_;unfold wy;rw [aw rfl]; rfl)
 rw [fL] at h;refine adL h ?_;cases w.2.2.2.1.all (CD (ae w.1) w.2.1) <;> rfl
theorem BR (w:dM) (hb:jf w) (h12:w.2.2.2.1.length<=12):∃ y,PJ [] w.2.2.2.1 (ae w.2.2.2.1) 0 w=some y/\(bif w.2.2.2.1.all (CD (ae w.1) w.2.1) && (lR w.2.2.1 w.2.2.2.1 []).isSome then (∃ o,y= .inl (o,w.2.2.2.1,ae w.2.2.2.1,ae w.2.2.2.1,w,())) else y= .inr (false,()):Prop):=by
 have h:=aP (step:=eS xG) w.2.2.2.1 (fun i (o:List cW)=>(o,w.2.2.2.1,ae w.2.2.2.1,((i:Nat):Int),w,())) (fun _ x o=>bif CD (ae w.1) w.2.1 x then (match jM w.2.2.1 (nv x) o with | some o'=>Sum.inl o' | none=> .inr (.inr (false,()))) else .inr (.inr (false,()))) (fun o=> .inl (o,w.2.2.2.1,ae w.2.2.2.1,ae w.2.2.2.1,w,())) (fun i o=>o.length<=3 * i) (a0:=[]) (acb _) (fun i x o hx ho=>by
  have hlt:=aj hx;show xG o w.2.2.2.1 (ae w.2.2.2.1) (i:Int) w=_;unfold xG CD;rw [aC hx,ax hx,aR _ hx];dsimp only [cond_true];rw [S7 x (ae w.1) (hb.2.2 x (acg hx))];dsimp only [Option.bind_some];cases tM x (ae w.1) with
  | false=>rfl
  | true =>
  cases au w.2.1 x.2.2.2.2.2.2.2.1 with
  | true=>rfl
  | false =>
    dsimp only [Bool.not_true,Bool.not_false,cond_false,cond_true];refine (bn (YU w.2.2.1 o w.2.2.2.1 (ae w.2.2.2.1) (i:Int) (nv x) w rfl (acb _) (by omega))).trans ?_;cases jM w.2.2.1 (nv x) o with
    | none=>rfl
    | some o' =>
      dsimp only [Option.bind_some,Sum.elim_inl];rw [aL (by unfold aS; omega)] <;> rfl) (fun i x o o' hx ho hf=>by
  cases hk:CD (ae w.1) w.2.1 x with
  | false=>rw [hk] at hf; cases hf
  | true =>
    rw [hk] at hf;cases hs:jM w.2.2.1 (nv x) o with
    | none=>rw [hs] at hf; cases hf
    | some o2 =>
      rw [hs] at hf;cases hf;have:=qJ w.2.2.1 _ _ _ hs;have e:(nv x).length=3:=rfl;omega) (fun o ho=>by
  show xG o w.2.2.2.1 (ae w.2.2.2.1) (w.2.2.2.1.length:Int) w=_;unfold xG;rw [aw rfl]; rfl)
 exact ⟨_,h,Et (Y:=Sum (List cW×List cH×Int×Int×dM×Unit) (Bool×Unit)) (ae w.1) w.2.1 w.2.2.1 (.inr (false,())) (fun y=>∃ o,y= .inl (o,w.2.2.2.1,ae w.2.2.2.1,ae w.2.2.2.1,w,())) _ (fun o=>⟨o,rfl⟩) w.2.2.2.1 0 []⟩
def gw (o k:Int) (i:Nat) (t:cH):Bool:=SQ (FJ t k) (ak o (i:Int))
def eR (ts:List cH) (k:Nat) (s:gp):Bool:=cond (bz (ae ts) s.1) false (allI (gw s.1 (k:Int)) 0 ts)
theorem Wn (w:dM) (hb:jf w) (k t62:Int) (l:List gp) (s:gp):Qq k l t62 k w.2.2.2.1 (ae w.2.2.2.1) 0 w s=some (bif allI (gw s.1 k) 0 w.2.2.2.1 then .inl (k,l,t62,k,w.2.2.2.1,ae w.2.2.2.1,ae w.2.2.2.1,w,s,()) else .inr (false,())):=by
 have hl:=hb.2.1;have h:=aD (step:=D9 vn) w.2.2.2.1 (fun i (_:Unit)=>(k,l,t62,k,w.2.2.2.1,ae w.2.2.2.1,((i:Nat):Int),w,s,())) (fun i x _=>bif gw s.1 k i x then Sum.inl () else .inr (.inr (false,()))) (fun _=> .inl (k,l,t62,k,w.2.2.2.1,ae w.2.2.2.1,ae w.2.2.2.1,w,s,())) (a0:=()) (fun i x u hx=>by
  have hlt:=aj hx;show vn k l t62 k w.2.2.2.1 (ae w.2.2.2.1) (i:Int) w s=_;unfold vn gw;rw [aC hx,ax hx,aR _ hx,aL (by unfold aS; omega),TY x k (hb.2.2 x (acg hx))];dsimp only [cond_true,Option.bind_some];cases SQ (FJ x k) (ak s.1 (i:Int)) <;> rfl) (fun u=>by
  show vn k l t62 k w.2.2.2.1 (ae w.2.2.2.1) (w.2.2.2.1.length:Int) w s=_;unfold vn;rw [aw rfl]; rfl)
 rw [cJ] at h;refine adL h ?_;cases allI (gw s.1 k) 0 w.2.2.2.1 <;> rfl
theorem Wx (w:dM) (hb:jf w) (k t62:Int) (l:List gp) (s:gp):OH k l t62 k w.2.2.2.1 (ae w.2.2.2.1) 0 w s=some (bif allI (gw s.1 k) 0 w.2.2.2.1 then .inl (k,l,t62,k,w.2.2.2.1,ae w.2.2.2.1,ae w.2.2.2.1,w,s,()) else .inr (false,())):=by
 have hl:=hb.2.1;have h:=aD (step:=D9 wY) w.2.2.2.1 (fun i (_:Unit)=>(k,l,t62,k,w.2.2.2.1,ae w.2.2.2.1,((i:Nat):Int),w,s,())) (fun i x _=>bif gw s.1 k i x then Sum.inl () else .inr (.inr (false,()))) (fun _=> .inl (k,l,t62,k,w.2.2.2.1,ae w.2.2.2.1,ae w.2.2.2.1,w,s,())) (a0:=()) (fun i x u hx=>by
  have hlt:=aj hx;show wY k l t62 k w.2.2.2.1 (ae w.2.2.2.1) (i:Int) w s=_;unfold wY gw;rw [aC hx,ax hx,aR _ hx,aL (by unfold aS; omega),Xp x k (hb.2.2 x (acg hx))];dsimp only [cond_true,Option.bind_some];cases SQ (FJ x k) (ak s.1 (i:Int)) <;> rfl) (fun u=>by
  show wY k l t62 k w.2.2.2.1 (ae w.2.2.2.1) (w.2.2.2.1.length:Int) w s=_;unfold wY;rw [aw rfl]; rfl)
 rw [cJ] at h;refine adL h ?_;cases allI (gw s.1 k) 0 w.2.2.2.1 <;> rfl
theorem QN (w:dM) (hb:jf w):PG w.1 (ae w.1) 0 w=some (bif allI (eR w.2.2.2.1) 0 w.1 then .inl (w.1,ae w.1,ae w.1,w,()) else .inr (false,())):=by
 have hl:=hb.1.1;have h:=aD (step:=cf xu) w.1 (fun i (_:Unit)=>(w.1,ae w.1,((i:Nat):Int),w,())) (fun i x _=>bif eR w.2.2.2.1 i x then Sum.inl () else .inr (.inr (false,()))) (fun _=> .inl (w.1,ae w.1,ae w.1,w,())) (a0:=()) (fun i x u hx=>by
  have hlt:=aj hx;show xu w.1 (ae w.1) (i:Int) w=_;unfold xu eR;rw [aC hx,ax hx,aR _ hx];dsimp only [cond_true];cases bz (ae w.2.2.2.1) x.1 with
  | true=>rfl
  | false =>
    dsimp only [cond_false];rw [Wn w hb (i:Int) (ae w.1) w.1 x];cases allI (gw x.1 (i:Int)) 0 w.2.2.2.1 with
    | false=>rfl
    | true =>
      dsimp only [cond_true,Option.bind_some,Sum.elim_inl];rw [aL (by unfold aS; omega)] <;> rfl) (fun u=>by
  show xu w.1 (ae w.1) (w.1.length:Int) w=_;unfold xu;rw [aw rfl]; rfl)
 rw [cJ] at h;refine adL h ?_;cases allI (eR w.2.2.2.1) 0 w.1 <;> rfl
theorem Sn (w:dM) (hb:jf w):Ps w.1 (ae w.1) 0 w=some (bif allI (eR w.2.2.2.1) 0 w.1 then .inl (w.1,ae w.1,ae w.1,w,()) else .inr (false,())):=by
 have hl:=hb.1.1;have h:=aD (step:=cf uL) w.1 (fun i (_:Unit)=>(w.1,ae w.1,((i:Nat):Int),w,())) (fun i x _=>bif eR w.2.2.2.1 i x then Sum.inl () else .inr (.inr (false,()))) (fun _=> .inl (w.1,ae w.1,ae w.1,w,())) (a0:=()) (fun i x u hx=>by
  have hlt:=aj hx;show uL w.1 (ae w.1) (i:Int) w=_;unfold uL eR;rw [aC hx,ax hx,aR _ hx];dsimp only [cond_true];cases bz (ae w.2.2.2.1) x.1 with
  | true=>rfl
  | false =>
    dsimp only [cond_false];rw [Wx w hb (i:Int) (ae w.1) w.1 x];cases allI (gw x.1 (i:Int)) 0 w.2.2.2.1 with
    | false=>rfl
    | true =>
      dsimp only [cond_true,Option.bind_some,Sum.elim_inl];rw [aL (by unfold aS; omega)] <;> rfl) (fun u=>by
  show uL w.1 (ae w.1) (w.1.length:Int) w=_;unfold uL;rw [aw rfl]; rfl)
 rw [cJ] at h;refine adL h ?_;cases allI (eR w.2.2.2.1) 0 w.1 <;> rfl
noncomputable def jc (w:dM):Bool:=cond (C6 w.1) (cond (cS w.2.1) (cond (cond (!cS w.2.2.1) true (au 12 (ae w.2.2.2.1))) false (cond (w.2.2.2.1.all (CD (ae w.1) w.2.1) && (lR w.2.2.1 w.2.2.2.1 []).isSome) (allI (eR w.2.2.2.1) 0 w.1) false)) false) false
theorem V7 (w:dM) (hb:jf w):Ya w=some ((),((jc w,()),())):=by
 unfold Ya jc;rw [Uy w.1 hb.1,ke,ke];dsimp only [Option.bind_some];cases C6 w.1 with
 | false=>rfl
 | true =>
 cases cS w.2.1 with
 | false=>rfl
 | true =>
 cases cS w.2.2.1 with
 | false=>rfl
 | true =>
 cases h12:au 12 (ae w.2.2.2.1) with
 | true=>rfl
 | false =>
 have hl:w.2.2.2.1.length<=12:=by have:=of_decide_eq_false h12;unfold ae at this;omega
 dsimp only [Bool.not_true,cond_false,cond_true];rw [TC w.2.2.1 w.2.2.2.1 hl];dsimp only [Option.bind_some];cases (lR w.2.2.1 w.2.2.2.1 []).isSome with
 | false=>rw [Bool.and_false]; rfl
 | true =>
 show Option.bind (IY w.2.2.2.1 (ae w.2.2.2.1) 0 w) _=_;rw [Ca w hb,Bool.and_true];cases w.2.2.2.1.all (CD (ae w.1) w.2.1) with
 | false=>rfl
 | true =>
 dsimp only [cond_true,Option.bind_some,Sum.elim_inl];rw [QN w hb];cases allI (eR w.2.2.2.1) 0 w.1 <;> rfl
theorem Tv (w:dM) (hb:jf w):X7 w=some ((),((jc w,()),())):=by
 unfold X7 jc;rw [Vo w.1 hb.1,jZ,jZ];dsimp only [Option.bind_some];cases C6 w.1 with
 | false=>rfl
 | true =>
 cases cS w.2.1 with
 | false=>rfl
 | true =>
 cases cS w.2.2.1 with
 | false=>rfl
 | true =>
 cases h12:au 12 (ae w.2.2.2.1) with
 | true=>rfl
 | false =>
 have hl:w.2.2.2.1.length<=12:=by have:=of_decide_eq_false h12;unfold ae at this;omega
 dsimp only [Bool.not_true,cond_false,cond_true];obtain ⟨y,h1,h2⟩:=BR w hb hl;rw [h1];dsimp only [Option.bind_some];cases hc:w.2.2.2.1.all (CD (ae w.1) w.2.1) && (lR w.2.2.1 w.2.2.2.1 []).isSome with
 | false => rw [hc] at h2;have h2:y= .inr (false,()):=h2;rw [h2]; rfl
 | true => rw [hc] at h2;obtain ⟨o,rfl⟩:=h2;dsimp only [cond_true,Sum.elim_inl];rw [Sn w hb];cases allI (eR w.2.2.2.1) 0 w.1 <;> rfl
theorem nF (n:Int):BC n=some ((),((nw n,()),())):=by unfold BC Zi EW nw;rw [zi];dsimp only [Option.bind_some];cases bZ n <;> rfl
theorem bH (n:Int):(nw n).length<=20:=by
 unfold nw;cases hm:bZ n with
 | false=>exact acS _
 | true => have:=dJ.1 hm;obtain ⟨u,rfl⟩:∃ u:Nat,n=u:=⟨n.toNat,by omega⟩;show (Lib.itoa (u:Int)).length<=20;rw [Lib.itoa_nonneg];exact Eh (by omega)
def Hj (h:cy):List UInt8:=(((h.1 ++ [58]) ++ nw h.2.1) ++ [64]) ++ nw h.2.2.1
theorem Wc (h:cy) (hl:h.1.length<=1048576):XY h=some ((),((Hj h,()),())):=by
 have hbig:aS=140737488355328:=rfl;have n1:=bH h.2.1;have n2:=bH h.2.2.1;unfold XY;rw [nB,nB];dsimp only [Option.bind_some,dh]
 iterate 4 rw [cU (by simp only [ab7,aca,acd]; omega)]
 rfl
theorem T2 (h:cy) (hl:h.1.length<=1048576):Yh h=some ((),((Hj h,()),())):=by
 have hbig:aS=140737488355328:=rfl;have n1:=bH h.2.1;have n2:=bH h.2.2.1;unfold Yh;rw [nF,nF];dsimp only [Option.bind_some,dh]
 iterate 4 rw [cU (by simp only [ab7,aca,acd]; omega)]
 rfl
theorem qI (h:cy):(Hj h).length<=h.1.length + 42:=by have n1:=bH h.2.1;have n2:=bH h.2.2.1;unfold Hj;simp only [ab7,aca,acd];omega
def ny (o:List UInt8) (h:cy):List UInt8:=o ++ ([32] ++ Hj h)
def oT (a:aH) (now:Int):List UInt8:=(((((a.1 ++ [32]) ++ nw (sG a now)) ++ [47]) ++ nw a.2.1) ++ [32]) ++ nw a.2.2.1
def DZ (a:aH) (now:Int):List UInt8:=cond (ic a) (cond (cS now) ((a.2.2.2.2.2.1.filter (eM now)).foldl ny (oT a now)) []) []
theorem Ea (o:List UInt8) (hs:List cy) (h4:hs.length<=4) (hb:∀ h∈hs,h.1.length<=1048576) (ho:o.length<=10485760):PI o hs (ae hs) 0=some (.inl (hs.foldl ny o,hs,ae hs,(hs.length:Int),())):=by
 have hbig:aS=140737488355328:=rfl;have h:=aP (step:=cf vG) hs (fun i (o:List UInt8)=>(o,hs,ae hs,((i:Nat):Int),())) (fun _ x o=>Sum.inl (ny o x)) (fun o=> .inl (o,hs,ae hs,(hs.length:Int),())) (fun i o=>o.length<=10485760 + i * 1048700) (a0:=o) (by omega) (fun i x o hx ho=>by
  have hlt:=aj hx;have hx':=hb x (acg hx);have hn:=qI x;show vG o hs (ae hs) (i:Int)=_;unfold vG ny;rw [aC hx,ax hx,aR _ hx,Wc x hx',aL (by omega)];dsimp only [cond_true,Option.bind_some,dh];rw [cU (by simp only [ab7,aca,acd]; omega),cU (by simp only [ab7,aca,acd]; omega),acs];rfl) (fun i x o o' hx ho hf=>by
  have hn:=qI x;have hx':=hb x (acg hx);simp only [acJ] at hf;rw [<- hf];unfold ny;simp only [ab7,aca,acd];omega) (fun o ho=>by
  show vG o hs (ae hs) (hs.length:Int)=_;unfold vG;rw [aw rfl]; rfl)
 rw [bq (fun x o=>ny o x)] at h;exact h
theorem Ed (o:List UInt8) (hs:List cy) (h4:hs.length<=4) (hb:∀ h∈hs,h.1.length<=1048576) (ho:o.length<=10485760):Pp o hs (ae hs) 0=some (.inl (hs.foldl ny o,hs,ae hs,(hs.length:Int),())):=by
 have hbig:aS=140737488355328:=rfl;have h:=aP (step:=cf vp) hs (fun i (o:List UInt8)=>(o,hs,ae hs,((i:Nat):Int),())) (fun _ x o=>Sum.inl (ny o x)) (fun o=> .inl (o,hs,ae hs,(hs.length:Int),())) (fun i o=>o.length<=10485760 + i * 1048700) (a0:=o) (by omega) (fun i x o hx ho=>by
  have hlt:=aj hx;have hx':=hb x (acg hx);have hn:=qI x;show vp o hs (ae hs) (i:Int)=_;unfold vp ny;rw [aC hx,ax hx,aR _ hx,T2 x hx',aL (by omega)];dsimp only [cond_true,Option.bind_some,dh];rw [cU (by simp only [ab7,aca,acd]; omega),cU (by simp only [ab7,aca,acd]; omega)];rfl) (fun i x o o' hx ho hf=>by
  have hn:=qI x;have hx':=hb x (acg hx);simp only [acJ] at hf;rw [<- hf];unfold ny;simp only [ab7,aca,acd];omega) (fun o ho=>by
  show vp o hs (ae hs) (hs.length:Int)=_;unfold vp;rw [aw rfl]; rfl)
 rw [bq (fun x o=>ny o x)] at h;exact h
theorem wu {a:aH} (h:ic a=true):iG a.2.2.2.2.2.1=true/\a.1.length<=19:=by unfold ic ew at h;simp only [Bool.cond_false_right,ab8] at h;obtain ⟨⟨h0,_⟩,_,_,_,_,h,_⟩:=h;refine ⟨h,?_⟩;have:ae a.1<=19:=of_decide_eq_true h0;unfold ae at this;omega
theorem ru (a:aH) (now:Int):(oT a now).length<=a.1.length + 63:=by have n1:=bH (sG a now);have n2:=bH a.2.1;have n3:=bH a.2.2.1;unfold oT;simp only [ab7,aca,acd];omega
theorem KU {a:aH} (now:Int) (h:ic a=true):(a.2.2.2.2.2.1.filter (eM now)).length<=4/\∀ x∈a.2.2.2.2.2.1.filter (eM now),x.1.length<=6:=by obtain ⟨h1,_⟩:=wu h;refine ⟨acv (adI _ _) (C1 h1),fun x hx => ?_⟩;have hm:=Dr h1 x (adR.1 hx).1;unfold nI gG at hm;simp only [Bool.cond_false_right,ab8] at hm;have:=dJ.1 hm.1.2;unfold ae at this;omega
theorem BY:∀ (hs:List cy) (o:List UInt8),(∀ x∈hs,x.1.length<=6)->(hs.foldl ny o).length<=o.length + hs.length * 49
 | [],o,_=>acb _
 | h :: hs,o,hb=>by
   have ih:=BY hs (ny o h) fun x hx=>hb x (by simp [hx])
   have hn:=qI h;have h6:=hb h (by simp);have:(ny o h).length=o.length + (1 + (Hj h).length):=by unfold ny; simp only [ab7,aca,acd]
   rw [ade,aca];omega
theorem Ad (a:aH) (now:Int):(DZ a now).length<=300:=by
 unfold DZ;cases h:ic a <;> first | exact acS _ | skip
 cases cS now <;> first | exact acS _ | skip
 obtain ⟨l1,l2⟩:=KU now h;obtain ⟨_,h19⟩:=wu h;have:=BY _ (oT a now) l2;have hb:=ru a now;show ((a.2.2.2.2.2.1.filter (eM now)).foldl ny (oT a now)).length<=300;omega
theorem Ve (a:aH) (now:Int) (hb:gB a):X8 a now=some ((),((DZ a now,()),())):=by
 have hbig:aS=140737488355328:=rfl;have hl:=hb.1;have n1:=bH (sG a now);have n2:=bH a.2.1;have n3:=bH a.2.2.1;unfold X8;rw [DP a hb,ke,S5 a now hb,Ix _ now hb.2.1.1];dsimp only [Option.bind_some];rw [nB,nB,nB];dsimp only [Option.bind_some,dh];unfold DZ;cases h:ic a with
 | false=>rfl
 | true =>
 cases cS now with
 | false=>rfl
 | true =>
 dsimp only [cond_true,cond_false,Bool.not_true]
 iterate 6 rw [cU (by simp only [ab7,aca,acd]; omega)]
 obtain ⟨l1,l2⟩:=KU now h;have:=Ea (oT a now) _ l1 (fun x hx=>by have:=l2 x hx; omega) (by have:=ru a now; omega);exact bn this
theorem V9 (a:aH) (now:Int) (hb:gB a):Yd a now=some ((),((DZ a now,()),())):=by
 have hbig:aS=140737488355328:=rfl;have hl:=hb.1;have n1:=bH (sG a now);have n2:=bH a.2.1;have n3:=bH a.2.2.1;unfold Yd;rw [CQ a hb,jZ,Sl a now hb,KN _ now hb.2.1.1];dsimp only [Option.bind_some];rw [nF,nF,nF];dsimp only [Option.bind_some,dh];unfold DZ;cases h:ic a with
 | false=>rfl
 | true =>
 cases cS now with
 | false=>rfl
 | true =>
 dsimp only [cond_true,cond_false,Bool.not_true]
 iterate 6 rw [cU (by simp only [ab7,aca,acd]; omega)]
 obtain ⟨l1,l2⟩:=KU now h;have:=Ed (oT a now) _ l1 (fun x hx=>by have:=l2 x hx; omega) (by have:=ru a now; omega);exact bn this
abbrev FK:=List UInt8×Unit
def aa1:List FK:=[([114,101,97,100],()),([108,111,99,107],()),([119,111,114,107],()),([102,114,101,101],()),([115,101,110,100],()),([100,111,110,101],())]
def CJ (n:Int):List UInt8:=cond (dm n 0 5) (gt ([],()) aa1 n).1 []
theorem DT {n:Int} (h:dm n 0 5=true):n=0∨n=1∨n=2∨n=3∨n=4∨n=5:=by have:=dJ.1 h;omega
theorem Un (n:Int):XH n=some ((),((CJ n,()),())):=by
 unfold XH CJ;rw [j8];dsimp only [Option.bind_some];cases h:dm n 0 5 with
 | false=>rfl
 | true=>rcases DT h with rfl | rfl | rfl | rfl | rfl | rfl <;> rfl
theorem WO (n:Int):PB n=some ((),((CJ n,()),())):=by
 unfold PB CJ;rw [iD];dsimp only [Option.bind_some];cases h:dm n 0 5 with
 | false=>rfl
 | true=>rcases DT h with rfl | rfl | rfl | rfl | rfl | rfl <;> rfl
theorem zY (n:Int):(CJ n).length<=4:=by
 unfold CJ;cases h:dm n 0 5 with
 | false=>exact acS _
 | true=>rcases DT h with rfl | rfl | rfl | rfl | rfl | rfl <;> decide
def fR:List FK:=[([48,48],()),([51,48],()),([49,50],()),([49,52],()),([49,51],()),([50,53],()),([57,52],()),([53,49],()),([54,53],()),([54,49],()),([57,54],())]
def C2 (c:Int):List UInt8:=cond (dm c 0 10) (gt ([],()) fR c).1 []
theorem CI {n:Int} (h:dm n 0 10=true):n=0∨n=1∨n=2∨n=3∨n=4∨n=5∨n=6∨n=7∨n=8∨n=9∨n=10:=by have:=dJ.1 h;omega
theorem W0 (n:Int):Xy n=some ((),((C2 n,()),())):=by
 unfold Xy I9 C2;dsimp only [Option.bind_some];rw [j8];dsimp only [Option.bind_some];show cond (!dm n 0 10) _ _=_;cases h:dm n 0 10 with
 | false=>rfl
 | true=>rcases CI h with rfl | rfl | rfl | rfl | rfl | rfl | rfl | rfl | rfl | rfl | rfl <;> rfl
theorem Wj (n:Int):Wm n=some ((),((C2 n,()),())):=by
 unfold Wm Is C2;rw [iD];dsimp only [Option.bind_some];cases h:dm n 0 10 with
 | false=>rfl
 | true=>rcases CI h with rfl | rfl | rfl | rfl | rfl | rfl | rfl | rfl | rfl | rfl | rfl <;> rfl
theorem Af (n:Int):(C2 n).length<=2:=by
 unfold C2;cases h:dm n 0 10 with
 | false=>exact acS _
 | true=>rcases CI h with rfl | rfl | rfl | rfl | rfl | rfl | rfl | rfl | rfl | rfl | rfl <;> decide
def Di (s:List UInt8):Int×Bool:=match fR.findIdx? (fun y=>bI s y.1) with | some i=>((i:Int),true) | none=>(0,false)
theorem Kb (a b:List UInt8):bI a b=bI b a:=by unfold bI;exact Bool.beq_comm
theorem zj {α Y:Type} (p:α->Bool) (y:Nat->Y) (z:Y):∀ (xs:List α) (i:Nat),iV (fun i x (_:Unit)=>bif p x then Sum.inr (y i) else .inl ()) (fun _=>z) i xs ()=match xs.findIdx? p with | some j=>y (i + j) | none=>z
 | [],_=>rfl
 | x :: r,i=>by
   rw [iV,List.findIdx?_cons];cases hp:p x with
   | true=>rfl
   | false =>
     refine (zj p y z r (i + 1)).trans ?_;cases r.findIdx? p with
     | none=>rfl
     | some j=>show y (i + 1 + j)=y (i + (j + 1)); rw [show i + 1 + j=i + (j + 1) by omega]
theorem Ww (s:List UInt8):Oc s=some ((),(((Di s).1,()),((Di s).2,()),())):=by
 have h:=aD (step:=cf rm) fR (fun i (_:Unit)=>(s,fR,ae fR,((i:Nat):Int),())) (fun i x _=>bif bI s x.1 then Sum.inr (.inr ((i:Int),true,())) else .inl ()) (fun _=> .inl (s,fR,ae fR,(fR.length:Int),())) (a0:=()) (fun i x u hx=>by
  have hlt:=aj hx;have h8:fR.length=11:=rfl;show rm s fR (ae fR) (i:Int)=_;unfold rm;rw [aC hx,ax hx,aR _ hx,aL (by unfold aS; omega),Kb];dsimp only [cond_true];cases bI s x.1 <;> rfl) (fun u=>by
  show rm s fR (ae fR) (fR.length:Int)=_;rfl)
 rw [zj (Y:=Sum (List UInt8×List FK×Int×Int×Unit) (Int×Bool×Unit)) (fun (x:FK)=>bI s x.1) (fun i=> .inr ((i:Int),true,()))] at h;unfold Oc I9 Di;refine (bn h).trans ?_;cases fR.findIdx? (fun y=>bI s y.1) with
 | none=>rfl
 | some j=>dsimp only; rw [acz]; rfl
theorem Wq (s:List UInt8):LV s=some ((),(((Di s).1,()),((Di s).2,()),())):=by
 have h:=aD (step:=cf rr) fR (fun i (_:Unit)=>(fR,s,ae fR,((i:Nat):Int),())) (fun i x _=>bif bI s x.1 then Sum.inr (.inr ((i:Int),())) else .inl ()) (fun _=> .inl (fR,s,ae fR,(fR.length:Int),())) (a0:=()) (fun i x u hx=>by
  have hlt:=aj hx;have h8:fR.length=11:=rfl;show rr fR s (ae fR) (i:Int)=_;unfold rr;rw [aC hx,ax hx,aR _ hx,aL (by unfold aS; omega)];dsimp only [cond_true];cases bI s x.1 <;> rfl) (fun u=>by
  show rr fR s (ae fR) (fR.length:Int)=_;rfl)
 rw [zj (Y:=Sum (List FK×List UInt8×Int×Int×Unit) (Int×Unit)) (fun (x:FK)=>bI s x.1) (fun i=> .inr ((i:Int),()))] at h;have hi:LX fR s=some ((),(((match fR.findIdx? (fun y=>bI s y.1) with | some i=>(i:Int) | none => -1),()),())):=by
  unfold LX;refine (bn h).trans ?_;cases fR.findIdx? (fun y=>bI s y.1) with
  | none=>rfl
  | some j=>dsimp only; rw [acz]; rfl
 unfold LV Is Di;refine (bn hi).trans ?_;cases fR.findIdx? (fun y=>bI s y.1) with
 | none=>rfl
 | some j => show some ((),((B3 (j:Int) 0,()),(bz 0 (j:Int),()),()))=_;rw [show bz 0 (j:Int)=true from ace (by omega),show B3 (j:Int) 0=(j:Int) by unfold B3; split <;> omega]
def EU (b:aU):Int×Bool:=cond (ak (fy b).2 0) (match j6 (fy b).1 39 with | some s=>Di s | none=>(0,false)) (0,false)
theorem Y4 (b:aU) (hb:qx b):VG b=some ((),(((EU b).1,()),((EU b).2,()),())):=by
 unfold VG EU;rw [PN b hb];unfold Bz;dsimp only [Option.bind_some];rw [tF _ 39 (mJ b)];unfold Aa;dsimp only [Option.bind_some];cases ak (fy b).2 0 with
 | false=>rfl
 | true =>
   cases j6 (fy b).1 39 with
   | none=>rfl
   | some s=>exact bn (Ww s)
theorem YG (b:aU) (hb:qx b):Xt b=some ((),(((EU b).1,()),((EU b).2,()),())):=by
 unfold Xt EU;rw [Pb b hb];unfold Bz;dsimp only [Option.bind_some];rw [HU _ 39 (mJ b)];unfold Aa;dsimp only [Option.bind_some];cases ak (fy b).2 0 with
 | false=>rfl
 | true =>
   cases j6 (fy b).1 39 with
   | none=>rfl
   | some s=>exact bn (Wq s)
def nA (t:cH):List UInt8:=(([32] ++ nw t.2.2.2.1) ++ [47]) ++ nw (ae t.2.2.1)
def A3 (t:cH):List UInt8:=cond (EU t.2.2.2.2.2.2.2.2.1).2 ([32] ++ C2 (EU t.2.2.2.2.2.2.2.2.1).1) [32,45]
def Dg (t:cH):List UInt8:=CJ t.2.1 ++ cond (ak t.2.1 1) (nA t) (cond (ak t.2.1 2) (nA t) (cond (ak t.2.1 3) (nA t) (cond (ak t.2.1 4) (A3 t) (cond (ak t.2.1 5) (A3 t) []))))
theorem zc (t:cH):(Dg t).length<=50:=by
 have h1:=zY t.2.1;have h2:=bH t.2.2.2.1;have h3:=bH (ae t.2.2.1);have h4:=Af (EU t.2.2.2.2.2.2.2.2.1).1;have a1:(nA t).length<=42:=by unfold nA; simp only [ab7,aca,acd]; omega
 have a2:(A3 t).length<=42:=by
  unfold A3;cases (EU t.2.2.2.2.2.2.2.2.1).2 with
  | false=>show ([32,45]:List UInt8).length<=42; decide
  | true=>simp only [ab9,ab7,aca,acd]; omega
 have a3:([]:List UInt8).length<=42:=by decide
 have:(cond (ak t.2.1 1) (nA t) (cond (ak t.2.1 2) (nA t) (cond (ak t.2.1 3) (nA t) (cond (ak t.2.1 4) (A3 t) (cond (ak t.2.1 5) (A3 t) []))))).length<=42:=by
  cases ak t.2.1 1 <;> first | exact a1 | skip
  cases ak t.2.1 2 <;> first | exact a1 | skip
  cases ak t.2.1 3 <;> first | exact a1 | skip
  cases ak t.2.1 4 <;> first | exact a2 | skip
  cases ak t.2.1 5 <;> first | exact a2 | exact a3
 unfold Dg;rw [ab7];omega
theorem UG (t:cH) (hr:qx t.2.2.2.2.2.2.2.2.1):XF t=some ((),((Dg t,()),())):=by
 have hbig:aS=140737488355328:=rfl;have h1:=zY t.2.1;have h2:=bH t.2.2.2.1;have h3:=bH (ae t.2.2.1);have h4:=Af (EU t.2.2.2.2.2.2.2.2.1).1;unfold XF Dg nA A3;rw [Un,Y4 _ hr,nB,nB];dsimp only [Option.bind_some,dh];rw [W0];dsimp only [Option.bind_some]
 iterate 6 rw [cU (by simp only [ab7,aca,acd]; omega)]
 simp only [ab9];cases ak t.2.1 1 <;> first | (simp only [ab9,aco,acs]; done) | skip
 cases ak t.2.1 2 <;> first | (simp only [ab9,aco,acs]; done) | skip
 cases ak t.2.1 3 <;> first | (simp only [ab9,aco,acs]; done) | skip
 cases ak t.2.1 4 <;> cases ak t.2.1 5 <;> cases (EU t.2.2.2.2.2.2.2.2.1).2 <;> simp only [ab9,aco,acY,adG,acs,acN]
theorem Uk (t:cH) (hr:qx t.2.2.2.2.2.2.2.2.1):X5 t=some ((),((Dg t,()),())):=by
 have hbig:aS=140737488355328:=rfl;have h1:=zY t.2.1;have h2:=bH t.2.2.2.1;have h3:=bH (ae t.2.2.1);have h4:=Af (EU t.2.2.2.2.2.2.2.2.1).1;unfold X5 Dg nA A3;rw [WO,YG _ hr,nF,nF];dsimp only [Option.bind_some,dh];rw [Wj];dsimp only [Option.bind_some]
 iterate 7 rw [cU (by simp only [ab7,aca,acd]; omega)]
 simp only [ab9];cases ak t.2.1 1 <;> first | (simp only [ab9,aco,acs]; done) | skip
 cases ak t.2.1 2 <;> first | (simp only [ab9,aco,acs]; done) | skip
 cases ak t.2.1 3 <;> first | (simp only [ab9,aco,acs]; done) | skip
 cases ak t.2.1 4 <;> cases ak t.2.1 5 <;> cases (EU t.2.2.2.2.2.2.2.2.1).2 <;> simp only [ab9,aco,acY,adG,acs,acN]
def jz (now:Int) (o:List UInt8) (a:aH):List UInt8:=o ++ (DZ a now ++ [10])
theorem rz (now:Int) (o:List UInt8) (a:aH):(jz now o a).length<=o.length + 301:=by have:=Ad a now;unfold jz;simp only [ab7,aca,acd];omega
theorem VR (w:dM) (o:List UInt8) (xs:List aH) (hb:B7 xs) (ho:o.length<=1000):T7 o xs (ae xs) 0 w=some (.inl (xs.foldl (jz w.2.1) o,xs,ae xs,(xs.length:Int),w,())):=by
 have hbig:aS=140737488355328:=rfl;have hl:=hb.1;have h:=aP (step:=eS DC) xs (fun i (o:List UInt8)=>(o,xs,ae xs,((i:Nat):Int),w,())) (fun _ x o=>Sum.inl (jz w.2.1 o x)) (fun o=> .inl (o,xs,ae xs,(xs.length:Int),w,())) (fun i o=>o.length<=1000 + i * 301) (a0:=o) (by omega) (fun i x o hx ho=>by
  have hlt:=aj hx;have hn:=Ad x w.2.1;show DC o xs (ae xs) (i:Int) w=_;unfold DC jz;rw [aC hx,ax hx,aR _ hx,Ve x w.2.1 (hb.2 x (acg hx)),aL (by omega)];dsimp only [cond_true,Option.bind_some,dh];rw [cU (by omega),cU (by simp only [ab7,aca,acd]; omega),acs];rfl) (fun i x o o' hx ho hf=>by
  have:=rz w.2.1 o x;simp only [acJ] at hf;rw [<- hf];omega) (fun o ho=>by
  show DC o xs (ae xs) (xs.length:Int) w=_;unfold DC;rw [aw rfl]; rfl)
 rw [bq (fun x o=>jz w.2.1 o x)] at h;exact h
theorem Va (w:dM) (o:List UInt8) (xs:List aH) (hb:B7 xs) (ho:o.length<=1000):OE o xs (ae xs) 0 w=some (.inl (xs.foldl (jz w.2.1) o,xs,ae xs,(xs.length:Int),w,())):=by
 have hbig:aS=140737488355328:=rfl;have hl:=hb.1;have h:=aP (step:=eS xa) xs (fun i (o:List UInt8)=>(o,xs,ae xs,((i:Nat):Int),w,())) (fun _ x o=>Sum.inl (jz w.2.1 o x)) (fun o=> .inl (o,xs,ae xs,(xs.length:Int),w,())) (fun i o=>o.length<=1000 + i * 301) (a0:=o) (by omega) (fun i x o hx ho=>by
  have hlt:=aj hx;have hn:=Ad x w.2.1;show xa o xs (ae xs) (i:Int) w=_;unfold xa jz;rw [aC hx,ax hx,aR _ hx,V9 x w.2.1 (hb.2 x (acg hx)),aL (by omega)];dsimp only [cond_true,Option.bind_some,dh];rw [cU (by show _ + 1<=_; omega),cU (by simp only [ab7,aca,acd]; omega)];rfl) (fun i x o o' hx ho hf=>by
  have:=rz w.2.1 o x;simp only [acJ] at hf;rw [<- hf];omega) (fun o ho=>by
  show xa o xs (ae xs) (xs.length:Int) w=_;unfold xa;rw [aw rfl]; rfl)
 rw [bq (fun x o=>jz w.2.1 o x)] at h;exact h
theorem sg (now:Int):∀ (xs:List aH) (o:List UInt8),(xs.foldl (jz now) o).length<=o.length + xs.length * 301
 | [],o=>acb _
 | x :: xs,o=>by have ih:=sg now xs (jz now o x);have:=rz now o x;rw [ade,aca];omega
def tL (i:Nat) (o:List UInt8) (t:cH):List UInt8:=o ++ (((nw (i:Int) ++ [32]) ++ Dg t) ++ [10])
def FG:Nat->List cH->List UInt8->List UInt8
 | _,[],o=>o
 | i,t :: r,o=>FG (i + 1) r (tL i o t)
theorem Au {Y:Type} (z:List UInt8->Y):∀ (xs:List cH) (i:Nat) (o:List UInt8),iV (fun i x o=>Sum.inl (tL i o x)) z i xs o=z (FG i xs o)
 | [],_,_=>rfl
 | x :: r,i,o=>by rw [iV,FG];exact Au z r (i + 1) _
theorem yp (i:Nat) (o:List UInt8) (t:cH):(tL i o t).length<=o.length + 72:=by have h1:=bH (i:Int);have h2:=zc t;unfold tL;simp only [ab7,aca,acd];omega
theorem Ux (o:List UInt8) (xs:List cH) (hl:xs.length<=1048576) (hb:∀ t∈xs,qx t.2.2.2.2.2.2.2.2.1) (ho:o.length<=1048576000):Tu o xs (ae xs) 0=some (.inl (FG 0 xs o,xs,ae xs,(xs.length:Int),())):=by
 have hbig:aS=140737488355328:=rfl;have h:=aP (step:=cf C0) xs (fun i (o:List UInt8)=>(o,xs,ae xs,((i:Nat):Int),())) (fun i x o=>Sum.inl (tL i o x)) (fun o=> .inl (o,xs,ae xs,(xs.length:Int),())) (fun i o=>o.length<=1048576000 + i * 72) (a0:=o) (by omega) (fun i x o hx ho=>by
  have hlt:=aj hx;have h1:=bH (i:Int);have h2:=zc x;show C0 o xs (ae xs) (i:Int)=_;unfold C0 tL;rw [aC hx,ax hx,aR _ hx,nB,UG x (hb x (acg hx)),aL (by omega)];dsimp only [cond_true,Option.bind_some,dh]
  iterate 4 rw [cU (by first | omega | (simp only [ab7,aca,acd]; omega))]
  simp only [ab9,acs]) (fun i x o o' hx ho hf=>by
  have:=yp i o x;simp only [acJ] at hf;rw [<- hf];omega) (fun o ho=>by
  show C0 o xs (ae xs) (xs.length:Int)=_;unfold C0;rw [aw rfl]; rfl)
 rw [Au] at h;exact h
theorem Xb (o:List UInt8) (xs:List cH) (hl:xs.length<=1048576) (hb:∀ t∈xs,qx t.2.2.2.2.2.2.2.2.1) (ho:o.length<=1048576000):ON o xs (ae xs) 0=some (.inl (FG 0 xs o,xs,ae xs,(xs.length:Int),())):=by
 have hbig:aS=140737488355328:=rfl;have h:=aP (step:=cf vm) xs (fun i (o:List UInt8)=>(o,xs,ae xs,((i:Nat):Int),())) (fun i x o=>Sum.inl (tL i o x)) (fun o=> .inl (o,xs,ae xs,(xs.length:Int),())) (fun i o=>o.length<=1048576000 + i * 72) (a0:=o) (by omega) (fun i x o hx ho=>by
  have hlt:=aj hx;have h1:=bH (i:Int);have h2:=zc x;show vm o xs (ae xs) (i:Int)=_;unfold vm tL;rw [aC hx,ax hx,aR _ hx,nF,Uk x (hb x (acg hx)),aL (by omega)];dsimp only [cond_true,Option.bind_some,dh]
  iterate 4 rw [cU (by first | omega | (simp only [ab7,aca,acd]; omega))]
  simp only [ab9,acs]) (fun i x o o' hx ho hf=>by
  have:=yp i o x;simp only [acJ] at hf;rw [<- hf];omega) (fun o ho=>by
  show vm o xs (ae xs) (xs.length:Int)=_;unfold vm;rw [aw rfl]; rfl)
 rw [Au] at h;exact h
def mE (w:dM):List UInt8:=((([110,111,119,32] ++ nw w.2.1) ++ [32,115,116,101,112,32]) ++ nw w.2.2.1) ++ [10]
noncomputable def MX (w:dM):List UInt8:=cond (jc w) (FG 0 w.2.2.2.1 ((lz w.1).foldl (jz w.2.1) (mE w))) []
theorem UB (w:dM) (hb:jf w) (hr:∀ t∈w.2.2.2.1,qx t.2.2.2.2.2.2.2.2.1):g8 w=some ((),((MX w,()),())):=by
 have hbig:aS=140737488355328:=rfl;have n1:=bH w.2.1;have n2:=bH w.2.2.1;have hg:=(uG hb.1).2.2.2.2.1;have hgb:=EF hb.1;have hl:(mE w).length<=1000:=by unfold mE;simp only [ab7,aca,acd];omega
 unfold g8 MX;rw [V7 w hb,nB,nB,hg];dsimp only [Option.bind_some,dh]
 iterate 4 rw [cU (by first | omega | (simp only [ab7,aca,acd]; omega))]
 cases jc w with
 | false=>rfl
 | true =>
 refine (bn (VR w (mE w) (lz w.1) hgb hl)).trans ?_;have hf:=sg w.2.1 (lz w.1) (mE w);have hgl:=hgb.1;exact bn (Ux ((lz w.1).foldl (jz w.2.1) (mE w)) w.2.2.2.1 hb.2.1 hr (by omega))
theorem TK (w:dM) (hb:jf w) (hr:∀ t∈w.2.2.2.1,qx t.2.2.2.2.2.2.2.2.1):g10 w=some ((),((MX w,()),())):=by
 have hbig:aS=140737488355328:=rfl;have n1:=bH w.2.1;have n2:=bH w.2.2.1;have hg:=(uG hb.1).2.2.2.2.2;have hgb:=EF hb.1;have hl:(mE w).length<=1000:=by unfold mE;simp only [ab7,aca,acd];omega
 unfold g10 Zm MX;rw [Tv w hb,nF,nF,hg];dsimp only [Option.bind_some,dh]
 iterate 4 rw [cU (by first | omega | (simp only [ab7,aca,acd]; omega))]
 cases jc w with
 | false=>rfl
 | true =>
 refine (bn (Va w (mE w) (lz w.1) hgb hl)).trans ?_;have hf:=sg w.2.1 (lz w.1) (mE w);have hgl:=hgb.1;exact bn (Xb ((lz w.1).foldl (jz w.2.1) (mE w)) w.2.2.2.1 hb.2.1 hr (by omega))
end Go.Av
