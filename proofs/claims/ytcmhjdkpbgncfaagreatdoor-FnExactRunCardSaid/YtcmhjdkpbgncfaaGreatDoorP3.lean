/- FnExactRun, a part. -/
import Derived.Test.YtcmhjdkpbgncfaaGreatDoorQ3
set_option maxRecDepth 100000
set_option maxHeartbeats 4000000
namespace Go.Av
abbrev ep:=Int×S8×Unit
abbrev bw:=S8×List ep×Unit
def iG(m:bw):Prop:=m.1.length<=1048576/\m.2.1.length<=1048576/\∀ f∈m.2.1,f.2.1.length<=1048576
def gA(xs:List ep)(i:Nat)(x:ep):Bool:=cond (dP x.1 x.2.1) (cond (decide (0<i)) (!(ck x.1 (gt (0,[],()) xs ((i:Int)-1)).1)) true) false
def fZ(m:bw):Bool:=cond (cond (aH m.1) (aj (ae m.1) 4) false) (allI (gA m.2.1) 0 m.2.1) false
theorem JW(m:bw)(hb:iG m):Tz m.2.1 (ae m.2.1) 0 m=some (bif allI (gA m.2.1) 0 m.2.1 then .inl (m.2.1,ae m.2.1,(m.2.1.length:Int),m,())else .inr (false,())):=by
 have bp:=bk;obtain⟨ed,xs,u⟩:=m;obtain⟨_,hl,hf⟩:=hb;dsimp only at hl hf ⊢;have h:=aS (step:=eo za) xs (fun i (_:Unit)=>(xs,ae xs,((i:Nat):Int),(ed,xs,()),())) (fun i x _=>bif gA xs i x then Sum.inl ()else .inr (.inr (false,()))) (fun _=> .inl (xs,ae xs,(xs.length:Int),(ed,xs,()),())) (a0:=()) (fun i x a hx=>by
  have aV:=ah hx;show za xs (ae xs) (i:Int) (ed,xs,())=_;unfold za gA;rw[aL hx,aD hx,aM _ hx];dsimp only[oT];rw[Ag _ _ (cg (hf x (amk hx))),aU (by omega)];dsimp only[oB];cases dP x.1 x.2.1 with
  | false=>rfl
  | true =>
    by_cases h0:0<i
    . rw[aR (show(0:Int)<i by omega),bI (by omega) (by omega),od hx h0];dsimp only[oT,oF,oN];have e:gt d117 xs ((i:Int)-1)=gt (0,[],()) xs ((i:Int)-1):=rfl;rw[e,amg h0];cases ck x.1 (gt (0,[],()) xs ((i:Int)-1)).1 <;> rfl
    . rw[aF (show ¬ (0:Int)<i by omega),amB h0];try rfl) (fun a=>by
  show za xs (ae xs) (xs.length:Int) (ed,xs,())=_;unfold za;rw[aA rfl];try rfl)
 rw[kg]at h;have h':Tz xs (ae xs) 0 (ed,xs,())=_:=h;rw[h']
theorem KU(m:bw)(hb:iG m):g84 m=zR (fZ m):=by
 unfold g84 fZ;rw[gi _ (cg hb.1)];dsimp only[oB];cases aH m.1 with
 | false=>rfl
 | true =>
 cases aj (ae m.1) 4 with
 | false=>rfl
 | true => refine(bn (JW m hb)).trans ?_;show _=zR (allI (gA m.2.1) 0 m.2.1);cases allI (gA m.2.1) 0 m.2.1 <;> rfl
theorem Ji(m:bw)(hb:iG m):JJ m.2.1 (ae m.2.1) 0 m=some (bif allI (gA m.2.1) 0 m.2.1 then .inl (m.2.1,ae m.2.1,(m.2.1.length:Int),m,())else .inr (false,())):=by
 have bp:=bk;obtain⟨ed,xs,u⟩:=m;obtain⟨_,hl,hf⟩:=hb;dsimp only at hl hf ⊢;have h:=aS (step:=eo tS) xs (fun i (_:Unit)=>(xs,ae xs,((i:Nat):Int),(ed,xs,()),())) (fun i x _=>bif gA xs i x then Sum.inl ()else .inr (.inr (false,()))) (fun _=> .inl (xs,ae xs,(xs.length:Int),(ed,xs,()),())) (a0:=()) (fun i x a hx=>by
  have aV:=ah hx;show tS xs (ae xs) (i:Int) (ed,xs,())=_;unfold tS gA;rw[aL hx,aD hx,aM _ hx];dsimp only[oT];rw[Ht _ _ (cg (hf x (amk hx))),aU (by omega)];dsimp only[oB];cases dP x.1 x.2.1 with
  | false=>rfl
  | true =>
    by_cases h0:0<i
    . rw[aR (show(0:Int)<i by omega),bI (by omega) (by omega),od hx h0];dsimp only[oT,oF,oN];have e:gt d117 xs ((i:Int)-1)=gt (0,[],()) xs ((i:Int)-1):=rfl;rw[e,amg h0];cases ck x.1 (gt (0,[],()) xs ((i:Int)-1)).1 <;> rfl
    . rw[aF (show ¬ (0:Int)<i by omega),amB h0];try rfl) (fun a=>by
  show tS xs (ae xs) (xs.length:Int) (ed,xs,())=_;unfold tS;rw[aA rfl];try rfl)
 rw[kg]at h;have h':JJ xs (ae xs) 0 (ed,xs,())=_:=h;rw[h']
theorem CX(s:S8)(n:Int)(hs:s.length<=bQ):yf s n=zR (cond (aH s) (aj (ae s) n) false):=by unfold yf;rw[iZ s hs];try rfl
theorem G2(m:bw)(hb:iG m):GX m=zR (fZ m):=by
 unfold GX fZ;refine(bn (Ji m hb)).trans ?_;cases allI (gA m.2.1) 0 m.2.1 with
 | true =>
   show Option.bind (yf m.1 4) _=_;rw[CX m.1 4 (cg hb.1)];dsimp only[oB];cases aH m.1 with
   | false=>rfl
   | true=>cases aj (ae m.1) 4 <;> rfl
 | false =>
   cases aH m.1 with
   | false=>rfl
   | true=>cases aj (ae m.1) 4 <;> rfl
def jG(m:bw)(no:Int):Option S8:=(m.2.1.find? fun f=>aj f.1 no).map (·.2.1)
def Jf(o:Option S8):Option (Unit×((S8×Unit)×(Bool×Unit)×Unit)):=some ((),match o with | some s=>((s,()),(true,()),()) | none=>(([],()),(false,()),()))
theorem xV(m:bw)(no:Int)(hb:iG m):AJ m no=Jf (jG m no):=by
 have bp:=bk;have hl:=hb.2.1;unfold AJ;have h:=aS (step:=eo Bt) m.2.1 (fun i (_:Unit)=>(no,m.2.1,ae m.2.1,((i:Nat):Int),())) (fun i x _=>bif aj x.1 no then .inr (.inr (x.2.1,true,()))else .inl ()) (fun _=> .inl (no,m.2.1,ae m.2.1,(m.2.1.length:Int),())) (a0:=()) (fun i x a hx=>by
  have aV:=ah hx;show Bt no m.2.1 (ae m.2.1) (i:Int)=_;unfold Bt;rw[aL hx,aD hx,aM _ hx,aU (by omega)];dsimp only[oT];cases aj x.1 no <;> rfl) (fun a=>by
  show Bt no m.2.1 (ae m.2.1) (m.2.1.length:Int)=_;unfold Bt;rw[aA rfl];try rfl)
 rw[nY]at h;have h':YY no m.2.1 (ae m.2.1) 0=_:=h;refine(bn h').trans ?_;unfold jG Jf;cases m.2.1.find? _ <;> rfl
theorem Tb(m:bw)(no:Int)(hb:iG m):JD m no=Jf (jG m no):=by
 have bp:=bk;have hl:=hb.2.1;unfold JD;have h:=aS (step:=eo ub) m.2.1 (fun i (_:Unit)=>(no,m.2.1,ae m.2.1,((i:Nat):Int),())) (fun i x _=>bif aj x.1 no then .inr (.inr (x.2.1,true,()))else .inl ()) (fun _=> .inl (no,m.2.1,ae m.2.1,(m.2.1.length:Int),())) (a0:=()) (fun i x a hx=>by
  have aV:=ah hx;show ub no m.2.1 (ae m.2.1) (i:Int)=_;unfold ub;rw[aL hx,aD hx,aM _ hx,aU (by omega)];dsimp only[oT];cases aj x.1 no <;> rfl) (fun a=>by
  show ub no m.2.1 (ae m.2.1) (m.2.1.length:Int)=_;unfold ub;rw[aA rfl];try rfl)
 rw[nY]at h;have h':P3 no m.2.1 (ae m.2.1) 0=_:=h;refine(bn h').trans ?_;unfold jG Jf;cases m.2.1.find? _ <;> rfl
def mB(b:aJ):aJ->Nat->List ep->Option (List ep×Nat)
 | [],a,o=>some (o,a)
 | x::r,a,o=>match rJ b a x.1 with
   | some (s,e)=>mB b r e (o++[(x.1,s,())])
   | none=>none
def lv(l:aJ):aJ:=l.map fun x=>(ak .i64 x.1 64,())
def yL(x:Int×Unit):Bool:= !(aj (bE x.1) 0)
def gW(l:aJ):aJ:=l.filter fun x=> !(aj x.1 1)
def jH(l:aJ):Bool:=l.any fun x=>aj x.1 1
def Ca(b:aJ):Option (aJ×Nat) :=
 if 10<=b.length then
  (bif jH (gb (gR b 2 8))then
    (if 18<=b.length/\gb (gR b 10 8)≠[]then (bif (gW (gb (gR b 2 8))++lv (gb (gR b 10 8))).all yL then some (gW (gb (gR b 2 8))++lv (gb (gR b 10 8)),18)else none)else none)
  else (bif (gW (gb (gR b 2 8))).all yL then some (gW (gb (gR b 2 8)),10)else none))
 else none
def eR(b:aJ):bw×Int:=match je b 0 4 with
 | none=>(([],[],()),1)
 | some ed=>match Ca b with
   | none=>(([],[],()),2)
   | some (nos,a)=>match mB b nos a []with
     | none=>(([],[],()),3)
     | some (l,e)=>if e=b.length then ((ed,l,()),0)else (([],[],()),4)
def MO(p:bw×Int):Option (Unit×(bw×(Int×Unit)×Unit)):=some ((),(p.1,(p.2,()),()))
theorem aer(b:aJ)(hb:CQ b)(h2:2<=b.length):g79 b=some ((),match Ca b with | some p=>((p.1,()),((p.2:Int),()),(true,()),()) | none=>(([],()),(0,()),(false,()),())):=by
 have bp:=bk;have hl:=hb.1;unfold g79 Ca;have h0:J3 b 2=_:=Rk b 2 hb h2;unfold rQ at h0;refine(bn h0).trans ?_;by_cases E6:10<=b.length;rotate_left
 . rw[if_neg E6,if_neg E6];try rfl
 rw[if_pos E6,if_pos E6];have k1:=ow (gR b 2 8);generalize gb (gR b 2 8)=lo at k1 ⊢;have OQ:YT b 10 [] false lo (ae lo) 0=some (.inl (b,10,gW lo,jH lo,lo,ae lo,(lo.length:Int),())):=by
  have h:=aP (step:=CD zW) lo (fun i (o:aJ×Bool)=>(b,10,o.1,o.2,lo,ae lo,((i:Nat):Int),())) (fun _ x o=>Sum.inl (bif aj x.1 1 then (o.1,true)else (o.1++[x],o.2))) (fun o=> .inl (b,10,o.1,o.2,lo,ae lo,(lo.length:Int),())) (fun i o=>o.1.length<=i) (a0:=([],false)) (oR _) (fun i x o hx ho=>by
   have aV:=ah hx;show zW b 10 o.1 o.2 lo (ae lo) (i:Int)=_;unfold zW;rw[aL hx,aD hx,aM _ hx,aU (by omega)];have:bl 8 o.1 [x]=true:=amm (by show(o.1.length+1) * 8<=bQ; omega);dsimp only[oT];rw[this];cases aj x.1 1 <;> rfl) (fun i x o o' hx ho hf=>by
   simp only[amu]at hf;rw[<- hf];cases aj x.1 1 with
   | true=>show o.1.length<=_; omega
   | false=>show(o.1++[x]).length<=_; rw[amf]; show o.1.length+1<=_; omega) (fun o ho=>by
   show zW b 10 o.1 o.2 lo (ae lo) (lo.length:Int)=_;unfold zW;rw[aA rfl];try rfl)
  have BP:∀(l:aJ) (o:aJ×Bool),l.foldl (fun o x=>bif aj x.1 1 then (o.1,true)else (o.1++[x],o.2)) o=(o.1++gW l,o.2||jH l):=fun l=>by
   induction l with
   | nil=>intro o; simp[gW,jH]
   | cons x r ih => intro o;rw[am7,ih];unfold gW jH;rw[am6,List.any_cons];cases aj x.1 1 <;> simp
  rw[bS,BP]at h;exact h
 have ah9:∀(nos:aJ) (a:Int),nos.length<=1000->RJ () a nos (ae nos) 0=some (bif nos.all yL then .inl ((),a,nos,ae nos,(nos.length:Int),())else .inr ([],0,false,())):=fun nos a hn=>by
  have h:=aS (step:=pZ zx) nos (fun i (_:Unit)=>((),a,nos,ae nos,((i:Nat):Int),())) (fun _ x _=>bif yL x then Sum.inl ()else .inr (.inr ([],0,false,()))) (fun _=> .inl ((),a,nos,ae nos,(nos.length:Int),())) (a0:=()) (fun i x o hx=>by
   have aV:=ah hx;show zx () a nos (ae nos) (i:Int)=_;unfold zx;rw[aL hx,aD hx,aM _ hx,aU (by omega),wD];dsimp only[oT,oB];unfold yL;cases aj (bE x.1) 0 <;> rfl) (fun o=>by
   show zx () a nos (ae nos) (nos.length:Int)=_;unfold zx;rw[aA rfl];try rfl)
  rw[j9]at h;refine ao5 h ?_;cases nos.all yL <;> rfl
 have hlen:(gW lo).length<=64:=aml (am4 _ _) k1;refine(bn OQ).trans ?_;show cond (jH lo) _ _=_;cases jH lo with
 | false => refine(bn (ah9 (gW lo) 10 (by omega))).trans ?_;cases(gW lo).all yL <;> rfl
 | true =>
   have h1:J3 b 10=_:=Rk b 10 hb E6;unfold rQ at h1;refine(bn h1).trans ?_;by_cases v8:18<=b.length;rotate_left
   . rw[if_neg v8,if_neg (fun h=>v8 h.1)];try rfl
   rw[if_pos v8];have k2:=ow (gR b 10 8);have k3:= @Tf (gR b 10 8);generalize gb (gR b 10 8)=hi at k2 k3 ⊢;by_cases cY:hi=[]
   . rw[if_neg (fun h=>h.2 cY),cY];try rfl
   rw[if_pos ⟨v8,cY⟩];have he:aj (ae hi) 0=false:=beq_eq_false_iff_ne.2 (by
    show(hi.length:Int)≠0;cases hi with
    | nil=>exact absurd rfl cY
    | cons x r=>show((r.length+1:Nat):Int)≠0; omega)
   have BI:aad (gW lo) 18 hi (ae hi) 0=some (.inl (gW lo++lv hi,18,hi,ae hi,(hi.length:Int),())):=by
    have h:=aP (step:=pZ An) hi (fun i (o:aJ)=>(o,18,hi,ae hi,((i:Nat):Int),())) (fun _ x o=>Sum.inl (o++[(ak .i64 x.1 64,())])) (fun o=> .inl (o,18,hi,ae hi,(hi.length:Int),())) (fun i o=>o.length=(gW lo).length+i) (a0:=gW lo) rfl (fun i x o hx ho=>by
     have aV:=ah hx;show An o 18 hi (ae hi) (i:Int)=_;unfold An;rw[aL hx,aD hx,aM _ hx,aU (by omega)];have:bl 8 o [(ak .i64 x.1 64,())]=true:=amm (by show(o.length+1) * 8<=bQ; omega);rw[this];try rfl) (fun i x o o' hx ho hf=>by
     simp only[amu]at hf;rw[<- hf,amf,ho];try rfl) (fun o ho=>by
     show An o 18 hi (ae hi) (hi.length:Int)=_;unfold An;rw[aA rfl];try rfl)
    have BP:∀(l o:aJ),l.foldl (fun o x=>o++[(ak .i64 x.1 64,())]) o=o++lv l:=fun l=>by
     induction l with
     | nil=>intro o; simp[lv]
     | cons x r ih=>intro o; rw[am7,ih]; simp[lv]
    rw[bS,BP]at h;exact h
   show cond (cond (!true) true (aj (ae hi) 0)) _ _=_;rw[he];refine(bn BI).trans ?_;have hla:(gW lo++lv hi).length<=1000:=by rw[amf]; unfold lv; rw[anK]; omega
   refine(bn (ah9 (gW lo++lv hi) 18 hla)).trans ?_;cases(gW lo++lv hi).all yL <;> rfl
theorem Ab{α A Y:Type}(p:α->Bool)(f:α->A->A)(y:Y)(z:A->Y):∀(xs:List α) (i:Nat) (a:A),kR (fun _ x a=>bif p x then .inl (f x a)else .inr y) z i xs a=bif xs.all p then z (xs.foldl (fun a x=>f x a) a)else y
 | [],_,_=>rfl
 | x::r,i,a=>by
   rw[kR,am8,am7];cases hp:p x with
   | true=>simp only[oT,aod]; exact Ab p f y z r (i+1) _
   | false=>rfl
def TZ(x:Int×Unit)(o:aJ×Bool):aJ×Bool:=bif aj x.1 1 then (o.1,true)else (o.1++[x],o.2)
theorem NC:∀(l:aJ) (o:aJ×Bool),l.foldl (fun o x=>TZ x o) o=(o.1++gW l,o.2||jH l):=fun l=>by
 induction l with
 | nil=>intro o; simp[gW,jH]
 | cons x r ih => intro o;rw[am7,ih];unfold TZ gW jH;rw[am6,List.any_cons];cases aj x.1 1 <;> simp
def TF(x:Int×Unit):Bool:=aj x.1 1||yL x
theorem Ty(l:aJ):l.all TF=(gW l).all yL:=by
 induction l with
 | nil=>rfl
 | cons x r ih => unfold gW at ih ⊢;rw[am8,am6,ih];unfold TF;cases h:aj x.1 1 <;> simp
theorem agK{o:aJ}{x:Int×Unit}(h:o.length<=1048576):bl 8 o [x]=true:=amm (by show(o.length+1) * 8<=140737488355328; omega)
theorem aei(b:aJ)(ed:S8)(at':Int)(lo:aJ)(hl:lo.length<=64)(m0:bw):aal b ed at' [] false lo (ae lo) 0 m0=some (bif (gW lo).all yL then .inl (b,ed,at',gW lo,jH lo,lo,ae lo,(lo.length:Int),m0,())else .inr (2,([],[],()),())):=by
 have h:=aP (step:=un9 Bh) lo (fun i (o:aJ×Bool)=>(b,ed,at',o.1,o.2,lo,ae lo,((i:Nat):Int),m0,())) (fun _ x o=>bif TF x then Sum.inl (TZ x o)else .inr (.inr (2,([],[],()),()))) (fun o=> .inl (b,ed,at',o.1,o.2,lo,ae lo,(lo.length:Int),m0,())) (fun i o=>o.1.length<=i) (a0:=([],false)) (oR _) (fun i x o hx ho=>by
  have aV:=ah hx;show Bh b ed at' o.1 o.2 lo (ae lo) (i:Int) m0=_;unfold Bh;rw[aL hx,aD hx,aM _ hx,aU (by unfold bQ; omega)];dsimp only[oT];rw[tP];dsimp only[oB];rw[agK (by omega)];unfold TF TZ yL;cases aj x.1 1 <;> cases aj (bE x.1) 0 <;> rfl) (fun i x o o' hx ho hf=>by
  unfold TZ at hf;cases hk:TF x <;> rw[hk]at hf
  . cases hf
  . cases hf;cases aj x.1 1 with
    | true=>show o.1.length<=_; omega
    | false=>show(o.1++[x]).length<=_; rw[amf]; show o.1.length+1<=_; omega) (fun o ho=>by
  show Bh b ed at' o.1 o.2 lo (ae lo) (lo.length:Int) m0=_;unfold Bh;rw[aA rfl];try rfl)
 rw[Ab,NC,Ty]at h;refine ao5 h ?_;cases(gW lo).all yL <;> rfl
theorem P6(l:aJ):(lv l).all yL=l.all fun x=>yL (ak .i64 x.1 64,()):=by unfold lv; rw[List.all_map];try rfl
theorem Oj:∀(l o:aJ),l.foldl (fun o x=>o++[(ak .i64 x.1 64,())]) o=o++lv l:=fun l=>by
 induction l with
 | nil=>intro o; simp[lv]
 | cons x r ih=>intro o; rw[am7,ih]; simp[lv]
theorem ab5(b:aJ)(ed:S8)(at':Int)(o0 hi:aJ)(h0:o0.length<=64)(hl:hi.length<=64)(m0:bw):YX b ed at' o0 hi (ae hi) 0 m0=some (bif (lv hi).all yL then .inl (b,ed,at',o0++lv hi,hi,ae hi,(hi.length:Int),m0,())else .inr (2,([],[],()),())):=by
 have h:=aP (step:=Xe yR) hi (fun i (o:aJ)=>(b,ed,at',o,hi,ae hi,((i:Nat):Int),m0,())) (fun _ x o=>bif yL (ak .i64 x.1 64,())then Sum.inl (o++[(ak .i64 x.1 64,())])else .inr (.inr (2,([],[],()),()))) (fun o=> .inl (b,ed,at',o,hi,ae hi,(hi.length:Int),m0,())) (fun i o=>o.length<=64+i) (a0:=o0) h0 (fun i x o hx ho=>by
  have aV:=ah hx;show yR b ed at' o hi (ae hi) (i:Int) m0=_;unfold yR;rw[aL hx,aD hx,aM _ hx,aU (by unfold bQ; omega)];dsimp only[oT];rw[tP];dsimp only[oB];rw[agK (by omega)];unfold yL;cases aj (bE (ak .i64 x.1 64)) 0 <;> rfl) (fun i x o o' hx ho hf=>by
  cases hk:yL (ak .i64 x.1 64,()) <;> rw[hk]at hf
  . cases hf
  . cases hf;rw[amf]; show o.length+1<=_; omega) (fun o ho=>by
  show yR b ed at' o hi (ae hi) (hi.length:Int) m0=_;unfold yR;rw[aA rfl];try rfl)
 rw[Ab,Oj,<- P6]at h;refine ao5 h ?_;cases(lv hi).all yL <;> rfl
def acf(b:aJ)(ed:S8)(m0:bw)(nos:aJ)(n:Int):Option (List ep×Nat)->Sum (aJ×Int×aJ×Int×Int×bw×bw×Unit) (Int×bw×Unit)
 | some (l,e)=> .inl (b,(e:Int),nos,n,n,m0,(ed,l,()),())
 | none=> .inr (3,([],[],()),())
theorem EH(b:aJ)(ed:S8)(m0:bw)(ns:aJ)(n:Int):∀(nos:aJ) (i a:Nat) (o:List ep),kR (fun _ x (q:Nat×List ep)=>match rJ b q.1 x.1 with | some (s,e)=>Sum.inl (e,q.2++[(x.1,s,())]) | none=> .inr (.inr (3,([],[],()),()))) (fun q=> .inl (b,(q.1:Int),ns,n,n,m0,(ed,q.2,()),())) i nos (a,o)=acf b ed m0 ns n (mB b nos a o)
 | [],_,_,_=>rfl
 | x::r,i,a,o=>by
   rw[kR,mB];cases rJ b a x.1 with
   | none=>rfl
   | some p=>exact EH b ed m0 ns n r (i+1) p.2 _
theorem ZT{o:List ep}{x:ep}(h:o.length<=1048576):bl 24 o [x]=true:=amm (by show(o.length+1) * 24<=140737488355328; omega)
theorem ac6(b:aJ)(hb:CQ b)(a:Nat)(ha:a<=b.length)(nos:aJ)(hn:nos.length<=1000)(ed:S8)(m0:bw):aar b (a:Int) nos (ae nos) 0 m0 (ed,[],())=some (acf b ed m0 nos (ae nos) (mB b nos a [])):=by
 have h:=aP (step:=CD BC) nos (fun i (q:Nat×List ep)=>(b,(q.1:Int),nos,ae nos,((i:Nat):Int),m0,(ed,q.2,()),())) (fun _ x q=>match rJ b q.1 x.1 with | some (s,e)=>Sum.inl (e,q.2++[(x.1,s,())]) | none=> .inr (.inr (3,([],[],()),()))) (fun q=> .inl (b,(q.1:Int),nos,ae nos,(nos.length:Int),m0,(ed,q.2,()),())) (fun i q=>q.1<=b.length/\q.2.length<=i) (a0:=(a,[])) ⟨ha,oR _⟩ (fun i x q hx hq=>by
  have aV:=ah hx;show BC b (q.1:Int) nos (ae nos) (i:Int) m0 (ed,q.2,())=_;unfold BC;rw[aL hx,aD hx,aM _ hx,aU (by unfold bQ; omega),ahi b q.1 x.1 hb hq.1];unfold pA;cases rJ b q.1 x.1 with
  | none=>rfl
  | some p =>
    dsimp only[oT,oB,oN,oF];rw[ZT (aml hq.2 (by omega))];try rfl) (fun i x q q' hx hq hf=>by
  cases hg:rJ b q.1 x.1 with
  | none=>rw[hg]at hf; cases hf
  | some p =>
    rw[hg]at hf;cases hf;refine⟨(wG hq.1 hg).2.2,?_⟩;show(q.2++[_]).length<=_;rw[amf];exact Nat.succ_le_succ hq.2) (fun q hq=>by
  show BC b (q.1:Int) nos (ae nos) (nos.length:Int) m0 (ed,q.2,())=_;unfold BC;rw[aA rfl];try rfl)
 rw[show(fun(q:Nat×List ep)=>(Sum.inl (b,(q.1:Int),nos,ae nos,(nos.length:Int),m0,(ed,q.2,()),()):Sum (aJ×Int×aJ×Int×Int×bw×bw×Unit) (Int×bw×Unit)))=fun q=> .inl (b,(q.1:Int),nos,ae nos,ae nos,m0,(ed,q.2,()),())from rfl,EH]at h;exact h
theorem acm(b:aJ)(hb:CQ b)(a:Nat)(ha:a<=b.length)(nos:aJ)(hn:nos.length<=1000)(ed:S8)(m0:bw):Lh b (a:Int) nos (ae nos) 0 m0 (ed,[],())=some (acf b ed m0 nos (ae nos) (mB b nos a [])):=by
 have h:=aP (step:=CD zE) nos (fun i (q:Nat×List ep)=>(b,(q.1:Int),nos,ae nos,((i:Nat):Int),m0,(ed,q.2,()),())) (fun _ x q=>match rJ b q.1 x.1 with | some (s,e)=>Sum.inl (e,q.2++[(x.1,s,())]) | none=> .inr (.inr (3,([],[],()),()))) (fun q=> .inl (b,(q.1:Int),nos,ae nos,(nos.length:Int),m0,(ed,q.2,()),())) (fun i q=>q.1<=b.length/\q.2.length<=i) (a0:=(a,[])) ⟨ha,oR _⟩ (fun i x q hx hq=>by
  have aV:=ah hx;show zE b (q.1:Int) nos (ae nos) (i:Int) m0 (ed,q.2,())=_;unfold zE;rw[aL hx,aD hx,aM _ hx,aU (by unfold bQ; omega),aeV b q.1 x.1 hb hq.1];unfold pA;cases rJ b q.1 x.1 with
  | none=>rfl
  | some p =>
    dsimp only[oT,oB,oN,oF];rw[ZT (aml hq.2 (by omega))];try rfl) (fun i x q q' hx hq hf=>by
  cases hg:rJ b q.1 x.1 with
  | none=>rw[hg]at hf; cases hf
  | some p =>
    rw[hg]at hf;cases hf;refine⟨(wG hq.1 hg).2.2,?_⟩;show(q.2++[_]).length<=_;rw[amf];exact Nat.succ_le_succ hq.2) (fun q hq=>by
  show zE b (q.1:Int) nos (ae nos) (nos.length:Int) m0 (ed,q.2,())=_;unfold zE;rw[aA rfl];try rfl)
 rw[show(fun(q:Nat×List ep)=>(Sum.inl (b,(q.1:Int),nos,ae nos,(nos.length:Int),m0,(ed,q.2,()),()):Sum (aJ×Int×aJ×Int×Int×bw×bw×Unit) (Int×bw×Unit)))=fun q=> .inl (b,(q.1:Int),nos,ae nos,ae nos,m0,(ed,q.2,()),())from rfl,EH]at h;exact h
theorem FZ{b:aJ}{p:aJ×Nat}(h:Ca b=some p):p.1.length<=1000/\p.2<=b.length:=by
 have k1:=ow (gR b 2 8);have k2:=ow (gR b 10 8);have k3:(gW (gb (gR b 2 8))).length<=64:=aml (am4 _ _) k1;have k4:(lv (gb (gR b 10 8))).length<=64:=by unfold lv; rw[anK]; exact k2
 unfold Ca at h;by_cases E6:10<=b.length;rotate_left
 . rw[if_neg E6]at h; cases h
 rw[if_pos E6]at h;cases hm:jH (gb (gR b 2 8)) <;> rw[hm]at h
 . cases hk:(gW (gb (gR b 2 8))).all yL <;> rw[hk]at h <;> cases h;exact⟨by show(gW (gb (gR b 2 8))).length<=_; omega,E6⟩
 . by_cases v8:18<=b.length/\gb (gR b 10 8)≠[]
   . rw[oT,if_pos v8]at h;cases hk:(gW (gb (gR b 2 8))++lv (gb (gR b 10 8))).all yL <;> rw[hk]at h <;> cases h;refine⟨?_,v8.1⟩;show(gW (gb (gR b 2 8))++lv (gb (gR b 10 8))).length<=_;rw[amf]; omega
   . rw[oT,if_neg v8]at h; cases h
theorem afn(b:aJ)(hb:CQ b):g43 b=MO (eR b):=by
 unfold g43 eR MO;have h0:Oc b 0 4=uQ (je b 0 4) 2:=Hg b 0 4 hb (amr _) (by omega);rw[h0];cases hc:je b 0 4 with
 | none=>rfl
 | some ed =>
   have h2:2<=b.length:=(eM hc).2.2.2.2;show Option.bind (g79 b) _=_;rw[aer b hb h2];cases hn:Ca b with
   | none=>rfl
   | some p =>
     obtain⟨n1,n2⟩:=FZ hn;obtain⟨nos,a⟩:=p;refine(bn (ac6 b hb a n2 nos n1 ed ([],[],()))).trans ?_;dsimp only;cases mB b nos a []with
     | none=>rfl
     | some q =>
       obtain⟨l,e⟩:=q;show cond (!(aj (e:Int) (b.length:Int))) _ _=_;dsimp only;by_cases he:e=b.length
       . rw[if_pos he,he,bX];try rfl
       . rw[if_neg he,show aj (e:Int) (b.length:Int)=false from beq_eq_false_iff_ne.2 (by omega)];try rfl
theorem afy(b:aJ)(hb:CQ b):g55 b=MO (eR b):=by
 unfold g55 eR MO;have h0:Sw b 0 4=uQ (je b 0 4) 2:=KD b 0 4 hb (amr _) (by omega);rw[h0];cases hc:je b 0 4 with
 | none=>rfl
 | some ed =>
   have h2:2<=b.length:=(eM hc).2.2.2.2;have h1:GI b 2=rQ b 2:=Td b 2 hb h2;show Option.bind (GI b 2) _=_;rw[h1];unfold rQ Ca;have k1:=ow (gR b 2 8);generalize Pb:gb (gR b 2 8)=lo at k1 ⊢;have k3:(gW lo).length<=64:=aml (am4 _ _) k1;have tail:∀(nos:aJ) (a:Nat),a<=b.length->nos.length<=1000->∀ m0:bw,(Option.bind (Lh b (a:Int) nos (ae nos) 0 m0 (ed,[],())) (Sum.elim (fun y6=>cond (!(aj y6.2.1 (ae y6.1))) (some ((),(([],[],()),(4,()),()))) (some ((),(y6.2.2.2.2.2.2.1,(0,()),())))) (fun y6=>some ((),(y6.2.1,(y6.1,()),())))))=some ((),(match mB b nos a []with | none=>(([],[],()),3) | some (l,e)=>if e=b.length then ((ed,l,()),0)else (([],[],()),4):bw×Int).1,((match mB b nos a []with | none=>(([],[],()),3) | some (l,e)=>if e=b.length then ((ed,l,()),0)else (([],[],()),4):bw×Int).2,()),()):=fun nos a ha hn m0=>by
    rw[acm b hb a ha nos hn ed m0];cases mB b nos a []with
    | none=>rfl
    | some q =>
      obtain⟨l,e⟩:=q;show cond (!(aj (e:Int) (b.length:Int))) _ _=_;dsimp only;by_cases he:e=b.length
      . rw[if_pos he,he,bX];try rfl
      . rw[if_neg he,show aj (e:Int) (b.length:Int)=false from beq_eq_false_iff_ne.2 (by omega)];try rfl
   by_cases E6:10<=b.length;rotate_left
   . rw[if_neg E6,if_neg (show ¬ 2+8<=b.length from E6)];try rfl
   rw[if_pos E6,if_pos (show 2+8<=b.length from E6)];refine(bn (aei b ed 10 lo k1 ([],[],()))).trans ?_;cases hk:(gW lo).all yL with
   | false =>
     dsimp only[oF];cases jH lo with
     | false=>rfl
     | true =>
       dsimp only[oT];rw[List.all_append,hk];by_cases v8:18<=b.length/\gb (gR b 10 8)≠[]
       . rw[if_pos v8];try rfl
       . rw[if_neg v8];try rfl
   | true =>
     dsimp only[oT];show cond (jH lo) _ _=_;cases jH lo with
     | false=>exact tail (gW lo) 10 E6 (by omega) _
     | true =>
       dsimp only[oT];have h3:GI b 10=rQ b 10:=Td b 10 hb E6;refine(bn h3).trans ?_;unfold rQ;have k2:=ow (gR b 10 8);generalize gb (gR b 10 8)=hi at k2 ⊢;by_cases v8:18<=b.length;rotate_left
       . rw[if_neg (show ¬ 10+8<=b.length from v8),if_neg (fun h=>v8 h.1)];try rfl
       rw[if_pos (show 10+8<=b.length from v8)];by_cases cY:hi=[]
       . rw[if_neg (fun h=>h.2 cY),cY];try rfl
       rw[if_pos ⟨v8,cY⟩];have he:aj (ae hi) 0=false:=beq_eq_false_iff_ne.2 (by
        show(hi.length:Int)≠0;cases hi with
        | nil=>exact absurd rfl cY
        | cons x r=>show((r.length+1:Nat):Int)≠0; omega)
       show cond (cond (!true) true (aj (ae hi) 0)) _ _=_;rw[he];refine(bn (ab5 b ed 18 (gW lo) hi k3 k2 ([],[],()))).trans ?_;rw[List.all_append,hk];cases(lv hi).all yL with
       | false=>rfl
       | true=>exact tail (gW lo++lv hi) 18 v8 (by rw[amf]; unfold lv; rw[anK]; omega) _
def pQ(s:S8):Nat->Nat
 | 0=>0
 | n+1=>bif aj (fh s (n:Int)) 32 then pQ s n else n+1
def xX(s:S8):S8:=s.take (pQ s s.length)
theorem G7(s:S8):∀ n,pQ s n<=n
 | 0=>oR _
 | n+1=>by
   unfold pQ;cases aj (fh s (n:Int)) 32 with
   | true=>exact Nat.le_succ_of_le (G7 s n)
   | false=>exact oR _
theorem acV(s:S8)(hs:s.length<=bQ):g92 s=zR (xX s):=by
 have bp:=bk;have h:∀ n:Nat,n<=s.length->aaJ s (n:Int)=some (.inl (s,((pQ s n:Nat):Int),())):=fun n=>by
  induction n with
  | zero=>intro _; exact dK _ rfl
  | succ n ih =>
    intro hn;have e:KB s ((n+1:Nat):Int)=bif aj (fh s (n:Int)) 32 then some (.inl (s,(n:Int),()))else some (.inr (.inl (s,((n+1:Nat):Int),()))):=by unfold KB;rw[aR (show(0:Int)<((n+1:Nat):Int)by omega),bI (by omega) (by omega),show((n+1:Nat):Int)-1=(n:Int)by omega];dsimp only[oT];rw[im (xs:=s) (by omega)];cases aj (fh s (n:Int)) 32 <;> rfl
    cases hc:aj (fh s (n:Int)) 32 with
    | true => rw[hc]at e;unfold pQ;rw[hc];exact ez _ e (ih (by omega))
    | false => rw[hc]at e;unfold pQ;rw[hc];exact dK _ e
 unfold g92;refine(bn (h s.length (oR _))).trans ?_;show cond (eV 0 ((pQ s s.length:Nat):Int) s) (zR (sub s 0 ((pQ s s.length:Nat):Int))) none=_;rw[kA (G7 s s.length),zt];try rfl
theorem acZ(s:S8)(hs:s.length<=bQ):QX s 32=zR (xX s):=by
 have bp:=bk;have h:∀ n:Nat,n<=s.length->Q2 (s.take n) 32=some (.inl (s.take (pQ s n),32,())):=fun n=>by
  induction n with
  | zero=>intro _; exact dK _ rfl
  | succ n ih =>
    intro hn;have hl:(s.take (n+1)).length=n+1:=by rw[am5]; omega
    have hb:fh (s.take (n+1)) (n:Int)=fh s (n:Int):=by have hx:s[n]? = some (s[n]'(by omega)):=ami (by omega);rw[fX hx,fX (xs:=s.take (n+1)) (x:=s[n]'(by omega)) (by rw[anl,if_pos (by omega)]; exact hx)]
    have e:DK (s.take (n+1)) 32=bif aj (fh s (n:Int)) 32 then some (.inl (s.take n,32,()))else some (.inr (.inl (s.take (n+1),32,()))):=by unfold DK;rw[show ae (s.take (n+1))=((n+1:Nat):Int)from amL Int.ofNat hl];dsimp only;rw[aR (show(0:Int)<((n+1:Nat):Int)by omega),bI (by omega) (by omega),show((n+1:Nat):Int)-1=(n:Int)by omega,im (xs:=s.take (n+1)) (by omega),hb,kA (xs:=s.take (n+1)) (i:=n) (by omega),zt,List.take_take,aoX (aoc n)];cases aj (fh s (n:Int)) 32 <;> rfl
    cases hc:aj (fh s (n:Int)) 32 with
    | true => rw[hc]at e;unfold pQ;rw[hc];exact ez _ e (ih (by omega))
    | false => rw[hc]at e;unfold pQ;rw[hc];exact dK _ e
 have h0:=h s.length (oR _);rw[aoD]at h0;unfold QX;refine(bn h0).trans rfl
theorem aa6(s:S8)(hs:s.length<=bQ):XU s=zR (xX s):=by
 unfold XU abt;cases he:bF s []with
 | true =>
   have:s=[]:=by simpa[bF]using he
   subst this;rfl
 | false => have e:QX s (fh [32] 0)=_:=acZ s hs;dsimp only;rw[e];try rfl
theorem PX(s:S8):(xX s).length<=s.length:=by unfold xX; rw[am5]; exact Nat.min_le_right _ _
abbrev gO:=Int×Unit
def kx:fw:=(0,[],[],[],[],[],0,0,())
def zY(s:S8):Bool:=cond (cond (bF s [48,49,48,48]) true (bF s [48,50,48,48])) true (bF s [48,50,50,48])
abbrev N0:=S8×S8×S8×List (Int×Unit)×Unit
def ew:List N0:=[([48,49,48,48],[48,48],[97,117,116,104],[(4,()),(14,()),(38,())],()),([48,49,48,48],[48,50],[109,111,114,101],[(4,()),(38,())],()),([48,50,50,48],[48,49],[112,97,114,116],[(4,()),(38,())],()),([48,50,50,48],[48,48],[102,105,110,97,108],[(4,()),(38,())],()),([48,50,50,48],[50,48],[102,114,101,101],[(38,())],()),([48,50,48,48],[52,48],[109,111,118,101],[(38,()),(103,())],()),([48,49,48,48],[51,49],[97,115,107],[],()),([48,50,48,48],[57,48],[115,119,101,101,112],[],())]
def Ie(ed c:S8)(r:N0):Bool:=cond (bF r.1 ed) (bF r.2.1 (sub c 0 2)) false
def fH(ed c:S8):Int:=1+dN (Ie ed c) 0 ew
theorem yb(ed c:S8):fH ed c=0∨fH ed c=1∨fH ed c=2∨fH ed c=3∨fH ed c=4∨fH ed c=5∨fH ed c=6∨fH ed c=7∨fH ed c=8:=by unfold fH;have:=uU (Ie ed c) ew 0;simp only[show ew.length=8 from rfl]at this;omega
theorem Xu(m:bw)(c:S8)(hc:2<=c.length)(nm:S8×Unit)(hn:nm=(c,())):Wd ew m nm=zR (dN (Ie m.1 c) 0 ew):=by
 subst hn;have UJ:eV 0 2 c=true:=kA (i:=2) hc;have h:=aS (step:=eo sr) ew (fun i (_:Unit)=>(ew,(m,(c,()),()),ae ew,((i:Nat):Int),())) (fun i x _=>bif Ie m.1 c x then Sum.inr (.inr ((i:Int),()))else .inl ()) (fun _=> .inl (ew,(m,(c,()),()),ae ew,(ew.length:Int),())) (a0:=()) (fun i x a hx=>by
  have aV:=ah hx;have h8:ew.length=8:=rfl;show sr ew (m,(c,()),()) (ae ew) (i:Int)=_;unfold sr aco Ie;rw[aL hx,aD hx,aM _ hx,aU (by unfold bQ; omega)];dsimp only[oT];rw[UJ];cases bF x.1 m.1 <;> cases bF x.2.1 (sub c 0 2) <;> rfl) (fun a=>by
  show sr ew (m,(c,()),()) (ae ew) (ew.length:Int)=_;unfold sr;rw[aA rfl];try rfl)
 have hf:=ia (Y:=Sum ((List N0)×(bw×(S8×Unit)×Unit)×Int×Int×Unit) (Int×Unit)) (Ie m.1 c) (fun n=> .inr (n,())) (.inl (ew,(m,(c,()),()),ae ew,(ew.length:Int),())) (fun y=>match y with | .inl _ => -1 | .inr z=>z.1) (fun _=>rfl) rfl ew 0;unfold Wd;refine(bn h).trans ?_;rw[<- hf];dsimp only[oB];cases kR _ _ 0 ew () <;> rfl
theorem opm{i:Nat}{x:N0}(hx:ew[i]? = some x):Of (((i+1:Nat)):Int)=zR x.1/\abj (((i+1:Nat)):Int)=zR x.2.1:=by
 have aV:=ah hx;have h8:ew.length=8:=rfl;have:i=0∨i=1∨i=2∨i=3∨i=4∨i=5∨i=6∨i=7:=by omega
 rcases this with h | h | h | h | h | h | h | h <;> subst h <;> cases hx <;> exact⟨rfl,rfl⟩
theorem VJ(ed c:S8)(hc:2<=c.length):g90 ed c=zR (fH ed c):=by
 have UJ:eV 0 2 c=true:=kA (i:=2) hc;have h8:ew.length=8:=rfl;have h:=aS (step:=fE HP) ew (fun i (_:Unit)=>(ed,c,((i+1:Nat):Int),())) (fun i x _=>bif Ie ed c x then Sum.inr (.inr (((i+1:Nat):Int),()))else .inl ()) (fun _=> .inl (ed,c,9,())) (a0:=()) (fun i x a hx=>by have aV:=ah hx;show HP ed c ((i+1:Nat):Int)=_;unfold HP Ie;rw[(opm hx).1,(opm hx).2,show ck ((i+1:Nat):Int) 8=true from amg (by omega),aU (by unfold bQ; omega)];dsimp only[oT,oB];rw[UJ];cases bF x.1 ed <;> cases bF x.2.1 (sub c 0 2) <;> rfl) (fun a=>rfl);have hf:=ia (Y:=Sum (S8×S8×Int×Unit) (Int×Unit)) (Ie ed c) (fun n=> .inr (1+n,())) (.inl (ed,c,9,())) (fun y=>match y with | .inl _ => -1 | .inr z=>z.1-1) (fun n=>by show 1+n-1=n; omega) rfl ew 0;rw[show(fun(i:Nat) (x:N0) (_:Unit)=>bif Ie ed c x then (Sum.inr (Sum.inr (((i+1:Nat):Int),())):Sum Unit (Sum (S8×S8×Int×Unit) (Int×Unit)))else .inl ())=fun i x _=>bif Ie ed c x then .inr (.inr (1+(i:Int),()))else .inl ()from by funext i x _;rw[show((i+1:Nat):Int)=1+(i:Int)by omega]]at h;unfold g90;have h':ZW ed c 1=_:=h;refine(bn h').trans ?_;unfold fH;rw[<- hf];dsimp only[oB];have adY:dN (Ie ed c) 0 ew = -1∨0<=dN (Ie ed c) 0 ew:=by
  rcases uU (Ie ed c) ew 0 with h | h
  . exact Or.inl h
  . exact Or.inr h.1
 cases hg:kR (fun(i:Nat) (x:N0) (_:Unit)=>bif Ie ed c x then (Sum.inr (Sum.inr (1+(i:Int),())):Sum Unit (Sum (S8×S8×Int×Unit) (Int×Unit)))else .inl ()) (fun _=> .inl (ed,c,9,())) 0 ew ()with
 | inl y=>rfl
 | inr y => show zR y.1=zR (1+(y.1-1));rw[show 1+(y.1-1)=y.1 by omega]
def fv(m:bw)(no:Int):S8:=(jG m no).getD []
def fs(m:bw)(no:Int):Bool:=(jG m no).isSome
theorem o5(m:bw)(no:Int):Jf (jG m no)=some ((),((fv m no,()),(fs m no,()),())):=by unfold Jf fv fs;cases jG m no <;> rfl
theorem yD{m:bw}{no:Int}(h:fs m no=false):fv m no=[]:=by
 unfold fs at h; unfold fv;cases hf:jG m no with
 | none=>rfl
 | some s=>rw[hf]at h; cases h
theorem yC{m:bw}{no:Int}{s:S8}(h:jG m no=some s):∃ f∈m.2.1,f.1=no/\f.2.1=s:=by
 unfold jG at h;cases hf:m.2.1.find? fun f=>aj f.1 no with
 | none=>rw[hf]at h; cases h
 | some f => rw[hf]at h;refine⟨f,aoI hf,bt.1 (by have:=List.find?_some hf; exact this),?_⟩;cases h; rfl
theorem o8{m:bw}(hb:iG m)(no:Int):(fv m no).length<=1048576:=by
 unfold fv;cases h:jG m no with
 | none=>exact amr _
 | some s => obtain⟨f,h1,_,rfl⟩:=yC h;exact hb.2.2 f h1
theorem VE{m:bw}(h:fZ m=true){no:Int}{s:S8}(hf:jG m no=some s):dP no s=true:=by
 unfold fZ at h;obtain⟨f,h1,h2,h3⟩:=yC hf;obtain⟨i,hi⟩:=anH.1 h1;cases hd:cond (aH m.1) (aj (ae m.1) 4) false with
 | false=>rw[hd]at h; cases h
 | true =>
   rw[hd]at h;have:=gF (gA m.2.1) h hi;unfold gA at this;rw[h2,h3]at this;cases hk:dP no s with
   | true=>rfl
   | false=>rw[hk]at this; cases this
theorem De{m:bw}(h:fZ m=true){s:S8}(hf:jG m 3=some s):2<=s.length:=by
 have:=VE h hf;have e:dP 3 s=cond (aH s) (aj (ae s) 6) false:=rfl;rw[e]at this;cases hd:aH s with
 | false=>rw[hd]at this; cases this
 | true => rw[hd]at this;have:=bt.1 (show aj (ae s) 6=true from this);have:(s.length:Int)=6:=this;omega
def nvM(s:S8):Int:=match B0 s with | some n=>(n:Int) | none=>0
def nkM(s:S8):Bool:=(B0 s).isSome
theorem EK(s:S8):VX (B0 s)=some ((),((nvM s,()),(nkM s,()),())):=by unfold VX nvM nkM;cases B0 s <;> rfl
def kW(m:bw)(op:Int):fw:=(op,fv m 2,cond (aj op 6) (fv m 103) [],cond (cond (da op 1 8) (aE op 7) false) (xX (fv m 38)) [],fv m 11,m.1,cond (da op 1 4) (nvM (fv m 4)) 0,cond (aj op 1) (nvM (fv m 14)) 0,())
def Ng(m:bw)(op:Int):Bool:=cond (cond (da op 1 4) (fs m 4) true) (cond (aj op 1) (fs m 14) true) false
def I7(m:bw)(op:Int):fw×Int:=cond (Ng m op) (cond (lg (kW m op)) (kW m op,0) (kx,1)) (kx,1)
def gM(m:bw):fw×Int:=cond (fZ m) (cond (zY m.1) (match jG m 3 with | none=>(kx,1) | some c=>I7 m (fH m.1 c)) (kx,2)) (kx,1)
def Tw(p:fw×Int):Option (Unit×(fw×(Int×Unit)×Unit)):=some ((),(p.1,(p.2,()),()))
theorem JG{m:bw}(hb:iG m)(op:Int):DR (kW m op):=by
 refine⟨o8 hb 2,?_,?_,o8 hb 11,hb.1⟩
 . show(cond (aj op 6) (fv m 103) []).length<=_;cases aj op 6 with
   | true=>exact o8 hb 103
   | false=>exact amr _
 . show(cond (cond (da op 1 8) (aE op 7) false) (xX (fv m 38)) []).length<=_;cases cond (da op 1 8) (aE op 7) false with
   | true=>exact aml (PX _) (o8 hb 38)
   | false=>exact amr _
theorem ajf(m:bw)(hb:iG m):g49 m=Tw (gM m):=by
 unfold g49 gM;rw[KU m hb];cases hm:fZ m with
 | false=>rfl
 | true =>
 have hk:g88 m.1=zR (zY m.1):=rfl;dsimp only[oB,oN,oF];rw[hk];cases zY m.1 with
 | false=>rfl
 | true =>
 show Option.bind (AJ m 3) _=_;rw[xV m 3 hb];cases h3:jG m 3 with
 | none=>rfl
 | some c =>
 show Option.bind (g90 m.1 c) _=_;rw[VJ m.1 c (De hm h3)];have f2:=(xV m 2 hb).trans (o5 m 2);have f11:=(xV m 11 hb).trans (o5 m 11);have f38:=(xV m 38 hb).trans (o5 m 38);have f4:=(xV m 4 hb).trans (o5 m 4);have f14:=(xV m 14 hb).trans (o5 m 14);have f103:=(xV m 103 hb).trans (o5 m 103);have b38:=acV (fv m 38) (cg (o8 hb 38));have n4:=(K0 (fv m 4) (cg (o8 hb 4))).trans (EK _);have n14:=(K0 (fv m 14) (cg (o8 hb 14))).trans (EK _);dsimp only[oB];rw[f2,f11];dsimp only[oB];have fD:=yb m.1 c;generalize fH m.1 c=op at fD ⊢;have hq:=YD (kW m op) (JG hb op);have hH:g91 op=zR (cond (da op 1 8) (aE op 7) false):=rfl;have hA:g93 op=zR (da op 1 4):=rfl;unfold I7;generalize lg (kW m op)=z at hq ⊢;rw[hH,hA,f38,f4,f14,f103];dsimp only[oB];rw[b38,n4,n14];dsimp only[oB];unfold Ng;unfold kW at hq ⊢;generalize cond (da op 1 8) (aE op 7) false=c1 at hq ⊢;generalize da op 1 4=c2 at hq ⊢;generalize aj op 1=c3 at hq ⊢;generalize aj op 6=c4 at hq ⊢;cases c1 <;> cases c2 <;> cases c3 <;> cases c4 <;> dsimp only[oT,oF]at hq ⊢ <;> rw[hq] <;> cases fs m 4 <;> cases fs m 14 <;> cases z <;> rfl
theorem aa5{m:bw}{op:Int}(h:lg (kW m op)=true):fs m 2=true/\fs m 11=true/\(cond (da op 1 8) (aE op 7) false=true->fs m 38=true)/\(aj op 6=true->fs m 103=true):=by
 unfold lg kW at h;simp only[ame]at h;obtain⟨⟨⟨⟨⟨⟨⟨⟨h1,_⟩,h2⟩,h3⟩,_⟩,h4⟩,_⟩,_⟩,h5⟩:=h;refine⟨?_,?_,fun hc => ?_,fun hc => ?_⟩
 . cases hf:fs m 2 with
   | true=>rfl
   | false=>rw[yD hf]at h2; cases h2
 . cases hf:fs m 11 with
   | true=>rfl
   | false=>rw[yD hf]at h3; cases h3
 . cases hf:fs m 38 with
   | true=>rfl
   | false => rw[hc,yD hf]at h4;rw[h1]at hc;rw[show aE op 7=true from hc]at h4;cases h4
 . cases hf:fs m 103 with
   | true=>rfl
   | false=>rw[hc,yD hf]at h5; cases h5
def ph(op:Int):List gO:=cond (da op 1 8) (gt ([],[],[],[],()) ew (op-1)).2.2.2.1 []
def OC(m:bw)(op:Int):Bool:=fs m 2&&(fs m 11&&(ph op).all fun x=>fs m x.1)
def OpC(op:Int):Prop:=op=0∨op=1∨op=2∨op=3∨op=4∨op=5∨op=6∨op=7∨op=8
theorem SX(m:bw)(op:Int)(fD:OpC op):I7 m op=bif OC m op then (bif lg (kW m op)then (kW m op,0)else (kx,1))else (kx,1):=by
 have hz:= @aa5 m op;unfold I7;generalize lg (kW m op)=z at hz ⊢;generalize kW m op=q at hz ⊢;cases z with
 | false=>cases OC m op <;> cases Ng m op <;> rfl
 | true =>
   obtain⟨h1,h2,h3,h4⟩:=hz rfl;unfold OC Ng;rw[h1,h2];rcases fD with h | h | h | h | h | h | h | h | h <;> subst h
   . rfl
   . have:=h3 rfl;show(bif cond (fs m 4) (fs m 14) false then _ else _)=bif true&&(true&&(fs m 4&&(fs m 14&&(fs m 38&&true))))then _ else _;rw[this];cases fs m 4 <;> cases fs m 14 <;> rfl
   . have:=h3 rfl;show(bif cond (fs m 4) true false then _ else _)=bif true&&(true&&(fs m 4&&(fs m 38&&true)))then _ else _;rw[this];cases fs m 4 <;> rfl
   . have:=h3 rfl;show(bif cond (fs m 4) true false then _ else _)=bif true&&(true&&(fs m 4&&(fs m 38&&true)))then _ else _;rw[this];cases fs m 4 <;> rfl
   . have:=h3 rfl;show(bif cond (fs m 4) true false then _ else _)=bif true&&(true&&(fs m 4&&(fs m 38&&true)))then _ else _;rw[this];cases fs m 4 <;> rfl
   . have:=h3 rfl;show _=bif true&&(true&&(fs m 38&&true))then _ else _;rw[this];try rfl
   . have:=h3 rfl;have h6:=h4 rfl;show _=bif true&&(true&&(fs m 38&&(fs m 103&&true)))then _ else _;rw[this,h6];try rfl
   . rfl
   . rfl
def Xp(m:bw)(no:Int)(q:fw):fw :=
 cond (aj no 2) (q.1,fv m no,q.2.2.1,q.2.2.2.1,q.2.2.2.2.1,q.2.2.2.2.2.1,q.2.2.2.2.2.2.1,q.2.2.2.2.2.2.2.1,())
  (cond (aj no 4) (q.1,q.2.1,q.2.2.1,q.2.2.2.1,q.2.2.2.2.1,q.2.2.2.2.2.1,nvM (fv m no),q.2.2.2.2.2.2.2.1,())
    (cond (aj no 11) (q.1,q.2.1,q.2.2.1,q.2.2.2.1,fv m no,q.2.2.2.2.2.1,q.2.2.2.2.2.2.1,q.2.2.2.2.2.2.2.1,())
      (cond (aj no 14) (q.1,q.2.1,q.2.2.1,q.2.2.2.1,q.2.2.2.2.1,q.2.2.2.2.2.1,q.2.2.2.2.2.2.1,nvM (fv m no),())
        (cond (aj no 38) (q.1,q.2.1,q.2.2.1,xX (fv m no),q.2.2.2.2.1,q.2.2.2.2.2.1,q.2.2.2.2.2.2.1,q.2.2.2.2.2.2.2.1,())
          (cond (aj no 103) (q.1,q.2.1,fv m no,q.2.2.2.1,q.2.2.2.2.1,q.2.2.2.2.2.1,q.2.2.2.2.2.2.1,q.2.2.2.2.2.2.2.1,()) q)))))
def TM(m:bw):List gO->fw->Option fw
 | [],q=>some q
 | x::r,q=>bif fs m x.1 then TM m r (Xp m x.1 q)else none
def ag7(xs:List gO)(n:Int)(m:bw):Option fw->Sum (List gO×Int×Int×bw×fw×fw×Unit) (Int×fw×Unit)
 | some q=> .inl (xs,n,n,m,kx,q,())
 | none=> .inr (1,kx,())
theorem Ks(m:bw)(ys:List gO)(n:Int):∀(xs:List gO) (i:Nat) (q:fw),kR (fun _ x q=>bif fs m x.1 then Sum.inl (Xp m x.1 q)else .inr (.inr (1,kx,()))) (fun q=> .inl (ys,n,n,m,kx,q,())) i xs q=ag7 ys n m (TM m xs q)
 | [],_,_=>rfl
 | x::r,i,q=>by
   rw[kR,TM];cases fs m x.1 with
   | false=>rfl
   | true=>exact Ks m ys n r (i+1) _
theorem XK(m:bw)(hb:iG m)(xs:List gO)(hx:xs.length<=10)(q0:fw):YK xs (ae xs) 0 m kx q0=some (ag7 xs (ae xs) m (TM m xs q0)):=by
 have h:=aS (step:=Fk Aj) xs (fun i (q:fw)=>(xs,ae xs,((i:Nat):Int),m,kx,q,())) (fun _ x q=>bif fs m x.1 then Sum.inl (Xp m x.1 q)else .inr (.inr (1,kx,()))) (fun q=> .inl (xs,ae xs,ae xs,m,kx,q,())) (a0:=q0) (fun i x q hx=>by
  have aV:=ah hx;show Aj xs (ae xs) (i:Int) m kx q=_;unfold Aj;rw[aL hx,aD hx,aM _ hx,aU (by unfold bQ; omega)];dsimp only[oT];rw[Tb m x.1 hb,o5];dsimp only[oB];rw[(ZS (fv m x.1) (cg (o8 hb x.1))).trans (EK _),aa6 (fv m x.1) (cg (o8 hb x.1))];unfold Xp;cases fs m x.1 with
  | false=>rfl
  | true=>cases aj x.1 2 <;> cases aj x.1 4 <;> cases aj x.1 11 <;> cases aj x.1 14 <;> cases aj x.1 38 <;> cases aj x.1 103 <;> rfl) (fun q=>by
  show Aj xs (ae xs) (xs.length:Int) m kx q=_;unfold Aj;rw[aA rfl];try rfl)
 rw[Ks]at h;exact h
theorem VR(m:bw)(op:Int)(fD:OpC op):TM m ((2,())::(11,())::ph op) (op,[],[],[],[],m.1,0,0,())=bif OC m op then some (kW m op)else none:=by
 unfold OC;rcases fD with h | h | h | h | h | h | h | h | h <;> subst h
 . show(bif fs m 2 then (bif fs m 11 then some (kW m 0)else none)else none)=bif fs m 2&&(fs m 11&&true)then _ else _;cases fs m 2 <;> cases fs m 11 <;> rfl
 . show(bif fs m 2 then (bif fs m 11 then (bif fs m 4 then (bif fs m 14 then (bif fs m 38 then some (kW m 1)else none)else none)else none)else none)else none)=bif fs m 2&&(fs m 11&&(fs m 4&&(fs m 14&&(fs m 38&&true))))then _ else _;cases fs m 2 <;> cases fs m 11 <;> cases fs m 4 <;> cases fs m 14 <;> cases fs m 38 <;> rfl
 . show(bif fs m 2 then (bif fs m 11 then (bif fs m 4 then (bif fs m 38 then some (kW m 2)else none)else none)else none)else none)=bif fs m 2&&(fs m 11&&(fs m 4&&(fs m 38&&true)))then _ else _;cases fs m 2 <;> cases fs m 11 <;> cases fs m 4 <;> cases fs m 38 <;> rfl
 . show(bif fs m 2 then (bif fs m 11 then (bif fs m 4 then (bif fs m 38 then some (kW m 3)else none)else none)else none)else none)=bif fs m 2&&(fs m 11&&(fs m 4&&(fs m 38&&true)))then _ else _;cases fs m 2 <;> cases fs m 11 <;> cases fs m 4 <;> cases fs m 38 <;> rfl
 . show(bif fs m 2 then (bif fs m 11 then (bif fs m 4 then (bif fs m 38 then some (kW m 4)else none)else none)else none)else none)=bif fs m 2&&(fs m 11&&(fs m 4&&(fs m 38&&true)))then _ else _;cases fs m 2 <;> cases fs m 11 <;> cases fs m 4 <;> cases fs m 38 <;> rfl
 . show(bif fs m 2 then (bif fs m 11 then (bif fs m 38 then some (kW m 5)else none)else none)else none)=bif fs m 2&&(fs m 11&&(fs m 38&&true))then _ else _;cases fs m 2 <;> cases fs m 11 <;> cases fs m 38 <;> rfl
 . show(bif fs m 2 then (bif fs m 11 then (bif fs m 38 then (bif fs m 103 then some (kW m 6)else none)else none)else none)else none)=bif fs m 2&&(fs m 11&&(fs m 38&&(fs m 103&&true)))then _ else _;cases fs m 2 <;> cases fs m 11 <;> cases fs m 38 <;> cases fs m 103 <;> rfl
 . show(bif fs m 2 then (bif fs m 11 then some (kW m 7)else none)else none)=bif fs m 2&&(fs m 11&&true)then _ else _;cases fs m 2 <;> cases fs m 11 <;> rfl
 . show(bif fs m 2 then (bif fs m 11 then some (kW m 8)else none)else none)=bif fs m 2&&(fs m 11&&true)then _ else _;cases fs m 2 <;> cases fs m 11 <;> rfl
theorem RF(op:Int)(fD:OpC op):∃ a b c,Ec op=some ((),((a,b,c,ph op,()),()))/\(ph op).length<=3:=by rcases fD with h | h | h | h | h | h | h | h | h <;> subst h <;> exact⟨_,_,_,rfl,by decide⟩
theorem ale(m:bw)(hb:iG m):g63 m=Tw (gM m):=by
 unfold g63 gM;rw[G2 m hb];cases hm:fZ m with
 | false=>rfl
 | true =>
 have hk:abg m.1=zR (zY m.1):=rfl;dsimp only[oB,oN,oF];rw[hk];cases zY m.1 with
 | false=>rfl
 | true =>
 show Option.bind (JD m 3) _=_;rw[Tb m 3 hb];cases h3:jG m 3 with
 | none=>rfl
 | some c =>
 have hr:Vm=zR ew:=rfl;unfold Jf;dsimp only[oB,oN,oF];rw[hr];dsimp only[oB];refine(bn (Xu m c (De hm h3) (c,()) rfl)).trans ?_;have fD:=yb m.1 c;have hw:ak .i64 1 (dN (Ie m.1 c) 0 ew)=fH m.1 c:=by unfold fH at fD ⊢;exact bd (by omega) (by omega)
 dsimp only[oB];rw[hw];generalize fH m.1 c=op at fD ⊢;obtain⟨a1,a2,a3,hf,O9⟩:=RF op fD;rw[hf];dsimp only[oB];have jn:bl 8 [((2:Int),()),(11,())] (ph op)=true:=amm (by show(2+(ph op).length) * 8<=140737488355328; omega);rw[jn];refine(bn (XK m hb ((2,())::(11,())::ph op) (by simp only[ams]; omega) (op,[],[],[],[],m.1,0,0,()))).trans ?_;rw[VR m op fD];show _=Tw (I7 m op);rw[SX m op fD];cases OC m op with
 | false=>rfl
 | true => refine(bn (aaL (kW m op) (JG hb op))).trans ?_;cases lg (kW m op) <;> rfl
theorem KF{b:aJ}:∀ {nos:aJ} {a:Nat} {o l:List ep} {e:Nat},a<=b.length->(∀ f∈o,f.2.1.length<=1048576)->mB b nos a o=some (l,e)->l.length=o.length+nos.length/\∀ f∈l,f.2.1.length<=1048576
 | [],_,_,_,_,_,ho,h=>by cases h;exact⟨rfl,ho⟩
 | x::r,a,o,l,e,ha,ho,h=>by
   rw[mB]at h;cases hg:rJ b a x.1 with
   | none=>rw[hg]at h; cases h
   | some p =>
     rw[hg]at h;obtain⟨_,h2,h3⟩:=wG ha hg;obtain⟨k1,k2⟩:=KF (nos:=r) h3 (fun f hf=>by
      rcases anA.1 hf with h | h
      . exact ho f h
      . rcases aoi.1 h with rfl
        exact aml h2 (by omega)) h
     refine⟨?_,k2⟩;rw[k1,amf];simp only[ams,amZ];omega
theorem Bg(b:aJ):iG (eR b).1:=by
 have h0:iG ([],[],()):=⟨amr _,amr _,fun f hf=>by cases hf⟩;unfold eR;cases hc:je b 0 4 with
 | none=>exact h0
 | some ed =>
   cases hn:Ca b with
   | none=>exact h0
   | some p =>
     obtain⟨nos,a⟩:=p;obtain⟨n1,n2⟩:=FZ hn;dsimp only;cases hf:mB b nos a []with
     | none=>exact h0
     | some q =>
       obtain⟨l,e⟩:=q;obtain⟨k1,k2⟩:=KF n2 (fun f hf=>by cases hf) hf;dsimp only;split
       . refine⟨?_,?_,k2⟩
         . show ed.length<=_;rw[(eM hc).2.1]; omega
         . show l.length<=_;rw[k1]; simp only[amZ]; exact aml (aoh (amp _)) (aml n1 (by omega))
       . exact h0
theorem EP{m:bw}(hb:iG m):DR (gM m).1:=by
 have h0:DR kx:=⟨amr _,amr _,amr _,amr _,amr _⟩;unfold gM I7;cases fZ m with
 | false=>exact h0
 | true =>
 cases zY m.1 with
 | false=>exact h0
 | true =>
 cases jG m 3 with
 | none=>exact h0
 | some c =>
 dsimp only[oT];cases Ng m (fH m.1 c)with
 | false=>exact h0
 | true =>
   dsimp only[oT];cases lg (kW m (fH m.1 c))with
   | false=>exact h0
   | true=>exact JG hb _
theorem Xr{a b:S8}:bF a b=true↔a=b:=by simp[bF]
def slotsOf(a:ax):List dj:=a.2.2.2.2.2.2.2.2.2.2.1
def nI(a:ax):S8×List dj:=(a.1,slotsOf a)
theorem V9:(0:Int)<=0/\(0:Int)<=10:=by decide
def nr(a x:ax)(c:Int):Prop:=(0<=c/\c<=10)/\(c=0->nI x=nI a)
theorem dW{a x:ax}{c:Int}(h:1<=c/\c<=10):nr a x c:=⟨⟨by omega,h.2⟩,fun e=>by omega⟩
theorem pF(a:ax)(now:Int):nI (aC a now)=nI a:=by
 unfold aC;cases bo a <;> first | rfl | skip
 cases bh now <;> rfl
theorem aa3(s:ax)(bJ now:Int):0<=hE s bJ now/\hE s bJ now<=10:=by
 unfold hE;cases aE (hO s now) bJ <;> dsimp only[oT,oF] <;> first | decide | skip
 cases aE s.2.2.2.1 (fj (rL (dw s) now false) 1) <;> dsimp only[oT,oF] <;> first | decide | skip
 cases aE s.2.2.2.2.1 (fj (rL (dw s) now true) bJ) <;> dsimp only[oT,oF] <;> decide
theorem zu{a x s:ax}{bJ now:Int}(hz:aj (hE s bJ now) 0=false):nr a x (hE s bJ now) :=
 ⟨aa3 s bJ now,fun e=>by rw[bt.2 e]at hz; cases hz⟩
theorem adP(a:ax)(id:S8)(bJ ny now:Int):nr a (lP a id bJ ny now).1 (lP a id bJ ny now).2:=by
 have hs:=pF a now;unfold lP;generalize aC a now=s at hs ⊢;cases cond (bo a) (cond (bh now) (bm id) false) false <;> dsimp only[oT,oF] <;> first | exact dW (by decide) | skip
 cases da bJ 1 9007199254740992 <;> dsimp only[oT,oF] <;> first | exact dW (by decide) | skip
 cases(cond (!da ny 1 9999) true (aE 1000000000 (ak .i64 now ny))) <;> dsimp only[oT,oF] <;> first | exact dW (by decide) | skip
 cases ck 0 (az s.2.2.2.2.2.1 id) <;> dsimp only[oT,oF] <;> first | exact dW (by decide) | skip
 cases aj (ae s.2.2.2.2.2.1) 4 <;> dsimp only[oT,oF] <;> first | exact dW (by decide) | skip
 cases hz:aj (hE s bJ now) 0 <;> dsimp only[oT,oF] <;> first | exact zu hz | skip
 exact⟨V9,fun _=>hs⟩
theorem aba(a:ax)(id:S8)(bJ now:Int):nr a (lN a id bJ now).1 (lN a id bJ now).2:=by
 have hs:=pF a now;unfold lN;generalize aC a now=s at hs ⊢;cases cond (bo a) (cond (bh now) (bm id) false) false <;> dsimp only[oT,oF] <;> first | exact dW (by decide) | skip
 cases da bJ 1 9007199254740992 <;> dsimp only[oT,oF] <;> first | exact dW (by decide) | skip
 cases aE (az s.2.2.2.2.2.1 id) 0 <;> dsimp only[oT,oF] <;> first | exact dW (by decide) | skip
 cases hz:aj (hE s bJ now) 0 <;> dsimp only[oT,oF] <;> first | exact zu hz | skip
 exact⟨V9,fun _=>hs⟩
theorem aay(a:ax)(id:S8)(bJ:Int)(last:Bool)(now:Int):nr a (pq a id bJ last now).1 (pq a id bJ last now).2:=by
 have hs:=pF a now;unfold pq;generalize aC a now=s at hs ⊢;cases cond (bo a) (cond (bh now) (bm id) false) false <;> dsimp only[oT,oF] <;> first | exact dW (by decide) | skip
 cases da bJ 1 9007199254740992 <;> dsimp only[oT,oF] <;> first | exact dW (by decide) | skip
 cases aE (az s.2.2.2.2.2.1 id) 0 <;> dsimp only[oT,oF] <;> first | exact dW (by decide) | skip
 cases aE (gt pY s.2.2.2.2.2.1 (az s.2.2.2.2.2.1 id)).2.1 bJ <;> dsimp only[oT,oF] <;> first | exact dW (by decide) | skip
 cases(cond last true (aj bJ (gt pY s.2.2.2.2.2.1 (az s.2.2.2.2.2.1 id)).2.1)) <;> exact⟨V9,fun _=>hs⟩
theorem adt(a:ax)(id:S8)(now:Int):nr a (lK a id now).1 (lK a id now).2:=by
 have hs:=pF a now;unfold lK;generalize aC a now=s at hs ⊢;cases cond (bo a) (cond (bh now) (bm id) false) false <;> dsimp only[oT,oF] <;> first | exact dW (by decide) | skip
 cases aE (az s.2.2.2.2.2.1 id) 0 <;> dsimp only[oT,oF] <;> first | exact dW (by decide) | skip
 exact⟨V9,fun _=>hs⟩
theorem Vi(a:ax)(now:Int):nr a (iM a now).1 (iM a now).2:=by
 unfold iM;cases bo a <;> dsimp only[oT,oF] <;> first | exact dW (by decide) | skip
 cases bh now <;> dsimp only[oT,oF] <;> first | exact dW (by decide) | skip
 exact⟨V9,fun _=>pF a now⟩
theorem QZ(a b:ax)(id:S8)(now:Int):nr a (gr a b id now).1 (gr a b id now).2.2/\nr b (gr a b id now).2.1 (gr a b id now).2.2:=by
 have hs:=pF a now;have ht:=pF b now;unfold gr;generalize aC a now=s at hs ⊢;generalize aC b now=t at ht ⊢;have no:∀ c:Int,1<=c/\c<=10->nr a aK c/\nr b aK c:=fun c h=>⟨dW h,dW h⟩
 cases cond (bo a) (cond (bh now) (bm id) false) false <;> dsimp only[oT,oF] <;> first | exact no _ (by decide) | skip
 cases bo b <;> dsimp only[oT,oF] <;> first | exact no _ (by decide) | skip
 cases bF a.1 b.1 <;> dsimp only[oT,oF] <;> first | exact no _ (by decide) | skip
 cases aE (az s.2.2.2.2.2.1 id) 0 <;> dsimp only[oT,oF] <;> first | exact no _ (by decide) | skip
 cases ck 0 (az t.2.2.2.2.2.1 id) <;> dsimp only[oT,oF] <;> first | exact no _ (by decide) | skip
 cases aj (ae t.2.2.2.2.2.1) 4 <;> dsimp only[oT,oF] <;> first | exact no _ (by decide) | skip
 cases aE (hO t now) (gt pY s.2.2.2.2.2.1 (az s.2.2.2.2.2.1 id)).2.1 <;> dsimp only[oT,oF] <;> first | exact no _ (by decide) | skip
 exact⟨⟨V9,fun _=>hs⟩,⟨V9,fun _=>ht⟩⟩
theorem aeB(a:ax)(now:Int):nr a a (xk a now).2:=by
 refine⟨?_,fun _=>rfl⟩;unfold xk;cases bo a <;> dsimp only[oT,oF] <;> first | decide | skip
 cases bh now <;> dsimp only[oT,oF] <;> first | decide | skip
theorem aeU(a b:ax)(q:fw)(now:Int):nr a (mP a b q now).1 (mP a b q now).2.2.1/\(aj q.1 6=true->nr b (mP a b q now).2.1 (mP a b q now).2.2.1):=by
 unfold mP;cases h1:aj q.1 1 <;> first | exact⟨adP a _ _ _ now,fun h=>by rw[bt.1 h]at h1; cases h1⟩ | skip
 cases h2:aj q.1 2 <;> first | exact⟨aba a _ _ now,fun h=>by rw[bt.1 h]at h2; cases h2⟩ | skip
 cases h3:aj q.1 3 <;> first | exact⟨aay a _ _ _ now,fun h=>by rw[bt.1 h]at h3; cases h3⟩ | skip
 cases h4:aj q.1 4 <;> first | exact⟨aay a _ _ _ now,fun h=>by rw[bt.1 h]at h4; cases h4⟩ | skip
 cases h5:aj q.1 5 <;> first | exact⟨adt a _ now,fun h=>by rw[bt.1 h]at h5; cases h5⟩ | skip
 cases h6:aj q.1 6 <;> first | exact⟨(QZ a b _ now).1,fun _=>(QZ a b _ now).2⟩ | skip
 cases h7:aj q.1 7 <;> first | exact⟨aeB a now,fun h=>by cases h⟩ | exact⟨Vi a now,fun h=>by cases h⟩
theorem yK{b:List ax}{i:Nat}{x y:ax}(h:b[i]? = some y)(hk:nI x=nI y):(b.set i x).map nI=b.map nI:=by
 apply aoQ;intro j;rw[amT,amT,aoS];by_cases e:i=j
 . subst e;rw[if_pos rfl,if_pos (ah h),h];simp[hk]
 . rw[if_neg e]
theorem PN(b:List ax)(q:fw)(now:Int):(0<=(dk b q now).2.1/\(dk b q now).2.1<=10)/\((dk b q now).2.1=0->(dk b q now).1.map nI=b.map nI):=by
 have no:∀(c:Int) (l:List ax),1<=c/\c<=10->(0<=c/\c<=10)/\(c=0->l.map nI=b.map nI):=fun c l h=>⟨⟨by omega,h.2⟩,fun e=>by omega⟩
 unfold dk;cases ji b <;> dsimp only[oT,oF] <;> first | exact no _ _ (by decide) | skip
 cases lg q <;> dsimp only[oT,oF] <;> first | exact no _ _ (by decide) | skip
 cases bh now <;> dsimp only[oT,oF] <;> first | exact no _ _ (by decide) | skip
 cases h6:aj q.1 6 with
 | false =>
   dsimp only[oF];cases hk:aE (ar b q.2.1) 0 with
   | true=>exact no 3 [] (by decide)
   | false =>
     obtain⟨i,y,e,hy⟩:=eO (of_decide_eq_false hk);have hg:gt aK b (ar b q.2.1)=y:=by rw[e]; exact aM _ hy
     have fD:=(aeU y y q now).1;rw[hg];dsimp only[oF];cases hz:aj (mP y y q now).2.2.1 0 with
     | false => refine⟨fD.1,fun e => ?_⟩;have e:(mP y y q now).2.2.1=0:=e;rw[bt.2 e]at hz; cases hz
     | true => refine⟨V9,fun _ => ?_⟩;show(cZ b (ar b q.2.1) (mP y y q now).1).map nI=_;rw[e];exact yK (i:=i) hy (fD.2 (bt.1 hz))
 | true =>
    cases hk:aE (ar b q.2.1) 0 with
   | true=>exact no 3 [] (by decide)
   | false =>
   cases hm:aE (ar b q.2.2.1) 0 with
   | true=>exact no 3 [] (by decide)
   | false =>
     obtain⟨i,y,e,hy⟩:=eO (of_decide_eq_false hk);obtain⟨j,z,e2,Mf⟩:=eO (of_decide_eq_false hm);have hg:gt aK b (ar b q.2.1)=y:=by rw[e]; exact aM _ hy
     have O6:gt aK b (ar b q.2.2.1)=z:=by rw[e2]; exact aM _ Mf
     have fD:=aeU y z q now;rw[hg,O6];dsimp only[oF];cases hz:aj (mP y z q now).2.2.1 0 with
     | false => refine⟨fD.1.1,fun e => ?_⟩;have e:(mP y z q now).2.2.1=0:=e;rw[bt.2 e]at hz; cases hz
     | true =>
       refine⟨V9,fun _ => ?_⟩;have k1:=fD.1.2 (bt.1 hz);have k2:=(fD.2 h6).2 (bt.1 hz);show(cZ (cZ b (ar b q.2.2.1) (mP y z q now).2.1) (ar b q.2.1) (mP y z q now).1).map nI=_;rw[e,e2];show((b.set j (mP y z q now).2.1).set i (mP y z q now).1).map nI=_;by_cases Dp:j=i
       . subst Dp;rw[List.set_set];exact yK hy k1
       . rw[yK (y:=y) (by rw[List.getElem?_set_ne Dp]; exact hy) k1];exact yK Mf k2
def pJ:S8->aJ
 | x::y::r=>((((x.toNat-48) * 16+(y.toNat-48):Nat):Int),())::pJ r
 | _=>[]
theorem wU:∀(n:Nat) (s:S8),s.length=2 * n->(pJ s).length=n
 | 0,[],_=>rfl
 | 0,_::_,h=>by simp at h
 | n+1,x::y::r,h=>by rw[pJ,ams,wU n r (by simp only[ams]at h; omega)]
 | n+1,[],h=>by simp at h
 | n+1,[x],h=>by simp at h; omega
def A2(s:S8):S8:=if s.length % 2=1 then 48::s else s
def dQ(s:S8):aJ:=cond (cond (aH s) (ck (ae s) 38) false) (pJ (A2 s)) []
theorem gD(s:S8):(dQ s).length<=(s.length+1) / 2:=by
 unfold dQ;cases cond (aH s) (ck (ae s) 38) false with
 | false=>exact amr _
 | true =>
   show(pJ (A2 s)).length<=_;unfold A2;by_cases h:s.length % 2=1
   . rw[if_pos h,wU ((s.length+1) / 2) (48::s) (by simp only[ams]; omega)];exact oR _
   . rw[if_neg h,wU (s.length / 2) s (by omega)];omega
def NA(no:Int):Int:=cond (aj (bE no) 5) 3 2
def UP(s:S8):aJ:=bytesOf s
def Qj(no:Int)(s:S8):aJ:=cond (cond (aj (bE no) 1) true (aj (bE no) 3)) (dQ s) (UP s)
def wR(no:Int)(s:S8):aJ:=cond (dP no s) (cond (cond (aj (bE no) 1) true (aj (bE no) 2)) (Qj no s) (dQ (et (ae s) (NA no))++Qj no s)) []
theorem rz{n w:Int}{k:Nat}(h:w=k):(et n w).length<=k:=by
 unfold et;cases hc:bY n&&da w 1 18&&ck (ae (Lib.itoa n)) w with
 | false=>simp
 | true => simp only[ame]at hc;have h2:ae (Lib.itoa n)<=w:=ana hc.2;simp only[oT,amf,ann];unfold ae at h2 ⊢; omega
def vu(no:Int):Nat:=cond (aj (bE no) 1) (((gJ no).toNat+1) / 2) (cond (aj (bE no) 2) (gJ no).toNat (cond (aj (bE no) 3) 11 (cond (aj (bE no) 4) 21 62)))
theorem E3(s:S8):(UP s).length=s.length:=anK ..
theorem Hs(no:Int)(s:S8):(wR no s).length<=vu no:=by
 have hb:=gD s;have ho:=E3 s;have h2:=gD (et (ae s) 2);have h3:=gD (et (ae s) 3);have w2:=rz (n:=ae s) (w:=2) (k:=2) rfl;have w3:=rz (n:=ae s) (w:=3) (k:=3) rfl;obtain⟨n,hn,hk⟩:=kinds no;unfold wR vu Qj NA;cases hf:dP no s with
 | false=>exact amr _
 | true =>
   unfold dP at hf;rw[hn]at hf;rw[hn];rcases hk with ⟨e,hk⟩ | ⟨e,hk⟩ | ⟨e,hk⟩ | ⟨e,hk⟩ | ⟨e,hk⟩ | ⟨e,hk⟩ <;> rw[e]at hf <;> rw[e]
   . cases hf
   . have hl:aj (ae s) n=true:=by
      cases hd:aH s <;> rw[hd]at hf <;> first | exact hf | cases hf
     have:=bt.1 hl;unfold ae at this;show(dQ s).length<=((n:Int).toNat+1) / 2;omega
   . have hl:aj (ae s) n=true:=by
      cases hd:dE s <;> rw[hd]at hf <;> first | exact hf | cases hf
     have:=bt.1 hl;unfold ae at this;show(UP s).length<=(n:Int).toNat;omega
   . have hl:da (ae s) 1 n=true:=by
      cases hd:aH s <;> rw[hd]at hf <;> first | exact hf | cases hf
     have:=bB.1 hl;unfold ae at this;show(dQ (et (ae s) 2)++dQ s).length<=11;rw[amf];omega
   . have hl:da (ae s) 1 n=true:=by
      cases hd:dE s <;> rw[hd]at hf <;> first | exact hf | cases hf
     have:=bB.1 hl;unfold ae at this;show(dQ (et (ae s) 2)++UP s).length<=21;rw[amf];omega
   . have hl:da (ae s) 1 n=true:=by
      cases hd:dE s <;> rw[hd]at hf <;> first | exact hf | cases hf
     have:=bB.1 hl;unfold ae at this;show(dQ (et (ae s) 3)++UP s).length<=62;rw[amf];omega
def na(o:aJ)(k:Nat):aJ:=o.set (k / 8) ((((o.getD (k / 8) (0,())).1.toNat ||| 128 >>> (k % 8):Nat):Int),())
def eP(l:List gO):aJ:=l.foldl (fun o k=>cond (da k.1 1 64) (na o (k.1.toNat-1)) o) (List.replicate 8 (0,()))
theorem j6(l:List gO):(eP l).length=8:=by
 unfold eP;have:∀(l:List gO) (o:aJ),o.length=8->(l.foldl (fun o k=>cond (da k.1 1 64) (na o (k.1.toNat-1)) o) o).length=8:=fun l=>by
  induction l with
  | nil=>exact fun o h=>h
  | cons k r ih =>
    intro o h;refine ih _ ?_;show(cond (da k.1 1 64) (na o (k.1.toNat-1)) o).length=8;cases da k.1 1 64 with
    | false=>exact h
    | true=>show(na o _).length=8; unfold na; rw[ano]; exact h
 exact this l _ ann
def vC(l:List ep):List gO:=(l.filter fun f=>aE 64 f.1).map fun f=>(bf .i64 f.1 64,())
def lq(l:List ep):List gO:=(l.filter fun f=> !aE 64 f.1).map fun f=>(f.1,())
def B7(l:List ep):aJ:=cond (aE 0 (ae (vC l))) (eP (lq l++[(1,())])++eP (vC l)) (eP (lq l))
def gh(l:List ep):aJ:=(l.map fun f=>wR f.1 f.2.1).flatten
def nR(m:bw):aJ:=cond (fZ m) (dQ m.1++(B7 m.2.1++gh m.2.1)) []
theorem Gv:∀(l:List ep),(gh l).length<=(l.map fun f=>vu f.1).sum
 | []=>oR _
 | f::l=>by have ih:=Gv l;have:=Hs f.1 f.2.1;unfold gh at ih ⊢;rw[amO,List.flatten_cons,amf,amO,anx];omega
theorem LZ{m:bw}(h:fZ m=true):8<=(nR m).length/\(nR m).length<=18+(m.2.1.map fun f=>vu f.1).sum:=by
 have hb:=Gv m.2.1;have h1:=gD m.1;have h4:m.1.length=4:=by
  unfold fZ at h;cases hd:aH m.1 with
  | false=>rw[hd]at h; cases h
  | true =>
    rw[hd]at h;cases he:aj (ae m.1) 4 with
    | false=>rw[he]at h; cases h
    | true=>have:=bt.1 he; unfold ae at this; omega
 have hm:8<=(B7 m.2.1).length/\(B7 m.2.1).length<=16:=by
  unfold B7;cases aE 0 (ae (vC m.2.1))with
  | false=>have:=j6 (lq m.2.1); exact⟨by show 8<=(eP (lq m.2.1)).length; omega,by show(eP (lq m.2.1)).length<=16; omega⟩
  | true =>
    have e:(eP (lq m.2.1++[(1,())])++eP (vC m.2.1)).length=16:=by rw[amf,j6,j6]
    exact⟨by show 8<=(eP (lq m.2.1++[(1,())])++eP (vC m.2.1)).length; omega,by show(eP (lq m.2.1++[(1,())])++eP (vC m.2.1)).length<=16; omega⟩
 unfold nR;rw[h];have e:(dQ m.1++(B7 m.2.1++gh m.2.1)).length=(dQ m.1).length+((B7 m.2.1).length+(gh m.2.1).length):=by rw[amf,amf]
 exact⟨by show 8<=(dQ m.1++(B7 m.2.1++gh m.2.1)).length; omega,by show(dQ m.1++(B7 m.2.1++gh m.2.1)).length<=_; omega⟩
def yi(c:Int):S8:=cond (da c 0 10) (gt ([],()) [([48,48],()),([51,48],()),([49,50],()),([49,52],()),([49,51],()),([50,53],()),([57,52],()),([53,49],()),([54,53],()),([54,49],()),([57,54],())] c).1 []
def dH(s:S8):S8:=match s with
 | [a,b,c,d]=>cond (aH s) (cond (aj ((c.toNat % 2:Nat):Int) 1) [] [a,b,UInt8.ofNat (c.toNat+1),d]) []
 | _=>[]
def EI(no:Int)(s:S8):S8:=cond (dP no (cond (aj (bE no) 1) (List.replicate (gJ no-ae s).toNat 48++s) (cond (aj (bE no) 2) (s++List.replicate (gJ no-ae s).toNat 32) s))) (cond (aj (bE no) 1) (List.replicate (gJ no-ae s).toNat 48++s) (cond (aj (bE no) 2) (s++List.replicate (gJ no-ae s).toNat 32) s)) []
def yh:List Int:=[2,3,4,7,11,37,38,39,41,49,54,102,103]
def B3(m:bw)(code:Int)(hold told:S8)(no:Int):Option S8 :=
 cond (aj no 38) (cond (cond (aj code 0) (!bF hold []) false) (some (EI 38 hold)) none)
  (cond (aj no 39) (some (yi code)) (cond (aj no 54) (cond (!bF told []) (some told) none) (jG m no)))
def mS(m:bw)(code:Int)(hold told:S8)(no:Int):Option ep:=(B3 m code hold told no).map fun s=>(no,s,())
def ja(m:bw)(code:Int)(hold told:S8):List ep:=yh.filterMap (mS m code hold told)
def jv(m:bw)(code:Int)(hold told:S8):bw×Bool :=
 cond (cond (fZ m) (cond (bF (dH m.1) []) false (!bF (yi code) [])) false)
  (cond ((ja m code hold told).all fun f=>dP f.1 f.2.1) ((dH m.1,ja m code hold told,()),true) (([],[],()),false)) (([],[],()),false)
def lA(ed:S8)(code:Int):bw×Bool:=cond (fZ (dH ed,[(39,yi code,())],())) ((dH ed,[(39,yi code,())],()),true) (([],[],()),false)
theorem vj(m:bw)(code:Int)(hold told:S8):(ja m code hold told).Pairwise fun a b=>a.1<b.1:=by
 have h:yh.Pairwise fun a b=>a<b:=by decide
 refine List.Pairwise.filterMap _ (fun a b hab x hx y hy => ?_) h;unfold mS at hx hy;cases ha:B3 m code hold told a with
 | none=>rw[ha]at hx; simp at hx
 | some s =>
   cases hb:B3 m code hold told b with
   | none=>rw[hb]at hy; simp at hy
   | some t => rw[ha]at hx;rw[hb]at hy;simp only[amE,Option.mem_def,amd]at hx hy;rw[<- hx,<- hy];exact hab
theorem FW{α:Type}(p:Nat->α->Bool)(q:α->Bool):∀(xs:List α) (k:Nat),(∀ i x,xs[i]? = some x->p (k+i) x=q x)->allI p k xs=xs.all q
 | [],_,_=>rfl
 | x::r,k,h=>by have h0:p k x=q x:=h 0 x rfl;rw[allI,am8,h0,FW p q r (k+1) fun i y hy=>by rw[show k+1+i=k+(i+1)by omega]; exact h (i+1) y (by simpa using hy)]
theorem GY{ed:S8}{l:List ep}(h:l.Pairwise fun a b=>a.1<b.1)(hm:cond (aH ed) (aj (ae ed) 4) false=true):fZ (ed,l,())=l.all fun f=>dP f.1 f.2.1:=by
 unfold fZ;rw[hm,oT];refine FW _ _ l 0 fun i x hx => ?_
 unfold gA;cases dP x.1 x.2.1 with
 | false=>rfl
 | true =>
   by_cases h0:0<0+i
   . rw[amg h0];obtain⟨y,hy⟩:∃ y,l[i-1]? = some y:=⟨_,ami (by have:=ah hx; omega)⟩;have hg:gt (0,[],()) l (((0+i:Nat):Int)-1)=y:=by
      rw[show(((0+i:Nat):Int)-1)=((i-1:Nat):Int)by omega];exact aM _ hy
     have aV:y.1<x.1:=by obtain⟨h1,e1⟩:=amM.1 hy;obtain⟨h2,e2⟩:=amM.1 hx;rw[<- e1,<- e2];exact aoG.1 h (i-1) i h1 h2 (by omega)
     show(!ck x.1 (gt (0,[],()) l (((0+i:Nat):Int)-1)).1)=true;rw[hg,show ck x.1 y.1=false from amB (by omega)];try rfl
   . rw[amB h0];try rfl
theorem WI(u:Nat):∀ x∈Lib.decDigits u,fL x=true:=by
 induction u using Nat.strongRecOn with
 | _ u ih =>
   intro x hx;rw[Lib.decDigits]at hx;by_cases h:u<10
   . rw[dif_pos h]at hx;simp only[aoi]at hx;subst hx;rw[di,ao8];omega
   . rw[dif_neg h]at hx;rcases anA.1 hx with hx | hx
     . exact ih _ (by omega) x hx
     . simp only[aoi]at hx;subst hx;rw[di,ao8];omega
theorem Hn(n w:Int):∀ x∈et n w,fL x=true:=by
 unfold et;cases hc:bY n&&da w 1 18&&ck (ae (Lib.itoa n)) w with
 | false=>intro x hx; simp at hx
 | true =>
   simp only[ame]at hc;have h0:=(bB.1 hc.1.1).1;obtain⟨u,rfl⟩:∃ u:Nat,n=u:=⟨n.toNat,by omega⟩;intro x hx;rcases anA.1 hx with hx | hx
   . rw[aoK hx]; decide
   . rw[Lib.itoa_nonneg]at hx; exact WI u x hx
def ahC(x:UInt8):Bool:=cond (aE (x.toNat:Int) 32) false (!(aE 126 (x.toNat:Int)))
theorem WM{x:UInt8}:ahC x=true↔32<=x.toNat/\x.toNat<=126:=by
 unfold ahC aE;by_cases h:(x.toNat:Int)<32
 . simp[h]; omega
 . by_cases h2:(126:Int)<x.toNat
   . simp[h,h2]; omega
   . simp[h,h2]; omega
theorem TY{s:S8}(h:∀ x∈s,32<=x.toNat/\x.toNat<=126):dE s=true:=amx.2 fun x hx=>WM.2 (h x hx)
def Au(t:S8):Prop:=t=[]∨(dE t=true/\1<=t.length/\t.length<=60)
theorem TT(a:ax)(now:Int):Au (xk a now).1:=by
 have e:∀ r p:Int,Au ((et r 16++[32])++et p 16):=fun r p=>by
  refine .inr ⟨TY fun x hx => ?_,?_⟩
  . rcases anA.1 hx with hx | hx
    . rcases anA.1 hx with hx | hx
      . have:=di.1 (Hn _ _ x hx); omega
      . simp only[aoi]at hx; subst hx; decide
    . have:=di.1 (Hn _ _ x hx); omega
  . have h1:=jO r 16;have h2:=jO p 16;simp only[amf,anU];omega
 unfold xk;cases bo a <;> first | exact .inl rfl | skip
 cases bh now <;> first | exact .inl rfl | skip
 exact e _ _
theorem LV(a b:ax)(q:fw)(now:Int):Au (mP a b q now).2.2.2:=by
 unfold mP;cases aj q.1 1 <;> first | exact .inl rfl | skip
 cases aj q.1 2 <;> first | exact .inl rfl | skip
 cases aj q.1 3 <;> first | exact .inl rfl | skip
 cases aj q.1 4 <;> first | exact .inl rfl | skip
 cases aj q.1 5 <;> first | exact .inl rfl | skip
 cases aj q.1 6 <;> first | exact .inl rfl | skip
 cases aj q.1 7 <;> first | exact .inl rfl | skip
 exact TT a now
theorem xa(b:List ax)(q:fw)(now:Int):Au (dk b q now).2.2:=by
 unfold dk;cases ji b <;> first | exact .inl rfl | skip
 cases lg q <;> first | exact .inl rfl | skip
 cases bh now <;> first | exact .inl rfl | skip
 dsimp only[oT];cases aj q.1 6 with
 | false =>
   dsimp only[oF];cases aE (ar b q.2.1) 0 <;> first | exact .inl rfl | skip
   dsimp only[oF];cases aj (mP (gt aK b (ar b q.2.1)) (gt aK b (ar b q.2.1)) q now).2.2.1 0 <;> first | exact .inl rfl | exact LV _ _ q now
 | true =>
   dsimp only[oT];cases cond (aE (ar b q.2.1) 0) true (aE (ar b q.2.2.1) 0) <;> first | exact .inl rfl | skip
   dsimp only[oF];cases aj (mP (gt aK b (ar b q.2.1)) (gt aK b (ar b q.2.2.1)) q now).2.2.1 0 <;> first | exact .inl rfl | exact LV _ _ q now
theorem adb{m:bw}(h:fZ m=true){no:Int}{s:S8}(hs:jG m no=some s):dP no s=true:=by
 unfold jG at hs;cases hf:m.2.1.find? (fun f=>aj f.1 no)with
 | none=>rw[hf]at hs; cases hs
 | some f =>
   rw[hf]at hs;cases hs;have e:f.1=no:=by have h2:=List.find?_some hf; exact bt.1 h2
   obtain⟨i,hi⟩:=anH.1 (aoI hf);unfold fZ at h;cases hd:cond (aH m.1) (aj (ae m.1) 4) false with
   | false=>rw[hd]at h; cases h
   | true =>
     rw[hd]at h;have:=gF (gA m.2.1) h hi;unfold gA at this;rw[<- e];cases hk:dP f.1 f.2.1 with
     | true=>rfl
     | false=>rw[hk]at this; cases this
theorem afw{s:S8}(h:bm s=true):dP 38 (EI 38 s)=true:=by
 unfold bm at h;cases ha:s.all kQ with
 | false=>rw[ha]at h; cases h
 | true =>
   rw[ha]at h;have hl:=bB.1 h;have hp:dP 38 (s++List.replicate ((6:Int)-ae s).toNat 32)=true:=by
    show cond (dE (s++List.replicate ((6:Int)-ae s).toNat 32)) (aj (ae (s++List.replicate ((6:Int)-ae s).toNat 32)) 6) false=true;rw[TY fun x hx => ?_]
    . show aj _ 6=true;rw[bt];unfold ae at hl ⊢;rw[amf,ann];omega
    . rcases anA.1 hx with hx | hx
      . have:=amx.1 ha x hx;unfold kQ aE at this;by_cases h1:(x.toNat:Int)<48 <;> by_cases h2:(57:Int)<x.toNat <;> by_cases h3:(x.toNat:Int)<97 <;> by_cases h4:(122:Int)<x.toNat <;> simp[h1,h2,h3,h4]at this <;> omega
      . rw[aoK hx]; decide
   have e:EI 38 s=s++List.replicate ((6:Int)-ae s).toNat 32:=by show cond (dP 38 (s++List.replicate ((6:Int)-ae s).toNat 32)) (s++List.replicate ((6:Int)-ae s).toNat 32) []=_;rw[hp];try rfl
   rw[e]; exact hp
theorem FU{c:Int}(h:0<=c/\c<=10):c=0∨c=1∨c=2∨c=3∨c=4∨c=5∨c=6∨c=7∨c=8∨c=9∨c=10:=by omega
theorem aao{c:Int}(h:0<=c/\c<=10):dP 39 (yi c)=true/\bF (yi c) []=false:=by rcases FU h with rfl | rfl | rfl | rfl | rfl | rfl | rfl | rfl | rfl | rfl | rfl <;> decide
theorem Sy{m:bw}{code:Int}{hold told:S8}(hm:fZ m=true)(hc:0<=code/\code<=10)(hh:code=0->bF hold []=false->bm hold=true)(ht:Au told):((ja m code hold told).all fun f=>dP f.1 f.2.1)=true:=by
 refine amx.2 fun f hf => ?_
 obtain⟨no,BK,hf⟩:=List.mem_filterMap.1 hf;unfold mS at hf;cases hr:B3 m code hold told no with
 | none=>rw[hr]at hf; cases hf
 | some s =>
   rw[hr]at hf;cases hf;show dP no s=true;unfold B3 at hr;cases Km:aj no 38 with
   | true =>
     rw[Km]at hr;have e:=bt.1 Km;subst e;cases hz:aj code 0 with
     | false=>rw[hz]at hr; cases hr
     | true =>
       cases hy:bF hold []with
       | true=>rw[hz,hy]at hr; cases hr
       | false => rw[hz,hy]at hr;cases hr;exact afw (hh (bt.1 hz) hy)
   | false =>
   cases UK:aj no 39 with
   | true => rw[Km,UK]at hr;cases hr;rw[bt.1 UK];exact(aao hc).1
   | false =>
   cases Yr:aj no 54 with
   | true =>
     rw[Km,UK,Yr]at hr;cases hy:bF told []with
     | true=>rw[hy]at hr; cases hr
     | false =>
       rw[hy]at hr;cases hr;rw[bt.1 Yr];rcases ht with rfl | ⟨t1,t2,t3⟩
       . cases hy
       . show cond (dE told) (da (ae told) 1 60) false=true;rw[t1];exact bB.2 (by unfold ae; omega)
   | false => rw[Km,UK,Yr]at hr;exact adb hm hr
theorem tM(g:Int->Option ep)(hg:∀ no f,g no=some f->f.1=no):∀ l:List Int,((l.filterMap g).map fun f=>vu f.1).sum<=(l.map vu).sum
 | []=>oR _
 | no::l=>by
   have ih:=tM g hg l;rw[amO,anx];cases h:g no with
   | none=>rw[aoL h]; omega
   | some f=>rw[aoM h,amO,anx,hg no f h]; omega
theorem GF:(yh.map vu).sum=162:=by decide
theorem Dj{s:S8}(h:bF (dH s) []=false):cond (aH (dH s)) (aj (ae (dH s)) 4) false=true:=by
 unfold dH at h ⊢
 match s with
 | [a,b,c,d] =>
   dsimp only at h ⊢;cases hd:aH [a,b,c,d]with
   | false=>rw[hd]at h; cases h
   | true =>
     rw[hd]at h;cases hp:aj ((c.toNat % 2:Nat):Int) 1 with
     | true=>rw[hp]at h; cases h
     | false =>
       have hx:=jR hd;have hc:=di.1 (hx c (by simp));have yp:c.toNat % 2≠1:=fun e=>by rw[e]at hp; cases hp
       have hn:fL (UInt8.ofNat (c.toNat+1))=true:=di.2 (by rw[ao8]; omega);show cond (aH [a,b,UInt8.ofNat (c.toNat+1),d]) (aj (ae [a,b,UInt8.ofNat (c.toNat+1),d]) 4) false=true;have:aH [a,b,UInt8.ofNat (c.toNat+1),d]=true:=by
        unfold aH;rw[show [a,b,UInt8.ofNat (c.toNat+1),d].all fL=true from amx.2 fun x h=>by
         simp only[amo,List.not_mem_nil,or_false]at h;rcases h with rfl | rfl | rfl | rfl
         . exact hx _ (by simp)
         . exact hx _ (by simp)
         . exact hn
         . exact hx _ (by simp)]
        rfl
       rw[this];try rfl
 | []=>cases h
 | [_]=>cases h
 | [_,_]=>cases h
 | [_,_,_]=>cases h
 | _::_::_::_::_::_=>cases h
theorem Nw{m:bw}{code:Int}{hold told:S8}(hm:fZ m=true)(hr:bF (dH m.1) []=false)(hc:0<=code/\code<=10)(hh:code=0->bF hold []=false->bm hold=true)(ht:Au told) :
 (jv m code hold told).1=(dH m.1,ja m code hold told,())/\1<=(nR (jv m code hold told).1).length/\(nR (jv m code hold told).1).length<=200:=by
 have Fg:=Sy (told:=told) hm hc hh ht;have e:(jv m code hold told).1=(dH m.1,ja m code hold told,()):=by unfold jv;rw[hm,hr,(aao hc).2,Fg];try rfl
 have al1:fZ (dH m.1,ja m code hold told,())=true:=by rw[GY (vj m code hold told) (Dj hr)]; exact Fg
 have h1:=LZ al1;have h2:((ja m code hold told).map fun f=>vu f.1).sum<=162:=by
  have:=tM (mS m code hold told) (fun no f h=>by
   unfold mS at h;cases hr:B3 m code hold told no with
   | none=>rw[hr]at h; cases h
   | some s=>rw[hr]at h; cases h; rfl) yh
  rw[GF]at this;exact this
 have h3:(nR (dH m.1,ja m code hold told,())).length<=18+((ja m code hold told).map fun f=>vu f.1).sum:=h1.2;rw[e];exact⟨rfl,by omega,by omega⟩
def uX(t m:S8)(y:dj):Bool:=cond (bF y.1 t) (bF y.2.1 m) false
def js(l:List dj)(t m:S8):Option aJ:=(l.find? (uX t m)).map fun y=>y.2.2.1
theorem Mx{l:List dj}{s:dj}(h:eG l=true)(hs:la s=true)(hn:js l s.1 s.2.1=none)(hl:aj (ae l) 6=false):eG (l++[s])=true:=by
 unfold eG at h ⊢;cases ha:allI (dp l) 0 l with
 | false=>rw[ha]at h; cases h
 | true =>
   rw[ha]at h;have h6:ae l<=6:=ana h;have cY:ae l≠6:=fun e=>by rw[bt.2 e]at hl; cases hl
   have BK:∀ y∈l,uX s.1 s.2.1 y=false:=by unfold js at hn;rw[Option.map_eq_none_iff]at hn;intro y hy;have:=List.find?_eq_none.1 hn y hy;simpa using this
   have gm:allI (dp (l++[s])) 0 (l++[s])=true:=by
    refine D0 _ _ 0 fun i x hx => ?_
    rw[amp];unfold dp;by_cases hi:i<l.length
    . rw[amW hi]at hx;have:=gF (dp l) ha hx;rw[amp]at this;unfold dp at this;rw[aoe (by omega)];exact this
    . have hi2:i=l.length:=by
       have:=ah hx;rw[amf,anU]at this;omega
      subst hi2;rw[amU (oR _),an4]at hx;cases hx;rw[hs,aoe (oR _),aoD];show(l.all fun y=> !iV y s)=true;refine amx.2 fun y hy => ?_
      have:=BK y hy;unfold uX at this;unfold iV;rw[this];try rfl
   rw[gm];show ck (ae (l++[s])) 6=true;refine amg ?_;unfold ae at h6 cY ⊢;rw[amf,anU];omega
def Kw(a:ax)(l:List dj):ax:=(a.1,a.2.1,a.2.2.1,a.2.2.2.1,a.2.2.2.2.1,a.2.2.2.2.2.1,a.2.2.2.2.2.2.1,a.2.2.2.2.2.2.2.1,a.2.2.2.2.2.2.2.2.1,a.2.2.2.2.2.2.2.2.2.1,l,())
def ui(m:bw)(c:Int)(h t:S8):aJ:=nR (jv m c h t).1
def bN(b:List ax)(q:fw)(now:Int):List ax:=cond (aj (dk b q now).2.1 0) (dk b q now).1 b
def fb(b:List ax)(m:bw)(q:fw)(now:Int):dj:=(q.2.2.2.2.1,q.2.2.2.2.2.1,ui m (dk b q now).2.1 q.2.2.2.1 (dk b q now).2.2,())
def sx(b:List ax)(m:bw)(q:fw)(now:Int):List ax×aJ :=
 (cZ (bN b q now) (ar b q.2.1) (Kw (gt aK (bN b q now) (ar b q.2.1)) (slotsOf (gt aK (bN b q now) (ar b q.2.1))++[fb b m q now])),ui m (dk b q now).2.1 q.2.2.2.1 (dk b q now).2.2)
def vz(b:List ax)(m:bw)(q:fw)(now:Int):List ax×aJ :=
 cond (aE (ar b q.2.1) 0) (b,ui m 3 [] [])
  (match js (slotsOf (gt aK b (ar b q.2.1))) q.2.2.2.2.1 q.2.2.2.2.2.1 with
  | some o=>(b,o)
  | none=>cond (aj (ae (slotsOf (gt aK b (ar b q.2.1)))) 6) (b,ui m 10 [] []) (sx b m q now))
def yB(b:List ax)(m:bw)(now:Int):List ax×aJ:=cond (aj (gM m).2 0) (vz b m (gM m).1 now) (b,ui m (gM m).2 [] [])
def iI(b:List ax)(x:aJ)(now:Int):List ax×aJ :=
 cond (cond (ji b) (bh now) false)
  (match je x 0 4 with
  | none=>(b,[])
  | some t=>cond (bF (dH t) []) (b,[]) (cond (aj (eR x).2 0) (yB b (eR x).1 now) (b,nR (lA t 1).1)))
  (b,[])
theorem RN{q:fw}(h:lg q=true):cond (aH q.2.2.2.2.2.1) (aj (ae q.2.2.2.2.2.1) 4) false=true/\cond (aH q.2.2.2.2.1) (aj (ae q.2.2.2.2.1) 6) false=true/\(bF q.2.2.2.1 []=false->bm q.2.2.2.1=true):=by
 unfold lg at h;simp only[ame]at h;obtain⟨⟨⟨⟨⟨⟨⟨⟨h1,h2⟩,h3⟩,h4⟩,h5⟩,h6⟩,h7⟩,h8⟩,h9⟩:=h;refine⟨?_,by rw[h4]; exact h5,fun hh => ?_⟩
 . rw[Xr.1 h2];rcases qw h1 with e | e | e | e | e | e | e | e <;> rw[e] <;> decide
 . cases hc:aE q.1 7 with
   | true=>rw[hc]at h6; exact h6
   | false => rw[hc]at h6;have h6:bF q.2.2.2.1 []=true:=h6;rw[h6]at hh; cases hh
theorem xU{a:ax}(h:bo a=true):eG (slotsOf a)=true:=by unfold bo at h;simp only[anI,ame]at h;obtain⟨_,_,_,_,_,_,_,h,_⟩:=h;exact h
theorem sS{b:List ax}(h:ji b=true){i:Nat}{a:ax}(ha:b[i]? = some a):bo a=true:=by
 unfold ji at h;cases hs:allI (jf b) 0 b with
 | false=>rw[hs]at h; cases h
 | true =>
   have:=gF (jf b) hs ha;unfold jf at this;cases hm:bo a with
   | true=>rfl
   | false=>rw[hm]at this; cases this
theorem JM(b:List ax)(q:fw)(now:Int):(bN b q now).map nI=b.map nI:=by
 unfold bN;cases hz:aj (dk b q now).2.1 0 with
 | false=>rfl
 | true=>exact(PN b q now).2 (bt.1 hz)
theorem X1{b c:List ax}(h:c.map nI=b.map nI){i:Nat}{a:ax}(ha:b[i]? = some a):∃ y,c[i]? = some y/\nI y=nI a:=by have:=amL (·[i]?) h;simp only[amT,ha,amE,anP]at this;exact this
theorem zM{b:List ax}{m:bw}{q:fw}{now:Int}(hb:ji b=true)(hk:aE (ar b q.2.1) 0=false)(hn:js (slotsOf (gt aK b (ar b q.2.1))) q.2.2.2.2.1 q.2.2.2.2.2.1=none)
 (h6:aj (ae (slotsOf (gt aK b (ar b q.2.1)))) 6=false)(hm:fZ m=true)(hr:bF (dH m.1) []=false)(hq:lg q=true) :
 eG (slotsOf (gt aK (bN b q now) (ar b q.2.1))++[fb b m q now])=true/\∃(i:Nat) (y:ax),ar b q.2.1=(i:Int)/\(bN b q now)[i]? = some y:=by
 obtain⟨i,a,e,ha⟩:=eO (of_decide_eq_false hk);have hg:gt aK b (ar b q.2.1)=a:=by rw[e]; exact aM _ ha
 obtain⟨y,hy,al2⟩:=X1 (JM b q now) ha;have O6:gt aK (bN b q now) (ar b q.2.1)=y:=by rw[e]; exact aM _ hy
 have hs:slotsOf y=slotsOf a:=amL Prod.snd al2;obtain⟨q1,q2,q3⟩:=RN hq;have hl:=Nw (told:=(dk b q now).2.2) hm hr (PN b q now).1 (fun _ hh=>q3 hh) (xa b q now);rw[hg]at hn h6;refine⟨?_,i,y,e,hy⟩;rw[O6,hs];refine Mx (xU (sS hb ha)) ?_ hn h6;unfold la;show cond (cond (aH q.2.2.2.2.1) (aj (ae q.2.2.2.2.1) 6) false) (cond (cond (aH q.2.2.2.2.2.1) (aj (ae q.2.2.2.2.2.1) 4) false) (da (ae (ui m (dk b q now).2.1 q.2.2.2.1 (dk b q now).2.2)) 1 200) false) false=true;rw[q1,q2];exact bB.2 (by unfold ui ae; omega)
theorem z6{m:bw}(h:aj (gM m).2 0=true):fZ m=true/\lg (gM m).1=true:=by
 have h:=bt.1 h;unfold gM at h ⊢;cases hm:fZ m with
 | false=>rw[hm]at h; cases h
 | true =>
 rw[hm]at h;cases hk:zY m.1 with
 | false=>rw[hk]at h; cases h
 | true =>
 rw[hk]at h;dsimp only[oT]at h ⊢;cases hf:jG m 3 with
 | none=>rw[hf]at h; cases h
 | some c =>
 rw[hf]at h;dsimp only at h ⊢;unfold I7 at h ⊢;cases hq:Ng m (fH m.1 c)with
 | false=>rw[hq]at h; cases h
 | true =>
 rw[hq]at h;cases hr:lg (kW m (fH m.1 c))with
 | false=>rw[hr]at h; cases h
 | true=>exact⟨rfl,hr⟩
theorem wW{x:aJ}{t:S8}(h:je x 0 4=some t)(h0:aj (eR x).2 0=true):(eR x).1.1=t:=by
 have h0:=bt.1 h0;unfold eR at h0 ⊢;rw[h]at h0 ⊢;dsimp only at h0 ⊢;cases hn:Ca x with
 | none=>rw[hn]at h0; cases h0
 | some p =>
 obtain⟨nos,a⟩:=p;rw[hn]at h0;dsimp only at h0 ⊢;cases hf:mB x nos a []with
 | none=>rw[hf]at h0; cases h0
 | some p =>
 obtain⟨l,e⟩:=p;rw[hf]at h0;dsimp only at h0 ⊢;by_cases he:e=x.length
 . rw[if_pos he]
 . rw[if_neg he]at h0; cases h0
theorem Ry(m:bw):(nR m).length<=18+(m.2.1.map fun f=>vu f.1).sum:=by
 cases h:fZ m with
 | true=>exact(LZ h).2
 | false=>unfold nR; rw[h]; exact amr _
theorem Wh{m:bw}{c:Int}{h t:S8}{no:Int}{f:ep}(hf:mS m c h t no=some f):f.1=no:=by
 unfold mS at hf;cases hr:B3 m c h t no with
 | none=>rw[hr]at hf; cases hf
 | some s=>rw[hr]at hf; cases hf; rfl
theorem KE(m:bw)(c:Int)(h t:S8):(ui m c h t).length<=180:=by
 have hs:=tM (mS m c h t) (fun no f hf=>Wh hf) yh;rw[GF]at hs;have h0:(nR (([],[],()):bw)).length<=180:=by rw[show nR (([],[],()):bw)=[]from rfl]; exact amr _
 unfold ui jv;cases cond (fZ m) (cond (bF (dH m.1) []) false (!bF (yi c) [])) false with
 | false=>exact h0
 | true =>
   cases(ja m c h t).all fun f=>dP f.1 f.2.1 with
   | false=>exact h0
   | true => refine aml (Ry _) ?_;show 18+((ja m c h t).map fun f=>vu f.1).sum<=180;exact Nat.add_le_add_left hs 18
theorem Xy(t:S8)(c:Int):(nR (lA t c).1).length<=20:=by
 unfold lA;cases fZ (dH t,[(39,yi c,())],())with
 | false=>show(nR (([],[],()):bw)).length<=20; rw[show nR (([],[],()):bw)=[]from rfl]; exact amr _
 | true=>exact aml (Ry _) (by show 18+(vu 39+0)<=20; decide)
theorem G3{xs:List ax}(hb:dJ xs)(k:Int):bK (gt aK xs k):=by
 unfold gt;rw[ang];cases h:xs[k.toNat]? with
 | none=>exact fg
 | some y=>exact hb.2 y (amk h)
theorem K3{xs:List ax}(hb:dJ xs)(k:Int){y:ax}(hy:bK y):dJ (cZ xs k y):=by
 unfold cZ;refine⟨by rw[ano]; exact hb.1,fun a ha => ?_⟩;rcases aoH ha with ha | ha
 . exact hb.2 a ha
 . rw[ha]; exact hy
theorem sO:dJ []:=⟨amr _,fun a ha=>by simp at ha⟩
theorem acx{b:List ax}(q:fw)(now:Int)(hb:dJ b):dJ (dk b q now).1:=by
 unfold dk;cases ji b <;> first | exact sO | skip
 cases lg q <;> first | exact sO | skip
 cases bh now <;> first | exact sO | skip
 dsimp only[oT];cases aj q.1 6 with
 | false =>
   dsimp only[oF];cases aE (ar b q.2.1) 0 <;> first | exact sO | skip
   dsimp only[oF];cases aj (mP (gt aK b (ar b q.2.1)) (gt aK b (ar b q.2.1)) q now).2.2.1 0 <;> first | exact sO | skip
   exact K3 hb _ (Xj q now (G3 hb _) (G3 hb _)).1
 | true =>
   dsimp only[oT];cases cond (aE (ar b q.2.1) 0) true (aE (ar b q.2.2.1) 0) <;> first | exact sO | skip
   dsimp only[oF];cases aj (mP (gt aK b (ar b q.2.1)) (gt aK b (ar b q.2.2.1)) q now).2.2.1 0 <;> first | exact sO | skip
   have:=Xj q now (G3 hb (ar b q.2.1)) (G3 hb (ar b q.2.2.1));exact K3 (K3 hb _ this.2) _ this.1
theorem Sp{b:List ax}(q:fw)(now:Int)(hb:dJ b):dJ (bN b q now):=by
 unfold bN;cases aj (dk b q now).2.1 0 with
 | false=>exact hb
 | true=>exact acx q now hb
theorem Rx{b:List ax}{m:bw}{q:fw}{now:Int}(hb:dJ b)(hs:eG (slotsOf (gt aK (bN b q now) (ar b q.2.1))++[fb b m q now])=true):dJ (sx b m q now).1:=by
 have hd:=Sp q now hb;have hy:=G3 hd (ar b q.2.1);refine K3 hd _ ⟨hy.1,hy.2.1,hy.2.2.1,?_,fun z hz => ?_⟩
 . show(slotsOf (gt aK (bN b q now) (ar b q.2.1))++[fb b m q now]).length<=1048576;unfold eG at hs;cases ha:allI (dp (slotsOf (gt aK (bN b q now) (ar b q.2.1))++[fb b m q now])) 0 (slotsOf (gt aK (bN b q now) (ar b q.2.1))++[fb b m q now])with
   | false=>rw[ha]at hs; cases hs
   | true => rw[ha]at hs;have:ae (slotsOf (gt aK (bN b q now) (ar b q.2.1))++[fb b m q now])<=6:=ana hs;unfold ae at this;omega
 . have hz:z∈slotsOf (gt aK (bN b q now) (ar b q.2.1))++[fb b m q now]:=hz;have hm:la z=true:=by
    unfold eG at hs;cases ha:allI (dp (slotsOf (gt aK (bN b q now) (ar b q.2.1))++[fb b m q now])) 0 (slotsOf (gt aK (bN b q now) (ar b q.2.1))++[fb b m q now])with
    | false=>rw[ha]at hs; cases hs
    | true =>
      obtain⟨i,hi⟩:=anH.1 hz;have:=gF _ ha hi;unfold dp at this;cases hk:la z with
      | true=>rfl
      | false=>rw[hk]at this; cases this
   unfold la at hm;simp only[anI,ame]at hm;obtain⟨⟨_,h1⟩,⟨_,h2⟩,h3⟩:=hm;have h1:=bt.1 h1;have h2:=bt.1 h2;have h3:=bB.1 h3;unfold ae at h1 h2 h3;omega
theorem ajV:∀ a b:Fin 10,dC .u8 (bf .i64 (ak .i64 (yg .i64 (bf .i64 (dC .i64 ((a.val+48:Nat):Int)) 48) 16) (dC .i64 ((b.val+48:Nat):Int))) 48)=((a.val * 16+b.val:Nat):Int):=by decide +kernel
theorem ajc:∀ a b:Fin 10,UY .u8 (XN .u8 (bf .u8 ((a.val+48:Nat):Int) 48) 4) (bf .u8 ((b.val+48:Nat):Int) 48)=((a.val * 16+b.val:Nat):Int):=by decide +kernel
theorem akP{x y:UInt8}(hx:fL x=true)(hy:fL y=true):dC .u8 (bf .i64 (ak .i64 (yg .i64 (bf .i64 (dC .i64 (x.toNat:Int)) 48) 16) (dC .i64 (y.toNat:Int))) 48)=(((x.toNat-48) * 16+(y.toNat-48):Nat):Int):=by have h1:=di.1 hx;have h2:=di.1 hy;have:=ajV ⟨x.toNat-48,by omega⟩ ⟨y.toNat-48,by omega⟩;dsimp only at this;rw[show x.toNat-48+48=x.toNat by omega,show y.toNat-48+48=y.toNat by omega]at this;exact this
theorem akG{x y:UInt8}(hx:fL x=true)(hy:fL y=true):UY .u8 (XN .u8 (bf .u8 (x.toNat:Int) 48) 4) (bf .u8 (y.toNat:Int) 48)=(((x.toNat-48) * 16+(y.toNat-48):Nat):Int):=by have h1:=di.1 hx;have h2:=di.1 hy;have:=ajc ⟨x.toNat-48,by omega⟩ ⟨y.toNat-48,by omega⟩;dsimp only at this;rw[show x.toNat-48+48=x.toNat by omega,show y.toNat-48+48=y.toNat by omega]at this;exact this
def rR(s:S8)(k:Nat):Int×Unit:=((((s.getD (2 * k) 0).toNat-48) * 16+((s.getD (2 * k+1) 0).toNat-48):Nat),())
theorem xj:∀(n:Nat) (s:S8),s.length=2 * n->pJ s=(List.range n).map (rR s)
 | 0,[],_=>rfl
 | 0,_::_,h=>by simp at h
 | n+1,x::y::r,h=>by rw[pJ,xj n r (by simp only[ams]at h; omega),List.range_succ_eq_map,amO,List.map_map];refine congr (amL List.cons rfl) (List.map_congr_left fun k _ => ?_);show rR r k=rR (x::y::r) (k+1);unfold rR;rw[show 2 * (k+1)=2 * k+1+1 by omega];try rfl
 | n+1,[],h=>by simp at h
 | n+1,[x],h=>by simp at h; omega
def CW(s:S8):Bool:=cond (aH s) (ck (ae s) 38) false
theorem mT{a b:aJ}(h:a.length+b.length<=bQ):bl 1 a b=true:=amm (by show(a.length+b.length) * 1<=bQ; omega)
theorem Kn{n i x:Nat}(h:(List.range n)[i]? = some x):x=i/\i<n:=by have:=ah h;rw[apc]at this;rw[List.getElem?_range this]at h;exact⟨(am1 h).symm,this⟩
theorem Dz{α β Y:Type}(F:α->β)(z:List β->Y):∀(xs:List α) (i:Nat) (d:List β),kR (fun _ x (a:List β)=>Sum.inl (a++[F x])) z i xs d=z (d++xs.map F)
 | [],i,d=>by simp[kR]
 | x::r,i,d=>by simp only[kR]; rw[Dz F z r]; simp
theorem aas(s:S8)(n:Nat)(hn:s.length=2 * n)(hb:n<=1048576)(hd:s.all fL=true):P7 s [] 0=some (.inl (s,pJ s,((2 * n:Nat):Int),())):=by
 have bp:=bk;have h:=aP (step:=fE zP) (List.range n) (fun i (o:aJ)=>(s,o,((2 * i:Nat):Int),())) (fun _ k o=>Sum.inl (o++[rR s k])) (fun o=> .inl (s,o,((2 * n:Nat):Int),())) (fun i o=>o.length<=i) (a0:=[]) (oR _) (fun i k o hk ho=>by
  obtain⟨rfl,hi⟩:=Kn hk;obtain⟨x,hx⟩:∃ x,s[2 * k]? = some x:=⟨_,ami (by omega)⟩;obtain⟨y,hy⟩:∃ y,s[2 * k+1]? = some y:=⟨_,ami (by omega)⟩;have dx:=amx.1 hd x (amk hx);have dy:=amx.1 hd y (amk hy);have pv:rR s k=((((x.toNat-48) * 16+(y.toNat-48):Nat):Int),()):=by unfold rR;rw[ang,ang,hx,hy];try rfl
  have hf:∀ v:Int×Unit,bl 1 o [v]=true:=fun v=>mT (by show o.length+1<=bQ; omega)
  show zP s o ((2 * k:Nat):Int)=_;unfold zP;dsimp only;rw[aL hx,aD hx,aU (by omega),aD hy,fX hx,fX hy,akP dx dy,hf,pv];rw[show ak .i64 ((2 * k:Nat):Int) 2=((2 * (k+1):Nat):Int)by rw[bd (by omega) (by omega)]; omega];try rfl) (fun i k o o' hk ho hf=>by
  simp only[amu]at hf;rw[<- hf,amf];show o.length+1<=_;omega) (fun o ho=>by
  show zP s o ((2 * (List.range n).length:Nat):Int)=_;unfold zP;rw[apc,aA hn];try rfl)
 rw[Dz,<- xj n s hn]at h;exact h
theorem Ej(s:S8)(hs:s.length<=1048576):UN s=some ((),((dQ s,()),(CW s,()),())):=by
 have bp:=bk;unfold UN dQ CW;rw[gi s (by omega)];dsimp only[oB];cases hd:aH s with
 | false=>rfl
 | true =>
   have hp:aj (eH (ae s) 2) 1=decide (s.length % 2=1):=KT s.length;have ha:=(dM.1 hd).1;rw[hp];by_cases Km:s.length<=38
   . rw[show aE 38 (ae s)=false from aF (by show ¬ (38:Int)<(s.length:Int); omega),show ck (ae s) 38=true from amg (by show(s.length:Int)<=38; omega)];by_cases yp:s.length % 2=1
     . have he:A2 s=48::s:=if_pos yp;have hl:=aas (48::s) ((s.length+1) / 2) (by simp only[ams]; omega) (by omega) (by rw[am8,ha];try rfl);rw[amg yp,he,show jL [48] s=true from qa (by show 1+s.length<=bQ; omega)];exact bn hl
     . have he:A2 s=s:=if_neg yp;have hl:=aas s (s.length / 2) (by omega) (by omega) ha;rw[amB yp,he];exact bn hl
   . rw[show aE 38 (ae s)=true from aR (by show(38:Int)<(s.length:Int); omega),show ck (ae s) 38=false from amB (by show ¬ (s.length:Int)<=38; omega)];try rfl
theorem Zu(s:S8)(n:Nat)(hn:s.length=2 * n)(hb:n<=1048576)(hd:s.all fL=true):Jq s [] 0=some (.inl (s,pJ s,((2 * n:Nat):Int),())):=by
 have bp:=bk;have h:=aP (step:=fE sB) (List.range n) (fun i (o:aJ)=>(s,o,((2 * i:Nat):Int),())) (fun _ k o=>Sum.inl (o++[rR s k])) (fun o=> .inl (s,o,((2 * n:Nat):Int),())) (fun i o=>o.length<=i) (a0:=[]) (oR _) (fun i k o hk ho=>by
  obtain⟨rfl,hi⟩:=Kn hk;obtain⟨x,hx⟩:∃ x,s[2 * k]? = some x:=⟨_,ami (by omega)⟩;obtain⟨y,hy⟩:∃ y,s[2 * k+1]? = some y:=⟨_,ami (by omega)⟩;have dx:=amx.1 hd x (amk hx);have dy:=amx.1 hd y (amk hy);have pv:rR s k=((((x.toNat-48) * 16+(y.toNat-48):Nat):Int),()):=by unfold rR;rw[ang,ang,hx,hy];try rfl
  have hf:∀ v:Int×Unit,bl 1 o [v]=true:=fun v=>mT (by show o.length+1<=bQ; omega)
  show sB s o ((2 * k:Nat):Int)=_;unfold sB;dsimp only;rw[aL hx,aD hx,aU (by omega),aD hy,fX hx,fX hy,akG dx dy,hf,pv];rw[show ak .i64 ((2 * k:Nat):Int) 2=((2 * (k+1):Nat):Int)by rw[bd (by omega) (by omega)]; omega];try rfl) (fun i k o o' hk ho hf=>by
  simp only[amu]at hf;rw[<- hf,amf];show o.length+1<=_;omega) (fun o ho=>by
  show sB s o ((2 * (List.range n).length:Nat):Int)=_;unfold sB;rw[apc,aA hn];try rfl)
 rw[Dz,<- xj n s hn]at h;exact h
theorem DA(s:S8)(hs:s.length<=1048576):EW s=some ((),((dQ s,()),(CW s,()),())):=by
 have bp:=bk;unfold EW dQ CW;rw[iZ s (by omega)];dsimp only[oB];cases hd:aH s with
 | false=>rfl
 | true =>
   have hp:aj (eH (ae s) 2) 1=decide (s.length % 2=1):=KT s.length;have ha:=(dM.1 hd).1;rw[hp];by_cases Km:s.length<=38
   . rw[show aE 38 (ae s)=false from aF (by show ¬ (38:Int)<(s.length:Int); omega),show ck (ae s) 38=true from amg (by show(s.length:Int)<=38; omega)];by_cases yp:s.length % 2=1
     . have he:A2 s=48::s:=if_pos yp;have hl:=Zu (48::s) ((s.length+1) / 2) (by simp only[ams]; omega) (by omega) (by rw[am8,ha];try rfl);rw[amg yp,he,show jL [48] s=true from qa (by show 1+s.length<=bQ; omega)];exact bn hl
     . have he:A2 s=s:=if_neg yp;have hl:=Zu s (s.length / 2) (by omega) (by omega) ha;rw[amB yp,he];exact bn hl
   . rw[show aE 38 (ae s)=true from aR (by show(38:Int)<(s.length:Int); omega),show ck (ae s) 38=false from amB (by show ¬ (s.length:Int)<=38; omega)];try rfl
theorem abI:∀(c:Fin 256) (r:Fin 8),UY .u8 (c.val:Int) (rH .u8 128 (r.val:Int))=((c.val ||| 128 >>> r.val:Nat):Int)/\c.val ||| 128 >>> r.val<256:=by decide +kernel
def O8(o:aJ):Prop:=o.length=8/\∀ x∈o,0<=x.1/\x.1<=255
theorem Ma:O8 (List.replicate 8 (0,())):=⟨ann,fun x hx=>by rw[aoK hx]; decide⟩
theorem pj{o:aJ}(h:O8 o){k:Nat}(hk:k<64):O8 (na o k)/\na o k=cZ o ((k / 8:Nat):Int) (UY .u8 (gt d5 o ((k / 8:Nat):Int)).1 (rH .u8 128 ((k % 8:Nat):Int)),()):=by
 obtain⟨x,hx⟩:∃ x,o[k / 8]? = some x:=⟨_,ami (by rw[h.1]; omega)⟩;have hb:=h.2 x (amk hx);have e:=abI ⟨x.1.toNat,by omega⟩ ⟨k % 8,by omega⟩;dsimp only at e;have hd:o.getD (k / 8) (0,())=x:=by rw[ang,hx];try rfl
 have hg:gt d5 o ((k / 8:Nat):Int)=x:=aM _ hx;have hi:((x.1.toNat:Nat):Int)=x.1:=by omega
 rw[hi]at e;refine⟨⟨by unfold na; rw[ano]; exact h.1,fun y hy => ?_⟩,?_⟩
 . unfold na at hy;rcases aoH hy with hy | hy
   . exact h.2 y hy
   . rw[hy,hd];show(0:Int)<=((x.1.toNat ||| 128 >>> (k % 8):Nat):Int)/\((x.1.toNat ||| 128 >>> (k % 8):Nat):Int)<=255;have:=e.2;omega
 . rw[hg,e.1];unfold na;rw[hd];try rfl
theorem EF(l:List gO)(hl:l.length<=2097152):XP l=zR (eP l):=by
 have bp:=bk;unfold XP;have h:=aP (step:=eo zh) l (fun i (o:aJ)=>(o,l,ae l,((i:Nat):Int),())) (fun _ k o=>Sum.inl (cond (da k.1 1 64) (na o (k.1.toNat-1)) o)) (fun o=> .inl (o,l,ae l,ae l,())) (fun _ o=>O8 o) (a0:=List.replicate 8 (0,())) Ma (fun i k o hk ho=>by
  have aV:=ah hk;show zh o l (ae l) (i:Int)=_;unfold zh;rw[aL hk,aD hk,aM _ hk,oI];dsimp only[oB,oT];rw[aU (by omega)];cases hm:da k.1 1 64 with
  | false=>rfl
  | true =>
    have hr:=bB.1 hm;obtain⟨j,hj,UL⟩:∃ j:Nat,k.1=((j+1:Nat):Int)/\j<64:=⟨k.1.toNat-1,by omega,by omega⟩;obtain⟨e1,e2,e3,_⟩:=W7 UL;have hb:=(pj ho UL).2;dsimp only[oT];rw[hj,e1,e2,e3,im (by rw[ho.1]; omega),show ck 0 ((j % 8:Nat):Int)=true from amg (by omega)];show(some (.inl (cZ o ((j / 8:Nat):Int) (UY .u8 (gt d5 o ((j / 8:Nat):Int)).1 (rH .u8 128 ((j % 8:Nat):Int)),()),l,ae l,((i+1:Nat):Int),())):Option (Sum (aJ×List gO×Int×Int×Unit) (Sum (aJ×List gO×Int×Int×Unit) Unit)))=some (.inl (na o j,l,ae l,((i+1:Nat):Int),()));rw[<- hb]) (fun i k o o' hk ho hf=>by
  simp only[amu]at hf;rw[<- hf];cases hm:da k.1 1 64 with
  | false=>exact ho
  | true =>
    have hr:=bB.1 hm;exact(pj ho (k:=k.1.toNat-1) (by omega)).1) (fun o ho=>by
  show zh o l (ae l) (l.length:Int)=_;unfold zh;rw[aA rfl];try rfl)
 rw[bS]at h;exact bn h
theorem DM(l:List gO)(hl:l.length<=2097152):FE l=zR (eP l):=by
 have bp:=bk;unfold FE;have h:=aP (step:=eo ug) l (fun i (o:aJ)=>(o,l,ae l,((i:Nat):Int),())) (fun _ k o=>Sum.inl (cond (da k.1 1 64) (na o (k.1.toNat-1)) o)) (fun o=> .inl (o,l,ae l,ae l,())) (fun _ o=>O8 o) (a0:=List.replicate 8 (0,())) Ma (fun i k o hk ho=>by
  have aV:=ah hk;show ug o l (ae l) (i:Int)=_;unfold ug;rw[aL hk,aD hk,aM _ hk,lC];dsimp only[oB,oT];rw[aU (by omega)];cases hm:da k.1 1 64 with
  | false=>rfl
  | true =>
    have hr:=bB.1 hm;obtain⟨j,hj,UL⟩:∃ j:Nat,k.1=((j+1:Nat):Int)/\j<64:=⟨k.1.toNat-1,by omega,by omega⟩;obtain⟨e1,e2,e3,_⟩:=W7 UL;have hb:=(pj ho UL).2;dsimp only[oT];rw[hj,e1,e2,e3,im (by rw[ho.1]; omega),show ck 0 ((j % 8:Nat):Int)=true from amg (by omega)];show(some (.inl (cZ o ((j / 8:Nat):Int) (UY .u8 (gt d5 o ((j / 8:Nat):Int)).1 (rH .u8 128 ((j % 8:Nat):Int)),()),l,ae l,((i+1:Nat):Int),())):Option (Sum (aJ×List gO×Int×Int×Unit) (Sum (aJ×List gO×Int×Int×Unit) Unit)))=some (.inl (na o j,l,ae l,((i+1:Nat):Int),()));rw[<- hb]) (fun i k o o' hk ho hf=>by
  simp only[amu]at hf;rw[<- hf];cases hm:da k.1 1 64 with
  | false=>exact ho
  | true =>
    have hr:=bB.1 hm;exact(pj ho (k:=k.1.toNat-1) (by omega)).1) (fun o ho=>by
  show ug o l (ae l) (l.length:Int)=_;unfold ug;rw[aA rfl];try rfl)
 rw[bS]at h;exact bn h
theorem I4(n d:Int)(hd:d=2∨d=3):Ju n d=some ((),((dQ (et n d),()),(CW (et n d),()),())):=by have hw:=jO n d;unfold Ju;rw[IH];dsimp only[oB];rw[Ej _ (by omega)];rcases hd with rfl | rfl <;> rfl
theorem Iy(n d:Int)(hd:d=2∨d=3)(hn : -9223372036854775808<=n/\n<=9223372036854775807):FY n d=some ((),((dQ (et n d),()),(CW (et n d),()),())):=by have hw:=jO n d;unfold FY;rw[lC,IB n d hn];dsimp only[oB];rw[DA _ (by omega)];rcases hd with rfl | rfl <;> rfl
theorem Dy{s:S8}(h:s.length<=1048576) : -9223372036854775808<=ae s/\ae s<=9223372036854775807:=by unfold ae; omega
theorem adI(no:Int)(s:S8)(hs:s.length<=1048576):g87 no s=some ((),((wR no s,()),(dP no s,()),())):=by
 have bp:=bk;have hb:=gD s;have ho:=E3 s;have h2:=gD (et (ae s) 2);have h3:=gD (et (ae s) 3);have w2:=rz (n:=ae s) (w:=2) (k:=2) rfl;have w3:=rz (n:=ae s) (w:=3) (k:=3) rfl;unfold g87 wR;rw[Ag no s (by omega)];dsimp only[oB];cases hf:dP no s with
 | false=>rfl
 | true =>
   rw[wD];dsimp only[oB];obtain⟨n,hn,hk⟩:=kinds no;have f0:bl 1 [] (dQ s)=true:=mT (by show 0+_<=bQ; omega);have f1:bl 1 [] (bytesOf s)=true:=mT (a:=[]) (b:=UP s) (by show 0+_<=bQ; omega);have f2:bl 1 (dQ (et (ae s) 2)) (dQ s)=true:=mT (by omega);have f3:bl 1 (dQ (et (ae s) 2)) (bytesOf s)=true:=mT (b:=UP s) (by omega);have f4:bl 1 (dQ (et (ae s) 3)) (bytesOf s)=true:=mT (b:=UP s) (by omega);unfold Qj NA;rcases hk with ⟨e,_⟩ | ⟨e,_⟩ | ⟨e,_⟩ | ⟨e,_⟩ | ⟨e,_⟩ | ⟨e,_⟩ <;> rw[e]
   . unfold dP at hf; rw[e]at hf; cases hf
   . show Option.bind (UN s) (fun y=>cond (bl 1 [] y.2.1.1) (some ((),(((fQ [] y.2.1.1),()),(true,()),()))) none)=_;rw[Ej s hs];dsimp only[oB];rw[f0];try rfl
   . show cond (bl 1 [] (bytesOf s)) (some ((),(((fQ [] (bytesOf s)),()),(true,()),()))) none=_;rw[f1];try rfl
   . show Option.bind (Ju (ae s) 2) (fun y5=>Option.bind (UN s) (fun y=>cond (bl 1 y5.2.1.1 y.2.1.1) (some ((),(((fQ y5.2.1.1 y.2.1.1),()),(true,()),()))) none))=_;rw[I4 _ _ (.inl rfl),Ej s hs];dsimp only[oB];rw[f2];try rfl
   . show Option.bind (Ju (ae s) 2) (fun y5=>cond (bl 1 y5.2.1.1 (bytesOf s)) (some ((),(((fQ y5.2.1.1 (bytesOf s)),()),(true,()),()))) none)=_;rw[I4 _ _ (.inl rfl)];dsimp only[oB];rw[f3];try rfl
   . show Option.bind (Ju (ae s) 3) (fun y5=>cond (bl 1 y5.2.1.1 (bytesOf s)) (some ((),(((fQ y5.2.1.1 (bytesOf s)),()),(true,()),()))) none)=_;rw[I4 _ _ (.inr rfl)];dsimp only[oB];rw[f4];try rfl
theorem acI(no:Int):HH no=zR (NA no):=by unfold HH NA;rw[tP];dsimp only[oB];cases aj (bE no) 5 <;> rfl
theorem acy(no:Int)(s:S8)(hs:s.length<=1048576):R4 no s=some ((),((wR no s,()),(dP no s,()),())):=by
 have bp:=bk;have hb:=gD s;have ho:=E3 s;have h2:=gD (et (ae s) 2);have h3:=gD (et (ae s) 3);have w2:=rz (n:=ae s) (w:=2) (k:=2) rfl;have w3:=rz (n:=ae s) (w:=3) (k:=3) rfl;unfold R4 wR;rw[Ht no s (by omega)];dsimp only[oB];cases hf:dP no s with
 | false=>rfl
 | true =>
   rw[tP,acI];dsimp only[oB];obtain⟨n,hn,hk⟩:=kinds no;have f2:bl 1 (dQ (et (ae s) 2)) (dQ s)=true:=mT (by omega);have f3:bl 1 (dQ (et (ae s) 2)) (bytesOf s)=true:=mT (b:=UP s) (by omega);have f4:bl 1 (dQ (et (ae s) 3)) (bytesOf s)=true:=mT (b:=UP s) (by omega);unfold Qj NA;rcases hk with ⟨e,_⟩ | ⟨e,_⟩ | ⟨e,_⟩ | ⟨e,_⟩ | ⟨e,_⟩ | ⟨e,_⟩ <;> rw[e]
   . unfold dP at hf; rw[e]at hf; cases hf
   . show Option.bind (EW s) (fun y=>some ((),(y.2.1,(true,()),())))=_;rw[DA s hs];try rfl
   . rfl
   . show Option.bind (EW s) (fun y=>Option.bind (FY (ae s) 2) (fun y5=>cond (bl 1 y5.2.1.1 y.2.1.1) (some ((),(((fQ y5.2.1.1 y.2.1.1),()),(true,()),()))) none))=_;rw[Iy _ _ (.inl rfl) (Dy hs),DA s hs];dsimp only[oB];rw[f2];try rfl
   . show Option.bind (FY (ae s) 2) (fun y5=>cond (bl 1 y5.2.1.1 (bytesOf s)) (some ((),(((fQ y5.2.1.1 (bytesOf s)),()),(true,()),()))) none)=_;rw[Iy _ _ (.inl rfl) (Dy hs)];dsimp only[oB];rw[f3];try rfl
   . show Option.bind (FY (ae s) 3) (fun y5=>cond (bl 1 y5.2.1.1 (bytesOf s)) (some ((),(((fQ y5.2.1.1 (bytesOf s)),()),(true,()),()))) none)=_;rw[Iy _ _ (.inr rfl) (Dy hs)];dsimp only[oB];rw[f4];try rfl
theorem ac0(no:Int):vu no<=62:=by
 unfold vu;obtain⟨n,hn,hk⟩:=kinds no;rw[hn];rcases hk with ⟨e,h⟩ | ⟨e,h⟩ | ⟨e,h⟩ | ⟨e,h⟩ | ⟨e,h⟩ | ⟨e,h⟩ <;> rw[e]
 . exact oR 62
 . show((n:Int).toNat+1) / 2<=62; omega
 . show(n:Int).toNat<=62; omega
 . show 11<=62; omega
 . show 21<=62; omega
 . exact oR 62
def z8(f:ep)(a:aJ×aJ):aJ×aJ:=cond (aE 64 f.1) (a.1,a.2++[(bf .i64 f.1 64,())]) (a.1++[(f.1,())],a.2)
theorem AS:∀(l:List ep) (a:aJ×aJ),l.foldl (fun a f=>z8 f a) a=(a.1++lq l,a.2++vC l)
 | [],a=>by simp[lq,vC]
 | f::l,a=>by rw[am7,AS l];unfold z8 lq vC;cases h:aE 64 f.1 <;> simp[h]
theorem TD(l:List ep):(lq l).length<=l.length:=by unfold lq; rw[anK]; exact am4 _ _
theorem Qn(l:List ep):(vC l).length<=l.length:=by unfold vC; rw[anK]; exact am4 _ _
theorem Kv(f:ep)(a:aJ×aJ):(z8 f a).1.length<=a.1.length+1/\(z8 f a).2.length<=a.2.length+1:=by
 unfold z8;cases aE 64 f.1
 . exact⟨by show(a.1++[(f.1,())]).length<=_; rw[amf]; exact oR _,aoc _⟩
 . exact⟨aoc _,by show(a.2++[(bf .i64 f.1 64,())]).length<=_; rw[amf]; exact oR _⟩
theorem Fw(f:ep)(l:List ep):gh (f::l)=wR f.1 f.2.1++gh l:=rfl
theorem wb:∀(l:List ep) (o:aJ),l.foldl (fun o f=>o++wR f.1 f.2.1) o=o++gh l
 | [],o=>by simp[gh]
 | f::l,o=>by rw[am7,wb l,Fw,amD]
theorem vi(f:ep):(wR f.1 f.2.1).length<=62:=aml (Hs _ _) (ac0 _)
theorem Xs(l:List ep):(gh l).length<=62 * l.length:=by
 induction l with
 | nil=>exact oR _
 | cons f l ih => have:=vi f;rw[Fw,amf,ams];omega
theorem CA{o:aJ}{x:Int×Unit}(h:o.length<=1048576):bl 8 o [x]=true:=amm (by show(o.length+1) * 8<=140737488355328; omega)
theorem afJ(m:bw)(hb:iG m):Y3 [] [] m.2.1 (ae m.2.1) 0 m=some (.inl (lq m.2.1,vC m.2.1,m.2.1,ae m.2.1,ae m.2.1,m,())):=by
 have bp:=bk;have h:=aP (step:=Fk zb) m.2.1 (fun i (a:aJ×aJ)=>(a.1,a.2,m.2.1,ae m.2.1,((i:Nat):Int),m,())) (fun _ f a=>Sum.inl (z8 f a)) (fun a=> .inl (a.1,a.2,m.2.1,ae m.2.1,ae m.2.1,m,())) (fun i a=>a.1.length<=i/\a.2.length<=i) (a0:=([],[])) ⟨oR _,oR _⟩ (fun i f a hf ha=>by
  have aV:=ah hf;have hl:=hb.2.1;show zb a.1 a.2 m.2.1 (ae m.2.1) (i:Int) m=_;unfold zb z8;rw[aL hf,aD hf,aM _ hf];dsimp only[oT];rw[aU (by omega),CA (o:=a.1) (by omega),CA (o:=a.2) (by omega)];cases aE 64 f.1 <;> rfl) (fun i f a a' hf ha he=>by
  simp only[amu]at he;have:=Kv f a;rw[<- he];omega) (fun a ha=>by
  show zb a.1 a.2 m.2.1 (ae m.2.1) (m.2.1.length:Int) m=_;unfold zb;rw[aA rfl];try rfl)
 rw[bS,AS]at h;exact h
theorem ZR(l:List ep)(o:aJ)(hl:l.length<=1048576)(hs:∀ f∈l,f.2.1.length<=1048576)(ho:o.length<=1000):Ah o l (ae l) 0=some (.inl (o++gh l,l,ae l,ae l,())):=by
 have bp:=bk;have h:=aP (step:=eo zG) l (fun i (a:aJ)=>(a,l,ae l,((i:Nat):Int),())) (fun _ f a=>Sum.inl (a++wR f.1 f.2.1)) (fun a=> .inl (a,l,ae l,ae l,())) (fun i a=>a.length<=1000+62 * i) (a0:=o) ho (fun i f a hf ha=>by
  have aV:=ah hf;have hp:=vi f;show zG a l (ae l) (i:Int)=_;unfold zG;rw[aL hf,aD hf,aM _ hf];dsimp only[oT];rw[adI _ _ (hs f (amk hf)),aU (by omega)];dsimp only[oB];rw[mT (by omega)];try rfl) (fun i f a a' hf ha he=>by
  simp only[amu]at he;have hp:=vi f;rw[<- he,amf];omega) (fun a ha=>by
  show zG a l (ae l) (l.length:Int)=_;unfold zG;rw[aA rfl];try rfl)
 rw[bS,wb]at h;exact h
theorem LD{m:bw}(h:fZ m=true):m.1.length=4:=by
 unfold fZ at h;cases hd:aH m.1 with
 | false=>rw[hd]at h; cases h
 | true =>
   rw[hd]at h;cases he:aj (ae m.1) 4 with
   | false=>rw[he]at h; cases h
   | true=>have:=bt.1 he; unfold ae at this; omega
theorem aap(m:bw)(hb:iG m):g48 m=some ((),((nR m,()),(fZ m,()),())):=by
 have bp:=bk;unfold g48 nR;rw[KU m hb];dsimp only[oB];cases hm:fZ m with
 | false=>rfl
 | true =>
   have h4:=LD hm;have Pb:=TD m.2.1;have BI:=Qn m.2.1;have yP:=gD m.1;have hl:=hb.2.1;refine(bn (afJ m hb)).trans ?_;show Option.bind (UN m.1) _=_;rw[Ej m.1 hb.1];dsimp only[oB];unfold B7;cases hh:aE 0 (ae (vC m.2.1))with
   | true =>
     show cond (bl 8 (lq m.2.1) [(1,())]) (Option.bind (XP (lq m.2.1++[(1,())])) _) none=_;have e1:(lq m.2.1++[((1:Int),())]).length=(lq m.2.1).length+1:=by rw[amf];try rfl
     rw[CA (by omega)];dsimp only[oT];rw[EF _ (by omega)];dsimp only[oB];have b1:=j6 (lq m.2.1++[((1:Int),())]);have b2:=j6 (vC m.2.1);rw[mT (by omega),EF _ (by omega)];dsimp only[oB,oT];show cond (bl 1 (dQ m.1++eP (lq m.2.1++[(1,())])) (eP (vC m.2.1))) (Option.bind (Ah ((dQ m.1++eP (lq m.2.1++[(1,())]))++eP (vC m.2.1)) m.2.1 (ae m.2.1) 0) _) none=_;have e2:(dQ m.1++eP (lq m.2.1++[((1:Int),())])).length=(dQ m.1).length+8:=by rw[amf,b1]
     have e3:((dQ m.1++eP (lq m.2.1++[((1:Int),())]))++eP (vC m.2.1)).length=(dQ m.1).length+16:=by rw[amf,e2,b2]
     rw[mT (by omega),ZR _ _ hl hb.2.2 (by omega)];show some ((),((((dQ m.1++eP (lq m.2.1++[(1,())]))++eP (vC m.2.1))++gh m.2.1,()),(true,()),()))=some ((),((dQ m.1++((eP (lq m.2.1++[(1,())])++eP (vC m.2.1))++gh m.2.1),()),(true,()),()));simp only[amD]
   | false =>
     show Option.bind (XP (lq m.2.1)) _=_;rw[EF _ (by omega)];dsimp only[oB];have b1:=j6 (lq m.2.1);rw[mT (by omega)];dsimp only[oT,oF];have e2:(dQ m.1++eP (lq m.2.1)).length=(dQ m.1).length+8:=by rw[amf,b1]
     show Option.bind (Ah (dQ m.1++eP (lq m.2.1)) m.2.1 (ae m.2.1) 0) _=_;rw[ZR _ _ hl hb.2.2 (by omega)];show some ((),(((dQ m.1++eP (lq m.2.1))++gh m.2.1,()),(true,()),()))=some ((),((dQ m.1++(eP (lq m.2.1)++gh m.2.1),()),(true,()),()));simp only[amD]
def Xq(f:ep)(a:(aJ×aJ)×aJ):(aJ×aJ)×aJ:=(z8 f a.1,a.2++wR f.1 f.2.1)
theorem No:∀(l:List ep) (a:(aJ×aJ)×aJ),l.foldl (fun a f=>Xq f a) a=((a.1.1++lq l,a.1.2++vC l),a.2++gh l):=fun l a=>by
 rw[<- AS l a.1,<- wb l a.2];induction l generalizing a with
 | nil=>rfl
 | cons f l ih=>rw[am7,ih (Xq f a)];try rfl
theorem afZ(m:bw)(hb:iG m):Zh [] [] [] m.2.1 (ae m.2.1) 0 m=some (.inl (lq m.2.1,vC m.2.1,gh m.2.1,m.2.1,ae m.2.1,ae m.2.1,m,())):=by
 have bp:=bk;have h:=aP (step:=CD zm) m.2.1 (fun i (a:(aJ×aJ)×aJ)=>(a.1.1,a.1.2,a.2,m.2.1,ae m.2.1,((i:Nat):Int),m,())) (fun _ f a=>Sum.inl (Xq f a)) (fun a=> .inl (a.1.1,a.1.2,a.2,m.2.1,ae m.2.1,ae m.2.1,m,())) (fun i a=>(a.1.1.length<=i/\a.1.2.length<=i)/\a.2.length<=62 * i) (a0:=(([],[]),[])) ⟨⟨oR _,oR _⟩,oR _⟩ (fun i f a hf ha=>by
  have aV:=ah hf;have hl:=hb.2.1;have hp:=vi f;show zm a.1.1 a.1.2 a.2 m.2.1 (ae m.2.1) (i:Int) m=_;unfold zm Xq z8;rw[aL hf,aD hf,aM _ hf];dsimp only[oT];rw[aU (by omega),CA (o:=a.1.1) (by omega),CA (o:=a.1.2) (by omega),acy _ _ (hb.2.2 f (amk hf))];dsimp only[oB];rw[mT (by omega)];cases aE 64 f.1 <;> rfl) (fun i f a a' hf ha he=>by
  simp only[amu]at he;have:=Kv f a.1;have hp:=vi f;rw[<- he];refine⟨⟨?_,?_⟩,?_⟩
  . show(z8 f a.1).1.length<=_; omega
  . show(z8 f a.1).2.length<=_; omega
  . show(a.2++wR f.1 f.2.1).length<=_; rw[amf]; omega) (fun a ha=>by
  show zm a.1.1 a.1.2 a.2 m.2.1 (ae m.2.1) (m.2.1.length:Int) m=_;unfold zm;rw[aA rfl];try rfl)
 rw[bS,No]at h;exact h
theorem aab(m:bw)(hb:iG m):g62 m=some ((),((nR m,()),(fZ m,()),())):=by
 have bp:=bk;unfold g62 nR;rw[G2 m hb];dsimp only[oB];cases hm:fZ m with
 | false=>rfl
 | true =>
   have h4:=LD hm;have Pb:=TD m.2.1;have BI:=Qn m.2.1;have yP:=gD m.1;have hl:=hb.2.1;have Pc:=Xs m.2.1;refine(bn (afZ m hb)).trans ?_;show Option.bind (EW m.1) _=_;rw[DA m.1 hb.1];dsimp only[oB];unfold B7;cases hh:aE 0 (ae (vC m.2.1))with
   | true =>
     show cond (bl 8 (lq m.2.1) [(1,())]) (Option.bind (FE (lq m.2.1++[(1,())])) _) none=_;have e1:(lq m.2.1++[((1:Int),())]).length=(lq m.2.1).length+1:=by rw[amf];try rfl
     rw[CA (by omega)];dsimp only[oT];rw[DM _ (by omega)];dsimp only[oB];have b1:=j6 (lq m.2.1++[((1:Int),())]);have b2:=j6 (vC m.2.1);rw[mT (by omega),DM _ (by omega)];dsimp only[oB,oT];show cond (bl 1 (dQ m.1++eP (lq m.2.1++[(1,())])) (eP (vC m.2.1))) (cond (bl 1 ((dQ m.1++eP (lq m.2.1++[(1,())]))++eP (vC m.2.1)) (gh m.2.1)) (some ((),((((dQ m.1++eP (lq m.2.1++[(1,())]))++eP (vC m.2.1))++gh m.2.1,()),(true,()),()))) none) none=_;have e2:(dQ m.1++eP (lq m.2.1++[((1:Int),())])).length=(dQ m.1).length+8:=by rw[amf,b1]
     have e3:((dQ m.1++eP (lq m.2.1++[((1:Int),())]))++eP (vC m.2.1)).length=(dQ m.1).length+16:=by rw[amf,e2,b2]
     rw[mT (by omega),mT (by omega)];show some ((),((((dQ m.1++eP (lq m.2.1++[(1,())]))++eP (vC m.2.1))++gh m.2.1,()),(true,()),()))=some ((),((dQ m.1++((eP (lq m.2.1++[(1,())])++eP (vC m.2.1))++gh m.2.1),()),(true,()),()));simp only[amD]
   | false =>
     show Option.bind (FE (lq m.2.1)) _=_;rw[DM _ (by omega)];dsimp only[oB];have b1:=j6 (lq m.2.1);rw[mT (by omega)];dsimp only[oT,oF];have e2:(dQ m.1++eP (lq m.2.1)).length=(dQ m.1).length+8:=by rw[amf,b1]
     show cond (bl 1 (dQ m.1++eP (lq m.2.1)) (gh m.2.1)) (some ((),(((dQ m.1++eP (lq m.2.1))++gh m.2.1,()),(true,()),()))) none=_;rw[mT (by omega)];show some ((),(((dQ m.1++eP (lq m.2.1))++gh m.2.1,()),(true,()),()))=some ((),((dQ m.1++(eP (lq m.2.1)++gh m.2.1),()),(true,()),()));simp only[amD]
theorem ako:∀ k:Fin 10,eH ((k.val+48:Nat):Int) 2=(((k.val+48) % 2:Nat):Int)/\eH (bf .u8 ((k.val+48:Nat):Int) 48) 2=(((k.val+48) % 2:Nat):Int)/\ak .u8 ((k.val+48:Nat):Int) 1=((k.val+48+1:Nat):Int)/\dC .i32 (ak .u8 ((k.val+48:Nat):Int) 1)=((k.val+48+1:Nat):Int)/\Kz ((k.val+48+1:Nat):Int)=true:=by decide +kernel
theorem ahx{c:UInt8}(h:fL c=true):eH (c.toNat:Int) 2=((c.toNat % 2:Nat):Int)/\eH (bf .u8 (c.toNat:Int) 48) 2=((c.toNat % 2:Nat):Int)/\ak .u8 (c.toNat:Int) 1=((c.toNat+1:Nat):Int)/\dC .i32 (ak .u8 (c.toNat:Int) 1)=((c.toNat+1:Nat):Int)/\Kz ((c.toNat+1:Nat):Int)=true:=by have h1:=di.1 h;have:=ako ⟨c.toNat-48,by omega⟩;dsimp only at this;rw[show c.toNat-48+48=c.toNat by omega]at this;exact this
theorem aeQ{s:S8}(h:aj (ae s) 4=true):∃ a b c d,s=[a,b,c,d]:=by
 have h:=bt.1 h;unfold ae at h
 match s,h with
 | [a,b,c,d],_=>exact⟨a,b,c,d,rfl⟩
 | [],h=>simp at h
 | [_],h=>simp at h
 | [_,_],h=>simp at h
 | [_,_,_],h=>simp at h
 | _::_::_::_::_::r,h=>simp only[ams]at h; omega
theorem Sn{a b c d:UInt8}(hd:aH [a,b,c,d]=true):dH [a,b,c,d]=cond (aj ((c.toNat % 2:Nat):Int) 1) [] [a,b,UInt8.ofNat (c.toNat+1),d]:=by show cond (aH [a,b,c,d]) (cond (aj ((c.toNat % 2:Nat):Int) 1) [] [a,b,UInt8.ofNat (c.toNat+1),d]) []=_;rw[hd];try rfl
theorem KC{s:S8}(h:cond (aH s) (aj (ae s) 4) false=false):dH s=[]:=by
 unfold dH;split
 . rename_i a b c d;cases hd:aH [a,b,c,d]with
   | false=>rfl
   | true=>rw[hd]at h; cases h
 . rfl
theorem IG(s:S8)(hs:s.length<=1048576):g46 s=zR (dH s):=by
 have bp:=bk;cases hc:cond (aH s) (aj (ae s) 4) false with
 | false =>
   rw[KC hc];unfold g46;rw[gi s (by omega)];dsimp only[oB];cases hd:aH s with
   | false=>rfl
   | true=>rw[hd]at hc; rw[show aj (ae s) 4=false from hc];try rfl
 | true =>
   cases hd:aH s with
   | false=>rw[hd]at hc; cases hc
   | true => rw[hd]at hc;obtain⟨a,b,c,d,rfl⟩:=aeQ hc;obtain⟨e1,_,e3,_,_⟩:=ahx (jR hd c (by simp));rw[Sn hd];unfold g46;rw[gi _ (by omega),hd];show cond (aj (eH (c.toNat:Int) 2) 1) _ (zR (([a,b]++strOf [(ak .u8 (c.toNat:Int) 1,())])++[d]))=_;rw[e1,e3];cases aj ((c.toNat % 2:Nat):Int) 1 <;> rfl
theorem JX(s:S8)(hs:s.length<=1048576):g60 s=zR (dH s):=by
 have bp:=bk;unfold g60;rw[CX s 4 (by omega)];dsimp only[oB];cases hc:cond (aH s) (aj (ae s) 4) false with
 | false=>rw[KC hc];try rfl
 | true =>
   cases hd:aH s with
   | false=>rw[hd]at hc; cases hc
   | true => rw[hd]at hc;obtain⟨a,b,c,d,rfl⟩:=aeQ hc;obtain⟨_,e2,_,e4,e5⟩:=ahx (jR hd c (by simp));rw[Sn hd];show cond (aj (eH (bf .u8 (c.toNat:Int) 48) 2) 1) _ (cond (Kz (dC .i32 (ak .u8 (c.toNat:Int) 1))) (zR (([a,b]++asc (dC .i32 (ak .u8 (c.toNat:Int) 1)))++[d])) none)=_;rw[e2,e4,e5];cases aj ((c.toNat % 2:Nat):Int) 1 <;> rfl
theorem Gp(s:S8):(dH s).length<=4:=by
 unfold dH;split
 . rename_i a b c d;cases aH [a,b,c,d]with
   | false=>exact amr _
   | true =>
     cases aj ((c.toNat % 2:Nat):Int) 1 with
     | false=>exact oR 4
     | true=>exact amr _
 . exact amr _
theorem rsI{n:Int}(h:da n 0 10=true):n=0∨n=1∨n=2∨n=3∨n=4∨n=5∨n=6∨n=7∨n=8∨n=9∨n=10:=FU (bB.1 h)
theorem Qs(n:Int):g83 n=zR (yi n):=by
 unfold g83 acN yi;dsimp only[oB];rw[oI];dsimp only[oB];show cond (!da n 0 10) _ _=_;cases h:da n 0 10 with
 | false=>rfl
 | true=>rcases rsI h with rfl | rfl | rfl | rfl | rfl | rfl | rfl | rfl | rfl | rfl | rfl <;> rfl
theorem Tq(n:Int):NB n=zR (yi n):=by
 unfold NB acH yi;rw[lC];dsimp only[oB];cases h:da n 0 10 with
 | false=>rfl
 | true=>rcases rsI h with rfl | rfl | rfl | rfl | rfl | rfl | rfl | rfl | rfl | rfl | rfl <;> rfl
theorem IQ(n:Int):(yi n).length<=2:=by
 unfold yi;cases h:da n 0 10 with
 | false=>exact amr _
 | true=>rcases rsI h with rfl | rfl | rfl | rfl | rfl | rfl | rfl | rfl | rfl | rfl | rfl <;> decide
theorem JR(t:S8)(c:Int):iG (dH t,[(39,yi c,())],()):=by have h1:=Gp t;have h2:=IQ c;refine⟨by show(dH t).length<=_; omega,by show 1<=1048576; decide,fun f hf => ?_⟩;have hf:f∈[((39:Int),yi c,())]:=hf;rw[aoi]at hf;rw[hf];show(yi c).length<=_;omega
theorem XG(t:S8)(c:Int)(ht:t.length<=1048576):g47 t c=some ((),((lA t c).1,((lA t c).2,()),())):=by unfold g47 lA;rw[IG t ht,Qs];dsimp only[oB];rw[KU _ (JR t c)];dsimp only[oB];cases fZ (dH t,[(39,yi c,())],()) <;> rfl
theorem Wy(t:S8)(c:Int)(ht:t.length<=1048576):g61 t c=some ((),((lA t c).1,((lA t c).2,()),())):=by unfold g61 lA;rw[JX t ht,Tq];dsimp only[oB];rw[G2 _ (JR t c)];dsimp only[oB];cases fZ (dH t,[(39,yi c,())],()) <;> rfl
abbrev Xh:=Option (Sum (Int×S8×Unit) (Sum (Int×S8×Unit) Unit))
theorem Rq(s:S8)(h:aE (ae s) 6=true):wH 38 s=some (.inl (38,s++[32],())):=by have bp:=bk;have hl:(s.length:Int)<6:=ana h;unfold wH;rw[yS,wD];show cond (aE (ae s) 6) (cond (jL s [32]) (some (.inl (38,s++[32],()))) none) (some (.inr (.inl (38,s,()))):Xh)=_;rw[h,qa (by show s.length+1<=bQ; omega)];try rfl
theorem BE:∀(d:Nat) (s:S8),(s.length+d=6∨(d=0/\6<=s.length))->Rv 38 s=some (.inl (38,s++List.replicate d 32,()))
 | 0,s,h=>by refine dK _ ?_;show wH 38 s=_;unfold wH;rw[yS];show cond (aE (ae s) 6) _ (some (.inr (.inl (38,s,()))):Xh)=_;rw[aF (by unfold ae; omega)];show(some (.inr (.inl (38,s,()))):Xh)=some (.inr (.inl (38,s++[],())));rw[amV]
 | d+1,s,h=>by have ih:=BE d (s++[32]) (by rw[amf,anU]; omega);rw[amD]at ih;exact ez _ (x':=(38,s++[32],())) (Rq s (aR (by unfold ae; omega))) ih
theorem Bz(s:S8):EI 38 s=cond (dP 38 (s++List.replicate ((6:Int)-ae s).toNat 32)) (s++List.replicate ((6:Int)-ae s).toNat 32) []:=rfl
theorem WZ(s:S8)(hs:s.length<=1048576):X0 38 s=zR (EI 38 s):=by
 have bp:=bk;have h1:Qo 38 s=some (.inl (38,s,())):=by refine dK _ ?_;show EJ 38 s=_;unfold EJ;rw[yS,wD];show(cond (aE (ae s) 6) (some (.inr (.inl (38,s,())))) (some (.inr (.inl (38,s,())))):Xh)=_;cases aE (ae s) 6 <;> rfl
 have h2:=BE ((6:Int)-ae s).toNat s (by unfold ae; omega);rw[Bz];have hl:(s++List.replicate ((6:Int)-ae s).toNat (32:UInt8)).length<=1048582:=by rw[amf,ann]; unfold ae; omega
 unfold X0;refine(bn h1).trans ((bn h2).trans ?_);show Option.bind (yk 38 (s++List.replicate ((6:Int)-ae s).toNat 32)) _=_;rw[Ag _ _ (by omega)];dsimp only[oB];cases dP 38 (s++List.replicate ((6:Int)-ae s).toNat 32) <;> rfl
theorem Wj(s:S8)(hs:s.length<=1048576):W8 38 s=zR (EI 38 s):=by
 have bp:=bk;rw[Bz];have hl:(s++List.replicate ((6:Int)-ae s).toNat (32:UInt8)).length<=1048582:=by rw[amf,ann]; unfold ae; omega
 unfold W8;rw[QC,tP];show Option.bind (Jk [32] (JA (bf .i64 6 (ae s)) 0)) _=_;have e:JA (bf .i64 6 (ae s)) 0=(((6:Int)-ae s).toNat:Int):=by rw[bI (by unfold ae; omega) (by unfold ae; omega)];unfold JA;split <;> omega
 rw[e];unfold Jk rC;rw[show ck 0 (((6:Int)-ae s).toNat:Int)=true from amg (by omega),show Nat.ble (([32]:S8).length * ((((6:Int)-ae s).toNat:Int)).toNat) bQ=true from amm (by simp only[ams,amZ]; unfold ae; omega)];show cond (jL s (Lib.repeatL [32] ((6:Int)-ae s).toNat)) (Option.bind (sk 38 (s++Lib.repeatL [32] ((6:Int)-ae s).toNat)) _) none=_;rw[DQ,qa (by rw[ann]; unfold ae; omega)];dsimp only[oT];rw[Ht _ _ (by omega)];dsimp only[oB];show cond (!dP 38 (s++List.replicate ((6:Int)-ae s).toNat 32)) (zR []) (zR (s++Lib.repeatL [32] ((6:Int)-ae s).toNat))=_;rw[DQ];cases dP 38 (s++List.replicate ((6:Int)-ae s).toNat 32) <;> rfl
theorem CK(s:S8):(EI 38 s).length<=6:=by
 rw[Bz];cases h:dP 38 (s++List.replicate ((6:Int)-ae s).toNat 32)with
 | false=>exact amr _
 | true =>
   have h:cond (dE (s++List.replicate ((6:Int)-ae s).toNat 32)) (aj (ae (s++List.replicate ((6:Int)-ae s).toNat 32)) 6) false=true:=h;cases hp:dE (s++List.replicate ((6:Int)-ae s).toNat 32)with
   | false=>rw[hp]at h; cases h
   | true => rw[hp]at h;have:=bt.1 h;show(s++List.replicate ((6:Int)-ae s).toNat (32:UInt8)).length<=6;unfold ae at this;unfold ae;omega
def fk:List gO:=yh.map fun n=>(n,())
theorem RS{m:bw}{c:Int}{h t:S8}(hb:iG m)(ht:t.length<=1048576){no:Int}{f:ep}(hf:mS m c h t no=some f):f.2.1.length<=1048576:=by
 have h1:=CK h;have h2:=IQ c;unfold mS B3 at hf;cases Km:aj no 38 with
 | true =>
   rw[Km]at hf;cases hc:cond (aj c 0) (!bF h []) false with
   | false=>rw[hc]at hf; cases hf
   | true=>rw[hc]at hf; cases hf; show(EI 38 h).length<=_; omega
 | false =>
   cases UK:aj no 39 with
   | true=>rw[Km,UK]at hf; cases hf; show(yi c).length<=_; omega
   | false =>
     cases Yr:aj no 54 with
     | true =>
       rw[Km,UK,Yr]at hf;cases hc: !bF t []with
       | false=>rw[hc]at hf; cases hf
       | true=>rw[hc]at hf; cases hf; exact ht
     | false =>
       rw[Km,UK,Yr]at hf;cases hm:jG m no with
       | none=>rw[hm]at hf; cases hf
       | some s => rw[hm]at hf;cases hf;obtain⟨g,hg,_,e⟩:=yC hm;show s.length<=_;rw[<- e];exact hb.2.2 g hg
def UO(m:bw)(c:Int)(h t:S8)(k:gO)(a:Bool×List ep):Bool×List ep:=match mS m c h t k.1 with | some f=>(a.1&&dP f.1 f.2.1,a.2++[f]) | none=>a
theorem HE(m:bw)(c:Int)(h t:S8):∀(l:List Int) (a:Bool×List ep),(l.map fun n=>((n,()):gO)).foldl (fun a k=>UO m c h t k a) a=(a.1&&(l.filterMap (mS m c h t)).all fun f=>dP f.1 f.2.1,a.2++l.filterMap (mS m c h t))
 | [],a=>by simp
 | n::l,a=>by
   rw[amO,am7,HE m c h t l];unfold UO;cases hr:mS m c h t n with
   | none=>rw[aoL hr]
   | some f=>rw[aoM hr]; simp[Bool.and_assoc]
theorem ND(m:bw)(c:Int)(h t mt:S8)(hb:iG m)(hh:h.length<=1048576)(ht:t.length<=1048576)(i:Nat)(k:gO)(a:Bool×List ep)(hk:fk[i]? = some k)(ha:a.2.length<=i) :
 Bp c h t a.1 fk (ae fk) (i:Int) m ([],[],()) (mt,a.2,())=some (.inl (c,h,t,(UO m c h t k a).1,fk,ae fk,((i+1:Nat):Int),m,([],[],()),(mt,(UO m c h t k a).2,()),())):=by
 have bp:=bk;have hi:i<13:=ah hk;have jn:∀ x:ep,bl 24 a.2 [x]=true:=fun x=>amm (by show(a.2.length+1) * 24<=bQ; omega)
 have h1:=CK h;have h2:=IQ c;have IZ:=Ag k.1 (EI 38 h) (by omega);have q39:=Ag k.1 (yi c) (by omega);have q54:=Ag k.1 t (by omega);unfold Bp UO mS B3;rw[aL hk,aD hk,aM _ hk,xV m k.1 hb,WZ h hh,Qs,aU (by omega)];obtain⟨ok,l⟩:=a;dsimp only at jn ha ⊢;simp only[IZ,q39,q54,jn,oB,oT];cases Km:aj k.1 38 with
 | true=>cases jG m k.1 <;> cases cond (aj c 0) (!bF h []) false <;> cases ok <;> rfl
 | false =>
   cases UK:aj k.1 39 with
   | true=>cases jG m k.1 <;> cases ok <;> rfl
   | false =>
     cases Yr:aj k.1 54 with
     | true=>cases jG m k.1 <;> cases !bF t [] <;> cases ok <;> rfl
     | false =>
       cases hm:jG m k.1 with
       | none=>rfl
       | some s =>
         obtain⟨g,hg,_,e⟩:=yC hm;have hs:=hb.2.2 g hg;rw[e]at hs;cases ok with
         | false=>rfl
         | true => show Option.bind (yk k.1 s) _=_;rw[Ag k.1 s (by omega)];try rfl
theorem aa9(m:bw)(c:Int)(h t:S8)(k:gO)(a:Bool×List ep):(UO m c h t k a).2.length<=a.2.length+1:=by
 unfold UO;cases mS m c h t k.1 with
 | none=>exact aoc _
 | some f=>show(a.2++[f]).length<=_; rw[amf]; exact oR _
theorem MG(m:bw)(c:Int)(h t mt:S8)(hb:iG m)(hh:h.length<=1048576)(ht:t.length<=1048576) :
 Zv c h t true fk (ae fk) 0 m ([],[],()) (mt,[],())=some (.inl (c,h,t,(ja m c h t).all (fun f=>dP f.1 f.2.1),fk,ae fk,ae fk,m,([],[],()),(mt,ja m c h t,()),())):=by
 have hl:=aP (step:=Oi Bp) fk (fun i (a:Bool×List ep)=>(c,h,t,a.1,fk,ae fk,((i:Nat):Int),m,(([],[],()):bw),((mt,a.2,()):bw),())) (fun _ k a=>Sum.inl (UO m c h t k a)) (fun a=> .inl (c,h,t,a.1,fk,ae fk,ae fk,m,([],[],()),(mt,a.2,()),())) (fun i a=>a.2.length<=i) (a0:=(true,[])) (oR _) (fun i k a hk ha=>ND m c h t mt hb hh ht i k a hk ha) (fun i k a a' hk ha he=>by
  simp only[amu]at he;have:=aa9 m c h t k a;rw[<- he];omega) (fun a ha=>by
  show Bp c h t a.1 fk (ae fk) (fk.length:Int) m ([],[],()) (mt,a.2,())=_;unfold Bp;rw[aA rfl];try rfl)
 rw[bS]at hl;have e:=HE m c h t yh (true,[]);rw[aod,an1]at e;refine hl.trans ?_;show some (Sum.inl (c,h,t,((yh.map fun n=>((n,()):gO)).foldl (fun a k=>UO m c h t k a) (true,[])).1,fk,ae fk,ae fk,m,([],[],()),(mt,((yh.map fun n=>((n,()):gO)).foldl (fun a k=>UO m c h t k a) (true,[])).2,()),()))=_;rw[e];try rfl
theorem Vp(m:bw)(c:Int)(h t:S8)(hb:iG m)(hh:h.length<=1048576)(ht:t.length<=1048576):g96 m c h t=some ((),((jv m c h t).1,((jv m c h t).2,()),())):=by
 unfold g96 jv;rw[IG _ hb.1,KU m hb];dsimp only[oB];cases fZ m with
 | false=>rfl
 | true =>
   cases bF (dH m.1) []with
   | true=>rfl
   | false =>
     dsimp only[oT,oF,oN];rw[Qs];dsimp only[oB];cases bF (yi c) []with
     | true=>rfl
     | false => refine(bn (MG m c h t (dH m.1) hb hh ht)).trans ?_;dsimp only[oB,oL];cases(ja m c h t).all fun f=>dP f.1 f.2.1 <;> rfl
theorem Nd(m:bw)(c:Int)(h t mt:S8)(hb:iG m)(hh:h.length<=1048576)(ht:t.length<=1048576)(i:Nat)(k:gO)(a:List ep)(hk:fk[i]? = some k)(ha:a.length<=i) :
 tV c h t () fk (ae fk) (i:Int) m ([],[],()) (mt,a,())=some (.inl (c,h,t,(),fk,ae fk,((i+1:Nat):Int),m,([],[],()),(mt,(match mS m c h t k.1 with | some f=>a++[f] | none=>a),()),())):=by
 have bp:=bk;have hi:i<13:=ah hk;have jn:∀ x:ep,bl 24 a [x]=true:=fun x=>amm (by show(a.length+1) * 24<=bQ; omega)
 have xt:∀(no:Int) (s:S8),FO no s (mt,a,())=some (((mt,a++[(no,s,())],()),()),()):=fun no s=>by unfold FO;dsimp only;rw[jn];try rfl
 unfold tV mS B3;rw[aL hk,aD hk,aM _ hk];dsimp only[oT];rw[Tb m k.1 hb,Wj h hh,Tq,aU (by omega)];dsimp only[oB];rw[xt,xt,xt];cases Km:aj k.1 38 with
 | true => rw[bt.1 Km];cases jG m 38 <;> cases cond (aj c 0) (!bF h []) false <;> rfl
 | false =>
   cases UK:aj k.1 39 with
   | true => rw[bt.1 UK];cases jG m 39 <;> rfl
   | false =>
     cases Yr:aj k.1 54 with
     | true => rw[bt.1 Yr];cases jG m 54 <;> cases !bF t [] <;> rfl
     | false =>
       cases hm:jG m k.1 with
       | none=>rfl
       | some s => show Option.bind (FO k.1 s (mt,a,())) _=_;rw[xt];try rfl
def rpI(m:bw)(c:Int)(h t:S8)(k:gO)(a:List ep):List ep:=match mS m c h t k.1 with | some f=>a++[f] | none=>a
theorem Hd(m:bw)(c:Int)(h t:S8):∀(l:List Int) (a:List ep),(l.map fun n=>((n,()):gO)).foldl (fun a k=>rpI m c h t k a) a=a++l.filterMap (mS m c h t)
 | [],a=>by simp
 | n::l,a=>by
   rw[amO,am7,Hd m c h t l];unfold rpI;cases hr:mS m c h t n with
   | none=>rw[aoL hr]
   | some f=>rw[aoM hr]; simp
theorem NX(m:bw)(c:Int)(h t mt:S8)(hb:iG m)(hh:h.length<=1048576)(ht:t.length<=1048576) :
 T6 c h t () fk (ae fk) 0 m ([],[],()) (mt,[],())=some (.inl (c,h,t,(),fk,ae fk,ae fk,m,([],[],()),(mt,ja m c h t,()),())):=by
 have hl:=aP (step:=Oi tV) fk (fun i (a:List ep)=>(c,h,t,(),fk,ae fk,((i:Nat):Int),m,(([],[],()):bw),((mt,a,()):bw),())) (fun _ k a=>Sum.inl (rpI m c h t k a)) (fun a=> .inl (c,h,t,(),fk,ae fk,ae fk,m,([],[],()),(mt,a,()),())) (fun i a=>a.length<=i) (a0:=[]) (oR _) (fun i k a hk ha=>Nd m c h t mt hb hh ht i k a hk ha) (fun i k a a' hk ha he=>by
  simp only[amu]at he;rw[<- he];unfold rpI;cases mS m c h t k.1 with
  | none=>show a.length<=_; omega
  | some f=>show(a++[f]).length<=_; rw[amf]; show a.length+1<=_; omega) (fun a ha=>by
  show tV c h t () fk (ae fk) (fk.length:Int) m ([],[],()) (mt,a,())=_;unfold tV;rw[aA rfl];try rfl)
 rw[bS]at hl;have e:=Hd m c h t yh [];rw[an1]at e;refine hl.trans ?_;show some (Sum.inl (c,h,t,(),fk,ae fk,ae fk,m,([],[],()),(mt,(yh.map fun n=>((n,()):gO)).foldl (fun a k=>rpI m c h t k a) [],()),()))=_;rw[e];try rfl
theorem OI(m:bw)(c:Int)(h t:S8):(ja m c h t).length<=13:=List.length_filterMap_le _ yh
theorem YV{m:bw}{c:Int}{h t:S8}(hb:iG m)(ht:t.length<=1048576):iG (dH m.1,ja m c h t,()):=by have h1:=Gp m.1;have h2:=OI m c h t;refine⟨by show(dH m.1).length<=_; omega,by show(ja m c h t).length<=_; omega,fun f hf => ?_⟩;obtain⟨no,_,hf⟩:=List.mem_filterMap.1 hf;exact RS hb ht hf
theorem Xw(m:bw)(c:Int)(h t:S8)(hb:iG m)(hh:h.length<=1048576)(ht:t.length<=1048576):Wk m c h t=some ((),((jv m c h t).1,((jv m c h t).2,()),())):=by
 unfold Wk jv;rw[JX _ hb.1,G2 m hb];dsimp only[oB];cases fZ m with
 | false=>rfl
 | true =>
   cases he:bF (dH m.1) []with
   | true=>rfl
   | false =>
     dsimp only[oT,oF,oN];rw[Tq];dsimp only[oB];cases bF (yi c) []with
     | true=>rfl
     | false => refine(bn (NX m c h t (dH m.1) hb hh ht)).trans ?_;dsimp only[oB,oL];rw[G2 _ (YV hb ht),GY (vj m c h t) (Dj he)];dsimp only[oB];cases(ja m c h t).all fun f=>dP f.1 f.2.1 <;> rfl
theorem GG{m:bw}{c:Int}{h t:S8}(hb:iG m)(ht:t.length<=1048576):iG (jv m c h t).1:=by
 have h0:iG (([],[],()):bw):=⟨amr _,amr _,fun f hf=>by simp at hf⟩;unfold jv;cases cond (fZ m) (cond (bF (dH m.1) []) false (!bF (yi c) [])) false with
 | false=>exact h0
 | true =>
   cases(ja m c h t).all fun f=>dP f.1 f.2.1 with
   | false=>exact h0
   | true=>exact YV hb ht
theorem Eg(m:bw)(c:Int)(h t:S8)(hb:iG m)(hh:h.length<=1048576)(ht:t.length<=1048576):ZK m c h t=zR (ui m c h t):=by unfold ZK ui;rw[Vp m c h t hb hh ht];dsimp only[oB];rw[aap _ (GG hb ht)];try rfl
theorem DT(m:bw)(c:Int)(h t:S8)(hb:iG m)(hh:h.length<=1048576)(ht:t.length<=1048576):Yx m c h t=zR (ui m c h t):=by unfold Yx ui;rw[Xw m c h t hb hh ht];dsimp only[oB];rw[aab _ (GG hb ht)];try rfl
theorem BD{α:Type}(p:α->Bool):∀(xs:List α) (k:Nat),(dN p k xs = -1/\xs.find? p=none)∨∃(i:Nat) (x:α),dN p k xs=((k+i:Nat):Int)/\xs[i]? = some x/\xs.find? p=some x
 | [],k=> .inl ⟨rfl,rfl⟩
 | x::r,k=>by
   rw[dN,List.find?_cons];cases hp:p x with
   | true=>exact .inr ⟨0,x,rfl,rfl,rfl⟩
   | false =>
     rcases BD p r (k+1)with h | ⟨i,y,h1,h2,h3⟩
     . exact .inl h
     . exact .inr ⟨i+1,y,by show dN p (k+1) r=_; rw[h1]; congr 1; omega,h2,h3⟩
def CR(o:Option aJ):Option (Unit×((aJ×Unit)×(Bool×Unit)×Unit)):=some ((),match o with | some b=>((b,()),(true,()),()) | none=>(([],()),(false,()),()))
theorem RZ(l:List dj)(t m:S8)(hl:l.length<=1048576)(hb:∀ y∈l,y.2.2.1.length<=1048576):g52 l t m=CR (js l t m):=by
 have bp:=bk;unfold g52 js CR;have h:=aS (step:=pZ zQ) l (fun i (_:Unit)=>(t,m,l,ae l,((i:Nat):Int),())) (fun _ x _=>bif uX t m x then .inr (.inr (x.2.2.1,true,()))else Sum.inl ()) (fun _=> .inl (t,m,l,ae l,(l.length:Int),())) (a0:=()) (fun i x a hx=>by
  have aV:=ah hx;have hr:=hb x (amk hx);show zQ t m l (ae l) (i:Int)=_;unfold zQ;rw[aL hx,aD hx,aM _ hx];dsimp only[oT];rw[aU (by omega),mT (a:=[]) (b:=x.2.2.1) (by show 0+x.2.2.1.length<=bQ; omega)];show cond (uX t m x) _ _=_;cases uX t m x <;> rfl) (fun a=>by
  show zQ t m l (ae l) (l.length:Int)=_;unfold zQ;rw[aA rfl];try rfl)
 rw[nY (uX t m) (fun(x:dj)=>(Sum.inr (x.2.2.1,true,()):Sum (S8×S8×List dj×Int×Int×Unit) (aJ×Bool×Unit)))]at h;have h':YJ t m l (ae l) 0=_:=h;rw[h'];cases l.find? (uX t m) <;> rfl
theorem Sx(l:List dj)(t m:S8)(hl:l.length<=1048576)(hb:∀ y∈l,y.2.2.1.length<=1048576):g66 l t m=CR (js l t m):=by
 have bp:=bk;unfold g66 js CR;rw[GV l t m hl];dsimp only[oB];rcases BD (uX t m) l 0 with ⟨h1,h2⟩ | ⟨i,y,h1,h2,h3⟩
 . rw[h2];have h1:dN (fun y=>cond (bF y.1 t) (bF y.2.1 m) false) 0 l = -1:=h1;rw[h1];try rfl
 . rw[h3];rw[amp]at h1;have h1:dN (fun y=>cond (bF y.1 t) (bF y.2.1 m) false) 0 l=(i:Int):=h1;have hr:=hb y (amk h2);rw[h1,aF (by omega),aD h2,aM _ h2];unfold IW;rw[mT (a:=[]) (b:=y.2.2.1) (by show 0+y.2.2.1.length<=bQ; omega)];try rfl
theorem GQ{l:List dj}(h:eG l=true):l.length<=6/\∀ z∈l,z.1.length<=1048576/\z.2.1.length<=1048576/\z.2.2.1.length<=1048576:=by
 unfold eG at h;cases ha:allI (dp l) 0 l with
 | false=>rw[ha]at h; cases h
 | true =>
   rw[ha]at h;have h6:ae l<=6:=ana h;refine⟨by unfold ae at h6; omega,fun z hz => ?_⟩;obtain⟨i,hi⟩:=anH.1 hz;have:=gF _ ha hi;unfold dp at this;cases hm:la z with
   | false=>rw[hm]at this; cases this
   | true => unfold la at hm;simp only[anI,ame]at hm;obtain⟨⟨_,h1⟩,⟨_,h2⟩,h3⟩:=hm;have h1:=bt.1 h1;have h2:=bt.1 h2;have h3:=bB.1 h3;unfold ae at h1 h2 h3;omega
theorem Od{l:List dj}{s:dj}(h:eG (l++[s])=true):g54 l s=some ((),((l++[s],()),(true,()),())):=by
 have bp:=bk;obtain⟨h1,h2⟩:=GQ h;have h3:l.length<=6:=by rw[amf]at h1; omega
 have hc:=wT (l++[s]) (by omega) fun y hy=>(h2 y hy).2.2
 unfold g54;rw[wT l (by omega) fun y hy=>(h2 y (an0 _ hy)).2.2];dsimp only[oB];rw[show bl 56 l [s]=true from amm (by show(l.length+1) * 56<=bQ; omega)];show Option.bind (g98 (l++[s])) _=_;rw[hc];dsimp only[oB];rw[Kr _ ⟨by omega,fun y hy=>⟨cg (h2 y hy).1,cg (h2 y hy).2.1⟩⟩,h];try rfl
theorem Ot{l:List dj}{s:dj}(h:eG (l++[s])=true):g68 l s=some ((),((l++[s],()),(true,()),())):=by
 have bp:=bk;obtain⟨h1,h2⟩:=GQ h;have h3:l.length<=6:=by rw[amf]at h1; omega
 have hc:=CC (l++[s]) (by omega) fun y hy=>(h2 y hy).2.2
 unfold g68;rw[show aef 56 l=true from amm (by omega),show bl 56 l [s]=true from amm (by show(l.length+1) * 56<=bQ; omega)];show Option.bind (M9 (l++[s])) _=_;rw[hc];dsimp only[oB];rw[K2 _ ⟨by omega,fun y hy=>⟨cg (h2 y hy).1,cg (h2 y hy).2.1⟩⟩,h];try rfl
theorem Kx{x:aJ}{t:S8}(h:je x 0 4=some t):aj (eR x).2 1=false:=by
 unfold eR;rw[h];dsimp only;cases Ca x with
 | none=>rfl
 | some p =>
   obtain⟨nos,a⟩:=p;dsimp only;cases mB x nos a []with
   | none=>rfl
   | some p =>
     obtain⟨l,e⟩:=p;dsimp only;by_cases he:e=x.length
     . rw[if_pos he];try rfl
     . rw[if_neg he];try rfl
theorem K9(t:S8)(c:Int):iG (lA t c).1:=by
 unfold lA;cases fZ (dH t,[(39,yi c,())],())with
 | false=>exact⟨amr _,amr _,fun f hf=>by simp at hf⟩
 | true=>exact JR t c
theorem GM{t:S8}(h:Au t):t.length<=1048576:=by
 rcases h with rfl | h
 . exact amr _
 . omega
theorem zZ{a:ax}(h:bK a):(slotsOf a).length<=1048576/\∀ y∈slotsOf a,y.2.2.1.length<=1048576:=⟨h.2.2.2.1,fun y hy=>(h.2.2.2.2 y hy).2.2⟩
theorem abi(b:List ax)(x:aJ)(now:Int)(hb:dJ b)(hx:CQ x):g15 (b,()) x now=some ((),(((iI b x now).1,()),((iI b x now).2,()),())):=by
 have bp:=bk;have hcp:=zq b hb;have aeb:Oc x 0 4=uQ (je x 0 4) 2:=Hg x 0 4 hx (amr _) (by decide);have Fu:=Bg x;unfold g15 iI;rw[hcp,aeb,afn x hx,Tj b hb];unfold MO uQ;dsimp only[oB];cases Ia:ji b with
 | false=>rfl
 | true =>
   rw[iO];cases Fm:bh now with
   | false=>rfl
   | true =>
     cases ho:je x 0 4 with
     | none =>
       have hp:eR x=(([],[],()),1):=by unfold eR; rw[ho]
       rw[hp];try rfl
     | some t =>
       have h4:t.length=4:=(eM ho).2.1;dsimp only[oB,oT,oF,oN];rw[Kx ho,IG t (by omega)];dsimp only[oB,oT,oF];cases hr:bF (dH t) []with
       | true=>rfl
       | false =>
         cases h0:aj (eR x).2 0 with
         | false => dsimp only[oT,oF,oM];rw[XG t 1 (by omega)];dsimp only[oB];rw[aap _ (K9 t 1)];try rfl
         | true =>
           dsimp only[oT,oF,oN];have U9:=wW ho h0;generalize (eR x).1=m at Fu U9 ⊢;subst U9;rw[ajf m Fu];unfold Tw yB;dsimp only[oB];cases hq0:aj (gM m).2 0 with
           | false => dsimp only[oT,oF,oM];rw[Eg m _ [] [] Fu (amr _) (amr _)];try rfl
           | true =>
             obtain⟨hmM,hqM⟩:=z6 hq0;have Vg:=EP Fu;dsimp only[oT,oF,oN];generalize (gM m).1=q at hqM Vg ⊢;rw[zD b q.2.1 hb.1];unfold vz;dsimp only[oB];cases hk:aE (ar b q.2.1) 0 with
             | true => dsimp only[oT];rw[Eg m 3 [] [] Fu (amr _) (amr _)];try rfl
             | false =>
               obtain⟨i,y,e,hy⟩:=eO (of_decide_eq_false hk);have Ys:gt aK b (ar b q.2.1)=y:=by rw[e]; exact aM _ hy
               have hgp:gt d94 b (ar b q.2.1)=y:=by rw[e]; exact aM _ hy
               have kL:aX (ar b q.2.1) b=true:=by rw[e]; exact aD hy
               have hyB:=zZ (hb.2 y (amk hy));have hso:=RZ (slotsOf y) q.2.2.2.2.1 q.2.2.2.2.2.1 hyB.1 hyB.2;rw[kL,hgp,Ys];dsimp only[oT,oF];refine(bn hso).trans ?_;unfold CR;dsimp only[oB];cases ho2:js (slotsOf y) q.2.2.2.2.1 q.2.2.2.2.2.1 with
               | some o=>rfl
               | none =>
                 dsimp only[oT,oF];show cond (aj (ae (slotsOf y)) 6) _ _=_;cases h6:aj (ae (slotsOf y)) 6 with
                 | true => dsimp only[oT];rw[Eg m 10 [] [] Fu (amr _) (amr _)];try rfl
                 | false =>
                   dsimp only[oF];obtain⟨hs,j,z,e2,hz⟩:=zM Ia hk (by rw[Ys]; exact ho2) (by rw[Ys]; exact h6) hmM hr hqM (now:=now);have aec:=Eg m (dk b q now).2.1 q.2.2.2.1 (dk b q now).2.2 Fu Vg.2.2.1 (GM (xa b q now));rw[ac7 b q now hb Vg];dsimp only[oB];rw[aec];dsimp only[oB];have hgn:gt aK (bN b q now) (ar b q.2.1)=z:=by rw[e2]; exact aM _ hz
                   have p9:gt d94 (bN b q now) (ar b q.2.1)=z:=by rw[e2]; exact aM _ hz
                   have hib:aX (ar b q.2.1) (bN b q now)=true:=by rw[e2]; exact aD hz
                   rw[hgn]at hs;have xt:=Od hs;unfold sx;rw[hgn];cases Fq:aj (dk b q now).2.1 0 with
                   | true =>
                     have hnx:bN b q now=(dk b q now).1:=by unfold bN; rw[Fq];try rfl
                     rw[hnx]at p9 hib ⊢;dsimp only[oT,oF,oN];rw[hib,p9];dsimp only[oT];exact bn xt
                   | false =>
                     have hnx:bN b q now=b:=by unfold bN; rw[Fq];try rfl
                     rw[hnx]at p9 ⊢;have hzy:z=y:=p9.symm.trans hgp;subst hzy;exact bn xt
theorem Qw(b:List ax)(x:aJ)(now:Int)(hb:dJ b)(hx:CQ x):g17 (b,()) x now=some ((),(((iI b x now).1,()),((iI b x now).2,()),())):=by
 have bp:=bk;have hcp:=yX b hb;have aeb:Sw x 0 4=uQ (je x 0 4) 2:=KD x 0 4 hx (amr _) (by decide);have Fu:=Bg x;unfold g17 iI;rw[hcp,aeb,afy x hx,Sa b hb];unfold MO uQ;dsimp only[oB];cases Ia:ji b with
 | false=>rfl
 | true =>
   rw[iP];cases Fm:bh now with
   | false=>rfl
   | true =>
     cases ho:je x 0 4 with
     | none =>
       have hp:eR x=(([],[],()),1):=by unfold eR; rw[ho]
       rw[hp];try rfl
     | some t =>
       have h4:t.length=4:=(eM ho).2.1;dsimp only[oB,oT,oF,oN];rw[Kx ho,JX t (by omega)];dsimp only[oB,oT,oF];cases hr:bF (dH t) []with
       | true=>rfl
       | false =>
         cases h0:aj (eR x).2 0 with
         | false => dsimp only[oT,oF,oM];rw[Wy t 1 (by omega)];dsimp only[oB];rw[aab _ (K9 t 1)];try rfl
         | true =>
           dsimp only[oT,oF,oN];have U9:=wW ho h0;generalize (eR x).1=m at Fu U9 ⊢;subst U9;rw[ale m Fu];unfold Tw yB;dsimp only[oB];cases hq0:aj (gM m).2 0 with
           | false => dsimp only[oT,oF,oM];rw[DT m _ [] [] Fu (amr _) (amr _)];try rfl
           | true =>
             obtain⟨hmM,hqM⟩:=z6 hq0;have Vg:=EP Fu;dsimp only[oT,oF,oN];generalize (gM m).1=q at hqM Vg ⊢;rw[Aa b q.2.1 hb.1];unfold vz;dsimp only[oB];cases hk:aE (ar b q.2.1) 0 with
             | true => dsimp only[oT];rw[DT m 3 [] [] Fu (amr _) (amr _)];try rfl
             | false =>
               obtain⟨i,y,e,hy⟩:=eO (of_decide_eq_false hk);have Ys:gt aK b (ar b q.2.1)=y:=by rw[e]; exact aM _ hy
               have hgp:gt d94 b (ar b q.2.1)=y:=by rw[e]; exact aM _ hy
               have kL:aX (ar b q.2.1) b=true:=by rw[e]; exact aD hy
               have hyB:=zZ (hb.2 y (amk hy));have hso:=Sx (slotsOf y) q.2.2.2.2.1 q.2.2.2.2.2.1 hyB.1 hyB.2;rw[kL,hgp,Ys];dsimp only[oT,oF];refine(bn hso).trans ?_;unfold CR;dsimp only[oB];cases ho2:js (slotsOf y) q.2.2.2.2.1 q.2.2.2.2.2.1 with
               | some o=>rfl
               | none =>
                 dsimp only[oT,oF];show cond (aj (ae (slotsOf y)) 6) _ _=_;cases h6:aj (ae (slotsOf y)) 6 with
                 | true => dsimp only[oT];rw[DT m 10 [] [] Fu (amr _) (amr _)];try rfl
                 | false =>
                   dsimp only[oF];obtain⟨hs,j,z,e2,hz⟩:=zM Ia hk (by rw[Ys]; exact ho2) (by rw[Ys]; exact h6) hmM hr hqM (now:=now);have aec:=DT m (dk b q now).2.1 q.2.2.2.1 (dk b q now).2.2 Fu Vg.2.2.1 (GM (xa b q now));rw[adB b q now hb Vg];dsimp only[oB];rw[aec];dsimp only[oB];have hgn:gt aK (bN b q now) (ar b q.2.1)=z:=by rw[e2]; exact aM _ hz
                   have p9:gt d94 (bN b q now) (ar b q.2.1)=z:=by rw[e2]; exact aM _ hz
                   have hib:aX (ar b q.2.1) (bN b q now)=true:=by rw[e2]; exact aD hz
                   rw[hgn]at hs;have xt:=Ot hs;unfold sx;rw[hgn];cases Fq:aj (dk b q now).2.1 0 with
                   | true =>
                     have hnx:bN b q now=(dk b q now).1:=by unfold bN; rw[Fq];try rfl
                     rw[hnx]at p9 hib ⊢;dsimp only[oT,oF,oN];rw[hib,p9];dsimp only[oT];exact bn xt
                   | false =>
                     have hnx:bN b q now=b:=by unfold bN; rw[Fq];try rfl
                     rw[hnx]at p9 ⊢;have hzy:z=y:=p9.symm.trans hgp;subst hzy;exact bn xt
abbrev pO:=Int×aJ×aJ×Unit
def w8(b:List ax)(now:Int):List ax:=b.map fun a=>aC a now
theorem AM{b:List ax}(now:Int)(hb:dJ b):dJ (w8 b now):=⟨by unfold w8; rw[anK]; exact hb.1,fun a ha=>by obtain⟨y,hy,rfl⟩:=an5.1 ha;exact dS now (hb.2 y hy)⟩
theorem ID(xs:List ax)(now:Int)(hb:dJ xs):g72 (xs,()) now=zR (w8 xs now):=by
 have bp:=bk;have hs:=hb.1;unfold g72 Iw w8;have h:=aP (step:=Fk mu) xs (fun i (a:List ax)=>(((now,()),()),xs,ae xs,((i:Nat):Int),([],()),(a,()),())) (fun _ x a=>Sum.inl (a++[aC x now])) (fun a=> .inl (((now,()),()),xs,ae xs,(xs.length:Int),([],()),(a,()),())) (fun i a=>a.length=i) (a0:=[]) rfl (fun i x a hx ha=>by
  have aV:=ah hx;have hm:=hb.2 x (amk hx);show mu ((now,()),()) xs (ae xs) (i:Int) ([],()) (a,())=_;unfold mu acC;have e:∀ y:ax,bl 160 a [y]=true:=fun y=>amm (by simp; omega)
  have e0:gt d94 xs (i:Int)=x:=aM _ hx;rw[aL hx,aD hx,e0];dsimp only[oT];rw[nq x now hm];dsimp only[oB];rw[e,aU (by omega)];try rfl) (fun i x a a' hx ha hf=>by
  simp only[amu]at hf;rw[<- hf,amf,ha];try rfl) (fun a ha=>by
  show mu ((now,()),()) xs (ae xs) (xs.length:Int) ([],()) (a,())=_;unfold mu;rw[aA rfl];try rfl)
 rw[Dz]at h;have h':GK ((now,()),()) xs (ae xs) 0 ([],()) ([],())=_:=h;rw[h'];try rfl
def swB(s:List gO)(i:Nat):Bool:=match s[i]? with | some k=>aj k.1 1 | none=>false
def pR(s:List gO)(i:Nat)(e:pO)(b:List ax):List ax×aJ:=iI (cond (swB s i) (w8 b e.1) b) e.2.1 e.1
def MK(s:List gO)(i:Nat)(e:pO)(a:List ax×List (aJ×Unit)):List ax×List (aJ×Unit):=((pR s i e a.1).1,a.2++[((pR s i e a.1).2,())])
def foldI{α A:Type}(F:Nat->α->A->A):Nat->List α->A->A
 | _,[],a=>a
 | i,x::r,a=>foldI F (i+1) r (F i x a)
theorem wF{α A Y:Type}(F:Nat->α->A->A)(z:A->Y):∀(xs:List α) (i:Nat) (a:A),kR (fun i x a=>Sum.inl (F i x a)) z i xs a=z (foldI F i xs a)
 | [],_,_=>rfl
 | x::r,i,a=>wF F z r (i+1) (F i x a)
theorem CP{α A:Type}(F:Nat->α->A->A)(I:Nat->A->Prop):∀(xs:List α) (i:Nat) (a:A),I i a->(∀ j x a,xs[j]? = some x->I (i+j) a->I (i+j+1) (F (i+j) x a))->I (i+xs.length) (foldI F i xs a)
 | [],i,a,h,_=>h
 | x::r,i,a,h,hs=>by
   have:=CP F I r (i+1) (F i x a) (hs 0 x a rfl h) fun j y b hy hb=>by have:=hs (j+1) y b hy (by rw[show i+(j+1)=i+1+j by omega]; exact hb);rw[show i+(j+1)=i+1+j by omega]at this;exact this
   rw[show i+(x::r).length=i+1+r.length by simp only[ams]; omega];exact this
def runM(s:List gO)(l:List pO)(b:List ax):List ax×List (aJ×Unit):=foldI (MK s) 0 l (b,[])
def Ku(l:List pO):Prop:=l.length<=1048576/\∀ e∈l,CQ e.2.1
theorem NU{l:List dj}(h:eG l=true):∀ z∈l,z.2.2.1.length<=200:=by
 unfold eG at h;cases ha:allI (dp l) 0 l with
 | false=>rw[ha]at h; cases h
 | true =>
   intro z hz;obtain⟨i,hi⟩:=anH.1 hz;have:=gF _ ha hi;unfold dp at this;cases hm:la z with
   | false=>rw[hm]at this; cases this
   | true => unfold la at hm;simp only[anI,ame]at hm;have h3:=bB.1 hm.2.2;unfold ae at h3;omega
def HOr(P:aJ->Prop)(b:List ax)(now:Int)(v:List ax×aJ):Prop:=(v.1=b/\P v.2)∨∃ m q,ji b=true/\DR q/\eG (slotsOf (gt aK (bN b q now) (ar b q.2.1))++[fb b m q now])=true/\v=sx b m q now
theorem Jb(P:aJ->Prop)(p0:P [])(hrp:∀ m c h t,P (ui m c h t))(hbr:∀ t,P (nR (lA t 1).1))(b:List ax)(x:aJ)(now:Int)(Kb:∀ a∈b,bo a=true->∀ z∈slotsOf a,P z.2.2.1):HOr P b now (iI b x now):=by
 have h0:∀ o:aJ,P o->HOr P b now (b,o):=fun o ho=> .inl ⟨rfl,ho⟩
 unfold iI;cases Ia:ji b <;> first | exact h0 [] p0 | skip
 cases bh now <;> first | exact h0 [] p0 | skip
 cases ho:je x 0 4 with
 | none=>exact h0 [] p0
 | some t =>
   dsimp only[oT];cases hr:bF (dH t) [] <;> first | exact h0 [] p0 | skip
   cases BV:aj (eR x).2 0 <;> first | exact h0 _ (hbr t) | skip
   have U9:=wW ho BV;have Fu:=Bg x;dsimp only[oT,oF];unfold yB;generalize (eR x).1=m at U9 Fu ⊢;subst U9;cases hq0:aj (gM m).2 0 <;> first | exact h0 _ (hrp _ _ _ _) | skip
   obtain⟨hmM,hqM⟩:=z6 hq0;have Vg:=EP Fu;generalize (gM m).1=q at hqM Vg ⊢;unfold vz;dsimp only[oT];cases hk:aE (ar b q.2.1) 0 <;> first | exact h0 _ (hrp _ _ _ _) | skip
   dsimp only[oF];cases hs:js (slotsOf (gt aK b (ar b q.2.1))) q.2.2.2.2.1 q.2.2.2.2.2.1 with
   | some o =>
     refine h0 o ?_;obtain⟨i,y,e,hy⟩:=eO (of_decide_eq_false hk);have Ys:gt aK b (ar b q.2.1)=y:=by rw[e]; exact aM _ hy
     rw[Ys]at hs;unfold js at hs;obtain⟨z,hz,rfl⟩:=anP.1 hs;exact Kb y (amk hy) (sS Ia hy) z (aoI hz)
   | none =>
     dsimp only;cases h6:aj (ae (slotsOf (gt aK b (ar b q.2.1)))) 6 <;> first | exact h0 _ (hrp _ _ _ _) | skip
     exact .inr ⟨m,q,Ia,Vg,(zM Ia hk hs h6 hmM hr hqM).1,rfl⟩
theorem Hl(b:List ax)(x:aJ)(now:Int):HOr (fun o=>o.length<=200) b now (iI b x now) :=
 Jb (fun o=>o.length<=200) (amr _) (fun m c h t=>aml (KE m c h t) (by decide)) (fun t=>aml (Xy t 1) (by decide)) b x now fun _ _ hm z hz=>NU (xU hm) z hz
theorem Cu{b:List ax}(x:aJ)(now:Int)(hb:dJ b):dJ (iI b x now).1:=by
 rcases Hl b x now with ⟨h,_⟩ | ⟨m,q,_,_,hs,h⟩
 . rw[h]; exact hb
 . rw[h]; exact Rx hb hs
theorem Dx(s:List gO)(i:Nat)(e:pO){b:List ax}(hb:dJ b):dJ (pR s i e b).1:=by
 unfold pR;cases swB s i with
 | false=>exact Cu _ _ hb
 | true=>exact Cu _ _ (AM _ hb)
theorem XA(b:List ax)(l:List pO)(s:List gO)(hb:dJ b)(hl:Ku l)(hs:s.length<=1048576):g31 (b,()) l s=some ((),(((runM s l b).1,()),((runM s l b).2,()),())):=by
 have bp:=bk;have h1:=hl.1;unfold g31 runM;rw[yX b hb];dsimp only[oB];have h:=aP (step:=CD xM) l (fun i (a:List ax×List (aJ×Unit))=>(s,a.2,l,ae l,((i:Nat):Int),(([],()):List ax×Unit),(a.1,()),())) (fun i e a=>Sum.inl (MK s i e a)) (fun a=> .inl (s,a.2,l,ae l,(l.length:Int),([],()),(a.1,()),())) (fun i a=>dJ a.1/\a.2.length<=i) (a0:=(b,[])) ⟨hb,oR _⟩ (fun i e a hx ha=>by
  have aV:=ah hx;have hB:=hl.2 e (amk hx);have jn:∀ v:aJ×Unit,bl 24 a.2 [v]=true:=fun v=>amm (by show(a.2.length+1) * 24<=bQ; omega)
  show xM s a.2 l (ae l) (i:Int) ([],()) (a.1,())=_;unfold xM MK pR;dsimp only;rw[aL hx,aD hx,aM _ hx];dsimp only[oT];rw[Qw a.1 e.2.1 e.1 ha.1 hB,ID a.1 e.1 ha.1,aU (by omega)];dsimp only[oB];rw[Qw (w8 a.1 e.1) e.2.1 e.1 (AM _ ha.1) hB];dsimp only[oB];rw[jn,jn];by_cases hi:i<s.length
  . have hk:s[i]? = some (s[i]'hi):=ami hi;generalize s[i]'hi=k at hk;have hsw:swB s i=aj k.1 1:=by unfold swB; rw[hk]
    rw[aL hk,aD hk,aM _ hk,hsw];cases aj k.1 1 <;> rfl
  . rw[aF (by unfold ae; omega),show swB s i=false by unfold swB; rw[amw (by omega)]];try rfl) (fun i e a a' hx ha hf=>by
  simp only[amu]at hf;rw[<- hf];refine⟨Dx s i e ha.1,?_⟩;show(a.2++[((pR s i e a.1).2,())]).length<=_;rw[amf,anU];omega) (fun a ha=>by
  show xM s a.2 l (ae l) (l.length:Int) ([],()) (a.1,())=_;unfold xM;rw[aA rfl];try rfl)
 rw[wF]at h;exact bn h
theorem ag0(b:List ax)(l:List pO)(hb:dJ b)(hl:Ku l):g23 (b,()) l=some ((),(((runM [] l b).1,()),((runM [] l b).2,()),())):=by
 have bp:=bk;have h1:=hl.1;unfold g23 runM;rw[zq b hb];dsimp only[oB];have h:=aP (step:=Fk AQ) l (fun i (a:List ax×List (aJ×Unit))=>(a.2,l,ae l,((i:Nat):Int),(([],()):List ax×Unit),(a.1,()),())) (fun i e a=>Sum.inl (MK [] i e a)) (fun a=> .inl (a.2,l,ae l,(l.length:Int),([],()),(a.1,()),())) (fun i a=>dJ a.1/\a.2.length<=i) (a0:=(b,[])) ⟨hb,oR _⟩ (fun i e a hx ha=>by
  have aV:=ah hx;have hB:=hl.2 e (amk hx);have jn:∀ v:aJ×Unit,bl 24 a.2 [v]=true:=fun v=>amm (by show(a.2.length+1) * 24<=bQ; omega)
  show AQ a.2 l (ae l) (i:Int) ([],()) (a.1,())=_;unfold AQ MK pR;dsimp only;rw[aL hx,aD hx,aM _ hx];dsimp only[oT];rw[abi a.1 e.2.1 e.1 ha.1 hB,aU (by omega)];dsimp only[oB];rw[jn];try rfl) (fun i e a a' hx ha hf=>by
  simp only[amu]at hf;rw[<- hf];refine⟨Dx [] i e ha.1,?_⟩;show(a.2++[((pR [] i e a.1).2,())]).length<=_;rw[amf,anU];omega) (fun a ha=>by
  show AQ a.2 l (ae l) (l.length:Int) ([],()) (a.1,())=_;unfold AQ;rw[aA rfl];try rfl)
 rw[wF]at h;exact bn h
theorem afU(b:List ax)(l:List pO)(hb:dJ b)(hl:Ku l):g24 (b,()) l=some ((),(((runM [] l b).1,()),((runM [] l b).2,()),())):=by unfold g24;rw[XA b l [] hb hl (amr _)];try rfl
end Go.Av
