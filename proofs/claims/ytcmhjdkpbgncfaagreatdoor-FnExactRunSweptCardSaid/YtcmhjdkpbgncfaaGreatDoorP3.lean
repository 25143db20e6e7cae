/- FnExactRunSwept, a part. -/
import Derived.Test.YtcmhjdkpbgncfaaGreatDoorQ3
set_option maxRecDepth 100000
set_option maxHeartbeats 4000000
namespace Go.Av
abbrev eo:=Int×S8×Unit
abbrev bw:=S8×List eo×Unit
def iJ(m:bw):Prop:=m.1.length<=1048576/\m.2.1.length<=1048576/\∀ f∈m.2.1,f.2.1.length<=1048576
def gC(xs:List eo)(i:Nat)(x:eo):Bool:=cond (dO x.1 x.2.1) (cond (decide (0<i)) (!(cl x.1 (gt (0,[],()) xs ((i:Int)-1)).1)) true) false
def gk(m:bw):Bool:=cond (cond (aH m.1) (aj (ae m.1) 4) false) (allI (gC m.2.1) 0 m.2.1) false
theorem Jm(m:bw)(hb:iJ m):PA m.2.1 (ae m.2.1) 0 m=some (bif allI (gC m.2.1) 0 m.2.1 then .inl (m.2.1,ae m.2.1,(m.2.1.length:Int),m,())else .inr (false,())):=by
 have bo:=bl;obtain⟨ed,xs,u⟩:=m;obtain⟨_,hl,hf⟩:=hb;dsimp only at hl hf ⊢;have h:=aT (step:=ep Bm) xs (fun i (_:Unit)=>(xs,ae xs,((i:Nat):Int),(ed,xs,()),())) (fun i x _=>bif gC xs i x then Sum.inl ()else .inr (.inr (false,()))) (fun _=> .inl (xs,ae xs,(xs.length:Int),(ed,xs,()),())) (a0:=()) (fun i x a hx=>by
  have aV:=ah hx;show Bm xs (ae xs) (i:Int) (ed,xs,())=_;unfold Bm gC;rw[aL hx,aD hx,aM _ hx];dsimp only[oT];rw[AR _ _ (cg (hf x (amo hx))),aU (by omega)];dsimp only[oB];cases dO x.1 x.2.1 with
  | false=>rfl
  | true=>
    by_cases h0:0<i
    . rw[aR (show(0:Int)<i by omega),bG (by omega) (by omega),oA hx h0];dsimp only[oT,oF,oN];have e:gt d117 xs ((i:Int)-1)=gt (0,[],()) xs ((i:Int)-1):=rfl;rw[e,amk h0];cases cl x.1 (gt (0,[],()) xs ((i:Int)-1)).1 <;> rfl
    . rw[aF (show ¬ (0:Int)<i by omega),amF h0];try rfl) (fun a=>by
  show Bm xs (ae xs) (xs.length:Int) (ed,xs,())=_;unfold Bm;rw[aA rfl];try rfl)
 rw[kj]at h;have h':PA xs (ae xs) 0 (ed,xs,())=_:=h;rw[h']
theorem Ld(m:bw)(hb:iJ m):g84 m=zR (gk m):=by
 unfold g84 gk;rw[gh _ (cg hb.1)];dsimp only[oB];cases aH m.1 with
 | false=>rfl
 | true=>
 cases aj (ae m.1) 4 with
 | false=>rfl
 | true=>refine(bn (Jm m hb)).trans ?_;show _=zR (allI (gC m.2.1) 0 m.2.1);cases allI (gC m.2.1) 0 m.2.1 <;> rfl
theorem Ja(m:bw)(hb:iJ m):Iw m.2.1 (ae m.2.1) 0 m=some (bif allI (gC m.2.1) 0 m.2.1 then .inl (m.2.1,ae m.2.1,(m.2.1.length:Int),m,())else .inr (false,())):=by
 have bo:=bl;obtain⟨ed,xs,u⟩:=m;obtain⟨_,hl,hf⟩:=hb;dsimp only at hl hf ⊢;have h:=aT (step:=ep si) xs (fun i (_:Unit)=>(xs,ae xs,((i:Nat):Int),(ed,xs,()),())) (fun i x _=>bif gC xs i x then Sum.inl ()else .inr (.inr (false,()))) (fun _=> .inl (xs,ae xs,(xs.length:Int),(ed,xs,()),())) (a0:=()) (fun i x a hx=>by
  have aV:=ah hx;show si xs (ae xs) (i:Int) (ed,xs,())=_;unfold si gC;rw[aL hx,aD hx,aM _ hx];dsimp only[oT];rw[HL _ _ (cg (hf x (amo hx))),aU (by omega)];dsimp only[oB];cases dO x.1 x.2.1 with
  | false=>rfl
  | true=>
    by_cases h0:0<i
    . rw[aR (show(0:Int)<i by omega),bG (by omega) (by omega),oA hx h0];dsimp only[oT,oF,oN];have e:gt d117 xs ((i:Int)-1)=gt (0,[],()) xs ((i:Int)-1):=rfl;rw[e,amk h0];cases cl x.1 (gt (0,[],()) xs ((i:Int)-1)).1 <;> rfl
    . rw[aF (show ¬ (0:Int)<i by omega),amF h0];try rfl) (fun a=>by
  show si xs (ae xs) (xs.length:Int) (ed,xs,())=_;unfold si;rw[aA rfl];try rfl)
 rw[kj]at h;have h':Iw xs (ae xs) 0 (ed,xs,())=_:=h;rw[h']
theorem De(s:S8)(n:Int)(hs:s.length<=bQ):yi s n=zR (cond (aH s) (aj (ae s) n) false):=by unfold yi;rw[jm s hs];try rfl
theorem Gg(m:bw)(hb:iJ m):Hf m=zR (gk m):=by
 unfold Hf gk;refine(bn (Ja m hb)).trans ?_;cases allI (gC m.2.1) 0 m.2.1 with
 | true=>
   show Option.bind (yi m.1 4) _=_;rw[De m.1 4 (cg hb.1)];dsimp only[oB];cases aH m.1 with
   | false=>rfl
   | true=>cases aj (ae m.1) 4 <;> rfl
 | false=>
   cases aH m.1 with
   | false=>rfl
   | true=>cases aj (ae m.1) 4 <;> rfl
def jy(m:bw)(no:Int):Option S8:=(m.2.1.find? fun f=>aj f.1 no).map (·.2.1)
def I1(o:Option S8):Option (Unit×((S8×Unit)×(Bool×Unit)×Unit)):=some ((),match o with | some s=>((s,()),(true,()),()) | none=>(([],()),(false,()),()))
theorem xW(m:bw)(no:Int)(hb:iJ m):AO m no=I1 (jy m no):=by
 have bo:=bl;have hl:=hb.2.1;unfold AO;have h:=aT (step:=ep zn) m.2.1 (fun i (_:Unit)=>(no,m.2.1,ae m.2.1,((i:Nat):Int),())) (fun i x _=>bif aj x.1 no then .inr (.inr (x.2.1,true,()))else .inl ()) (fun _=> .inl (no,m.2.1,ae m.2.1,(m.2.1.length:Int),())) (a0:=()) (fun i x a hx=>by
  have aV:=ah hx;show zn no m.2.1 (ae m.2.1) (i:Int)=_;unfold zn;rw[aL hx,aD hx,aM _ hx,aU (by omega)];dsimp only[oT];cases aj x.1 no <;> rfl) (fun a=>by
  show zn no m.2.1 (ae m.2.1) (m.2.1.length:Int)=_;unfold zn;rw[aA rfl];try rfl)
 rw[nT]at h;have h':ZN no m.2.1 (ae m.2.1) 0=_:=h;refine(bn h').trans ?_;unfold jy I1;cases m.2.1.find? _ <;> rfl
theorem Ps(m:bw)(no:Int)(hb:iJ m):I7 m no=I1 (jy m no):=by
 have bo:=bl;have hl:=hb.2.1;unfold I7;have h:=aT (step:=ep sI) m.2.1 (fun i (_:Unit)=>(no,m.2.1,ae m.2.1,((i:Nat):Int),())) (fun i x _=>bif aj x.1 no then .inr (.inr (x.2.1,true,()))else .inl ()) (fun _=> .inl (no,m.2.1,ae m.2.1,(m.2.1.length:Int),())) (a0:=()) (fun i x a hx=>by
  have aV:=ah hx;show sI no m.2.1 (ae m.2.1) (i:Int)=_;unfold sI;rw[aL hx,aD hx,aM _ hx,aU (by omega)];dsimp only[oT];cases aj x.1 no <;> rfl) (fun a=>by
  show sI no m.2.1 (ae m.2.1) (m.2.1.length:Int)=_;unfold sI;rw[aA rfl];try rfl)
 rw[nT]at h;have h':T2 no m.2.1 (ae m.2.1) 0=_:=h;refine(bn h').trans ?_;unfold jy I1;cases m.2.1.find? _ <;> rfl
def mu(b:aJ):aJ->Nat->List eo->Option (List eo×Nat)
 | [],a,o=>some (o,a)
 | x::r,a,o=>match rK b a x.1 with
   | some (s,e)=>mu b r e (o++[(x.1,s,())])
   | none=>none
def lA(l:aJ):aJ:=l.map fun x=>(ak .i64 x.1 64,())
def yM(x:Int×Unit):Bool:= !(aj (bE x.1) 0)
def gV(l:aJ):aJ:=l.filter fun x=> !(aj x.1 1)
def jI(l:aJ):Bool:=l.any fun x=>aj x.1 1
def Cd(b:aJ):Option (aJ×Nat):=
 if 10<=b.length then
  (bif jI (gi (gT b 2 8))then
    (if 18<=b.length/\gi (gT b 10 8)≠[]then (bif (gV (gi (gT b 2 8))++lA (gi (gT b 10 8))).all yM then some (gV (gi (gT b 2 8))++lA (gi (gT b 10 8)),18)else none)else none)
  else (bif (gV (gi (gT b 2 8))).all yM then some (gV (gi (gT b 2 8)),10)else none))
 else none
def eR(b:aJ):bw×Int:=match jj b 0 4 with
 | none=>(([],[],()),1)
 | some ed=>match Cd b with
   | none=>(([],[],()),2)
   | some (nos,a)=>match mu b nos a []with
     | none=>(([],[],()),3)
     | some (l,e)=>if e=b.length then ((ed,l,()),0)else (([],[],()),4)
def Mw(p:bw×Int):Option (Unit×(bw×(Int×Unit)×Unit)):=some ((),(p.1,(p.2,()),()))
theorem afN(b:aJ)(hb:Cp b)(h2:2<=b.length):g79 b=some ((),match Cd b with | some p=>((p.1,()),((p.2:Int),()),(true,()),()) | none=>(([],()),(0,()),(false,()),())):=by
 have bo:=bl;have hl:=hb.1;unfold g79 Cd;have h0:JY b 2=_:=QD b 2 hb h2;unfold rP at h0;refine(bn h0).trans ?_;by_cases E9:10<=b.length;rotate_left
 . rw[if_neg E9,if_neg E9];try rfl
 rw[if_pos E9,if_pos E9];have k1:=nZ (gT b 2 8);generalize gi (gT b 2 8)=lo at k1 ⊢;have OS:ZV b 10 [] false lo (ae lo) 0=some (.inl (b,10,gV lo,jI lo,lo,ae lo,(lo.length:Int),())):=by
  have h:=aO (step:=Az Al) lo (fun i (o:aJ×Bool)=>(b,10,o.1,o.2,lo,ae lo,((i:Nat):Int),())) (fun _ x o=>Sum.inl (bif aj x.1 1 then (o.1,true)else (o.1++[x],o.2))) (fun o=> .inl (b,10,o.1,o.2,lo,ae lo,(lo.length:Int),())) (fun i o=>o.1.length<=i) (a0:=([],false)) (oR _) (fun i x o hx ho=>by
   have aV:=ah hx;show Al b 10 o.1 o.2 lo (ae lo) (i:Int)=_;unfold Al;rw[aL hx,aD hx,aM _ hx,aU (by omega)];have:bk 8 o.1 [x]=true:=amq (by show(o.1.length+1) * 8<=bQ;omega);dsimp only[oT];rw[this];cases aj x.1 1 <;> rfl) (fun i x o o' hx ho hf=>by
   simp only[amx]at hf;rw[<- hf];cases aj x.1 1 with
   | true=>show o.1.length<=_;omega
   | false=>show(o.1++[x]).length<=_;rw[amj];show o.1.length+1<=_;omega) (fun o ho=>by
   show Al b 10 o.1 o.2 lo (ae lo) (lo.length:Int)=_;unfold Al;rw[aA rfl];try rfl)
  have BU:∀(l:aJ) (o:aJ×Bool),l.foldl (fun o x=>bif aj x.1 1 then (o.1,true)else (o.1++[x],o.2)) o=(o.1++gV l,o.2||jI l):=fun l=>by
   induction l with
   | nil=>intro o;simp[gV,jI]
   | cons x r ih=>intro o;rw[anb,ih];unfold gV jI;rw[ana,List.any_cons];cases aj x.1 1 <;> simp
  rw[bS,BU]at h;exact h
 have aih:∀(nos:aJ) (a:Int),nos.length<=1000->SH () a nos (ae nos) 0=some (bif nos.all yM then .inl ((),a,nos,ae nos,(nos.length:Int),())else .inr ([],0,false,())):=fun nos a hn=>by
  have h:=aT (step:=pY zi) nos (fun i (_:Unit)=>((),a,nos,ae nos,((i:Nat):Int),())) (fun _ x _=>bif yM x then Sum.inl ()else .inr (.inr ([],0,false,()))) (fun _=> .inl ((),a,nos,ae nos,(nos.length:Int),())) (a0:=()) (fun i x o hx=>by
   have aV:=ah hx;show zi () a nos (ae nos) (i:Int)=_;unfold zi;rw[aL hx,aD hx,aM _ hx,aU (by omega),wS];dsimp only[oT,oB];unfold yM;cases aj (bE x.1) 0 <;> rfl) (fun o=>by
   show zi () a nos (ae nos) (nos.length:Int)=_;unfold zi;rw[aA rfl];try rfl)
  rw[j4]at h;refine ao9 h ?_;cases nos.all yM <;> rfl
 have hlen:(gV lo).length<=64:=amp (am8 _ _) k1;refine(bn OS).trans ?_;show cond (jI lo) _ _=_;cases jI lo with
 | false=>refine(bn (aih (gV lo) 10 (by omega))).trans ?_;cases(gV lo).all yM <;> rfl
 | true=>
   have h1:JY b 10=_:=QD b 10 hb E9;unfold rP at h1;refine(bn h1).trans ?_;by_cases wc:18<=b.length;rotate_left
   . rw[if_neg wc,if_neg (fun h=>wc h.1)];try rfl
   rw[if_pos wc];have k2:=nZ (gT b 10 8);have k3:=@P9 (gT b 10 8);generalize gi (gT b 10 8)=hi at k2 k3 ⊢;by_cases cY:hi=[]
   . rw[if_neg (fun h=>h.2 cY),cY];try rfl
   rw[if_pos ⟨wc,cY⟩];have he:aj (ae hi) 0=false:=beq_eq_false_iff_ne.2 (by
    show(hi.length:Int)≠0;cases hi with
    | nil=>exact absurd rfl cY
    | cons x r=>show((r.length+1:Nat):Int)≠0;omega)
   have BM:aaE (gV lo) 18 hi (ae hi) 0=some (.inl (gV lo++lA hi,18,hi,ae hi,(hi.length:Int),())):=by
    have h:=aO (step:=pY BL) hi (fun i (o:aJ)=>(o,18,hi,ae hi,((i:Nat):Int),())) (fun _ x o=>Sum.inl (o++[(ak .i64 x.1 64,())])) (fun o=> .inl (o,18,hi,ae hi,(hi.length:Int),())) (fun i o=>o.length=(gV lo).length+i) (a0:=gV lo) rfl (fun i x o hx ho=>by
     have aV:=ah hx;show BL o 18 hi (ae hi) (i:Int)=_;unfold BL;rw[aL hx,aD hx,aM _ hx,aU (by omega)];have:bk 8 o [(ak .i64 x.1 64,())]=true:=amq (by show(o.length+1) * 8<=bQ;omega);rw[this];try rfl) (fun i x o o' hx ho hf=>by
     simp only[amx]at hf;rw[<- hf,amj,ho];try rfl) (fun o ho=>by
     show BL o 18 hi (ae hi) (hi.length:Int)=_;unfold BL;rw[aA rfl];try rfl)
    have BU:∀(l o:aJ),l.foldl (fun o x=>o++[(ak .i64 x.1 64,())]) o=o++lA l:=fun l=>by
     induction l with
     | nil=>intro o;simp[lA]
     | cons x r ih=>intro o;rw[anb,ih];simp[lA]
    rw[bS,BU]at h;exact h
   show cond (cond (!true) true (aj (ae hi) 0)) _ _=_;rw[he];refine(bn BM).trans ?_;have hla:(gV lo++lA hi).length<=1000:=by rw[amj];unfold lA;rw[anO];omega
   refine(bn (aih (gV lo++lA hi) 18 hla)).trans ?_;cases(gV lo++lA hi).all yM <;> rfl
theorem AW{α A Y:Type}(p:α->Bool)(f:α->A->A)(y:Y)(z:A->Y):∀(xs:List α) (i:Nat) (a:A),kO (fun _ x a=>bif p x then .inl (f x a)else .inr y) z i xs a=bif xs.all p then z (xs.foldl (fun a x=>f x a) a)else y
 | [],_,_=>rfl
 | x::r,i,a=>by
   rw[kO,anc,anb];cases hp:p x with
   | true=>simp only[oT,aoh];exact AW p f y z r (i+1) _
   | false=>rfl
def TQ(x:Int×Unit)(o:aJ×Bool):aJ×Bool:=bif aj x.1 1 then (o.1,true)else (o.1++[x],o.2)
theorem N3:∀(l:aJ) (o:aJ×Bool),l.foldl (fun o x=>TQ x o) o=(o.1++gV l,o.2||jI l):=fun l=>by
 induction l with
 | nil=>intro o;simp[gV,jI]
 | cons x r ih=>intro o;rw[anb,ih];unfold TQ gV jI;rw[ana,List.any_cons];cases aj x.1 1 <;> simp
def SF(x:Int×Unit):Bool:=aj x.1 1||yM x
theorem SB(l:aJ):l.all SF=(gV l).all yM:=by
 induction l with
 | nil=>rfl
 | cons x r ih=>unfold gV at ih ⊢;rw[anc,ana,ih];unfold SF;cases h:aj x.1 1 <;> simp
theorem ahx{o:aJ}{x:Int×Unit}(h:o.length<=1048576):bk 8 o [x]=true:=amq (by show(o.length+1) * 8<=140737488355328;omega)
theorem aeW(b:aJ)(ed:S8)(at':Int)(lo:aJ)(hl:lo.length<=64)(m0:bw):aaK b ed at' [] false lo (ae lo) 0 m0=some (bif (gV lo).all yM then .inl (b,ed,at',gV lo,jI lo,lo,ae lo,(lo.length:Int),m0,())else .inr (2,([],[],()),())):=by
 have h:=aO (step:=un9 Ay) lo (fun i (o:aJ×Bool)=>(b,ed,at',o.1,o.2,lo,ae lo,((i:Nat):Int),m0,())) (fun _ x o=>bif SF x then Sum.inl (TQ x o)else .inr (.inr (2,([],[],()),()))) (fun o=> .inl (b,ed,at',o.1,o.2,lo,ae lo,(lo.length:Int),m0,())) (fun i o=>o.1.length<=i) (a0:=([],false)) (oR _) (fun i x o hx ho=>by
  have aV:=ah hx;show Ay b ed at' o.1 o.2 lo (ae lo) (i:Int) m0=_;unfold Ay;rw[aL hx,aD hx,aM _ hx,aU (by unfold bQ;omega)];dsimp only[oT];rw[tr];dsimp only[oB];rw[ahx (by omega)];unfold SF TQ yM;cases aj x.1 1 <;> cases aj (bE x.1) 0 <;> rfl) (fun i x o o' hx ho hf=>by
  unfold TQ at hf;cases hk:SF x <;> rw[hk]at hf
  . cases hf
  . cases hf;cases aj x.1 1 with
    | true=>show o.1.length<=_;omega
    | false=>show(o.1++[x]).length<=_;rw[amj];show o.1.length+1<=_;omega) (fun o ho=>by
  show Ay b ed at' o.1 o.2 lo (ae lo) (lo.length:Int) m0=_;unfold Ay;rw[aA rfl];try rfl)
 rw[AW,N3,SB]at h;refine ao9 h ?_;cases(gV lo).all yM <;> rfl
theorem RB(l:aJ):(lA l).all yM=l.all fun x=>yM (ak .i64 x.1 64,()):=by unfold lA;rw[List.all_map];try rfl
theorem Np:∀(l o:aJ),l.foldl (fun o x=>o++[(ak .i64 x.1 64,())]) o=o++lA l:=fun l=>by
 induction l with
 | nil=>intro o;simp[lA]
 | cons x r ih=>intro o;rw[anb,ih];simp[lA]
theorem ac6(b:aJ)(ed:S8)(at':Int)(o0 hi:aJ)(h0:o0.length<=64)(hl:hi.length<=64)(m0:bw):aal b ed at' o0 hi (ae hi) 0 m0=some (bif (lA hi).all yM then .inl (b,ed,at',o0++lA hi,hi,ae hi,(hi.length:Int),m0,())else .inr (2,([],[],()),())):=by
 have h:=aO (step:=X4 A0) hi (fun i (o:aJ)=>(b,ed,at',o,hi,ae hi,((i:Nat):Int),m0,())) (fun _ x o=>bif yM (ak .i64 x.1 64,())then Sum.inl (o++[(ak .i64 x.1 64,())])else .inr (.inr (2,([],[],()),()))) (fun o=> .inl (b,ed,at',o,hi,ae hi,(hi.length:Int),m0,())) (fun i o=>o.length<=64+i) (a0:=o0) h0 (fun i x o hx ho=>by
  have aV:=ah hx;show A0 b ed at' o hi (ae hi) (i:Int) m0=_;unfold A0;rw[aL hx,aD hx,aM _ hx,aU (by unfold bQ;omega)];dsimp only[oT];rw[tr];dsimp only[oB];rw[ahx (by omega)];unfold yM;cases aj (bE (ak .i64 x.1 64)) 0 <;> rfl) (fun i x o o' hx ho hf=>by
  cases hk:yM (ak .i64 x.1 64,()) <;> rw[hk]at hf
  . cases hf
  . cases hf;rw[amj];show o.length+1<=_;omega) (fun o ho=>by
  show A0 b ed at' o hi (ae hi) (hi.length:Int) m0=_;unfold A0;rw[aA rfl];try rfl)
 rw[AW,Np,<- RB]at h;refine ao9 h ?_;cases(lA hi).all yM <;> rfl
def adR(b:aJ)(ed:S8)(m0:bw)(nos:aJ)(n:Int):Option (List eo×Nat)->Sum (aJ×Int×aJ×Int×Int×bw×bw×Unit) (Int×bw×Unit)
 | some (l,e)=> .inl (b,(e:Int),nos,n,n,m0,(ed,l,()),())
 | none=> .inr (3,([],[],()),())
theorem D9(b:aJ)(ed:S8)(m0:bw)(ns:aJ)(n:Int):∀(nos:aJ) (i a:Nat) (o:List eo),kO (fun _ x (q:Nat×List eo)=>match rK b q.1 x.1 with | some (s,e)=>Sum.inl (e,q.2++[(x.1,s,())]) | none=> .inr (.inr (3,([],[],()),()))) (fun q=> .inl (b,(q.1:Int),ns,n,n,m0,(ed,q.2,()),())) i nos (a,o)=adR b ed m0 ns n (mu b nos a o)
 | [],_,_,_=>rfl
 | x::r,i,a,o=>by
   rw[kO,mu];cases rK b a x.1 with
   | none=>rfl
   | some p=>exact D9 b ed m0 ns n r (i+1) p.2 _
theorem ZY{o:List eo}{x:eo}(h:o.length<=1048576):bk 24 o [x]=true:=amq (by show(o.length+1) * 24<=140737488355328;omega)
theorem acJ(b:aJ)(hb:Cp b)(a:Nat)(ha:a<=b.length)(nos:aJ)(hn:nos.length<=1000)(ed:S8)(m0:bw):aac b (a:Int) nos (ae nos) 0 m0 (ed,[],())=some (adR b ed m0 nos (ae nos) (mu b nos a [])):=by
 have h:=aO (step:=Az zC) nos (fun i (q:Nat×List eo)=>(b,(q.1:Int),nos,ae nos,((i:Nat):Int),m0,(ed,q.2,()),())) (fun _ x q=>match rK b q.1 x.1 with | some (s,e)=>Sum.inl (e,q.2++[(x.1,s,())]) | none=> .inr (.inr (3,([],[],()),()))) (fun q=> .inl (b,(q.1:Int),nos,ae nos,(nos.length:Int),m0,(ed,q.2,()),())) (fun i q=>q.1<=b.length/\q.2.length<=i) (a0:=(a,[])) ⟨ha,oR _⟩ (fun i x q hx hq=>by
  have aV:=ah hx;show zC b (q.1:Int) nos (ae nos) (i:Int) m0 (ed,q.2,())=_;unfold zC;rw[aL hx,aD hx,aM _ hx,aU (by unfold bQ;omega),ahv b q.1 x.1 hb hq.1];unfold pC;cases rK b q.1 x.1 with
  | none=>rfl
  | some p=>
    dsimp only[oT,oB,oN,oF];rw[ZY (amp hq.2 (by omega))];try rfl) (fun i x q q' hx hq hf=>by
  cases hg:rK b q.1 x.1 with
  | none=>rw[hg]at hf;cases hf
  | some p=>
    rw[hg]at hf;cases hf;refine⟨(wh hq.1 hg).2.2,?_⟩;show(q.2++[_]).length<=_;rw[amj];exact Nat.succ_le_succ hq.2) (fun q hq=>by
  show zC b (q.1:Int) nos (ae nos) (nos.length:Int) m0 (ed,q.2,())=_;unfold zC;rw[aA rfl];try rfl)
 rw[show(fun(q:Nat×List eo)=>(Sum.inl (b,(q.1:Int),nos,ae nos,(nos.length:Int),m0,(ed,q.2,()),()):Sum (aJ×Int×aJ×Int×Int×bw×bw×Unit) (Int×bw×Unit)))=fun q=> .inl (b,(q.1:Int),nos,ae nos,ae nos,m0,(ed,q.2,()),())from rfl,D9]at h;exact h
theorem abP(b:aJ)(hb:Cp b)(a:Nat)(ha:a<=b.length)(nos:aJ)(hn:nos.length<=1000)(ed:S8)(m0:bw):Mc b (a:Int) nos (ae nos) 0 m0 (ed,[],())=some (adR b ed m0 nos (ae nos) (mu b nos a [])):=by
 have h:=aO (step:=Az AX) nos (fun i (q:Nat×List eo)=>(b,(q.1:Int),nos,ae nos,((i:Nat):Int),m0,(ed,q.2,()),())) (fun _ x q=>match rK b q.1 x.1 with | some (s,e)=>Sum.inl (e,q.2++[(x.1,s,())]) | none=> .inr (.inr (3,([],[],()),()))) (fun q=> .inl (b,(q.1:Int),nos,ae nos,(nos.length:Int),m0,(ed,q.2,()),())) (fun i q=>q.1<=b.length/\q.2.length<=i) (a0:=(a,[])) ⟨ha,oR _⟩ (fun i x q hx hq=>by
  have aV:=ah hx;show AX b (q.1:Int) nos (ae nos) (i:Int) m0 (ed,q.2,())=_;unfold AX;rw[aL hx,aD hx,aM _ hx,aU (by unfold bQ;omega),afD b q.1 x.1 hb hq.1];unfold pC;cases rK b q.1 x.1 with
  | none=>rfl
  | some p=>
    dsimp only[oT,oB,oN,oF];rw[ZY (amp hq.2 (by omega))];try rfl) (fun i x q q' hx hq hf=>by
  cases hg:rK b q.1 x.1 with
  | none=>rw[hg]at hf;cases hf
  | some p=>
    rw[hg]at hf;cases hf;refine⟨(wh hq.1 hg).2.2,?_⟩;show(q.2++[_]).length<=_;rw[amj];exact Nat.succ_le_succ hq.2) (fun q hq=>by
  show AX b (q.1:Int) nos (ae nos) (nos.length:Int) m0 (ed,q.2,())=_;unfold AX;rw[aA rfl];try rfl)
 rw[show(fun(q:Nat×List eo)=>(Sum.inl (b,(q.1:Int),nos,ae nos,(nos.length:Int),m0,(ed,q.2,()),()):Sum (aJ×Int×aJ×Int×Int×bw×bw×Unit) (Int×bw×Unit)))=fun q=> .inl (b,(q.1:Int),nos,ae nos,ae nos,m0,(ed,q.2,()),())from rfl,D9]at h;exact h
theorem FM{b:aJ}{p:aJ×Nat}(h:Cd b=some p):p.1.length<=1000/\p.2<=b.length:=by
 have k1:=nZ (gT b 2 8);have k2:=nZ (gT b 10 8);have k3:(gV (gi (gT b 2 8))).length<=64:=amp (am8 _ _) k1;have k4:(lA (gi (gT b 10 8))).length<=64:=by unfold lA;rw[anO];exact k2
 unfold Cd at h;by_cases E9:10<=b.length;rotate_left
 . rw[if_neg E9]at h;cases h
 rw[if_pos E9]at h;cases hm:jI (gi (gT b 2 8)) <;> rw[hm]at h
 . cases hk:(gV (gi (gT b 2 8))).all yM <;> rw[hk]at h <;> cases h;exact⟨by show(gV (gi (gT b 2 8))).length<=_;omega,E9⟩
 . by_cases wc:18<=b.length/\gi (gT b 10 8)≠[]
   . rw[oT,if_pos wc]at h;cases hk:(gV (gi (gT b 2 8))++lA (gi (gT b 10 8))).all yM <;> rw[hk]at h <;> cases h;refine⟨?_,wc.1⟩;show(gV (gi (gT b 2 8))++lA (gi (gT b 10 8))).length<=_;rw[amj];omega
   . rw[oT,if_neg wc]at h;cases h
theorem aes(b:aJ)(hb:Cp b):g43 b=Mw (eR b):=by
 unfold g43 eR Mw;have h0:N6 b 0 4=vD (jj b 0 4) 2:=GU b 0 4 hb (amv _) (by omega);rw[h0];cases hc:jj b 0 4 with
 | none=>rfl
 | some ed=>
   have h2:2<=b.length:=(eP hc).2.2.2.2;show Option.bind (g79 b) _=_;rw[afN b hb h2];cases hn:Cd b with
   | none=>rfl
   | some p=>
     obtain⟨n1,n2⟩:=FM hn;obtain⟨nos,a⟩:=p;refine(bn (acJ b hb a n2 nos n1 ed ([],[],()))).trans ?_;dsimp only;cases mu b nos a []with
     | none=>rfl
     | some q=>
       obtain⟨l,e⟩:=q;show cond (!(aj (e:Int) (b.length:Int))) _ _=_;dsimp only;by_cases he:e=b.length
       . rw[if_pos he,he,bX];try rfl
       . rw[if_neg he,show aj (e:Int) (b.length:Int)=false from beq_eq_false_iff_ne.2 (by omega)];try rfl
theorem afO(b:aJ)(hb:Cp b):g55 b=Mw (eR b):=by
 unfold g55 eR Mw;have h0:Pz b 0 4=vD (jj b 0 4) 2:=KH b 0 4 hb (amv _) (by omega);rw[h0];cases hc:jj b 0 4 with
 | none=>rfl
 | some ed=>
   have h2:2<=b.length:=(eP hc).2.2.2.2;have h1:Ho b 2=rP b 2:=SV b 2 hb h2;show Option.bind (Ho b 2) _=_;rw[h1];unfold rP Cd;have k1:=nZ (gT b 2 8);generalize Pe:gi (gT b 2 8)=lo at k1 ⊢;have k3:(gV lo).length<=64:=amp (am8 _ _) k1;have tail:∀(nos:aJ) (a:Nat),a<=b.length->nos.length<=1000->∀ m0:bw,(Option.bind (Mc b (a:Int) nos (ae nos) 0 m0 (ed,[],())) (Sum.elim (fun y6=>cond (!(aj y6.2.1 (ae y6.1))) (some ((),(([],[],()),(4,()),()))) (some ((),(y6.2.2.2.2.2.2.1,(0,()),())))) (fun y6=>some ((),(y6.2.1,(y6.1,()),())))))=some ((),(match mu b nos a []with | none=>(([],[],()),3) | some (l,e)=>if e=b.length then ((ed,l,()),0)else (([],[],()),4):bw×Int).1,((match mu b nos a []with | none=>(([],[],()),3) | some (l,e)=>if e=b.length then ((ed,l,()),0)else (([],[],()),4):bw×Int).2,()),()):=fun nos a ha hn m0=>by
    rw[abP b hb a ha nos hn ed m0];cases mu b nos a []with
    | none=>rfl
    | some q=>
      obtain⟨l,e⟩:=q;show cond (!(aj (e:Int) (b.length:Int))) _ _=_;dsimp only;by_cases he:e=b.length
      . rw[if_pos he,he,bX];try rfl
      . rw[if_neg he,show aj (e:Int) (b.length:Int)=false from beq_eq_false_iff_ne.2 (by omega)];try rfl
   by_cases E9:10<=b.length;rotate_left
   . rw[if_neg E9,if_neg (show ¬ 2+8<=b.length from E9)];try rfl
   rw[if_pos E9,if_pos (show 2+8<=b.length from E9)];refine(bn (aeW b ed 10 lo k1 ([],[],()))).trans ?_;cases hk:(gV lo).all yM with
   | false=>
     dsimp only[oF];cases jI lo with
     | false=>rfl
     | true=>
       dsimp only[oT];rw[List.all_append,hk];by_cases wc:18<=b.length/\gi (gT b 10 8)≠[]
       . rw[if_pos wc];try rfl
       . rw[if_neg wc];try rfl
   | true=>
     dsimp only[oT];show cond (jI lo) _ _=_;cases jI lo with
     | false=>exact tail (gV lo) 10 E9 (by omega) _
     | true=>
       dsimp only[oT];have h3:Ho b 10=rP b 10:=SV b 10 hb E9;refine(bn h3).trans ?_;unfold rP;have k2:=nZ (gT b 10 8);generalize gi (gT b 10 8)=hi at k2 ⊢;by_cases wc:18<=b.length;rotate_left
       . rw[if_neg (show ¬ 10+8<=b.length from wc),if_neg (fun h=>wc h.1)];try rfl
       rw[if_pos (show 10+8<=b.length from wc)];by_cases cY:hi=[]
       . rw[if_neg (fun h=>h.2 cY),cY];try rfl
       rw[if_pos ⟨wc,cY⟩];have he:aj (ae hi) 0=false:=beq_eq_false_iff_ne.2 (by
        show(hi.length:Int)≠0;cases hi with
        | nil=>exact absurd rfl cY
        | cons x r=>show((r.length+1:Nat):Int)≠0;omega)
       show cond (cond (!true) true (aj (ae hi) 0)) _ _=_;rw[he];refine(bn (ac6 b ed 18 (gV lo) hi k3 k2 ([],[],()))).trans ?_;rw[List.all_append,hk];cases(lA hi).all yM with
       | false=>rfl
       | true=>exact tail (gV lo++lA hi) 18 wc (by rw[amj];unfold lA;rw[anO];omega) _
def pM(s:S8):Nat->Nat
 | 0=>0
 | n+1=>bif aj (fh s (n:Int)) 32 then pM s n else n+1
def yb(s:S8):S8:=s.take (pM s s.length)
theorem Hc(s:S8):∀ n,pM s n<=n
 | 0=>oR _
 | n+1=>by
   unfold pM;cases aj (fh s (n:Int)) 32 with
   | true=>exact Nat.le_succ_of_le (Hc s n)
   | false=>exact oR _
theorem adK(s:S8)(hs:s.length<=bQ):g92 s=zR (yb s):=by
 have bo:=bl;have h:∀ n:Nat,n<=s.length->Zv s (n:Int)=some (.inl (s,((pM s n:Nat):Int),())):=fun n=>by
  induction n with
  | zero=>intro _;exact dK _ rfl
  | succ n ih=>
    intro hn;have e:Lj s ((n+1:Nat):Int)=bif aj (fh s (n:Int)) 32 then some (.inl (s,(n:Int),()))else some (.inr (.inl (s,((n+1:Nat):Int),()))):=by unfold Lj;rw[aR (show(0:Int)<((n+1:Nat):Int)by omega),bG (by omega) (by omega),show((n+1:Nat):Int)-1=(n:Int)by omega];dsimp only[oT];rw[ig (xs:=s) (by omega)];cases aj (fh s (n:Int)) 32 <;> rfl
    cases hc:aj (fh s (n:Int)) 32 with
    | true=>rw[hc]at e;unfold pM;rw[hc];exact ez _ e (ih (by omega))
    | false=>rw[hc]at e;unfold pM;rw[hc];exact dK _ e
 unfold g92;refine(bn (h s.length (oR _))).trans ?_;show cond (eY 0 ((pM s s.length:Nat):Int) s) (zR (sub s 0 ((pM s s.length:Nat):Int))) none=_;rw[kC (Hc s s.length),zM];try rfl
theorem adg(s:S8)(hs:s.length<=bQ):PN s 32=zR (yb s):=by
 have bo:=bl;have h:∀ n:Nat,n<=s.length->P3 (s.take n) 32=some (.inl (s.take (pM s n),32,())):=fun n=>by
  induction n with
  | zero=>intro _;exact dK _ rfl
  | succ n ih=>
    intro hn;have hl:(s.take (n+1)).length=n+1:=by rw[am9];omega
    have hb:fh (s.take (n+1)) (n:Int)=fh s (n:Int):=by have hx:s[n]? = some (s[n]'(by omega)):=amm (by omega);rw[fV hx,fV (xs:=s.take (n+1)) (x:=s[n]'(by omega)) (by rw[anp,if_pos (by omega)];exact hx)]
    have e:Em (s.take (n+1)) 32=bif aj (fh s (n:Int)) 32 then some (.inl (s.take n,32,()))else some (.inr (.inl (s.take (n+1),32,()))):=by unfold Em;rw[show ae (s.take (n+1))=((n+1:Nat):Int)from amP Int.ofNat hl];dsimp only;rw[aR (show(0:Int)<((n+1:Nat):Int)by omega),bG (by omega) (by omega),show((n+1:Nat):Int)-1=(n:Int)by omega,ig (xs:=s.take (n+1)) (by omega),hb,kC (xs:=s.take (n+1)) (i:=n) (by omega),zM,List.take_take,ao1 (aog n)];cases aj (fh s (n:Int)) 32 <;> rfl
    cases hc:aj (fh s (n:Int)) 32 with
    | true=>rw[hc]at e;unfold pM;rw[hc];exact ez _ e (ih (by omega))
    | false=>rw[hc]at e;unfold pM;rw[hc];exact dK _ e
 have h0:=h s.length (oR _);rw[aoH]at h0;unfold PN;refine(bn h0).trans rfl
theorem adw(s:S8)(hs:s.length<=bQ):VM s=zR (yb s):=by
 unfold VM acZ;cases he:bF s []with
 | true=>
   have:s=[]:=by simpa[bF]using he
   subst this;rfl
 | false=>have e:PN s (fh [32] 0)=_:=adg s hs;dsimp only;rw[e];try rfl
theorem Tn(s:S8):(yb s).length<=s.length:=by unfold yb;rw[am9];exact Nat.min_le_right _ _
abbrev gA:=Int×Unit
def kx:fx:=(0,[],[],[],[],[],0,0,())
def zh(s:S8):Bool:=cond (cond (bF s [48,49,48,48]) true (bF s [48,50,48,48])) true (bF s [48,50,50,48])
abbrev MZ:=S8×S8×S8×List (Int×Unit)×Unit
def er:List MZ:=[([48,49,48,48],[48,48],[97,117,116,104],[(4,()),(14,()),(38,())],()),([48,49,48,48],[48,50],[109,111,114,101],[(4,()),(38,())],()),([48,50,50,48],[48,49],[112,97,114,116],[(4,()),(38,())],()),([48,50,50,48],[48,48],[102,105,110,97,108],[(4,()),(38,())],()),([48,50,50,48],[50,48],[102,114,101,101],[(38,())],()),([48,50,48,48],[52,48],[109,111,118,101],[(38,()),(103,())],()),([48,49,48,48],[51,49],[97,115,107],[],()),([48,50,48,48],[57,48],[115,119,101,101,112],[],())]
def Ij(ed c:S8)(r:MZ):Bool:=cond (bF r.1 ed) (bF r.2.1 (sub c 0 2)) false
def fG(ed c:S8):Int:=1+dM (Ij ed c) 0 er
theorem x7(ed c:S8):fG ed c=0∨fG ed c=1∨fG ed c=2∨fG ed c=3∨fG ed c=4∨fG ed c=5∨fG ed c=6∨fG ed c=7∨fG ed c=8:=by unfold fG;have:=vc (Ij ed c) er 0;simp only[show er.length=8 from rfl]at this;omega
theorem Wg(m:bw)(c:S8)(hc:2<=c.length)(nm:S8×Unit)(hn:nm=(c,())):Xu er m nm=zR (dM (Ij m.1 c) 0 er):=by
 subst hn;have UN:eY 0 2 c=true:=kC (i:=2) hc;have h:=aT (step:=ep sN) er (fun i (_:Unit)=>(er,(m,(c,()),()),ae er,((i:Nat):Int),())) (fun i x _=>bif Ij m.1 c x then Sum.inr (.inr ((i:Int),()))else .inl ()) (fun _=> .inl (er,(m,(c,()),()),ae er,(er.length:Int),())) (a0:=()) (fun i x a hx=>by
  have aV:=ah hx;have h8:er.length=8:=rfl;show sN er (m,(c,()),()) (ae er) (i:Int)=_;unfold sN acd Ij;rw[aL hx,aD hx,aM _ hx,aU (by unfold bQ;omega)];dsimp only[oT];rw[UN];cases bF x.1 m.1 <;> cases bF x.2.1 (sub c 0 2) <;> rfl) (fun a=>by
  show sN er (m,(c,()),()) (ae er) (er.length:Int)=_;unfold sN;rw[aA rfl];try rfl)
 have hf:=ij (Y:=Sum ((List MZ)×(bw×(S8×Unit)×Unit)×Int×Int×Unit) (Int×Unit)) (Ij m.1 c) (fun n=> .inr (n,())) (.inl (er,(m,(c,()),()),ae er,(er.length:Int),())) (fun y=>match y with | .inl _=> -1 | .inr z=>z.1) (fun _=>rfl) rfl er 0;unfold Xu;refine(bn h).trans ?_;rw[<- hf];dsimp only[oB];cases kO _ _ 0 er () <;> rfl
theorem opm{i:Nat}{x:MZ}(hx:er[i]? = some x):OM (((i+1:Nat)):Int)=zR x.1/\abz (((i+1:Nat)):Int)=zR x.2.1:=by
 have aV:=ah hx;have h8:er.length=8:=rfl;have:i=0∨i=1∨i=2∨i=3∨i=4∨i=5∨i=6∨i=7:=by omega
 rcases this with h | h | h | h | h | h | h | h <;> subst h <;> cases hx <;> exact⟨rfl,rfl⟩
theorem XH(ed c:S8)(hc:2<=c.length):g90 ed c=zR (fG ed c):=by
 have UN:eY 0 2 c=true:=kC (i:=2) hc;have h8:er.length=8:=rfl;have h:=aT (step:=fJ G3) er (fun i (_:Unit)=>(ed,c,((i+1:Nat):Int),())) (fun i x _=>bif Ij ed c x then Sum.inr (.inr (((i+1:Nat):Int),()))else .inl ()) (fun _=> .inl (ed,c,9,())) (a0:=()) (fun i x a hx=>by have aV:=ah hx;show G3 ed c ((i+1:Nat):Int)=_;unfold G3 Ij;rw[(opm hx).1,(opm hx).2,show cl ((i+1:Nat):Int) 8=true from amk (by omega),aU (by unfold bQ;omega)];dsimp only[oT,oB];rw[UN];cases bF x.1 ed <;> cases bF x.2.1 (sub c 0 2) <;> rfl) (fun a=>rfl);have hf:=ij (Y:=Sum (S8×S8×Int×Unit) (Int×Unit)) (Ij ed c) (fun n=> .inr (1+n,())) (.inl (ed,c,9,())) (fun y=>match y with | .inl _=> -1 | .inr z=>z.1-1) (fun n=>by show 1+n-1=n;omega) rfl er 0;rw[show(fun(i:Nat) (x:MZ) (_:Unit)=>bif Ij ed c x then (Sum.inr (Sum.inr (((i+1:Nat):Int),())):Sum Unit (Sum (S8×S8×Int×Unit) (Int×Unit)))else .inl ())=fun i x _=>bif Ij ed c x then .inr (.inr (1+(i:Int),()))else .inl ()from by funext i x _;rw[show((i+1:Nat):Int)=1+(i:Int)by omega]]at h;unfold g90;have h':ZM ed c 1=_:=h;refine(bn h').trans ?_;unfold fG;rw[<- hf];dsimp only[oB];have ad4:dM (Ij ed c) 0 er = -1∨0<=dM (Ij ed c) 0 er:=by
  rcases vc (Ij ed c) er 0 with h | h
  . exact Or.inl h
  . exact Or.inr h.1
 cases hg:kO (fun(i:Nat) (x:MZ) (_:Unit)=>bif Ij ed c x then (Sum.inr (Sum.inr (1+(i:Int),())):Sum Unit (Sum (S8×S8×Int×Unit) (Int×Unit)))else .inl ()) (fun _=> .inl (ed,c,9,())) 0 er ()with
 | inl y=>rfl
 | inr y=>show zR y.1=zR (1+(y.1-1));rw[show 1+(y.1-1)=y.1 by omega]
def fv(m:bw)(no:Int):S8:=(jy m no).getD []
def fs(m:bw)(no:Int):Bool:=(jy m no).isSome
theorem pE(m:bw)(no:Int):I1 (jy m no)=some ((),((fv m no,()),(fs m no,()),())):=by unfold I1 fv fs;cases jy m no <;> rfl
theorem yv{m:bw}{no:Int}(h:fs m no=false):fv m no=[]:=by
 unfold fs at h;unfold fv;cases hf:jy m no with
 | none=>rfl
 | some s=>rw[hf]at h;cases h
theorem yL{m:bw}{no:Int}{s:S8}(h:jy m no=some s):∃ f∈m.2.1,f.1=no/\f.2.1=s:=by
 unfold jy at h;cases hf:m.2.1.find? fun f=>aj f.1 no with
 | none=>rw[hf]at h;cases h
 | some f=>rw[hf]at h;refine⟨f,aoM hf,bt.1 (by have:=List.find?_some hf;exact this),?_⟩;cases h;rfl
theorem pH{m:bw}(hb:iJ m)(no:Int):(fv m no).length<=1048576:=by
 unfold fv;cases h:jy m no with
 | none=>exact amv _
 | some s=>obtain⟨f,h1,_,rfl⟩:=yL h;exact hb.2.2 f h1
theorem WJ{m:bw}(h:gk m=true){no:Int}{s:S8}(hf:jy m no=some s):dO no s=true:=by
 unfold gk at h;obtain⟨f,h1,h2,h3⟩:=yL hf;obtain⟨i,hi⟩:=anL.1 h1;cases hd:cond (aH m.1) (aj (ae m.1) 4) false with
 | false=>rw[hd]at h;cases h
 | true=>
   rw[hd]at h;have:=gH (gC m.2.1) h hi;unfold gC at this;rw[h2,h3]at this;cases hk:dO no s with
   | true=>rfl
   | false=>rw[hk]at this;cases this
theorem CE{m:bw}(h:gk m=true){s:S8}(hf:jy m 3=some s):2<=s.length:=by
 have:=WJ h hf;have e:dO 3 s=cond (aH s) (aj (ae s) 6) false:=rfl;rw[e]at this;cases hd:aH s with
 | false=>rw[hd]at this;cases this
 | true=>rw[hd]at this;have:=bt.1 (show aj (ae s) 6=true from this);have:(s.length:Int)=6:=this;omega
def nvM(s:S8):Int:=match B7 s with | some n=>(n:Int) | none=>0
def nkM(s:S8):Bool:=(B7 s).isSome
theorem Ez(s:S8):Wo (B7 s)=some ((),((nvM s,()),(nkM s,()),())):=by unfold Wo nvM nkM;cases B7 s <;> rfl
def kW(m:bw)(op:Int):fx:=(op,fv m 2,cond (aj op 6) (fv m 103) [],cond (cond (de op 1 8) (aE op 7) false) (yb (fv m 38)) [],fv m 11,m.1,cond (de op 1 4) (nvM (fv m 4)) 0,cond (aj op 1) (nvM (fv m 14)) 0,())
def Ol(m:bw)(op:Int):Bool:=cond (cond (de op 1 4) (fs m 4) true) (cond (aj op 1) (fs m 14) true) false
def JF(m:bw)(op:Int):fx×Int:=cond (Ol m op) (cond (kZ (kW m op)) (kW m op,0) (kx,1)) (kx,1)
def gN(m:bw):fx×Int:=cond (gk m) (cond (zh m.1) (match jy m 3 with | none=>(kx,1) | some c=>JF m (fG m.1 c)) (kx,2)) (kx,1)
def Qk(p:fx×Int):Option (Unit×(fx×(Int×Unit)×Unit)):=some ((),(p.1,(p.2,()),()))
theorem Ju{m:bw}(hb:iJ m)(op:Int):E2 (kW m op):=by
 refine⟨pH hb 2,?_,?_,pH hb 11,hb.1⟩
 . show(cond (aj op 6) (fv m 103) []).length<=_;cases aj op 6 with
   | true=>exact pH hb 103
   | false=>exact amv _
 . show(cond (cond (de op 1 8) (aE op 7) false) (yb (fv m 38)) []).length<=_;cases cond (de op 1 8) (aE op 7) false with
   | true=>exact amp (Tn _) (pH hb 38)
   | false=>exact amv _
theorem aiy(m:bw)(hb:iJ m):g49 m=Qk (gN m):=by
 unfold g49 gN;rw[Ld m hb];cases hm:gk m with
 | false=>rfl
 | true=>
 have hk:g88 m.1=zR (zh m.1):=rfl;dsimp only[oB,oN,oF];rw[hk];cases zh m.1 with
 | false=>rfl
 | true=>
 show Option.bind (AO m 3) _=_;rw[xW m 3 hb];cases h3:jy m 3 with
 | none=>rfl
 | some c=>
 show Option.bind (g90 m.1 c) _=_;rw[XH m.1 c (CE hm h3)];have f2:=(xW m 2 hb).trans (pE m 2);have f11:=(xW m 11 hb).trans (pE m 11);have f38:=(xW m 38 hb).trans (pE m 38);have f4:=(xW m 4 hb).trans (pE m 4);have f14:=(xW m 14 hb).trans (pE m 14);have f103:=(xW m 103 hb).trans (pE m 103);have b38:=adK (fv m 38) (cg (pH hb 38));have n4:=(LO (fv m 4) (cg (pH hb 4))).trans (Ez _);have n14:=(LO (fv m 14) (cg (pH hb 14))).trans (Ez _);dsimp only[oB];rw[f2,f11];dsimp only[oB];have fD:=x7 m.1 c;generalize fG m.1 c=op at fD ⊢;have hq:=aaq (kW m op) (Ju hb op);have hH:g91 op=zR (cond (de op 1 8) (aE op 7) false):=rfl;have hA:g93 op=zR (de op 1 4):=rfl;unfold JF;generalize kZ (kW m op)=z at hq ⊢;rw[hH,hA,f38,f4,f14,f103];dsimp only[oB];rw[b38,n4,n14];dsimp only[oB];unfold Ol;unfold kW at hq ⊢;generalize cond (de op 1 8) (aE op 7) false=c1 at hq ⊢;generalize de op 1 4=c2 at hq ⊢;generalize aj op 1=c3 at hq ⊢;generalize aj op 6=c4 at hq ⊢;cases c1 <;> cases c2 <;> cases c3 <;> cases c4 <;> dsimp only[oT,oF]at hq ⊢ <;> rw[hq] <;> cases fs m 4 <;> cases fs m 14 <;> cases z <;> rfl
theorem adk{m:bw}{op:Int}(h:kZ (kW m op)=true):fs m 2=true/\fs m 11=true/\(cond (de op 1 8) (aE op 7) false=true->fs m 38=true)/\(aj op 6=true->fs m 103=true):=by
 unfold kZ kW at h;simp only[ami]at h;obtain⟨⟨⟨⟨⟨⟨⟨⟨h1,_⟩,h2⟩,h3⟩,_⟩,h4⟩,_⟩,_⟩,h5⟩:=h;refine⟨?_,?_,fun hc=>?_,fun hc=>?_⟩
 . cases hf:fs m 2 with
   | true=>rfl
   | false=>rw[yv hf]at h2;cases h2
 . cases hf:fs m 11 with
   | true=>rfl
   | false=>rw[yv hf]at h3;cases h3
 . cases hf:fs m 38 with
   | true=>rfl
   | false=>rw[hc,yv hf]at h4;rw[h1]at hc;rw[show aE op 7=true from hc]at h4;cases h4
 . cases hf:fs m 103 with
   | true=>rfl
   | false=>rw[hc,yv hf]at h5;cases h5
def pb(op:Int):List gA:=cond (de op 1 8) (gt ([],[],[],[],()) er (op-1)).2.2.2.1 []
def M1(m:bw)(op:Int):Bool:=fs m 2&&(fs m 11&&(pb op).all fun x=>fs m x.1)
def OpC(op:Int):Prop:=op=0∨op=1∨op=2∨op=3∨op=4∨op=5∨op=6∨op=7∨op=8
theorem Qs(m:bw)(op:Int)(fD:OpC op):JF m op=bif M1 m op then (bif kZ (kW m op)then (kW m op,0)else (kx,1))else (kx,1):=by
 have hz:=@adk m op;unfold JF;generalize kZ (kW m op)=z at hz ⊢;generalize kW m op=q at hz ⊢;cases z with
 | false=>cases M1 m op <;> cases Ol m op <;> rfl
 | true=>
   obtain⟨h1,h2,h3,h4⟩:=hz rfl;unfold M1 Ol;rw[h1,h2];rcases fD with h | h | h | h | h | h | h | h | h <;> subst h
   . rfl
   . have:=h3 rfl;show(bif cond (fs m 4) (fs m 14) false then _ else _)=bif true&&(true&&(fs m 4&&(fs m 14&&(fs m 38&&true))))then _ else _;rw[this];cases fs m 4 <;> cases fs m 14 <;> rfl
   . have:=h3 rfl;show(bif cond (fs m 4) true false then _ else _)=bif true&&(true&&(fs m 4&&(fs m 38&&true)))then _ else _;rw[this];cases fs m 4 <;> rfl
   . have:=h3 rfl;show(bif cond (fs m 4) true false then _ else _)=bif true&&(true&&(fs m 4&&(fs m 38&&true)))then _ else _;rw[this];cases fs m 4 <;> rfl
   . have:=h3 rfl;show(bif cond (fs m 4) true false then _ else _)=bif true&&(true&&(fs m 4&&(fs m 38&&true)))then _ else _;rw[this];cases fs m 4 <;> rfl
   . have:=h3 rfl;show _=bif true&&(true&&(fs m 38&&true))then _ else _;rw[this];try rfl
   . have:=h3 rfl;have h6:=h4 rfl;show _=bif true&&(true&&(fs m 38&&(fs m 103&&true)))then _ else _;rw[this,h6];try rfl
   . rfl
   . rfl
def WH(m:bw)(no:Int)(q:fx):fx:=
 cond (aj no 2) (q.1,fv m no,q.2.2.1,q.2.2.2.1,q.2.2.2.2.1,q.2.2.2.2.2.1,q.2.2.2.2.2.2.1,q.2.2.2.2.2.2.2.1,())
  (cond (aj no 4) (q.1,q.2.1,q.2.2.1,q.2.2.2.1,q.2.2.2.2.1,q.2.2.2.2.2.1,nvM (fv m no),q.2.2.2.2.2.2.2.1,())
    (cond (aj no 11) (q.1,q.2.1,q.2.2.1,q.2.2.2.1,fv m no,q.2.2.2.2.2.1,q.2.2.2.2.2.2.1,q.2.2.2.2.2.2.2.1,())
      (cond (aj no 14) (q.1,q.2.1,q.2.2.1,q.2.2.2.1,q.2.2.2.2.1,q.2.2.2.2.2.1,q.2.2.2.2.2.2.1,nvM (fv m no),())
        (cond (aj no 38) (q.1,q.2.1,q.2.2.1,yb (fv m no),q.2.2.2.2.1,q.2.2.2.2.2.1,q.2.2.2.2.2.2.1,q.2.2.2.2.2.2.2.1,())
          (cond (aj no 103) (q.1,q.2.1,fv m no,q.2.2.2.1,q.2.2.2.2.1,q.2.2.2.2.2.1,q.2.2.2.2.2.2.1,q.2.2.2.2.2.2.2.1,()) q)))))
def Qw(m:bw):List gA->fx->Option fx
 | [],q=>some q
 | x::r,q=>bif fs m x.1 then Qw m r (WH m x.1 q)else none
def ahM(xs:List gA)(n:Int)(m:bw):Option fx->Sum (List gA×Int×Int×bw×fx×fx×Unit) (Int×fx×Unit)
 | some q=> .inl (xs,n,n,m,kx,q,())
 | none=> .inr (1,kx,())
theorem Ll(m:bw)(ys:List gA)(n:Int):∀(xs:List gA) (i:Nat) (q:fx),kO (fun _ x q=>bif fs m x.1 then Sum.inl (WH m x.1 q)else .inr (.inr (1,kx,()))) (fun q=> .inl (ys,n,n,m,kx,q,())) i xs q=ahM ys n m (Qw m xs q)
 | [],_,_=>rfl
 | x::r,i,q=>by
   rw[kO,Qw];cases fs m x.1 with
   | false=>rfl
   | true=>exact Ll m ys n r (i+1) _
theorem VW(m:bw)(hb:iJ m)(xs:List gA)(hx:xs.length<=10)(q0:fx):aae xs (ae xs) 0 m kx q0=some (ahM xs (ae xs) m (Qw m xs q0)):=by
 have h:=aT (step:=Fo A4) xs (fun i (q:fx)=>(xs,ae xs,((i:Nat):Int),m,kx,q,())) (fun _ x q=>bif fs m x.1 then Sum.inl (WH m x.1 q)else .inr (.inr (1,kx,()))) (fun q=> .inl (xs,ae xs,ae xs,m,kx,q,())) (a0:=q0) (fun i x q hx=>by
  have aV:=ah hx;show A4 xs (ae xs) (i:Int) m kx q=_;unfold A4;rw[aL hx,aD hx,aM _ hx,aU (by unfold bQ;omega)];dsimp only[oT];rw[Ps m x.1 hb,pE];dsimp only[oB];rw[(aaV (fv m x.1) (cg (pH hb x.1))).trans (Ez _),adw (fv m x.1) (cg (pH hb x.1))];unfold WH;cases fs m x.1 with
  | false=>rfl
  | true=>cases aj x.1 2 <;> cases aj x.1 4 <;> cases aj x.1 11 <;> cases aj x.1 14 <;> cases aj x.1 38 <;> cases aj x.1 103 <;> rfl) (fun q=>by
  show A4 xs (ae xs) (xs.length:Int) m kx q=_;unfold A4;rw[aA rfl];try rfl)
 rw[Ll]at h;exact h
theorem X0(m:bw)(op:Int)(fD:OpC op):Qw m ((2,())::(11,())::pb op) (op,[],[],[],[],m.1,0,0,())=bif M1 m op then some (kW m op)else none:=by
 unfold M1;rcases fD with h | h | h | h | h | h | h | h | h <;> subst h
 . show(bif fs m 2 then (bif fs m 11 then some (kW m 0)else none)else none)=bif fs m 2&&(fs m 11&&true)then _ else _;cases fs m 2 <;> cases fs m 11 <;> rfl
 . show(bif fs m 2 then (bif fs m 11 then (bif fs m 4 then (bif fs m 14 then (bif fs m 38 then some (kW m 1)else none)else none)else none)else none)else none)=bif fs m 2&&(fs m 11&&(fs m 4&&(fs m 14&&(fs m 38&&true))))then _ else _;cases fs m 2 <;> cases fs m 11 <;> cases fs m 4 <;> cases fs m 14 <;> cases fs m 38 <;> rfl
 . show(bif fs m 2 then (bif fs m 11 then (bif fs m 4 then (bif fs m 38 then some (kW m 2)else none)else none)else none)else none)=bif fs m 2&&(fs m 11&&(fs m 4&&(fs m 38&&true)))then _ else _;cases fs m 2 <;> cases fs m 11 <;> cases fs m 4 <;> cases fs m 38 <;> rfl
 . show(bif fs m 2 then (bif fs m 11 then (bif fs m 4 then (bif fs m 38 then some (kW m 3)else none)else none)else none)else none)=bif fs m 2&&(fs m 11&&(fs m 4&&(fs m 38&&true)))then _ else _;cases fs m 2 <;> cases fs m 11 <;> cases fs m 4 <;> cases fs m 38 <;> rfl
 . show(bif fs m 2 then (bif fs m 11 then (bif fs m 4 then (bif fs m 38 then some (kW m 4)else none)else none)else none)else none)=bif fs m 2&&(fs m 11&&(fs m 4&&(fs m 38&&true)))then _ else _;cases fs m 2 <;> cases fs m 11 <;> cases fs m 4 <;> cases fs m 38 <;> rfl
 . show(bif fs m 2 then (bif fs m 11 then (bif fs m 38 then some (kW m 5)else none)else none)else none)=bif fs m 2&&(fs m 11&&(fs m 38&&true))then _ else _;cases fs m 2 <;> cases fs m 11 <;> cases fs m 38 <;> rfl
 . show(bif fs m 2 then (bif fs m 11 then (bif fs m 38 then (bif fs m 103 then some (kW m 6)else none)else none)else none)else none)=bif fs m 2&&(fs m 11&&(fs m 38&&(fs m 103&&true)))then _ else _;cases fs m 2 <;> cases fs m 11 <;> cases fs m 38 <;> cases fs m 103 <;> rfl
 . show(bif fs m 2 then (bif fs m 11 then some (kW m 7)else none)else none)=bif fs m 2&&(fs m 11&&true)then _ else _;cases fs m 2 <;> cases fs m 11 <;> rfl
 . show(bif fs m 2 then (bif fs m 11 then some (kW m 8)else none)else none)=bif fs m 2&&(fs m 11&&true)then _ else _;cases fs m 2 <;> cases fs m 11 <;> rfl
theorem PS(op:Int)(fD:OpC op):∃ a b c,EB op=some ((),((a,b,c,pb op,()),()))/\(pb op).length<=3:=by rcases fD with h | h | h | h | h | h | h | h | h <;> subst h <;> exact⟨_,_,_,rfl,by decide⟩
theorem aio(m:bw)(hb:iJ m):g63 m=Qk (gN m):=by
 unfold g63 gN;rw[Gg m hb];cases hm:gk m with
 | false=>rfl
 | true=>
 have hk:acP m.1=zR (zh m.1):=rfl;dsimp only[oB,oN,oF];rw[hk];cases zh m.1 with
 | false=>rfl
 | true=>
 show Option.bind (I7 m 3) _=_;rw[Ps m 3 hb];cases h3:jy m 3 with
 | none=>rfl
 | some c=>
 have hr:VL=zR er:=rfl;unfold I1;dsimp only[oB,oN,oF];rw[hr];dsimp only[oB];refine(bn (Wg m c (CE hm h3) (c,()) rfl)).trans ?_;have fD:=x7 m.1 c;have hw:ak .i64 1 (dM (Ij m.1 c) 0 er)=fG m.1 c:=by unfold fG at fD ⊢;exact bd (by omega) (by omega)
 dsimp only[oB];rw[hw];generalize fG m.1 c=op at fD ⊢;obtain⟨a1,a2,a3,hf,Pd⟩:=PS op fD;rw[hf];dsimp only[oB];have iV:bk 8 [((2:Int),()),(11,())] (pb op)=true:=amq (by show(2+(pb op).length) * 8<=140737488355328;omega);rw[iV];refine(bn (VW m hb ((2,())::(11,())::pb op) (by simp only[amw];omega) (op,[],[],[],[],m.1,0,0,()))).trans ?_;rw[X0 m op fD];show _=Qk (JF m op);rw[Qs m op fD];cases M1 m op with
 | false=>rfl
 | true=>refine(bn (Zw (kW m op) (Ju hb op))).trans ?_;cases kZ (kW m op) <;> rfl
theorem KR{b:aJ}:∀ {nos:aJ} {a:Nat} {o l:List eo} {e:Nat},a<=b.length->(∀ f∈o,f.2.1.length<=1048576)->mu b nos a o=some (l,e)->l.length=o.length+nos.length/\∀ f∈l,f.2.1.length<=1048576
 | [],_,_,_,_,_,ho,h=>by cases h;exact⟨rfl,ho⟩
 | x::r,a,o,l,e,ha,ho,h=>by
   rw[mu]at h;cases hg:rK b a x.1 with
   | none=>rw[hg]at h;cases h
   | some p=>
     rw[hg]at h;obtain⟨_,h2,h3⟩:=wh ha hg;obtain⟨k1,k2⟩:=KR (nos:=r) h3 (fun f hf=>by
      rcases anE.1 hf with h | h
      . exact ho f h
      . rcases aom.1 h with rfl
        exact amp h2 (by omega)) h
     refine⟨?_,k2⟩;rw[k1,amj];simp only[amw,am3];omega
theorem Ax(b:aJ):iJ (eR b).1:=by
 have h0:iJ ([],[],()):=⟨amv _,amv _,fun f hf=>by cases hf⟩;unfold eR;cases hc:jj b 0 4 with
 | none=>exact h0
 | some ed=>
   cases hn:Cd b with
   | none=>exact h0
   | some p=>
     obtain⟨nos,a⟩:=p;obtain⟨n1,n2⟩:=FM hn;dsimp only;cases hf:mu b nos a []with
     | none=>exact h0
     | some q=>
       obtain⟨l,e⟩:=q;obtain⟨k1,k2⟩:=KR n2 (fun f hf=>by cases hf) hf;dsimp only;split
       . refine⟨?_,?_,k2⟩
         . show ed.length<=_;rw[(eP hc).2.1];omega
         . show l.length<=_;rw[k1];simp only[am3];exact amp (aol (amt _)) (amp n1 (by omega))
       . exact h0
theorem EJ{m:bw}(hb:iJ m):E2 (gN m).1:=by
 have h0:E2 kx:=⟨amv _,amv _,amv _,amv _,amv _⟩;unfold gN JF;cases gk m with
 | false=>exact h0
 | true=>
 cases zh m.1 with
 | false=>exact h0
 | true=>
 cases jy m 3 with
 | none=>exact h0
 | some c=>
 dsimp only[oT];cases Ol m (fG m.1 c)with
 | false=>exact h0
 | true=>
   dsimp only[oT];cases kZ (kW m (fG m.1 c))with
   | false=>exact h0
   | true=>exact Ju hb _
theorem Wd{a b:S8}:bF a b=true↔a=b:=by simp[bF]
def slotsOf(a:ax):List dk:=a.2.2.2.2.2.2.2.2.2.2.1
def nB(a:ax):S8×List dk:=(a.1,slotsOf a)
theorem Xj:(0:Int)<=0/\(0:Int)<=10:=by decide
def nn(a x:ax)(c:Int):Prop:=(0<=c/\c<=10)/\(c=0->nB x=nB a)
theorem dX{a x:ax}{c:Int}(h:1<=c/\c<=10):nn a x c:=⟨⟨by omega,h.2⟩,fun e=>by omega⟩
theorem o7(a:ax)(now:Int):nB (aC a now)=nB a:=by
 unfold aC;cases bp a <;> first | rfl | skip
 cases bh now <;> rfl
theorem acF(s:ax)(bJ now:Int):0<=ik s bJ now/\ik s bJ now<=10:=by
 unfold ik;cases aE (hY s now) bJ <;> dsimp only[oT,oF] <;> first | decide | skip
 cases aE s.2.2.2.1 (fk (rI (dt s) now false) 1) <;> dsimp only[oT,oF] <;> first | decide | skip
 cases aE s.2.2.2.2.1 (fk (rI (dt s) now true) bJ) <;> dsimp only[oT,oF] <;> decide
theorem Bx{a x s:ax}{bJ now:Int}(hz:aj (ik s bJ now) 0=false):nn a x (ik s bJ now):=
 ⟨acF s bJ now,fun e=>by rw[bt.2 e]at hz;cases hz⟩
theorem abI(a:ax)(id:S8)(bJ nA now:Int):nn a (lP a id bJ nA now).1 (lP a id bJ nA now).2:=by
 have hs:=o7 a now;unfold lP;generalize aC a now=s at hs ⊢;cases cond (bp a) (cond (bh now) (bm id) false) false <;> dsimp only[oT,oF] <;> first | exact dX (by decide) | skip
 cases de bJ 1 9007199254740992 <;> dsimp only[oT,oF] <;> first | exact dX (by decide) | skip
 cases(cond (!de nA 1 9999) true (aE 1000000000 (ak .i64 now nA))) <;> dsimp only[oT,oF] <;> first | exact dX (by decide) | skip
 cases cl 0 (az s.2.2.2.2.2.1 id) <;> dsimp only[oT,oF] <;> first | exact dX (by decide) | skip
 cases aj (ae s.2.2.2.2.2.1) 4 <;> dsimp only[oT,oF] <;> first | exact dX (by decide) | skip
 cases hz:aj (ik s bJ now) 0 <;> dsimp only[oT,oF] <;> first | exact Bx hz | skip
 exact⟨Xj,fun _=>hs⟩
theorem abE(a:ax)(id:S8)(bJ now:Int):nn a (lM a id bJ now).1 (lM a id bJ now).2:=by
 have hs:=o7 a now;unfold lM;generalize aC a now=s at hs ⊢;cases cond (bp a) (cond (bh now) (bm id) false) false <;> dsimp only[oT,oF] <;> first | exact dX (by decide) | skip
 cases de bJ 1 9007199254740992 <;> dsimp only[oT,oF] <;> first | exact dX (by decide) | skip
 cases aE (az s.2.2.2.2.2.1 id) 0 <;> dsimp only[oT,oF] <;> first | exact dX (by decide) | skip
 cases hz:aj (ik s bJ now) 0 <;> dsimp only[oT,oF] <;> first | exact Bx hz | skip
 exact⟨Xj,fun _=>hs⟩
theorem aaG(a:ax)(id:S8)(bJ:Int)(last:Bool)(now:Int):nn a (pq a id bJ last now).1 (pq a id bJ last now).2:=by
 have hs:=o7 a now;unfold pq;generalize aC a now=s at hs ⊢;cases cond (bp a) (cond (bh now) (bm id) false) false <;> dsimp only[oT,oF] <;> first | exact dX (by decide) | skip
 cases de bJ 1 9007199254740992 <;> dsimp only[oT,oF] <;> first | exact dX (by decide) | skip
 cases aE (az s.2.2.2.2.2.1 id) 0 <;> dsimp only[oT,oF] <;> first | exact dX (by decide) | skip
 cases aE (gt pZ s.2.2.2.2.2.1 (az s.2.2.2.2.2.1 id)).2.1 bJ <;> dsimp only[oT,oF] <;> first | exact dX (by decide) | skip
 cases(cond last true (aj bJ (gt pZ s.2.2.2.2.2.1 (az s.2.2.2.2.2.1 id)).2.1)) <;> exact⟨Xj,fun _=>hs⟩
theorem acH(a:ax)(id:S8)(now:Int):nn a (lO a id now).1 (lO a id now).2:=by
 have hs:=o7 a now;unfold lO;generalize aC a now=s at hs ⊢;cases cond (bp a) (cond (bh now) (bm id) false) false <;> dsimp only[oT,oF] <;> first | exact dX (by decide) | skip
 cases aE (az s.2.2.2.2.2.1 id) 0 <;> dsimp only[oT,oF] <;> first | exact dX (by decide) | skip
 exact⟨Xj,fun _=>hs⟩
theorem W5(a:ax)(now:Int):nn a (iT a now).1 (iT a now).2:=by
 unfold iT;cases bp a <;> dsimp only[oT,oF] <;> first | exact dX (by decide) | skip
 cases bh now <;> dsimp only[oT,oF] <;> first | exact dX (by decide) | skip
 exact⟨Xj,fun _=>o7 a now⟩
theorem Pw(a b:ax)(id:S8)(now:Int):nn a (gu a b id now).1 (gu a b id now).2.2/\nn b (gu a b id now).2.1 (gu a b id now).2.2:=by
 have hs:=o7 a now;have ht:=o7 b now;unfold gu;generalize aC a now=s at hs ⊢;generalize aC b now=t at ht ⊢;have no:∀ c:Int,1<=c/\c<=10->nn a aK c/\nn b aK c:=fun c h=>⟨dX h,dX h⟩
 cases cond (bp a) (cond (bh now) (bm id) false) false <;> dsimp only[oT,oF] <;> first | exact no _ (by decide) | skip
 cases bp b <;> dsimp only[oT,oF] <;> first | exact no _ (by decide) | skip
 cases bF a.1 b.1 <;> dsimp only[oT,oF] <;> first | exact no _ (by decide) | skip
 cases aE (az s.2.2.2.2.2.1 id) 0 <;> dsimp only[oT,oF] <;> first | exact no _ (by decide) | skip
 cases cl 0 (az t.2.2.2.2.2.1 id) <;> dsimp only[oT,oF] <;> first | exact no _ (by decide) | skip
 cases aj (ae t.2.2.2.2.2.1) 4 <;> dsimp only[oT,oF] <;> first | exact no _ (by decide) | skip
 cases aE (hY t now) (gt pZ s.2.2.2.2.2.1 (az s.2.2.2.2.2.1 id)).2.1 <;> dsimp only[oT,oF] <;> first | exact no _ (by decide) | skip
 exact⟨⟨Xj,fun _=>hs⟩,⟨Xj,fun _=>ht⟩⟩
theorem ahP(a:ax)(now:Int):nn a a (wG a now).2:=by
 refine⟨?_,fun _=>rfl⟩;unfold wG;cases bp a <;> dsimp only[oT,oF] <;> first | decide | skip
 cases bh now <;> dsimp only[oT,oF] <;> first | decide | skip
theorem agK(a b:ax)(q:fx)(now:Int):nn a (mQ a b q now).1 (mQ a b q now).2.2.1/\(aj q.1 6=true->nn b (mQ a b q now).2.1 (mQ a b q now).2.2.1):=by
 unfold mQ;cases h1:aj q.1 1 <;> first | exact⟨abI a _ _ _ now,fun h=>by rw[bt.1 h]at h1;cases h1⟩ | skip
 cases h2:aj q.1 2 <;> first | exact⟨abE a _ _ now,fun h=>by rw[bt.1 h]at h2;cases h2⟩ | skip
 cases h3:aj q.1 3 <;> first | exact⟨aaG a _ _ _ now,fun h=>by rw[bt.1 h]at h3;cases h3⟩ | skip
 cases h4:aj q.1 4 <;> first | exact⟨aaG a _ _ _ now,fun h=>by rw[bt.1 h]at h4;cases h4⟩ | skip
 cases h5:aj q.1 5 <;> first | exact⟨acH a _ now,fun h=>by rw[bt.1 h]at h5;cases h5⟩ | skip
 cases h6:aj q.1 6 <;> first | exact⟨(Pw a b _ now).1,fun _=>(Pw a b _ now).2⟩ | skip
 cases h7:aj q.1 7 <;> first | exact⟨ahP a now,fun h=>by cases h⟩ | exact⟨W5 a now,fun h=>by cases h⟩
theorem yE{b:List ax}{i:Nat}{x y:ax}(h:b[i]? = some y)(hk:nB x=nB y):(b.set i x).map nB=b.map nB:=by
 apply aoU;intro j;rw[amX,amX,aoW];by_cases e:i=j
 . subst e;rw[if_pos rfl,if_pos (ah h),h];simp[hk]
 . rw[if_neg e]
theorem T9(b:List ax)(q:fx)(now:Int):(0<=(dm b q now).2.1/\(dm b q now).2.1<=10)/\((dm b q now).2.1=0->(dm b q now).1.map nB=b.map nB):=by
 have no:∀(c:Int) (l:List ax),1<=c/\c<=10->(0<=c/\c<=10)/\(c=0->l.map nB=b.map nB):=fun c l h=>⟨⟨by omega,h.2⟩,fun e=>by omega⟩
 unfold dm;cases jh b <;> dsimp only[oT,oF] <;> first | exact no _ _ (by decide) | skip
 cases kZ q <;> dsimp only[oT,oF] <;> first | exact no _ _ (by decide) | skip
 cases bh now <;> dsimp only[oT,oF] <;> first | exact no _ _ (by decide) | skip
 cases h6:aj q.1 6 with
 | false=>
   dsimp only[oF];cases hk:aE (ar b q.2.1) 0 with
   | true=>exact no 3 [] (by decide)
   | false=>
     obtain⟨i,y,e,hy⟩:=eN (of_decide_eq_false hk);have hg:gt aK b (ar b q.2.1)=y:=by rw[e];exact aM _ hy
     have fD:=(agK y y q now).1;rw[hg];dsimp only[oF];cases hz:aj (mQ y y q now).2.2.1 0 with
     | false=>refine⟨fD.1,fun e=>?_⟩;have e:(mQ y y q now).2.2.1=0:=e;rw[bt.2 e]at hz;cases hz
     | true=>refine⟨Xj,fun _=>?_⟩;show(cZ b (ar b q.2.1) (mQ y y q now).1).map nB=_;rw[e];exact yE (i:=i) hy (fD.2 (bt.1 hz))
 | true=>
    cases hk:aE (ar b q.2.1) 0 with
   | true=>exact no 3 [] (by decide)
   | false=>
   cases hm:aE (ar b q.2.2.1) 0 with
   | true=>exact no 3 [] (by decide)
   | false=>
     obtain⟨i,y,e,hy⟩:=eN (of_decide_eq_false hk);obtain⟨j,z,e2,Mi⟩:=eN (of_decide_eq_false hm);have hg:gt aK b (ar b q.2.1)=y:=by rw[e];exact aM _ hy
     have Pb:gt aK b (ar b q.2.2.1)=z:=by rw[e2];exact aM _ Mi
     have fD:=agK y z q now;rw[hg,Pb];dsimp only[oF];cases hz:aj (mQ y z q now).2.2.1 0 with
     | false=>refine⟨fD.1.1,fun e=>?_⟩;have e:(mQ y z q now).2.2.1=0:=e;rw[bt.2 e]at hz;cases hz
     | true=>
       refine⟨Xj,fun _=>?_⟩;have k1:=fD.1.2 (bt.1 hz);have k2:=(fD.2 h6).2 (bt.1 hz);show(cZ (cZ b (ar b q.2.2.1) (mQ y z q now).2.1) (ar b q.2.1) (mQ y z q now).1).map nB=_;rw[e,e2];show((b.set j (mQ y z q now).2.1).set i (mQ y z q now).1).map nB=_;by_cases Dr:j=i
       . subst Dr;rw[List.set_set];exact yE hy k1
       . rw[yE (y:=y) (by rw[List.getElem?_set_ne Dr];exact hy) k1];exact yE Mi k2
def pd:S8->aJ
 | x::y::r=>((((x.toNat-48) * 16+(y.toNat-48):Nat):Int),())::pd r
 | _=>[]
theorem wC:∀(n:Nat) (s:S8),s.length=2 * n->(pd s).length=n
 | 0,[],_=>rfl
 | 0,_::_,h=>by simp at h
 | n+1,x::y::r,h=>by rw[pd,amw,wC n r (by simp only[amw]at h;omega)]
 | n+1,[],h=>by simp at h
 | n+1,[x],h=>by simp at h;omega
def zU(s:S8):S8:=if s.length % 2=1 then 48::s else s
def dP(s:S8):aJ:=cond (cond (aH s) (cl (ae s) 38) false) (pd (zU s)) []
theorem gI(s:S8):(dP s).length<=(s.length+1) / 2:=by
 unfold dP;cases cond (aH s) (cl (ae s) 38) false with
 | false=>exact amv _
 | true=>
   show(pd (zU s)).length<=_;unfold zU;by_cases h:s.length % 2=1
   . rw[if_pos h,wC ((s.length+1) / 2) (48::s) (by simp only[amw];omega)];exact oR _
   . rw[if_neg h,wC (s.length / 2) s (by omega)];omega
def Oa(no:Int):Int:=cond (aj (bE no) 5) 3 2
def UQ(s:S8):aJ:=bytesOf s
def Qx(no:Int)(s:S8):aJ:=cond (cond (aj (bE no) 1) true (aj (bE no) 3)) (dP s) (UQ s)
def wI(no:Int)(s:S8):aJ:=cond (dO no s) (cond (cond (aj (bE no) 1) true (aj (bE no) 2)) (Qx no s) (dP (eu (ae s) (Oa no))++Qx no s)) []
theorem rG{n w:Int}{k:Nat}(h:w=k):(eu n w).length<=k:=by
 unfold eu;cases hc:bY n&&de w 1 18&&cl (ae (Lib.itoa n)) w with
 | false=>simp
 | true=>simp only[ami]at hc;have h2:ae (Lib.itoa n)<=w:=anf hc.2;simp only[oT,amj,anr];unfold ae at h2 ⊢;omega
def uX(no:Int):Nat:=cond (aj (bE no) 1) (((gK no).toNat+1) / 2) (cond (aj (bE no) 2) (gK no).toNat (cond (aj (bE no) 3) 11 (cond (aj (bE no) 4) 21 62)))
theorem Eo(s:S8):(UQ s).length=s.length:=anO ..
theorem FL(no:Int)(s:S8):(wI no s).length<=uX no:=by
 have hb:=gI s;have ho:=Eo s;have h2:=gI (eu (ae s) 2);have h3:=gI (eu (ae s) 3);have w2:=rG (n:=ae s) (w:=2) (k:=2) rfl;have w3:=rG (n:=ae s) (w:=3) (k:=3) rfl;obtain⟨n,hn,hk⟩:=kinds no;unfold wI uX Qx Oa;cases hf:dO no s with
 | false=>exact amv _
 | true=>
   unfold dO at hf;rw[hn]at hf;rw[hn];rcases hk with ⟨e,hk⟩ | ⟨e,hk⟩ | ⟨e,hk⟩ | ⟨e,hk⟩ | ⟨e,hk⟩ | ⟨e,hk⟩ <;> rw[e]at hf <;> rw[e]
   . cases hf
   . have hl:aj (ae s) n=true:=by
      cases hd:aH s <;> rw[hd]at hf <;> first | exact hf | cases hf
     have:=bt.1 hl;unfold ae at this;show(dP s).length<=((n:Int).toNat+1) / 2;omega
   . have hl:aj (ae s) n=true:=by
      cases hd:dF s <;> rw[hd]at hf <;> first | exact hf | cases hf
     have:=bt.1 hl;unfold ae at this;show(UQ s).length<=(n:Int).toNat;omega
   . have hl:de (ae s) 1 n=true:=by
      cases hd:aH s <;> rw[hd]at hf <;> first | exact hf | cases hf
     have:=bB.1 hl;unfold ae at this;show(dP (eu (ae s) 2)++dP s).length<=11;rw[amj];omega
   . have hl:de (ae s) 1 n=true:=by
      cases hd:dF s <;> rw[hd]at hf <;> first | exact hf | cases hf
     have:=bB.1 hl;unfold ae at this;show(dP (eu (ae s) 2)++UQ s).length<=21;rw[amj];omega
   . have hl:de (ae s) 1 n=true:=by
      cases hd:dF s <;> rw[hd]at hf <;> first | exact hf | cases hf
     have:=bB.1 hl;unfold ae at this;show(dP (eu (ae s) 3)++UQ s).length<=62;rw[amj];omega
def nq(o:aJ)(k:Nat):aJ:=o.set (k / 8) ((((o.getD (k / 8) (0,())).1.toNat ||| 128 >>> (k % 8):Nat):Int),())
def eM(l:List gA):aJ:=l.foldl (fun o k=>cond (de k.1 1 64) (nq o (k.1.toNat-1)) o) (List.replicate 8 (0,()))
theorem j9(l:List gA):(eM l).length=8:=by
 unfold eM;have:∀(l:List gA) (o:aJ),o.length=8->(l.foldl (fun o k=>cond (de k.1 1 64) (nq o (k.1.toNat-1)) o) o).length=8:=fun l=>by
  induction l with
  | nil=>exact fun o h=>h
  | cons k r ih=>
    intro o h;refine ih _ ?_;show(cond (de k.1 1 64) (nq o (k.1.toNat-1)) o).length=8;cases de k.1 1 64 with
    | false=>exact h
    | true=>show(nq o _).length=8;unfold nq;rw[ans];exact h
 exact this l _ anr
def vM(l:List eo):List gA:=(l.filter fun f=>aE 64 f.1).map fun f=>(bf .i64 f.1 64,())
def lr(l:List eo):List gA:=(l.filter fun f=> !aE 64 f.1).map fun f=>(f.1,())
def B9(l:List eo):aJ:=cond (aE 0 (ae (vM l))) (eM (lr l++[(1,())])++eM (vM l)) (eM (lr l))
def gj(l:List eo):aJ:=(l.map fun f=>wI f.1 f.2.1).flatten
def oC(m:bw):aJ:=cond (gk m) (dP m.1++(B9 m.2.1++gj m.2.1)) []
theorem G4:∀(l:List eo),(gj l).length<=(l.map fun f=>uX f.1).sum
 | []=>oR _
 | f::l=>by have ih:=G4 l;have:=FL f.1 f.2.1;unfold gj at ih ⊢;rw[amS,List.flatten_cons,amj,amS,anC];omega
theorem LD{m:bw}(h:gk m=true):8<=(oC m).length/\(oC m).length<=18+(m.2.1.map fun f=>uX f.1).sum:=by
 have hb:=G4 m.2.1;have h1:=gI m.1;have h4:m.1.length=4:=by
  unfold gk at h;cases hd:aH m.1 with
  | false=>rw[hd]at h;cases h
  | true=>
    rw[hd]at h;cases he:aj (ae m.1) 4 with
    | false=>rw[he]at h;cases h
    | true=>have:=bt.1 he;unfold ae at this;omega
 have hm:8<=(B9 m.2.1).length/\(B9 m.2.1).length<=16:=by
  unfold B9;cases aE 0 (ae (vM m.2.1))with
  | false=>have:=j9 (lr m.2.1);exact⟨by show 8<=(eM (lr m.2.1)).length;omega,by show(eM (lr m.2.1)).length<=16;omega⟩
  | true=>
    have e:(eM (lr m.2.1++[(1,())])++eM (vM m.2.1)).length=16:=by rw[amj,j9,j9]
    exact⟨by show 8<=(eM (lr m.2.1++[(1,())])++eM (vM m.2.1)).length;omega,by show(eM (lr m.2.1++[(1,())])++eM (vM m.2.1)).length<=16;omega⟩
 unfold oC;rw[h];have e:(dP m.1++(B9 m.2.1++gj m.2.1)).length=(dP m.1).length+((B9 m.2.1).length+(gj m.2.1).length):=by rw[amj,amj]
 exact⟨by show 8<=(dP m.1++(B9 m.2.1++gj m.2.1)).length;omega,by show(dP m.1++(B9 m.2.1++gj m.2.1)).length<=_;omega⟩
def yg(c:Int):S8:=cond (de c 0 10) (gt ([],()) [([48,48],()),([51,48],()),([49,50],()),([49,52],()),([49,51],()),([50,53],()),([57,52],()),([53,49],()),([54,53],()),([54,49],()),([57,54],())] c).1 []
def dJ(s:S8):S8:=match s with
 | [a,b,c,d]=>cond (aH s) (cond (aj ((c.toNat % 2:Nat):Int) 1) [] [a,b,UInt8.ofNat (c.toNat+1),d]) []
 | _=>[]
def Ea(no:Int)(s:S8):S8:=cond (dO no (cond (aj (bE no) 1) (List.replicate (gK no-ae s).toNat 48++s) (cond (aj (bE no) 2) (s++List.replicate (gK no-ae s).toNat 32) s))) (cond (aj (bE no) 1) (List.replicate (gK no-ae s).toNat 48++s) (cond (aj (bE no) 2) (s++List.replicate (gK no-ae s).toNat 32) s)) []
def yl:List Int:=[2,3,4,7,11,37,38,39,41,49,54,102,103]
def Cg(m:bw)(code:Int)(hold told:S8)(no:Int):Option S8:=
 cond (aj no 38) (cond (cond (aj code 0) (!bF hold []) false) (some (Ea 38 hold)) none)
  (cond (aj no 39) (some (yg code)) (cond (aj no 54) (cond (!bF told []) (some told) none) (jy m no)))
def mV(m:bw)(code:Int)(hold told:S8)(no:Int):Option eo:=(Cg m code hold told no).map fun s=>(no,s,())
def jf(m:bw)(code:Int)(hold told:S8):List eo:=yl.filterMap (mV m code hold told)
def jK(m:bw)(code:Int)(hold told:S8):bw×Bool:=
 cond (cond (gk m) (cond (bF (dJ m.1) []) false (!bF (yg code) [])) false)
  (cond ((jf m code hold told).all fun f=>dO f.1 f.2.1) ((dJ m.1,jf m code hold told,()),true) (([],[],()),false)) (([],[],()),false)
def lx(ed:S8)(code:Int):bw×Bool:=cond (gk (dJ ed,[(39,yg code,())],())) ((dJ ed,[(39,yg code,())],()),true) (([],[],()),false)
theorem vA(m:bw)(code:Int)(hold told:S8):(jf m code hold told).Pairwise fun a b=>a.1<b.1:=by
 have h:yl.Pairwise fun a b=>a<b:=by decide
 refine List.Pairwise.filterMap _ (fun a b hab x hx y hy=>?_) h;unfold mV at hx hy;cases ha:Cg m code hold told a with
 | none=>rw[ha]at hx;simp at hx
 | some s=>
   cases hb:Cg m code hold told b with
   | none=>rw[hb]at hy;simp at hy
   | some t=>rw[ha]at hx;rw[hb]at hy;simp only[amI,Option.mem_def,amh]at hx hy;rw[<- hx,<- hy];exact hab
theorem Hs{α:Type}(p:Nat->α->Bool)(q:α->Bool):∀(xs:List α) (k:Nat),(∀ i x,xs[i]? = some x->p (k+i) x=q x)->allI p k xs=xs.all q
 | [],_,_=>rfl
 | x::r,k,h=>by have h0:p k x=q x:=h 0 x rfl;rw[allI,anc,h0,Hs p q r (k+1) fun i y hy=>by rw[show k+1+i=k+(i+1)by omega];exact h (i+1) y (by simpa using hy)]
theorem Hn{ed:S8}{l:List eo}(h:l.Pairwise fun a b=>a.1<b.1)(hm:cond (aH ed) (aj (ae ed) 4) false=true):gk (ed,l,())=l.all fun f=>dO f.1 f.2.1:=by
 unfold gk;rw[hm,oT];refine Hs _ _ l 0 fun i x hx=>?_
 unfold gC;cases dO x.1 x.2.1 with
 | false=>rfl
 | true=>
   by_cases h0:0<0+i
   . rw[amk h0];obtain⟨y,hy⟩:∃ y,l[i-1]? = some y:=⟨_,amm (by have:=ah hx;omega)⟩;have hg:gt (0,[],()) l (((0+i:Nat):Int)-1)=y:=by
      rw[show(((0+i:Nat):Int)-1)=((i-1:Nat):Int)by omega];exact aM _ hy
     have aV:y.1<x.1:=by obtain⟨h1,e1⟩:=amQ.1 hy;obtain⟨h2,e2⟩:=amQ.1 hx;rw[<- e1,<- e2];exact aoK.1 h (i-1) i h1 h2 (by omega)
     show(!cl x.1 (gt (0,[],()) l (((0+i:Nat):Int)-1)).1)=true;rw[hg,show cl x.1 y.1=false from amF (by omega)];try rfl
   . rw[amF h0];try rfl
theorem Vq(u:Nat):∀ x∈Lib.decDigits u,fL x=true:=by
 induction u using Nat.strongRecOn with
 | _ u ih=>
   intro x hx;rw[Lib.decDigits]at hx;by_cases h:u<10
   . rw[dif_pos h]at hx;simp only[aom]at hx;subst hx;rw[dj,apc];omega
   . rw[dif_neg h]at hx;rcases anE.1 hx with hx | hx
     . exact ih _ (by omega) x hx
     . simp only[aom]at hx;subst hx;rw[dj,apc];omega
theorem GS(n w:Int):∀ x∈eu n w,fL x=true:=by
 unfold eu;cases hc:bY n&&de w 1 18&&cl (ae (Lib.itoa n)) w with
 | false=>intro x hx;simp at hx
 | true=>
   simp only[ami]at hc;have h0:=(bB.1 hc.1.1).1;obtain⟨u,rfl⟩:∃ u:Nat,n=u:=⟨n.toNat,by omega⟩;intro x hx;rcases anE.1 hx with hx | hx
   . rw[aoO hx];decide
   . rw[Lib.itoa_nonneg]at hx;exact Vq u x hx
def ae9(x:UInt8):Bool:=cond (aE (x.toNat:Int) 32) false (!(aE 126 (x.toNat:Int)))
theorem WN{x:UInt8}:ae9 x=true↔32<=x.toNat/\x.toNat<=126:=by
 unfold ae9 aE;by_cases h:(x.toNat:Int)<32
 . simp[h];omega
 . by_cases h2:(126:Int)<x.toNat
   . simp[h,h2];omega
   . simp[h,h2];omega
theorem Ua{s:S8}(h:∀ x∈s,32<=x.toNat/\x.toNat<=126):dF s=true:=amB.2 fun x hx=>WN.2 (h x hx)
def zK(t:S8):Prop:=t=[]∨(dF t=true/\1<=t.length/\t.length<=60)
theorem SA(a:ax)(now:Int):zK (wG a now).1:=by
 have e:∀ r p:Int,zK ((eu r 16++[32])++eu p 16):=fun r p=>by
  refine .inr ⟨Ua fun x hx=>?_,?_⟩
  . rcases anE.1 hx with hx | hx
    . rcases anE.1 hx with hx | hx
      . have:=dj.1 (GS _ _ x hx);omega
      . simp only[aom]at hx;subst hx;decide
    . have:=dj.1 (GS _ _ x hx);omega
  . have h1:=jR r 16;have h2:=jR p 16;simp only[amj,anY];omega
 unfold wG;cases bp a <;> first | exact .inl rfl | skip
 cases bh now <;> first | exact .inl rfl | skip
 exact e _ _
theorem L9(a b:ax)(q:fx)(now:Int):zK (mQ a b q now).2.2.2:=by
 unfold mQ;cases aj q.1 1 <;> first | exact .inl rfl | skip
 cases aj q.1 2 <;> first | exact .inl rfl | skip
 cases aj q.1 3 <;> first | exact .inl rfl | skip
 cases aj q.1 4 <;> first | exact .inl rfl | skip
 cases aj q.1 5 <;> first | exact .inl rfl | skip
 cases aj q.1 6 <;> first | exact .inl rfl | skip
 cases aj q.1 7 <;> first | exact .inl rfl | skip
 exact SA a now
theorem wq(b:List ax)(q:fx)(now:Int):zK (dm b q now).2.2:=by
 unfold dm;cases jh b <;> first | exact .inl rfl | skip
 cases kZ q <;> first | exact .inl rfl | skip
 cases bh now <;> first | exact .inl rfl | skip
 dsimp only[oT];cases aj q.1 6 with
 | false=>
   dsimp only[oF];cases aE (ar b q.2.1) 0 <;> first | exact .inl rfl | skip
   dsimp only[oF];cases aj (mQ (gt aK b (ar b q.2.1)) (gt aK b (ar b q.2.1)) q now).2.2.1 0 <;> first | exact .inl rfl | exact L9 _ _ q now
 | true=>
   dsimp only[oT];cases cond (aE (ar b q.2.1) 0) true (aE (ar b q.2.2.1) 0) <;> first | exact .inl rfl | skip
   dsimp only[oF];cases aj (mQ (gt aK b (ar b q.2.1)) (gt aK b (ar b q.2.2.1)) q now).2.2.1 0 <;> first | exact .inl rfl | exact L9 _ _ q now
theorem abx{m:bw}(h:gk m=true){no:Int}{s:S8}(hs:jy m no=some s):dO no s=true:=by
 unfold jy at hs;cases hf:m.2.1.find? (fun f=>aj f.1 no)with
 | none=>rw[hf]at hs;cases hs
 | some f=>
   rw[hf]at hs;cases hs;have e:f.1=no:=by have h2:=List.find?_some hf;exact bt.1 h2
   obtain⟨i,hi⟩:=anL.1 (aoM hf);unfold gk at h;cases hd:cond (aH m.1) (aj (ae m.1) 4) false with
   | false=>rw[hd]at h;cases h
   | true=>
     rw[hd]at h;have:=gH (gC m.2.1) h hi;unfold gC at this;rw[<- e];cases hk:dO f.1 f.2.1 with
     | true=>rfl
     | false=>rw[hk]at this;cases this
theorem agm{s:S8}(h:bm s=true):dO 38 (Ea 38 s)=true:=by
 unfold bm at h;cases ha:s.all kN with
 | false=>rw[ha]at h;cases h
 | true=>
   rw[ha]at h;have hl:=bB.1 h;have hp:dO 38 (s++List.replicate ((6:Int)-ae s).toNat 32)=true:=by
    show cond (dF (s++List.replicate ((6:Int)-ae s).toNat 32)) (aj (ae (s++List.replicate ((6:Int)-ae s).toNat 32)) 6) false=true;rw[Ua fun x hx=>?_]
    . show aj _ 6=true;rw[bt];unfold ae at hl ⊢;rw[amj,anr];omega
    . rcases anE.1 hx with hx | hx
      . have:=amB.1 ha x hx;unfold kN aE at this;by_cases h1:(x.toNat:Int)<48 <;> by_cases h2:(57:Int)<x.toNat <;> by_cases h3:(x.toNat:Int)<97 <;> by_cases h4:(122:Int)<x.toNat <;> simp[h1,h2,h3,h4]at this <;> omega
      . rw[aoO hx];decide
   have e:Ea 38 s=s++List.replicate ((6:Int)-ae s).toNat 32:=by show cond (dO 38 (s++List.replicate ((6:Int)-ae s).toNat 32)) (s++List.replicate ((6:Int)-ae s).toNat 32) []=_;rw[hp];try rfl
   rw[e];exact hp
theorem FB{c:Int}(h:0<=c/\c<=10):c=0∨c=1∨c=2∨c=3∨c=4∨c=5∨c=6∨c=7∨c=8∨c=9∨c=10:=by omega
theorem Zq{c:Int}(h:0<=c/\c<=10):dO 39 (yg c)=true/\bF (yg c) []=false:=by rcases FB h with rfl | rfl | rfl | rfl | rfl | rfl | rfl | rfl | rfl | rfl | rfl <;> decide
theorem T7{m:bw}{code:Int}{hold told:S8}(hm:gk m=true)(hc:0<=code/\code<=10)(hh:code=0->bF hold []=false->bm hold=true)(ht:zK told):((jf m code hold told).all fun f=>dO f.1 f.2.1)=true:=by
 refine amB.2 fun f hf=>?_
 obtain⟨no,BO,hf⟩:=List.mem_filterMap.1 hf;unfold mV at hf;cases hr:Cg m code hold told no with
 | none=>rw[hr]at hf;cases hf
 | some s=>
   rw[hr]at hf;cases hf;show dO no s=true;unfold Cg at hr;cases Kp:aj no 38 with
   | true=>
     rw[Kp]at hr;have e:=bt.1 Kp;subst e;cases hz:aj code 0 with
     | false=>rw[hz]at hr;cases hr
     | true=>
       cases hy:bF hold []with
       | true=>rw[hz,hy]at hr;cases hr
       | false=>rw[hz,hy]at hr;cases hr;exact agm (hh (bt.1 hz) hy)
   | false=>
   cases UO:aj no 39 with
   | true=>rw[Kp,UO]at hr;cases hr;rw[bt.1 UO];exact(Zq hc).1
   | false=>
   cases Yv:aj no 54 with
   | true=>
     rw[Kp,UO,Yv]at hr;cases hy:bF told []with
     | true=>rw[hy]at hr;cases hr
     | false=>
       rw[hy]at hr;cases hr;rw[bt.1 Yv];rcases ht with rfl | ⟨t1,t2,t3⟩
       . cases hy
       . show cond (dF told) (de (ae told) 1 60) false=true;rw[t1];exact bB.2 (by unfold ae;omega)
   | false=>rw[Kp,UO,Yv]at hr;exact abx hm hr
theorem uf(g:Int->Option eo)(hg:∀ no f,g no=some f->f.1=no):∀ l:List Int,((l.filterMap g).map fun f=>uX f.1).sum<=(l.map uX).sum
 | []=>oR _
 | no::l=>by
   have ih:=uf g hg l;rw[amS,anC];cases h:g no with
   | none=>rw[aoP h];omega
   | some f=>rw[aoQ h,amS,anC,hg no f h];omega
theorem Hw:(yl.map uX).sum=162:=by decide
theorem Dj{s:S8}(h:bF (dJ s) []=false):cond (aH (dJ s)) (aj (ae (dJ s)) 4) false=true:=by
 unfold dJ at h ⊢
 match s with
 | [a,b,c,d]=>
   dsimp only at h ⊢;cases hd:aH [a,b,c,d]with
   | false=>rw[hd]at h;cases h
   | true=>
     rw[hd]at h;cases hp:aj ((c.toNat % 2:Nat):Int) 1 with
     | true=>rw[hp]at h;cases h
     | false=>
       have hx:=jO hd;have hc:=dj.1 (hx c (by simp));have yq:c.toNat % 2≠1:=fun e=>by rw[e]at hp;cases hp
       have hn:fL (UInt8.ofNat (c.toNat+1))=true:=dj.2 (by rw[apc];omega);show cond (aH [a,b,UInt8.ofNat (c.toNat+1),d]) (aj (ae [a,b,UInt8.ofNat (c.toNat+1),d]) 4) false=true;have:aH [a,b,UInt8.ofNat (c.toNat+1),d]=true:=by
        unfold aH;rw[show [a,b,UInt8.ofNat (c.toNat+1),d].all fL=true from amB.2 fun x h=>by
         simp only[ams,List.not_mem_nil,or_false]at h;rcases h with rfl | rfl | rfl | rfl
         . exact hx _ (by simp)
         . exact hx _ (by simp)
         . exact hn
         . exact hx _ (by simp)]
        rfl
       rw[this];try rfl
 | []=>cases h
 | [_]=>cases h
 | [_,_]=>cases h
 | [_,_,_]=>cases h
 | _::_::_::_::_::_=>cases h
theorem OG{m:bw}{code:Int}{hold told:S8}(hm:gk m=true)(hr:bF (dJ m.1) []=false)(hc:0<=code/\code<=10)(hh:code=0->bF hold []=false->bm hold=true)(ht:zK told) :
 (jK m code hold told).1=(dJ m.1,jf m code hold told,())/\1<=(oC (jK m code hold told).1).length/\(oC (jK m code hold told).1).length<=200:=by
 have Fk:=T7 (told:=told) hm hc hh ht;have e:(jK m code hold told).1=(dJ m.1,jf m code hold told,()):=by unfold jK;rw[hm,hr,(Zq hc).2,Fk];try rfl
 have al5:gk (dJ m.1,jf m code hold told,())=true:=by rw[Hn (vA m code hold told) (Dj hr)];exact Fk
 have h1:=LD al5;have h2:((jf m code hold told).map fun f=>uX f.1).sum<=162:=by
  have:=uf (mV m code hold told) (fun no f h=>by
   unfold mV at h;cases hr:Cg m code hold told no with
   | none=>rw[hr]at h;cases h
   | some s=>rw[hr]at h;cases h;rfl) yl
  rw[Hw]at this;exact this
 have h3:(oC (dJ m.1,jf m code hold told,())).length<=18+((jf m code hold told).map fun f=>uX f.1).sum:=h1.2;rw[e];exact⟨rfl,by omega,by omega⟩
def vJ(t m:S8)(y:dk):Bool:=cond (bF y.1 t) (bF y.2.1 m) false
def jr(l:List dk)(t m:S8):Option aJ:=(l.find? (vJ t m)).map fun y=>y.2.2.1
theorem NA{l:List dk}{s:dk}(h:eG l=true)(hs:ll s=true)(hn:jr l s.1 s.2.1=none)(hl:aj (ae l) 6=false):eG (l++[s])=true:=by
 unfold eG at h ⊢;cases ha:allI (dq l) 0 l with
 | false=>rw[ha]at h;cases h
 | true=>
   rw[ha]at h;have h6:ae l<=6:=anf h;have cY:ae l≠6:=fun e=>by rw[bt.2 e]at hl;cases hl
   have BO:∀ y∈l,vJ s.1 s.2.1 y=false:=by unfold jr at hn;rw[Option.map_eq_none_iff]at hn;intro y hy;have:=List.find?_eq_none.1 hn y hy;simpa using this
   have gm:allI (dq (l++[s])) 0 (l++[s])=true:=by
    refine D8 _ _ 0 fun i x hx=>?_
    rw[amt];unfold dq;by_cases hi:i<l.length
    . rw[am0 hi]at hx;have:=gH (dq l) ha hx;rw[amt]at this;unfold dq at this;rw[aoi (by omega)];exact this
    . have hi2:i=l.length:=by
       have:=ah hx;rw[amj,anY]at this;omega
      subst hi2;rw[amY (oR _),an8]at hx;cases hx;rw[hs,aoi (oR _),aoH];show(l.all fun y=> !jc y s)=true;refine amB.2 fun y hy=>?_
      have:=BO y hy;unfold vJ at this;unfold jc;rw[this];try rfl
   rw[gm];show cl (ae (l++[s])) 6=true;refine amk ?_;unfold ae at h6 cY ⊢;rw[amj,anY];omega
def Ku(a:ax)(l:List dk):ax:=(a.1,a.2.1,a.2.2.1,a.2.2.2.1,a.2.2.2.2.1,a.2.2.2.2.2.1,a.2.2.2.2.2.2.1,a.2.2.2.2.2.2.2.1,a.2.2.2.2.2.2.2.2.1,a.2.2.2.2.2.2.2.2.2.1,l,())
def uo(m:bw)(c:Int)(h t:S8):aJ:=oC (jK m c h t).1
def bN(b:List ax)(q:fx)(now:Int):List ax:=cond (aj (dm b q now).2.1 0) (dm b q now).1 b
def e8(b:List ax)(m:bw)(q:fx)(now:Int):dk:=(q.2.2.2.2.1,q.2.2.2.2.2.1,uo m (dm b q now).2.1 q.2.2.2.1 (dm b q now).2.2,())
def ui(b:List ax)(m:bw)(q:fx)(now:Int):List ax×aJ:=
 (cZ (bN b q now) (ar b q.2.1) (Ku (gt aK (bN b q now) (ar b q.2.1)) (slotsOf (gt aK (bN b q now) (ar b q.2.1))++[e8 b m q now])),uo m (dm b q now).2.1 q.2.2.2.1 (dm b q now).2.2)
def vk(b:List ax)(m:bw)(q:fx)(now:Int):List ax×aJ:=
 cond (aE (ar b q.2.1) 0) (b,uo m 3 [] [])
  (match jr (slotsOf (gt aK b (ar b q.2.1))) q.2.2.2.2.1 q.2.2.2.2.2.1 with
  | some o=>(b,o)
  | none=>cond (aj (ae (slotsOf (gt aK b (ar b q.2.1)))) 6) (b,uo m 10 [] []) (ui b m q now))
def yw(b:List ax)(m:bw)(now:Int):List ax×aJ:=cond (aj (gN m).2 0) (vk b m (gN m).1 now) (b,uo m (gN m).2 [] [])
def iI(b:List ax)(x:aJ)(now:Int):List ax×aJ:=
 cond (cond (jh b) (bh now) false)
  (match jj x 0 4 with
  | none=>(b,[])
  | some t=>cond (bF (dJ t) []) (b,[]) (cond (aj (eR x).2 0) (yw b (eR x).1 now) (b,oC (lx t 1).1)))
  (b,[])
theorem PY{q:fx}(h:kZ q=true):cond (aH q.2.2.2.2.2.1) (aj (ae q.2.2.2.2.2.1) 4) false=true/\cond (aH q.2.2.2.2.1) (aj (ae q.2.2.2.2.1) 6) false=true/\(bF q.2.2.2.1 []=false->bm q.2.2.2.1=true):=by
 unfold kZ at h;simp only[ami]at h;obtain⟨⟨⟨⟨⟨⟨⟨⟨h1,h2⟩,h3⟩,h4⟩,h5⟩,h6⟩,h7⟩,h8⟩,h9⟩:=h;refine⟨?_,by rw[h4];exact h5,fun hh=>?_⟩
 . rw[Wd.1 h2];rcases qa h1 with e | e | e | e | e | e | e | e <;> rw[e] <;> decide
 . cases hc:aE q.1 7 with
   | true=>rw[hc]at h6;exact h6
   | false=>rw[hc]at h6;have h6:bF q.2.2.2.1 []=true:=h6;rw[h6]at hh;cases hh
theorem xR{a:ax}(h:bp a=true):eG (slotsOf a)=true:=by unfold bp at h;simp only[anM,ami]at h;obtain⟨_,_,_,_,_,_,_,h,_⟩:=h;exact h
theorem sK{b:List ax}(h:jh b=true){i:Nat}{a:ax}(ha:b[i]? = some a):bp a=true:=by
 unfold jh at h;cases hs:allI (jk b) 0 b with
 | false=>rw[hs]at h;cases h
 | true=>
   have:=gH (jk b) hs ha;unfold jk at this;cases hm:bp a with
   | true=>rfl
   | false=>rw[hm]at this;cases this
theorem JC(b:List ax)(q:fx)(now:Int):(bN b q now).map nB=b.map nB:=by
 unfold bN;cases hz:aj (dm b q now).2.1 0 with
 | false=>rfl
 | true=>exact(T9 b q now).2 (bt.1 hz)
theorem Vu{b c:List ax}(h:c.map nB=b.map nB){i:Nat}{a:ax}(ha:b[i]? = some a):∃ y,c[i]? = some y/\nB y=nB a:=by have:=amP (·[i]?) h;simp only[amX,ha,amI,anT]at this;exact this
theorem zw{b:List ax}{m:bw}{q:fx}{now:Int}(hb:jh b=true)(hk:aE (ar b q.2.1) 0=false)(hn:jr (slotsOf (gt aK b (ar b q.2.1))) q.2.2.2.2.1 q.2.2.2.2.2.1=none)
 (h6:aj (ae (slotsOf (gt aK b (ar b q.2.1)))) 6=false)(hm:gk m=true)(hr:bF (dJ m.1) []=false)(hq:kZ q=true) :
 eG (slotsOf (gt aK (bN b q now) (ar b q.2.1))++[e8 b m q now])=true/\∃(i:Nat) (y:ax),ar b q.2.1=(i:Int)/\(bN b q now)[i]? = some y:=by
 obtain⟨i,a,e,ha⟩:=eN (of_decide_eq_false hk);have hg:gt aK b (ar b q.2.1)=a:=by rw[e];exact aM _ ha
 obtain⟨y,hy,al6⟩:=Vu (JC b q now) ha;have Pb:gt aK (bN b q now) (ar b q.2.1)=y:=by rw[e];exact aM _ hy
 have hs:slotsOf y=slotsOf a:=amP Prod.snd al6;obtain⟨q1,q2,q3⟩:=PY hq;have hl:=OG (told:=(dm b q now).2.2) hm hr (T9 b q now).1 (fun _ hh=>q3 hh) (wq b q now);rw[hg]at hn h6;refine⟨?_,i,y,e,hy⟩;rw[Pb,hs];refine NA (xR (sK hb ha)) ?_ hn h6;unfold ll;show cond (cond (aH q.2.2.2.2.1) (aj (ae q.2.2.2.2.1) 6) false) (cond (cond (aH q.2.2.2.2.2.1) (aj (ae q.2.2.2.2.2.1) 4) false) (de (ae (uo m (dm b q now).2.1 q.2.2.2.1 (dm b q now).2.2)) 1 200) false) false=true;rw[q1,q2];exact bB.2 (by unfold uo ae;omega)
theorem AE{m:bw}(h:aj (gN m).2 0=true):gk m=true/\kZ (gN m).1=true:=by
 have h:=bt.1 h;unfold gN at h ⊢;cases hm:gk m with
 | false=>rw[hm]at h;cases h
 | true=>
 rw[hm]at h;cases hk:zh m.1 with
 | false=>rw[hk]at h;cases h
 | true=>
 rw[hk]at h;dsimp only[oT]at h ⊢;cases hf:jy m 3 with
 | none=>rw[hf]at h;cases h
 | some c=>
 rw[hf]at h;dsimp only at h ⊢;unfold JF at h ⊢;cases hq:Ol m (fG m.1 c)with
 | false=>rw[hq]at h;cases h
 | true=>
 rw[hq]at h;cases hr:kZ (kW m (fG m.1 c))with
 | false=>rw[hr]at h;cases h
 | true=>exact⟨rfl,hr⟩
theorem wE{x:aJ}{t:S8}(h:jj x 0 4=some t)(h0:aj (eR x).2 0=true):(eR x).1.1=t:=by
 have h0:=bt.1 h0;unfold eR at h0 ⊢;rw[h]at h0 ⊢;dsimp only at h0 ⊢;cases hn:Cd x with
 | none=>rw[hn]at h0;cases h0
 | some p=>
 obtain⟨nos,a⟩:=p;rw[hn]at h0;dsimp only at h0 ⊢;cases hf:mu x nos a []with
 | none=>rw[hf]at h0;cases h0
 | some p=>
 obtain⟨l,e⟩:=p;rw[hf]at h0;dsimp only at h0 ⊢;by_cases he:e=x.length
 . rw[if_pos he]
 . rw[if_neg he]at h0;cases h0
theorem TE(m:bw):(oC m).length<=18+(m.2.1.map fun f=>uX f.1).sum:=by
 cases h:gk m with
 | true=>exact(LD h).2
 | false=>unfold oC;rw[h];exact amv _
theorem V4{m:bw}{c:Int}{h t:S8}{no:Int}{f:eo}(hf:mV m c h t no=some f):f.1=no:=by
 unfold mV at hf;cases hr:Cg m c h t no with
 | none=>rw[hr]at hf;cases hf
 | some s=>rw[hr]at hf;cases hf;rfl
theorem KB(m:bw)(c:Int)(h t:S8):(uo m c h t).length<=180:=by
 have hs:=uf (mV m c h t) (fun no f hf=>V4 hf) yl;rw[Hw]at hs;have h0:(oC (([],[],()):bw)).length<=180:=by rw[show oC (([],[],()):bw)=[]from rfl];exact amv _
 unfold uo jK;cases cond (gk m) (cond (bF (dJ m.1) []) false (!bF (yg c) [])) false with
 | false=>exact h0
 | true=>
   cases(jf m c h t).all fun f=>dO f.1 f.2.1 with
   | false=>exact h0
   | true=>refine amp (TE _) ?_;show 18+((jf m c h t).map fun f=>uX f.1).sum<=180;exact Nat.add_le_add_left hs 18
theorem Ya(t:S8)(c:Int):(oC (lx t c).1).length<=20:=by
 unfold lx;cases gk (dJ t,[(39,yg c,())],())with
 | false=>show(oC (([],[],()):bw)).length<=20;rw[show oC (([],[],()):bw)=[]from rfl];exact amv _
 | true=>exact amp (TE _) (by show 18+(uX 39+0)<=20;decide)
theorem HG{xs:List ax}(hb:dE xs)(k:Int):bK (gt aK xs k):=by
 unfold gt;rw[ank];cases h:xs[k.toNat]? with
 | none=>exact ff
 | some y=>exact hb.2 y (amo h)
theorem K8{xs:List ax}(hb:dE xs)(k:Int){y:ax}(hy:bK y):dE (cZ xs k y):=by
 unfold cZ;refine⟨by rw[ans];exact hb.1,fun a ha=>?_⟩;rcases aoL ha with ha | ha
 . exact hb.2 a ha
 . rw[ha];exact hy
theorem ub:dE []:=⟨amv _,fun a ha=>by simp at ha⟩
theorem abA{b:List ax}(q:fx)(now:Int)(hb:dE b):dE (dm b q now).1:=by
 unfold dm;cases jh b <;> first | exact ub | skip
 cases kZ q <;> first | exact ub | skip
 cases bh now <;> first | exact ub | skip
 dsimp only[oT];cases aj q.1 6 with
 | false=>
   dsimp only[oF];cases aE (ar b q.2.1) 0 <;> first | exact ub | skip
   dsimp only[oF];cases aj (mQ (gt aK b (ar b q.2.1)) (gt aK b (ar b q.2.1)) q now).2.2.1 0 <;> first | exact ub | skip
   exact K8 hb _ (XX q now (HG hb _) (HG hb _)).1
 | true=>
   dsimp only[oT];cases cond (aE (ar b q.2.1) 0) true (aE (ar b q.2.2.1) 0) <;> first | exact ub | skip
   dsimp only[oF];cases aj (mQ (gt aK b (ar b q.2.1)) (gt aK b (ar b q.2.2.1)) q now).2.2.1 0 <;> first | exact ub | skip
   have:=XX q now (HG hb (ar b q.2.1)) (HG hb (ar b q.2.2.1));exact K8 (K8 hb _ this.2) _ this.1
theorem RQ{b:List ax}(q:fx)(now:Int)(hb:dE b):dE (bN b q now):=by
 unfold bN;cases aj (dm b q now).2.1 0 with
 | false=>exact hb
 | true=>exact abA q now hb
theorem To{b:List ax}{m:bw}{q:fx}{now:Int}(hb:dE b)(hs:eG (slotsOf (gt aK (bN b q now) (ar b q.2.1))++[e8 b m q now])=true):dE (ui b m q now).1:=by
 have hd:=RQ q now hb;have hy:=HG hd (ar b q.2.1);refine K8 hd _ ⟨hy.1,hy.2.1,hy.2.2.1,?_,fun z hz=>?_⟩
 . show(slotsOf (gt aK (bN b q now) (ar b q.2.1))++[e8 b m q now]).length<=1048576;unfold eG at hs;cases ha:allI (dq (slotsOf (gt aK (bN b q now) (ar b q.2.1))++[e8 b m q now])) 0 (slotsOf (gt aK (bN b q now) (ar b q.2.1))++[e8 b m q now])with
   | false=>rw[ha]at hs;cases hs
   | true=>rw[ha]at hs;have:ae (slotsOf (gt aK (bN b q now) (ar b q.2.1))++[e8 b m q now])<=6:=anf hs;unfold ae at this;omega
 . have hz:z∈slotsOf (gt aK (bN b q now) (ar b q.2.1))++[e8 b m q now]:=hz;have hm:ll z=true:=by
    unfold eG at hs;cases ha:allI (dq (slotsOf (gt aK (bN b q now) (ar b q.2.1))++[e8 b m q now])) 0 (slotsOf (gt aK (bN b q now) (ar b q.2.1))++[e8 b m q now])with
    | false=>rw[ha]at hs;cases hs
    | true=>
      obtain⟨i,hi⟩:=anL.1 hz;have:=gH _ ha hi;unfold dq at this;cases hk:ll z with
      | true=>rfl
      | false=>rw[hk]at this;cases this
   unfold ll at hm;simp only[anM,ami]at hm;obtain⟨⟨_,h1⟩,⟨_,h2⟩,h3⟩:=hm;have h1:=bt.1 h1;have h2:=bt.1 h2;have h3:=bB.1 h3;unfold ae at h1 h2 h3;omega
theorem ajD:∀ a b:Fin 10,dC .u8 (bf .i64 (ak .i64 (yj .i64 (bf .i64 (dC .i64 ((a.val+48:Nat):Int)) 48) 16) (dC .i64 ((b.val+48:Nat):Int))) 48)=((a.val * 16+b.val:Nat):Int):=by decide +kernel
theorem alm:∀ a b:Fin 10,U3 .u8 (Xd .u8 (bf .u8 ((a.val+48:Nat):Int) 48) 4) (bf .u8 ((b.val+48:Nat):Int) 48)=((a.val * 16+b.val:Nat):Int):=by decide +kernel
theorem aj5{x y:UInt8}(hx:fL x=true)(hy:fL y=true):dC .u8 (bf .i64 (ak .i64 (yj .i64 (bf .i64 (dC .i64 (x.toNat:Int)) 48) 16) (dC .i64 (y.toNat:Int))) 48)=(((x.toNat-48) * 16+(y.toNat-48):Nat):Int):=by have h1:=dj.1 hx;have h2:=dj.1 hy;have:=ajD ⟨x.toNat-48,by omega⟩ ⟨y.toNat-48,by omega⟩;dsimp only at this;rw[show x.toNat-48+48=x.toNat by omega,show y.toNat-48+48=y.toNat by omega]at this;exact this
theorem akg{x y:UInt8}(hx:fL x=true)(hy:fL y=true):U3 .u8 (Xd .u8 (bf .u8 (x.toNat:Int) 48) 4) (bf .u8 (y.toNat:Int) 48)=(((x.toNat-48) * 16+(y.toNat-48):Nat):Int):=by have h1:=dj.1 hx;have h2:=dj.1 hy;have:=alm ⟨x.toNat-48,by omega⟩ ⟨y.toNat-48,by omega⟩;dsimp only at this;rw[show x.toNat-48+48=x.toNat by omega,show y.toNat-48+48=y.toNat by omega]at this;exact this
def rT(s:S8)(k:Nat):Int×Unit:=((((s.getD (2 * k) 0).toNat-48) * 16+((s.getD (2 * k+1) 0).toNat-48):Nat),())
theorem xo:∀(n:Nat) (s:S8),s.length=2 * n->pd s=(List.range n).map (rT s)
 | 0,[],_=>rfl
 | 0,_::_,h=>by simp at h
 | n+1,x::y::r,h=>by rw[pd,xo n r (by simp only[amw]at h;omega),List.range_succ_eq_map,amS,List.map_map];refine congr (amP List.cons rfl) (List.map_congr_left fun k _=>?_);show rT r k=rT (x::y::r) (k+1);unfold rT;rw[show 2 * (k+1)=2 * k+1+1 by omega];try rfl
 | n+1,[],h=>by simp at h
 | n+1,[x],h=>by simp at h;omega
def C2(s:S8):Bool:=cond (aH s) (cl (ae s) 38) false
theorem mU{a b:aJ}(h:a.length+b.length<=bQ):bk 1 a b=true:=amq (by show(a.length+b.length) * 1<=bQ;omega)
theorem KS{n i x:Nat}(h:(List.range n)[i]? = some x):x=i/\i<n:=by have:=ah h;rw[apg]at this;rw[List.getElem?_range this]at h;exact⟨(am5 h).symm,this⟩
theorem yW{α β Y:Type}(F:α->β)(z:List β->Y):∀(xs:List α) (i:Nat) (d:List β),kO (fun _ x (a:List β)=>Sum.inl (a++[F x])) z i xs d=z (d++xs.map F)
 | [],i,d=>by simp[kO]
 | x::r,i,d=>by simp only[kO];rw[yW F z r];simp
theorem Z4(s:S8)(n:Nat)(hn:s.length=2 * n)(hb:n<=1048576)(hd:s.all fL=true):Pn s [] 0=some (.inl (s,pd s,((2 * n:Nat):Int),())):=by
 have bo:=bl;have h:=aO (step:=fJ zk) (List.range n) (fun i (o:aJ)=>(s,o,((2 * i:Nat):Int),())) (fun _ k o=>Sum.inl (o++[rT s k])) (fun o=> .inl (s,o,((2 * n:Nat):Int),())) (fun i o=>o.length<=i) (a0:=[]) (oR _) (fun i k o hk ho=>by
  obtain⟨rfl,hi⟩:=KS hk;obtain⟨x,hx⟩:∃ x,s[2 * k]? = some x:=⟨_,amm (by omega)⟩;obtain⟨y,hy⟩:∃ y,s[2 * k+1]? = some y:=⟨_,amm (by omega)⟩;have dx:=amB.1 hd x (amo hx);have dy:=amB.1 hd y (amo hy);have pv:rT s k=((((x.toNat-48) * 16+(y.toNat-48):Nat):Int),()):=by unfold rT;rw[ank,ank,hx,hy];try rfl
  have hf:∀ v:Int×Unit,bk 1 o [v]=true:=fun v=>mU (by show o.length+1<=bQ;omega)
  show zk s o ((2 * k:Nat):Int)=_;unfold zk;dsimp only;rw[aL hx,aD hx,aU (by omega),aD hy,fV hx,fV hy,aj5 dx dy,hf,pv];rw[show ak .i64 ((2 * k:Nat):Int) 2=((2 * (k+1):Nat):Int)by rw[bd (by omega) (by omega)];omega];try rfl) (fun i k o o' hk ho hf=>by
  simp only[amx]at hf;rw[<- hf,amj];show o.length+1<=_;omega) (fun o ho=>by
  show zk s o ((2 * (List.range n).length:Nat):Int)=_;unfold zk;rw[apg,aA hn];try rfl)
 rw[yW,<- xo n s hn]at h;exact h
theorem DO(s:S8)(hs:s.length<=1048576):UU s=some ((),((dP s,()),(C2 s,()),())):=by
 have bo:=bl;unfold UU dP C2;rw[gh s (by omega)];dsimp only[oB];cases hd:aH s with
 | false=>rfl
 | true=>
   have hp:aj (eH (ae s) 2) 1=decide (s.length % 2=1):=LA s.length;have ha:=(dN.1 hd).1;rw[hp];by_cases Kp:s.length<=38
   . rw[show aE 38 (ae s)=false from aF (by show ¬ (38:Int)<(s.length:Int);omega),show cl (ae s) 38=true from amk (by show(s.length:Int)<=38;omega)];by_cases yq:s.length % 2=1
     . have he:zU s=48::s:=if_pos yq;have hl:=Z4 (48::s) ((s.length+1) / 2) (by simp only[amw];omega) (by omega) (by rw[anc,ha];try rfl);rw[amk yq,he,show jx [48] s=true from qE (by show 1+s.length<=bQ;omega)];exact bn hl
     . have he:zU s=s:=if_neg yq;have hl:=Z4 s (s.length / 2) (by omega) (by omega) ha;rw[amF yq,he];exact bn hl
   . rw[show aE 38 (ae s)=true from aR (by show(38:Int)<(s.length:Int);omega),show cl (ae s) 38=false from amF (by show ¬ (s.length:Int)<=38;omega)];try rfl
theorem YD(s:S8)(n:Nat)(hn:s.length=2 * n)(hb:n<=1048576)(hd:s.all fL=true):ID s [] 0=some (.inl (s,pd s,((2 * n:Nat):Int),())):=by
 have bo:=bl;have h:=aO (step:=fJ tK) (List.range n) (fun i (o:aJ)=>(s,o,((2 * i:Nat):Int),())) (fun _ k o=>Sum.inl (o++[rT s k])) (fun o=> .inl (s,o,((2 * n:Nat):Int),())) (fun i o=>o.length<=i) (a0:=[]) (oR _) (fun i k o hk ho=>by
  obtain⟨rfl,hi⟩:=KS hk;obtain⟨x,hx⟩:∃ x,s[2 * k]? = some x:=⟨_,amm (by omega)⟩;obtain⟨y,hy⟩:∃ y,s[2 * k+1]? = some y:=⟨_,amm (by omega)⟩;have dx:=amB.1 hd x (amo hx);have dy:=amB.1 hd y (amo hy);have pv:rT s k=((((x.toNat-48) * 16+(y.toNat-48):Nat):Int),()):=by unfold rT;rw[ank,ank,hx,hy];try rfl
  have hf:∀ v:Int×Unit,bk 1 o [v]=true:=fun v=>mU (by show o.length+1<=bQ;omega)
  show tK s o ((2 * k:Nat):Int)=_;unfold tK;dsimp only;rw[aL hx,aD hx,aU (by omega),aD hy,fV hx,fV hy,akg dx dy,hf,pv];rw[show ak .i64 ((2 * k:Nat):Int) 2=((2 * (k+1):Nat):Int)by rw[bd (by omega) (by omega)];omega];try rfl) (fun i k o o' hk ho hf=>by
  simp only[amx]at hf;rw[<- hf,amj];show o.length+1<=_;omega) (fun o ho=>by
  show tK s o ((2 * (List.range n).length:Nat):Int)=_;unfold tK;rw[apg,aA hn];try rfl)
 rw[yW,<- xo n s hn]at h;exact h
theorem ES(s:S8)(hs:s.length<=1048576):Eh s=some ((),((dP s,()),(C2 s,()),())):=by
 have bo:=bl;unfold Eh dP C2;rw[jm s (by omega)];dsimp only[oB];cases hd:aH s with
 | false=>rfl
 | true=>
   have hp:aj (eH (ae s) 2) 1=decide (s.length % 2=1):=LA s.length;have ha:=(dN.1 hd).1;rw[hp];by_cases Kp:s.length<=38
   . rw[show aE 38 (ae s)=false from aF (by show ¬ (38:Int)<(s.length:Int);omega),show cl (ae s) 38=true from amk (by show(s.length:Int)<=38;omega)];by_cases yq:s.length % 2=1
     . have he:zU s=48::s:=if_pos yq;have hl:=YD (48::s) ((s.length+1) / 2) (by simp only[amw];omega) (by omega) (by rw[anc,ha];try rfl);rw[amk yq,he,show jx [48] s=true from qE (by show 1+s.length<=bQ;omega)];exact bn hl
     . have he:zU s=s:=if_neg yq;have hl:=YD s (s.length / 2) (by omega) (by omega) ha;rw[amF yq,he];exact bn hl
   . rw[show aE 38 (ae s)=true from aR (by show(38:Int)<(s.length:Int);omega),show cl (ae s) 38=false from amF (by show ¬ (s.length:Int)<=38;omega)];try rfl
theorem ab7:∀(c:Fin 256) (r:Fin 8),U3 .u8 (c.val:Int) (rJ .u8 128 (r.val:Int))=((c.val ||| 128 >>> r.val:Nat):Int)/\c.val ||| 128 >>> r.val<256:=by decide +kernel
def O8(o:aJ):Prop:=o.length=8/\∀ x∈o,0<=x.1/\x.1<=255
theorem KW:O8 (List.replicate 8 (0,())):=⟨anr,fun x hx=>by rw[aoO hx];decide⟩
theorem po{o:aJ}(h:O8 o){k:Nat}(hk:k<64):O8 (nq o k)/\nq o k=cZ o ((k / 8:Nat):Int) (U3 .u8 (gt d5 o ((k / 8:Nat):Int)).1 (rJ .u8 128 ((k % 8:Nat):Int)),()):=by
 obtain⟨x,hx⟩:∃ x,o[k / 8]? = some x:=⟨_,amm (by rw[h.1];omega)⟩;have hb:=h.2 x (amo hx);have e:=ab7 ⟨x.1.toNat,by omega⟩ ⟨k % 8,by omega⟩;dsimp only at e;have hd:o.getD (k / 8) (0,())=x:=by rw[ank,hx];try rfl
 have hg:gt d5 o ((k / 8:Nat):Int)=x:=aM _ hx;have hi:((x.1.toNat:Nat):Int)=x.1:=by omega
 rw[hi]at e;refine⟨⟨by unfold nq;rw[ans];exact h.1,fun y hy=>?_⟩,?_⟩
 . unfold nq at hy;rcases aoL hy with hy | hy
   . exact h.2 y hy
   . rw[hy,hd];show(0:Int)<=((x.1.toNat ||| 128 >>> (k % 8):Nat):Int)/\((x.1.toNat ||| 128 >>> (k % 8):Nat):Int)<=255;have:=e.2;omega
 . rw[hg,e.1];unfold nq;rw[hd];try rfl
theorem DZ(l:List gA)(hl:l.length<=2097152):V0 l=zR (eM l):=by
 have bo:=bl;unfold V0;have h:=aO (step:=ep BB) l (fun i (o:aJ)=>(o,l,ae l,((i:Nat):Int),())) (fun _ k o=>Sum.inl (cond (de k.1 1 64) (nq o (k.1.toNat-1)) o)) (fun o=> .inl (o,l,ae l,ae l,())) (fun _ o=>O8 o) (a0:=List.replicate 8 (0,())) KW (fun i k o hk ho=>by
  have aV:=ah hk;show BB o l (ae l) (i:Int)=_;unfold BB;rw[aL hk,aD hk,aM _ hk,oP];dsimp only[oB,oT];rw[aU (by omega)];cases hm:de k.1 1 64 with
  | false=>rfl
  | true=>
    have hr:=bB.1 hm;obtain⟨j,hj,UP⟩:∃ j:Nat,k.1=((j+1:Nat):Int)/\j<64:=⟨k.1.toNat-1,by omega,by omega⟩;obtain⟨e1,e2,e3,_⟩:=Vz UP;have hb:=(po ho UP).2;dsimp only[oT];rw[hj,e1,e2,e3,ig (by rw[ho.1];omega),show cl 0 ((j % 8:Nat):Int)=true from amk (by omega)];show(some (.inl (cZ o ((j / 8:Nat):Int) (U3 .u8 (gt d5 o ((j / 8:Nat):Int)).1 (rJ .u8 128 ((j % 8:Nat):Int)),()),l,ae l,((i+1:Nat):Int),())):Option (Sum (aJ×List gA×Int×Int×Unit) (Sum (aJ×List gA×Int×Int×Unit) Unit)))=some (.inl (nq o j,l,ae l,((i+1:Nat):Int),()));rw[<- hb]) (fun i k o o' hk ho hf=>by
  simp only[amx]at hf;rw[<- hf];cases hm:de k.1 1 64 with
  | false=>exact ho
  | true=>
    have hr:=bB.1 hm;exact(po ho (k:=k.1.toNat-1) (by omega)).1) (fun o ho=>by
  show BB o l (ae l) (l.length:Int)=_;unfold BB;rw[aA rfl];try rfl)
 rw[bS]at h;exact bn h
theorem Ej(l:List gA)(hl:l.length<=2097152):FC l=zR (eM l):=by
 have bo:=bl;unfold FC;have h:=aO (step:=ep sX) l (fun i (o:aJ)=>(o,l,ae l,((i:Nat):Int),())) (fun _ k o=>Sum.inl (cond (de k.1 1 64) (nq o (k.1.toNat-1)) o)) (fun o=> .inl (o,l,ae l,ae l,())) (fun _ o=>O8 o) (a0:=List.replicate 8 (0,())) KW (fun i k o hk ho=>by
  have aV:=ah hk;show sX o l (ae l) (i:Int)=_;unfold sX;rw[aL hk,aD hk,aM _ hk,lv];dsimp only[oB,oT];rw[aU (by omega)];cases hm:de k.1 1 64 with
  | false=>rfl
  | true=>
    have hr:=bB.1 hm;obtain⟨j,hj,UP⟩:∃ j:Nat,k.1=((j+1:Nat):Int)/\j<64:=⟨k.1.toNat-1,by omega,by omega⟩;obtain⟨e1,e2,e3,_⟩:=Vz UP;have hb:=(po ho UP).2;dsimp only[oT];rw[hj,e1,e2,e3,ig (by rw[ho.1];omega),show cl 0 ((j % 8:Nat):Int)=true from amk (by omega)];show(some (.inl (cZ o ((j / 8:Nat):Int) (U3 .u8 (gt d5 o ((j / 8:Nat):Int)).1 (rJ .u8 128 ((j % 8:Nat):Int)),()),l,ae l,((i+1:Nat):Int),())):Option (Sum (aJ×List gA×Int×Int×Unit) (Sum (aJ×List gA×Int×Int×Unit) Unit)))=some (.inl (nq o j,l,ae l,((i+1:Nat):Int),()));rw[<- hb]) (fun i k o o' hk ho hf=>by
  simp only[amx]at hf;rw[<- hf];cases hm:de k.1 1 64 with
  | false=>exact ho
  | true=>
    have hr:=bB.1 hm;exact(po ho (k:=k.1.toNat-1) (by omega)).1) (fun o ho=>by
  show sX o l (ae l) (l.length:Int)=_;unfold sX;rw[aA rfl];try rfl)
 rw[bS]at h;exact bn h
theorem I3(n d:Int)(hd:d=2∨d=3):I8 n d=some ((),((dP (eu n d),()),(C2 (eu n d),()),())):=by have hw:=jR n d;unfold I8;rw[IJ];dsimp only[oB];rw[DO _ (by omega)];rcases hd with rfl | rfl <;> rfl
theorem I2(n d:Int)(hd:d=2∨d=3)(hn : -9223372036854775808<=n/\n<=9223372036854775807):FI n d=some ((),((dP (eu n d),()),(C2 (eu n d),()),())):=by have hw:=jR n d;unfold FI;rw[lv,IE n d hn];dsimp only[oB];rw[ES _ (by omega)];rcases hd with rfl | rfl <;> rfl
theorem E6{s:S8}(h:s.length<=1048576) : -9223372036854775808<=ae s/\ae s<=9223372036854775807:=by unfold ae;omega
theorem acf(no:Int)(s:S8)(hs:s.length<=1048576):g87 no s=some ((),((wI no s,()),(dO no s,()),())):=by
 have bo:=bl;have hb:=gI s;have ho:=Eo s;have h2:=gI (eu (ae s) 2);have h3:=gI (eu (ae s) 3);have w2:=rG (n:=ae s) (w:=2) (k:=2) rfl;have w3:=rG (n:=ae s) (w:=3) (k:=3) rfl;unfold g87 wI;rw[AR no s (by omega)];dsimp only[oB];cases hf:dO no s with
 | false=>rfl
 | true=>
   rw[wS];dsimp only[oB];obtain⟨n,hn,hk⟩:=kinds no;have f0:bk 1 [] (dP s)=true:=mU (by show 0+_<=bQ;omega);have f1:bk 1 [] (bytesOf s)=true:=mU (a:=[]) (b:=UQ s) (by show 0+_<=bQ;omega);have f2:bk 1 (dP (eu (ae s) 2)) (dP s)=true:=mU (by omega);have f3:bk 1 (dP (eu (ae s) 2)) (bytesOf s)=true:=mU (b:=UQ s) (by omega);have f4:bk 1 (dP (eu (ae s) 3)) (bytesOf s)=true:=mU (b:=UQ s) (by omega);unfold Qx Oa;rcases hk with ⟨e,_⟩ | ⟨e,_⟩ | ⟨e,_⟩ | ⟨e,_⟩ | ⟨e,_⟩ | ⟨e,_⟩ <;> rw[e]
   . unfold dO at hf;rw[e]at hf;cases hf
   . show Option.bind (UU s) (fun y=>cond (bk 1 [] y.2.1.1) (some ((),(((fE [] y.2.1.1),()),(true,()),()))) none)=_;rw[DO s hs];dsimp only[oB];rw[f0];try rfl
   . show cond (bk 1 [] (bytesOf s)) (some ((),(((fE [] (bytesOf s)),()),(true,()),()))) none=_;rw[f1];try rfl
   . show Option.bind (I8 (ae s) 2) (fun y5=>Option.bind (UU s) (fun y=>cond (bk 1 y5.2.1.1 y.2.1.1) (some ((),(((fE y5.2.1.1 y.2.1.1),()),(true,()),()))) none))=_;rw[I3 _ _ (.inl rfl),DO s hs];dsimp only[oB];rw[f2];try rfl
   . show Option.bind (I8 (ae s) 2) (fun y5=>cond (bk 1 y5.2.1.1 (bytesOf s)) (some ((),(((fE y5.2.1.1 (bytesOf s)),()),(true,()),()))) none)=_;rw[I3 _ _ (.inl rfl)];dsimp only[oB];rw[f3];try rfl
   . show Option.bind (I8 (ae s) 3) (fun y5=>cond (bk 1 y5.2.1.1 (bytesOf s)) (some ((),(((fE y5.2.1.1 (bytesOf s)),()),(true,()),()))) none)=_;rw[I3 _ _ (.inr rfl)];dsimp only[oB];rw[f4];try rfl
theorem abD(no:Int):He no=zR (Oa no):=by unfold He Oa;rw[tr];dsimp only[oB];cases aj (bE no) 5 <;> rfl
theorem abq(no:Int)(s:S8)(hs:s.length<=1048576):Qu no s=some ((),((wI no s,()),(dO no s,()),())):=by
 have bo:=bl;have hb:=gI s;have ho:=Eo s;have h2:=gI (eu (ae s) 2);have h3:=gI (eu (ae s) 3);have w2:=rG (n:=ae s) (w:=2) (k:=2) rfl;have w3:=rG (n:=ae s) (w:=3) (k:=3) rfl;unfold Qu wI;rw[HL no s (by omega)];dsimp only[oB];cases hf:dO no s with
 | false=>rfl
 | true=>
   rw[tr,abD];dsimp only[oB];obtain⟨n,hn,hk⟩:=kinds no;have f2:bk 1 (dP (eu (ae s) 2)) (dP s)=true:=mU (by omega);have f3:bk 1 (dP (eu (ae s) 2)) (bytesOf s)=true:=mU (b:=UQ s) (by omega);have f4:bk 1 (dP (eu (ae s) 3)) (bytesOf s)=true:=mU (b:=UQ s) (by omega);unfold Qx Oa;rcases hk with ⟨e,_⟩ | ⟨e,_⟩ | ⟨e,_⟩ | ⟨e,_⟩ | ⟨e,_⟩ | ⟨e,_⟩ <;> rw[e]
   . unfold dO at hf;rw[e]at hf;cases hf
   . show Option.bind (Eh s) (fun y=>some ((),(y.2.1,(true,()),())))=_;rw[ES s hs];try rfl
   . rfl
   . show Option.bind (Eh s) (fun y=>Option.bind (FI (ae s) 2) (fun y5=>cond (bk 1 y5.2.1.1 y.2.1.1) (some ((),(((fE y5.2.1.1 y.2.1.1),()),(true,()),()))) none))=_;rw[I2 _ _ (.inl rfl) (E6 hs),ES s hs];dsimp only[oB];rw[f2];try rfl
   . show Option.bind (FI (ae s) 2) (fun y5=>cond (bk 1 y5.2.1.1 (bytesOf s)) (some ((),(((fE y5.2.1.1 (bytesOf s)),()),(true,()),()))) none)=_;rw[I2 _ _ (.inl rfl) (E6 hs)];dsimp only[oB];rw[f3];try rfl
   . show Option.bind (FI (ae s) 3) (fun y5=>cond (bk 1 y5.2.1.1 (bytesOf s)) (some ((),(((fE y5.2.1.1 (bytesOf s)),()),(true,()),()))) none)=_;rw[I2 _ _ (.inr rfl) (E6 hs)];dsimp only[oB];rw[f4];try rfl
theorem adb(no:Int):uX no<=62:=by
 unfold uX;obtain⟨n,hn,hk⟩:=kinds no;rw[hn];rcases hk with ⟨e,h⟩ | ⟨e,h⟩ | ⟨e,h⟩ | ⟨e,h⟩ | ⟨e,h⟩ | ⟨e,h⟩ <;> rw[e]
 . exact oR 62
 . show((n:Int).toNat+1) / 2<=62;omega
 . show(n:Int).toNat<=62;omega
 . show 11<=62;omega
 . show 21<=62;omega
 . exact oR 62
def BK(f:eo)(a:aJ×aJ):aJ×aJ:=cond (aE 64 f.1) (a.1,a.2++[(bf .i64 f.1 64,())]) (a.1++[(f.1,())],a.2)
theorem zd:∀(l:List eo) (a:aJ×aJ),l.foldl (fun a f=>BK f a) a=(a.1++lr l,a.2++vM l)
 | [],a=>by simp[lr,vM]
 | f::l,a=>by rw[anb,zd l];unfold BK lr vM;cases h:aE 64 f.1 <;> simp[h]
theorem Sk(l:List eo):(lr l).length<=l.length:=by unfold lr;rw[anO];exact am8 _ _
theorem Sj(l:List eo):(vM l).length<=l.length:=by unfold vM;rw[anO];exact am8 _ _
theorem Lt(f:eo)(a:aJ×aJ):(BK f a).1.length<=a.1.length+1/\(BK f a).2.length<=a.2.length+1:=by
 unfold BK;cases aE 64 f.1
 . exact⟨by show(a.1++[(f.1,())]).length<=_;rw[amj];exact oR _,aog _⟩
 . exact⟨aog _,by show(a.2++[(bf .i64 f.1 64,())]).length<=_;rw[amj];exact oR _⟩
theorem GJ(f:eo)(l:List eo):gj (f::l)=wI f.1 f.2.1++gj l:=rfl
theorem wF:∀(l:List eo) (o:aJ),l.foldl (fun o f=>o++wI f.1 f.2.1) o=o++gj l
 | [],o=>by simp[gj]
 | f::l,o=>by rw[anb,wF l,GJ,amH]
theorem vq(f:eo):(wI f.1 f.2.1).length<=62:=amp (FL _ _) (adb _)
theorem VY(l:List eo):(gj l).length<=62 * l.length:=by
 induction l with
 | nil=>exact oR _
 | cons f l ih=>have:=vq f;rw[GJ,amj,amw];omega
theorem Cz{o:aJ}{x:Int×Unit}(h:o.length<=1048576):bk 8 o [x]=true:=amq (by show(o.length+1) * 8<=140737488355328;omega)
theorem ahf(m:bw)(hb:iJ m):Z6 [] [] m.2.1 (ae m.2.1) 0 m=some (.inl (lr m.2.1,vM m.2.1,m.2.1,ae m.2.1,ae m.2.1,m,())):=by
 have bo:=bl;have h:=aO (step:=Fo Ah) m.2.1 (fun i (a:aJ×aJ)=>(a.1,a.2,m.2.1,ae m.2.1,((i:Nat):Int),m,())) (fun _ f a=>Sum.inl (BK f a)) (fun a=> .inl (a.1,a.2,m.2.1,ae m.2.1,ae m.2.1,m,())) (fun i a=>a.1.length<=i/\a.2.length<=i) (a0:=([],[])) ⟨oR _,oR _⟩ (fun i f a hf ha=>by
  have aV:=ah hf;have hl:=hb.2.1;show Ah a.1 a.2 m.2.1 (ae m.2.1) (i:Int) m=_;unfold Ah BK;rw[aL hf,aD hf,aM _ hf];dsimp only[oT];rw[aU (by omega),Cz (o:=a.1) (by omega),Cz (o:=a.2) (by omega)];cases aE 64 f.1 <;> rfl) (fun i f a a' hf ha he=>by
  simp only[amx]at he;have:=Lt f a;rw[<- he];omega) (fun a ha=>by
  show Ah a.1 a.2 m.2.1 (ae m.2.1) (m.2.1.length:Int) m=_;unfold Ah;rw[aA rfl];try rfl)
 rw[bS,zd]at h;exact h
theorem YI(l:List eo)(o:aJ)(hl:l.length<=1048576)(hs:∀ f∈l,f.2.1.length<=1048576)(ho:o.length<=1000):zB o l (ae l) 0=some (.inl (o++gj l,l,ae l,ae l,())):=by
 have bo:=bl;have h:=aO (step:=ep zu) l (fun i (a:aJ)=>(a,l,ae l,((i:Nat):Int),())) (fun _ f a=>Sum.inl (a++wI f.1 f.2.1)) (fun a=> .inl (a,l,ae l,ae l,())) (fun i a=>a.length<=1000+62 * i) (a0:=o) ho (fun i f a hf ha=>by
  have aV:=ah hf;have hp:=vq f;show zu a l (ae l) (i:Int)=_;unfold zu;rw[aL hf,aD hf,aM _ hf];dsimp only[oT];rw[acf _ _ (hs f (amo hf)),aU (by omega)];dsimp only[oB];rw[mU (by omega)];try rfl) (fun i f a a' hf ha he=>by
  simp only[amx]at he;have hp:=vq f;rw[<- he,amj];omega) (fun a ha=>by
  show zu a l (ae l) (l.length:Int)=_;unfold zu;rw[aA rfl];try rfl)
 rw[bS,wF]at h;exact h
theorem Mb{m:bw}(h:gk m=true):m.1.length=4:=by
 unfold gk at h;cases hd:aH m.1 with
 | false=>rw[hd]at h;cases h
 | true=>
   rw[hd]at h;cases he:aj (ae m.1) 4 with
   | false=>rw[he]at h;cases h
   | true=>have:=bt.1 he;unfold ae at this;omega
theorem aaF(m:bw)(hb:iJ m):g48 m=some ((),((oC m,()),(gk m,()),())):=by
 have bo:=bl;unfold g48 oC;rw[Ld m hb];dsimp only[oB];cases hm:gk m with
 | false=>rfl
 | true=>
   have h4:=Mb hm;have Pe:=Sk m.2.1;have BM:=Sj m.2.1;have yQ:=gI m.1;have hl:=hb.2.1;refine(bn (ahf m hb)).trans ?_;show Option.bind (UU m.1) _=_;rw[DO m.1 hb.1];dsimp only[oB];unfold B9;cases hh:aE 0 (ae (vM m.2.1))with
   | true=>
     show cond (bk 8 (lr m.2.1) [(1,())]) (Option.bind (V0 (lr m.2.1++[(1,())])) _) none=_;have e1:(lr m.2.1++[((1:Int),())]).length=(lr m.2.1).length+1:=by rw[amj];try rfl
     rw[Cz (by omega)];dsimp only[oT];rw[DZ _ (by omega)];dsimp only[oB];have b1:=j9 (lr m.2.1++[((1:Int),())]);have b2:=j9 (vM m.2.1);rw[mU (by omega),DZ _ (by omega)];dsimp only[oB,oT];show cond (bk 1 (dP m.1++eM (lr m.2.1++[(1,())])) (eM (vM m.2.1))) (Option.bind (zB ((dP m.1++eM (lr m.2.1++[(1,())]))++eM (vM m.2.1)) m.2.1 (ae m.2.1) 0) _) none=_;have e2:(dP m.1++eM (lr m.2.1++[((1:Int),())])).length=(dP m.1).length+8:=by rw[amj,b1]
     have e3:((dP m.1++eM (lr m.2.1++[((1:Int),())]))++eM (vM m.2.1)).length=(dP m.1).length+16:=by rw[amj,e2,b2]
     rw[mU (by omega),YI _ _ hl hb.2.2 (by omega)];show some ((),((((dP m.1++eM (lr m.2.1++[(1,())]))++eM (vM m.2.1))++gj m.2.1,()),(true,()),()))=some ((),((dP m.1++((eM (lr m.2.1++[(1,())])++eM (vM m.2.1))++gj m.2.1),()),(true,()),()));simp only[amH]
   | false=>
     show Option.bind (V0 (lr m.2.1)) _=_;rw[DZ _ (by omega)];dsimp only[oB];have b1:=j9 (lr m.2.1);rw[mU (by omega)];dsimp only[oT,oF];have e2:(dP m.1++eM (lr m.2.1)).length=(dP m.1).length+8:=by rw[amj,b1]
     show Option.bind (zB (dP m.1++eM (lr m.2.1)) m.2.1 (ae m.2.1) 0) _=_;rw[YI _ _ hl hb.2.2 (by omega)];show some ((),(((dP m.1++eM (lr m.2.1))++gj m.2.1,()),(true,()),()))=some ((),((dP m.1++(eM (lr m.2.1)++gj m.2.1),()),(true,()),()));simp only[amH]
def XU(f:eo)(a:(aJ×aJ)×aJ):(aJ×aJ)×aJ:=(BK f a.1,a.2++wI f.1 f.2.1)
theorem Mv:∀(l:List eo) (a:(aJ×aJ)×aJ),l.foldl (fun a f=>XU f a) a=((a.1.1++lr l,a.1.2++vM l),a.2++gj l):=fun l a=>by
 rw[<- zd l a.1,<- wF l a.2];induction l generalizing a with
 | nil=>rfl
 | cons f l ih=>rw[anb,ih (XU f a)];try rfl
theorem afP(m:bw)(hb:iJ m):aar [] [] [] m.2.1 (ae m.2.1) 0 m=some (.inl (lr m.2.1,vM m.2.1,gj m.2.1,m.2.1,ae m.2.1,ae m.2.1,m,())):=by
 have bo:=bl;have h:=aO (step:=Az Au) m.2.1 (fun i (a:(aJ×aJ)×aJ)=>(a.1.1,a.1.2,a.2,m.2.1,ae m.2.1,((i:Nat):Int),m,())) (fun _ f a=>Sum.inl (XU f a)) (fun a=> .inl (a.1.1,a.1.2,a.2,m.2.1,ae m.2.1,ae m.2.1,m,())) (fun i a=>(a.1.1.length<=i/\a.1.2.length<=i)/\a.2.length<=62 * i) (a0:=(([],[]),[])) ⟨⟨oR _,oR _⟩,oR _⟩ (fun i f a hf ha=>by
  have aV:=ah hf;have hl:=hb.2.1;have hp:=vq f;show Au a.1.1 a.1.2 a.2 m.2.1 (ae m.2.1) (i:Int) m=_;unfold Au XU BK;rw[aL hf,aD hf,aM _ hf];dsimp only[oT];rw[aU (by omega),Cz (o:=a.1.1) (by omega),Cz (o:=a.1.2) (by omega),abq _ _ (hb.2.2 f (amo hf))];dsimp only[oB];rw[mU (by omega)];cases aE 64 f.1 <;> rfl) (fun i f a a' hf ha he=>by
  simp only[amx]at he;have:=Lt f a.1;have hp:=vq f;rw[<- he];refine⟨⟨?_,?_⟩,?_⟩
  . show(BK f a.1).1.length<=_;omega
  . show(BK f a.1).2.length<=_;omega
  . show(a.2++wI f.1 f.2.1).length<=_;rw[amj];omega) (fun a ha=>by
  show Au a.1.1 a.1.2 a.2 m.2.1 (ae m.2.1) (m.2.1.length:Int) m=_;unfold Au;rw[aA rfl];try rfl)
 rw[bS,Mv]at h;exact h
theorem Z5(m:bw)(hb:iJ m):g62 m=some ((),((oC m,()),(gk m,()),())):=by
 have bo:=bl;unfold g62 oC;rw[Gg m hb];dsimp only[oB];cases hm:gk m with
 | false=>rfl
 | true=>
   have h4:=Mb hm;have Pe:=Sk m.2.1;have BM:=Sj m.2.1;have yQ:=gI m.1;have hl:=hb.2.1;have Pf:=VY m.2.1;refine(bn (afP m hb)).trans ?_;show Option.bind (Eh m.1) _=_;rw[ES m.1 hb.1];dsimp only[oB];unfold B9;cases hh:aE 0 (ae (vM m.2.1))with
   | true=>
     show cond (bk 8 (lr m.2.1) [(1,())]) (Option.bind (FC (lr m.2.1++[(1,())])) _) none=_;have e1:(lr m.2.1++[((1:Int),())]).length=(lr m.2.1).length+1:=by rw[amj];try rfl
     rw[Cz (by omega)];dsimp only[oT];rw[Ej _ (by omega)];dsimp only[oB];have b1:=j9 (lr m.2.1++[((1:Int),())]);have b2:=j9 (vM m.2.1);rw[mU (by omega),Ej _ (by omega)];dsimp only[oB,oT];show cond (bk 1 (dP m.1++eM (lr m.2.1++[(1,())])) (eM (vM m.2.1))) (cond (bk 1 ((dP m.1++eM (lr m.2.1++[(1,())]))++eM (vM m.2.1)) (gj m.2.1)) (some ((),((((dP m.1++eM (lr m.2.1++[(1,())]))++eM (vM m.2.1))++gj m.2.1,()),(true,()),()))) none) none=_;have e2:(dP m.1++eM (lr m.2.1++[((1:Int),())])).length=(dP m.1).length+8:=by rw[amj,b1]
     have e3:((dP m.1++eM (lr m.2.1++[((1:Int),())]))++eM (vM m.2.1)).length=(dP m.1).length+16:=by rw[amj,e2,b2]
     rw[mU (by omega),mU (by omega)];show some ((),((((dP m.1++eM (lr m.2.1++[(1,())]))++eM (vM m.2.1))++gj m.2.1,()),(true,()),()))=some ((),((dP m.1++((eM (lr m.2.1++[(1,())])++eM (vM m.2.1))++gj m.2.1),()),(true,()),()));simp only[amH]
   | false=>
     show Option.bind (FC (lr m.2.1)) _=_;rw[Ej _ (by omega)];dsimp only[oB];have b1:=j9 (lr m.2.1);rw[mU (by omega)];dsimp only[oT,oF];have e2:(dP m.1++eM (lr m.2.1)).length=(dP m.1).length+8:=by rw[amj,b1]
     show cond (bk 1 (dP m.1++eM (lr m.2.1)) (gj m.2.1)) (some ((),(((dP m.1++eM (lr m.2.1))++gj m.2.1,()),(true,()),()))) none=_;rw[mU (by omega)];show some ((),(((dP m.1++eM (lr m.2.1))++gj m.2.1,()),(true,()),()))=some ((),((dP m.1++(eM (lr m.2.1)++gj m.2.1),()),(true,()),()));simp only[amH]
theorem akA:∀ k:Fin 10,eH ((k.val+48:Nat):Int) 2=(((k.val+48) % 2:Nat):Int)/\eH (bf .u8 ((k.val+48:Nat):Int) 48) 2=(((k.val+48) % 2:Nat):Int)/\ak .u8 ((k.val+48:Nat):Int) 1=((k.val+48+1:Nat):Int)/\dC .i32 (ak .u8 ((k.val+48:Nat):Int) 1)=((k.val+48+1:Nat):Int)/\L3 ((k.val+48+1:Nat):Int)=true:=by decide +kernel
theorem agR{c:UInt8}(h:fL c=true):eH (c.toNat:Int) 2=((c.toNat % 2:Nat):Int)/\eH (bf .u8 (c.toNat:Int) 48) 2=((c.toNat % 2:Nat):Int)/\ak .u8 (c.toNat:Int) 1=((c.toNat+1:Nat):Int)/\dC .i32 (ak .u8 (c.toNat:Int) 1)=((c.toNat+1:Nat):Int)/\L3 ((c.toNat+1:Nat):Int)=true:=by have h1:=dj.1 h;have:=akA ⟨c.toNat-48,by omega⟩;dsimp only at this;rw[show c.toNat-48+48=c.toNat by omega]at this;exact this
theorem aeA{s:S8}(h:aj (ae s) 4=true):∃ a b c d,s=[a,b,c,d]:=by
 have h:=bt.1 h;unfold ae at h
 match s,h with
 | [a,b,c,d],_=>exact⟨a,b,c,d,rfl⟩
 | [],h=>simp at h
 | [_],h=>simp at h
 | [_,_],h=>simp at h
 | [_,_,_],h=>simp at h
 | _::_::_::_::_::r,h=>simp only[amw]at h;omega
theorem P7{a b c d:UInt8}(hd:aH [a,b,c,d]=true):dJ [a,b,c,d]=cond (aj ((c.toNat % 2:Nat):Int) 1) [] [a,b,UInt8.ofNat (c.toNat+1),d]:=by show cond (aH [a,b,c,d]) (cond (aj ((c.toNat % 2:Nat):Int) 1) [] [a,b,UInt8.ofNat (c.toNat+1),d]) []=_;rw[hd];try rfl
theorem LU{s:S8}(h:cond (aH s) (aj (ae s) 4) false=false):dJ s=[]:=by
 unfold dJ;split
 . rename_i a b c d;cases hd:aH [a,b,c,d]with
   | false=>rfl
   | true=>rw[hd]at h;cases h
 . rfl
theorem J3(s:S8)(hs:s.length<=1048576):g46 s=zR (dJ s):=by
 have bo:=bl;cases hc:cond (aH s) (aj (ae s) 4) false with
 | false=>
   rw[LU hc];unfold g46;rw[gh s (by omega)];dsimp only[oB];cases hd:aH s with
   | false=>rfl
   | true=>rw[hd]at hc;rw[show aj (ae s) 4=false from hc];try rfl
 | true=>
   cases hd:aH s with
   | false=>rw[hd]at hc;cases hc
   | true=>rw[hd]at hc;obtain⟨a,b,c,d,rfl⟩:=aeA hc;obtain⟨e1,_,e3,_,_⟩:=agR (jO hd c (by simp));rw[P7 hd];unfold g46;rw[gh _ (by omega),hd];show cond (aj (eH (c.toNat:Int) 2) 1) _ (zR (([a,b]++strOf [(ak .u8 (c.toNat:Int) 1,())])++[d]))=_;rw[e1,e3];cases aj ((c.toNat % 2:Nat):Int) 1 <;> rfl
theorem Jv(s:S8)(hs:s.length<=1048576):g60 s=zR (dJ s):=by
 have bo:=bl;unfold g60;rw[De s 4 (by omega)];dsimp only[oB];cases hc:cond (aH s) (aj (ae s) 4) false with
 | false=>rw[LU hc];try rfl
 | true=>
   cases hd:aH s with
   | false=>rw[hd]at hc;cases hc
   | true=>rw[hd]at hc;obtain⟨a,b,c,d,rfl⟩:=aeA hc;obtain⟨_,e2,_,e4,e5⟩:=agR (jO hd c (by simp));rw[P7 hd];show cond (aj (eH (bf .u8 (c.toNat:Int) 48) 2) 1) _ (cond (L3 (dC .i32 (ak .u8 (c.toNat:Int) 1))) (zR (([a,b]++asc (dC .i32 (ak .u8 (c.toNat:Int) 1)))++[d])) none)=_;rw[e2,e4,e5];cases aj ((c.toNat % 2:Nat):Int) 1 <;> rfl
theorem G8(s:S8):(dJ s).length<=4:=by
 unfold dJ;split
 . rename_i a b c d;cases aH [a,b,c,d]with
   | false=>exact amv _
   | true=>
     cases aj ((c.toNat % 2:Nat):Int) 1 with
     | false=>exact oR 4
     | true=>exact amv _
 . exact amv _
theorem rsI{n:Int}(h:de n 0 10=true):n=0∨n=1∨n=2∨n=3∨n=4∨n=5∨n=6∨n=7∨n=8∨n=9∨n=10:=FB (bB.1 h)
theorem Rz(n:Int):g83 n=zR (yg n):=by
 unfold g83 abC yg;dsimp only[oB];rw[oP];dsimp only[oB];show cond (!de n 0 10) _ _=_;cases h:de n 0 10 with
 | false=>rfl
 | true=>rcases rsI h with rfl | rfl | rfl | rfl | rfl | rfl | rfl | rfl | rfl | rfl | rfl <;> rfl
theorem Py(n:Int):OE n=zR (yg n):=by
 unfold OE acX yg;rw[lv];dsimp only[oB];cases h:de n 0 10 with
 | false=>rfl
 | true=>rcases rsI h with rfl | rfl | rfl | rfl | rfl | rfl | rfl | rfl | rfl | rfl | rfl <;> rfl
theorem IK(n:Int):(yg n).length<=2:=by
 unfold yg;cases h:de n 0 10 with
 | false=>exact amv _
 | true=>rcases rsI h with rfl | rfl | rfl | rfl | rfl | rfl | rfl | rfl | rfl | rfl | rfl <;> decide
theorem IF(t:S8)(c:Int):iJ (dJ t,[(39,yg c,())],()):=by have h1:=G8 t;have h2:=IK c;refine⟨by show(dJ t).length<=_;omega,by show 1<=1048576;decide,fun f hf=>?_⟩;have hf:f∈[((39:Int),yg c,())]:=hf;rw[aom]at hf;rw[hf];show(yg c).length<=_;omega
theorem XD(t:S8)(c:Int)(ht:t.length<=1048576):g47 t c=some ((),((lx t c).1,((lx t c).2,()),())):=by unfold g47 lx;rw[J3 t ht,Rz];dsimp only[oB];rw[Ld _ (IF t c)];dsimp only[oB];cases gk (dJ t,[(39,yg c,())],()) <;> rfl
theorem XK(t:S8)(c:Int)(ht:t.length<=1048576):g61 t c=some ((),((lx t c).1,((lx t c).2,()),())):=by unfold g61 lx;rw[Jv t ht,Py];dsimp only[oB];rw[Gg _ (IF t c)];dsimp only[oB];cases gk (dJ t,[(39,yg c,())],()) <;> rfl
abbrev VU:=Option (Sum (Int×S8×Unit) (Sum (Int×S8×Unit) Unit))
theorem Tt(s:S8)(h:aE (ae s) 6=true):xj 38 s=some (.inl (38,s++[32],())):=by have bo:=bl;have hl:(s.length:Int)<6:=anf h;unfold xj;rw[AQ,wS];show cond (aE (ae s) 6) (cond (jx s [32]) (some (.inl (38,s++[32],()))) none) (some (.inr (.inl (38,s,()))):VU)=_;rw[h,qE (by show s.length+1<=bQ;omega)];try rfl
theorem z7:∀(d:Nat) (s:S8),(s.length+d=6∨(d=0/\6<=s.length))->TM 38 s=some (.inl (38,s++List.replicate d 32,()))
 | 0,s,h=>by refine dK _ ?_;show xj 38 s=_;unfold xj;rw[AQ];show cond (aE (ae s) 6) _ (some (.inr (.inl (38,s,()))):VU)=_;rw[aF (by unfold ae;omega)];show(some (.inr (.inl (38,s,()))):VU)=some (.inr (.inl (38,s++[],())));rw[amZ]
 | d+1,s,h=>by have ih:=z7 d (s++[32]) (by rw[amj,anY];omega);rw[amH]at ih;exact ez _ (x':=(38,s++[32],())) (Tt s (aR (by unfold ae;omega))) ih
theorem AT(s:S8):Ea 38 s=cond (dO 38 (s++List.replicate ((6:Int)-ae s).toNat 32)) (s++List.replicate ((6:Int)-ae s).toNat 32) []:=rfl
theorem Xp(s:S8)(hs:s.length<=1048576):Ww 38 s=zR (Ea 38 s):=by
 have bo:=bl;have h1:R4 38 s=some (.inl (38,s,())):=by refine dK _ ?_;show D4 38 s=_;unfold D4;rw[AQ,wS];show(cond (aE (ae s) 6) (some (.inr (.inl (38,s,())))) (some (.inr (.inl (38,s,())))):VU)=_;cases aE (ae s) 6 <;> rfl
 have h2:=z7 ((6:Int)-ae s).toNat s (by unfold ae;omega);rw[AT];have hl:(s++List.replicate ((6:Int)-ae s).toNat (32:UInt8)).length<=1048582:=by rw[amj,anr];unfold ae;omega
 unfold Ww;refine(bn h1).trans ((bn h2).trans ?_);show Option.bind (yh 38 (s++List.replicate ((6:Int)-ae s).toNat 32)) _=_;rw[AR _ _ (by omega)];dsimp only[oB];cases dO 38 (s++List.replicate ((6:Int)-ae s).toNat 32) <;> rfl
theorem Wf(s:S8)(hs:s.length<=1048576):VO 38 s=zR (Ea 38 s):=by
 have bo:=bl;rw[AT];have hl:(s++List.replicate ((6:Int)-ae s).toNat (32:UInt8)).length<=1048582:=by rw[amj,anr];unfold ae;omega
 unfold VO;rw[P0,tr];show Option.bind (IP [32] (Jd (bf .i64 6 (ae s)) 0)) _=_;have e:Jd (bf .i64 6 (ae s)) 0=(((6:Int)-ae s).toNat:Int):=by rw[bG (by unfold ae;omega) (by unfold ae;omega)];unfold Jd;split <;> omega
 rw[e];unfold IP ru;rw[show cl 0 (((6:Int)-ae s).toNat:Int)=true from amk (by omega),show Nat.ble (([32]:S8).length * ((((6:Int)-ae s).toNat:Int)).toNat) bQ=true from amq (by simp only[amw,am3];unfold ae;omega)];show cond (jx s (Lib.repeatL [32] ((6:Int)-ae s).toNat)) (Option.bind (sH 38 (s++Lib.repeatL [32] ((6:Int)-ae s).toNat)) _) none=_;rw[EH,qE (by rw[anr];unfold ae;omega)];dsimp only[oT];rw[HL _ _ (by omega)];dsimp only[oB];show cond (!dO 38 (s++List.replicate ((6:Int)-ae s).toNat 32)) (zR []) (zR (s++Lib.repeatL [32] ((6:Int)-ae s).toNat))=_;rw[EH];cases dO 38 (s++List.replicate ((6:Int)-ae s).toNat 32) <;> rfl
theorem Dk(s:S8):(Ea 38 s).length<=6:=by
 rw[AT];cases h:dO 38 (s++List.replicate ((6:Int)-ae s).toNat 32)with
 | false=>exact amv _
 | true=>
   have h:cond (dF (s++List.replicate ((6:Int)-ae s).toNat 32)) (aj (ae (s++List.replicate ((6:Int)-ae s).toNat 32)) 6) false=true:=h;cases hp:dF (s++List.replicate ((6:Int)-ae s).toNat 32)with
   | false=>rw[hp]at h;cases h
   | true=>rw[hp]at h;have:=bt.1 h;show(s++List.replicate ((6:Int)-ae s).toNat (32:UInt8)).length<=6;unfold ae at this;unfold ae;omega
def fw:List gA:=yl.map fun n=>(n,())
theorem RG{m:bw}{c:Int}{h t:S8}(hb:iJ m)(ht:t.length<=1048576){no:Int}{f:eo}(hf:mV m c h t no=some f):f.2.1.length<=1048576:=by
 have h1:=Dk h;have h2:=IK c;unfold mV Cg at hf;cases Kp:aj no 38 with
 | true=>
   rw[Kp]at hf;cases hc:cond (aj c 0) (!bF h []) false with
   | false=>rw[hc]at hf;cases hf
   | true=>rw[hc]at hf;cases hf;show(Ea 38 h).length<=_;omega
 | false=>
   cases UO:aj no 39 with
   | true=>rw[Kp,UO]at hf;cases hf;show(yg c).length<=_;omega
   | false=>
     cases Yv:aj no 54 with
     | true=>
       rw[Kp,UO,Yv]at hf;cases hc: !bF t []with
       | false=>rw[hc]at hf;cases hf
       | true=>rw[hc]at hf;cases hf;exact ht
     | false=>
       rw[Kp,UO,Yv]at hf;cases hm:jy m no with
       | none=>rw[hm]at hf;cases hf
       | some s=>rw[hm]at hf;cases hf;obtain⟨g,hg,_,e⟩:=yL hm;show s.length<=_;rw[<- e];exact hb.2.2 g hg
def UZ(m:bw)(c:Int)(h t:S8)(k:gA)(a:Bool×List eo):Bool×List eo:=match mV m c h t k.1 with | some f=>(a.1&&dO f.1 f.2.1,a.2++[f]) | none=>a
theorem F8(m:bw)(c:Int)(h t:S8):∀(l:List Int) (a:Bool×List eo),(l.map fun n=>((n,()):gA)).foldl (fun a k=>UZ m c h t k a) a=(a.1&&(l.filterMap (mV m c h t)).all fun f=>dO f.1 f.2.1,a.2++l.filterMap (mV m c h t))
 | [],a=>by simp
 | n::l,a=>by
   rw[amS,anb,F8 m c h t l];unfold UZ;cases hr:mV m c h t n with
   | none=>rw[aoP hr]
   | some f=>rw[aoQ hr];simp[Bool.and_assoc]
theorem Oc(m:bw)(c:Int)(h t mt:S8)(hb:iJ m)(hh:h.length<=1048576)(ht:t.length<=1048576)(i:Nat)(k:gA)(a:Bool×List eo)(hk:fw[i]? = some k)(ha:a.2.length<=i) :
 Ad c h t a.1 fw (ae fw) (i:Int) m ([],[],()) (mt,a.2,())=some (.inl (c,h,t,(UZ m c h t k a).1,fw,ae fw,((i+1:Nat):Int),m,([],[],()),(mt,(UZ m c h t k a).2,()),())):=by
 have bo:=bl;have hi:i<13:=ah hk;have iV:∀ x:eo,bk 24 a.2 [x]=true:=fun x=>amq (by show(a.2.length+1) * 24<=bQ;omega)
 have h1:=Dk h;have h2:=IK c;have Lf:=AR k.1 (Ea 38 h) (by omega);have q39:=AR k.1 (yg c) (by omega);have q54:=AR k.1 t (by omega);unfold Ad UZ mV Cg;rw[aL hk,aD hk,aM _ hk,xW m k.1 hb,Xp h hh,Rz,aU (by omega)];obtain⟨ok,l⟩:=a;dsimp only at iV ha ⊢;simp only[Lf,q39,q54,iV,oB,oT];cases Kp:aj k.1 38 with
 | true=>cases jy m k.1 <;> cases cond (aj c 0) (!bF h []) false <;> cases ok <;> rfl
 | false=>
   cases UO:aj k.1 39 with
   | true=>cases jy m k.1 <;> cases ok <;> rfl
   | false=>
     cases Yv:aj k.1 54 with
     | true=>cases jy m k.1 <;> cases !bF t [] <;> cases ok <;> rfl
     | false=>
       cases hm:jy m k.1 with
       | none=>rfl
       | some s=>
         obtain⟨g,hg,_,e⟩:=yL hm;have hs:=hb.2.2 g hg;rw[e]at hs;cases ok with
         | false=>rfl
         | true=>show Option.bind (yh k.1 s) _=_;rw[AR k.1 s (by omega)];try rfl
theorem acD(m:bw)(c:Int)(h t:S8)(k:gA)(a:Bool×List eo):(UZ m c h t k a).2.length<=a.2.length+1:=by
 unfold UZ;cases mV m c h t k.1 with
 | none=>exact aog _
 | some f=>show(a.2++[f]).length<=_;rw[amj];exact oR _
theorem NF(m:bw)(c:Int)(h t mt:S8)(hb:iJ m)(hh:h.length<=1048576)(ht:t.length<=1048576) :
 ZW c h t true fw (ae fw) 0 m ([],[],()) (mt,[],())=some (.inl (c,h,t,(jf m c h t).all (fun f=>dO f.1 f.2.1),fw,ae fw,ae fw,m,([],[],()),(mt,jf m c h t,()),())):=by
 have hl:=aO (step:=OK Ad) fw (fun i (a:Bool×List eo)=>(c,h,t,a.1,fw,ae fw,((i:Nat):Int),m,(([],[],()):bw),((mt,a.2,()):bw),())) (fun _ k a=>Sum.inl (UZ m c h t k a)) (fun a=> .inl (c,h,t,a.1,fw,ae fw,ae fw,m,([],[],()),(mt,a.2,()),())) (fun i a=>a.2.length<=i) (a0:=(true,[])) (oR _) (fun i k a hk ha=>Oc m c h t mt hb hh ht i k a hk ha) (fun i k a a' hk ha he=>by
  simp only[amx]at he;have:=acD m c h t k a;rw[<- he];omega) (fun a ha=>by
  show Ad c h t a.1 fw (ae fw) (fw.length:Int) m ([],[],()) (mt,a.2,())=_;unfold Ad;rw[aA rfl];try rfl)
 rw[bS]at hl;have e:=F8 m c h t yl (true,[]);rw[aoh,an5]at e;refine hl.trans ?_;show some (Sum.inl (c,h,t,((yl.map fun n=>((n,()):gA)).foldl (fun a k=>UZ m c h t k a) (true,[])).1,fw,ae fw,ae fw,m,([],[],()),(mt,((yl.map fun n=>((n,()):gA)).foldl (fun a k=>UZ m c h t k a) (true,[])).2,()),()))=_;rw[e];try rfl
theorem Xo(m:bw)(c:Int)(h t:S8)(hb:iJ m)(hh:h.length<=1048576)(ht:t.length<=1048576):g96 m c h t=some ((),((jK m c h t).1,((jK m c h t).2,()),())):=by
 unfold g96 jK;rw[J3 _ hb.1,Ld m hb];dsimp only[oB];cases gk m with
 | false=>rfl
 | true=>
   cases bF (dJ m.1) []with
   | true=>rfl
   | false=>
     dsimp only[oT,oF,oN];rw[Rz];dsimp only[oB];cases bF (yg c) []with
     | true=>rfl
     | false=>refine(bn (NF m c h t (dJ m.1) hb hh ht)).trans ?_;dsimp only[oB,oL];cases(jf m c h t).all fun f=>dO f.1 f.2.1 <;> rfl
theorem M7(m:bw)(c:Int)(h t mt:S8)(hb:iJ m)(hh:h.length<=1048576)(ht:t.length<=1048576)(i:Nat)(k:gA)(a:List eo)(hk:fw[i]? = some k)(ha:a.length<=i) :
 se c h t () fw (ae fw) (i:Int) m ([],[],()) (mt,a,())=some (.inl (c,h,t,(),fw,ae fw,((i+1:Nat):Int),m,([],[],()),(mt,(match mV m c h t k.1 with | some f=>a++[f] | none=>a),()),())):=by
 have bo:=bl;have hi:i<13:=ah hk;have iV:∀ x:eo,bk 24 a [x]=true:=fun x=>amq (by show(a.length+1) * 24<=bQ;omega)
 have xu:∀(no:Int) (s:S8),Gd no s (mt,a,())=some (((mt,a++[(no,s,())],()),()),()):=fun no s=>by unfold Gd;dsimp only;rw[iV];try rfl
 unfold se mV Cg;rw[aL hk,aD hk,aM _ hk];dsimp only[oT];rw[Ps m k.1 hb,Wf h hh,Py,aU (by omega)];dsimp only[oB];rw[xu,xu,xu];cases Kp:aj k.1 38 with
 | true=>rw[bt.1 Kp];cases jy m 38 <;> cases cond (aj c 0) (!bF h []) false <;> rfl
 | false=>
   cases UO:aj k.1 39 with
   | true=>rw[bt.1 UO];cases jy m 39 <;> rfl
   | false=>
     cases Yv:aj k.1 54 with
     | true=>rw[bt.1 Yv];cases jy m 54 <;> cases !bF t [] <;> rfl
     | false=>
       cases hm:jy m k.1 with
       | none=>rfl
       | some s=>show Option.bind (Gd k.1 s (mt,a,())) _=_;rw[xu];try rfl
def rpI(m:bw)(c:Int)(h t:S8)(k:gA)(a:List eo):List eo:=match mV m c h t k.1 with | some f=>a++[f] | none=>a
theorem Hm(m:bw)(c:Int)(h t:S8):∀(l:List Int) (a:List eo),(l.map fun n=>((n,()):gA)).foldl (fun a k=>rpI m c h t k a) a=a++l.filterMap (mV m c h t)
 | [],a=>by simp
 | n::l,a=>by
   rw[amS,anb,Hm m c h t l];unfold rpI;cases hr:mV m c h t n with
   | none=>rw[aoP hr]
   | some f=>rw[aoQ hr];simp
theorem M4(m:bw)(c:Int)(h t mt:S8)(hb:iJ m)(hh:h.length<=1048576)(ht:t.length<=1048576) :
 Td c h t () fw (ae fw) 0 m ([],[],()) (mt,[],())=some (.inl (c,h,t,(),fw,ae fw,ae fw,m,([],[],()),(mt,jf m c h t,()),())):=by
 have hl:=aO (step:=OK se) fw (fun i (a:List eo)=>(c,h,t,(),fw,ae fw,((i:Nat):Int),m,(([],[],()):bw),((mt,a,()):bw),())) (fun _ k a=>Sum.inl (rpI m c h t k a)) (fun a=> .inl (c,h,t,(),fw,ae fw,ae fw,m,([],[],()),(mt,a,()),())) (fun i a=>a.length<=i) (a0:=[]) (oR _) (fun i k a hk ha=>M7 m c h t mt hb hh ht i k a hk ha) (fun i k a a' hk ha he=>by
  simp only[amx]at he;rw[<- he];unfold rpI;cases mV m c h t k.1 with
  | none=>show a.length<=_;omega
  | some f=>show(a++[f]).length<=_;rw[amj];show a.length+1<=_;omega) (fun a ha=>by
  show se c h t () fw (ae fw) (fw.length:Int) m ([],[],()) (mt,a,())=_;unfold se;rw[aA rfl];try rfl)
 rw[bS]at hl;have e:=Hm m c h t yl [];rw[an5]at e;refine hl.trans ?_;show some (Sum.inl (c,h,t,(),fw,ae fw,ae fw,m,([],[],()),(mt,(yl.map fun n=>((n,()):gA)).foldl (fun a k=>rpI m c h t k a) [],()),()))=_;rw[e];try rfl
theorem Oe(m:bw)(c:Int)(h t:S8):(jf m c h t).length<=13:=List.length_filterMap_le _ yl
theorem aaa{m:bw}{c:Int}{h t:S8}(hb:iJ m)(ht:t.length<=1048576):iJ (dJ m.1,jf m c h t,()):=by have h1:=G8 m.1;have h2:=Oe m c h t;refine⟨by show(dJ m.1).length<=_;omega,by show(jf m c h t).length<=_;omega,fun f hf=>?_⟩;obtain⟨no,_,hf⟩:=List.mem_filterMap.1 hf;exact RG hb ht hf
theorem Wc(m:bw)(c:Int)(h t:S8)(hb:iJ m)(hh:h.length<=1048576)(ht:t.length<=1048576):Wu m c h t=some ((),((jK m c h t).1,((jK m c h t).2,()),())):=by
 unfold Wu jK;rw[Jv _ hb.1,Gg m hb];dsimp only[oB];cases gk m with
 | false=>rfl
 | true=>
   cases he:bF (dJ m.1) []with
   | true=>rfl
   | false=>
     dsimp only[oT,oF,oN];rw[Py];dsimp only[oB];cases bF (yg c) []with
     | true=>rfl
     | false=>refine(bn (M4 m c h t (dJ m.1) hb hh ht)).trans ?_;dsimp only[oB,oL];rw[Gg _ (aaa hb ht),Hn (vA m c h t) (Dj he)];dsimp only[oB];cases(jf m c h t).all fun f=>dO f.1 f.2.1 <;> rfl
theorem FN{m:bw}{c:Int}{h t:S8}(hb:iJ m)(ht:t.length<=1048576):iJ (jK m c h t).1:=by
 have h0:iJ (([],[],()):bw):=⟨amv _,amv _,fun f hf=>by simp at hf⟩;unfold jK;cases cond (gk m) (cond (bF (dJ m.1) []) false (!bF (yg c) [])) false with
 | false=>exact h0
 | true=>
   cases(jf m c h t).all fun f=>dO f.1 f.2.1 with
   | false=>exact h0
   | true=>exact aaa hb ht
theorem DM(m:bw)(c:Int)(h t:S8)(hb:iJ m)(hh:h.length<=1048576)(ht:t.length<=1048576):YC m c h t=zR (uo m c h t):=by unfold YC uo;rw[Xo m c h t hb hh ht];dsimp only[oB];rw[aaF _ (FN hb ht)];try rfl
theorem Eb(m:bw)(c:Int)(h t:S8)(hb:iJ m)(hh:h.length<=1048576)(ht:t.length<=1048576):YY m c h t=zR (uo m c h t):=by unfold YY uo;rw[Wc m c h t hb hh ht];dsimp only[oB];rw[Z5 _ (FN hb ht)];try rfl
theorem zZ{α:Type}(p:α->Bool):∀(xs:List α) (k:Nat),(dM p k xs = -1/\xs.find? p=none)∨∃(i:Nat) (x:α),dM p k xs=((k+i:Nat):Int)/\xs[i]? = some x/\xs.find? p=some x
 | [],k=> .inl ⟨rfl,rfl⟩
 | x::r,k=>by
   rw[dM,List.find?_cons];cases hp:p x with
   | true=>exact .inr ⟨0,x,rfl,rfl,rfl⟩
   | false=>
     rcases zZ p r (k+1)with h | ⟨i,y,h1,h2,h3⟩
     . exact .inl h
     . exact .inr ⟨i+1,y,by show dM p (k+1) r=_;rw[h1];congr 1;omega,h2,h3⟩
def CV(o:Option aJ):Option (Unit×((aJ×Unit)×(Bool×Unit)×Unit)):=some ((),match o with | some b=>((b,()),(true,()),()) | none=>(([],()),(false,()),()))
theorem Q1(l:List dk)(t m:S8)(hl:l.length<=1048576)(hb:∀ y∈l,y.2.2.1.length<=1048576):g52 l t m=CV (jr l t m):=by
 have bo:=bl;unfold g52 jr CV;have h:=aT (step:=pY zS) l (fun i (_:Unit)=>(t,m,l,ae l,((i:Nat):Int),())) (fun _ x _=>bif vJ t m x then .inr (.inr (x.2.2.1,true,()))else Sum.inl ()) (fun _=> .inl (t,m,l,ae l,(l.length:Int),())) (a0:=()) (fun i x a hx=>by
  have aV:=ah hx;have hr:=hb x (amo hx);show zS t m l (ae l) (i:Int)=_;unfold zS;rw[aL hx,aD hx,aM _ hx];dsimp only[oT];rw[aU (by omega),mU (a:=[]) (b:=x.2.2.1) (by show 0+x.2.2.1.length<=bQ;omega)];show cond (vJ t m x) _ _=_;cases vJ t m x <;> rfl) (fun a=>by
  show zS t m l (ae l) (l.length:Int)=_;unfold zS;rw[aA rfl];try rfl)
 rw[nT (vJ t m) (fun(x:dk)=>(Sum.inr (x.2.2.1,true,()):Sum (S8×S8×List dk×Int×Int×Unit) (aJ×Bool×Unit)))]at h;have h':Zh t m l (ae l) 0=_:=h;rw[h'];cases l.find? (vJ t m) <;> rfl
theorem SD(l:List dk)(t m:S8)(hl:l.length<=1048576)(hb:∀ y∈l,y.2.2.1.length<=1048576):g66 l t m=CV (jr l t m):=by
 have bo:=bl;unfold g66 jr CV;rw[Gq l t m hl];dsimp only[oB];rcases zZ (vJ t m) l 0 with ⟨h1,h2⟩ | ⟨i,y,h1,h2,h3⟩
 . rw[h2];have h1:dM (fun y=>cond (bF y.1 t) (bF y.2.1 m) false) 0 l = -1:=h1;rw[h1];try rfl
 . rw[h3];rw[amt]at h1;have h1:dM (fun y=>cond (bF y.1 t) (bF y.2.1 m) false) 0 l=(i:Int):=h1;have hr:=hb y (amo h2);rw[h1,aF (by omega),aD h2,aM _ h2];unfold J9;rw[mU (a:=[]) (b:=y.2.2.1) (by show 0+y.2.2.1.length<=bQ;omega)];try rfl
theorem HE{l:List dk}(h:eG l=true):l.length<=6/\∀ z∈l,z.1.length<=1048576/\z.2.1.length<=1048576/\z.2.2.1.length<=1048576:=by
 unfold eG at h;cases ha:allI (dq l) 0 l with
 | false=>rw[ha]at h;cases h
 | true=>
   rw[ha]at h;have h6:ae l<=6:=anf h;refine⟨by unfold ae at h6;omega,fun z hz=>?_⟩;obtain⟨i,hi⟩:=anL.1 hz;have:=gH _ ha hi;unfold dq at this;cases hm:ll z with
   | false=>rw[hm]at this;cases this
   | true=>unfold ll at hm;simp only[anM,ami]at hm;obtain⟨⟨_,h1⟩,⟨_,h2⟩,h3⟩:=hm;have h1:=bt.1 h1;have h2:=bt.1 h2;have h3:=bB.1 h3;unfold ae at h1 h2 h3;omega
theorem Nc{l:List dk}{s:dk}(h:eG (l++[s])=true):g54 l s=some ((),((l++[s],()),(true,()),())):=by
 have bo:=bl;obtain⟨h1,h2⟩:=HE h;have h3:l.length<=6:=by rw[amj]at h1;omega
 have hc:=wj (l++[s]) (by omega) fun y hy=>(h2 y hy).2.2
 unfold g54;rw[wj l (by omega) fun y hy=>(h2 y (an4 _ hy)).2.2];dsimp only[oB];rw[show bk 56 l [s]=true from amq (by show(l.length+1) * 56<=bQ;omega)];show Option.bind (g98 (l++[s])) _=_;rw[hc];dsimp only[oB];rw[Kz _ ⟨by omega,fun y hy=>⟨cg (h2 y hy).1,cg (h2 y hy).2.1⟩⟩,h];try rfl
theorem N5{l:List dk}{s:dk}(h:eG (l++[s])=true):g68 l s=some ((),((l++[s],()),(true,()),())):=by
 have bo:=bl;obtain⟨h1,h2⟩:=HE h;have h3:l.length<=6:=by rw[amj]at h1;omega
 have hc:=CF (l++[s]) (by omega) fun y hy=>(h2 y hy).2.2
 unfold g68;rw[show ahu 56 l=true from amq (by omega),show bk 56 l [s]=true from amq (by show(l.length+1) * 56<=bQ;omega)];show Option.bind (No (l++[s])) _=_;rw[hc];dsimp only[oB];rw[KM _ ⟨by omega,fun y hy=>⟨cg (h2 y hy).1,cg (h2 y hy).2.1⟩⟩,h];try rfl
theorem KE{x:aJ}{t:S8}(h:jj x 0 4=some t):aj (eR x).2 1=false:=by
 unfold eR;rw[h];dsimp only;cases Cd x with
 | none=>rfl
 | some p=>
   obtain⟨nos,a⟩:=p;dsimp only;cases mu x nos a []with
   | none=>rfl
   | some p=>
     obtain⟨l,e⟩:=p;dsimp only;by_cases he:e=x.length
     . rw[if_pos he];try rfl
     . rw[if_neg he];try rfl
theorem Lp(t:S8)(c:Int):iJ (lx t c).1:=by
 unfold lx;cases gk (dJ t,[(39,yg c,())],())with
 | false=>exact⟨amv _,amv _,fun f hf=>by simp at hf⟩
 | true=>exact IF t c
theorem FW{t:S8}(h:zK t):t.length<=1048576:=by
 rcases h with rfl | h
 . exact amv _
 . omega
theorem Bi{a:ax}(h:bK a):(slotsOf a).length<=1048576/\∀ y∈slotsOf a,y.2.2.1.length<=1048576:=⟨h.2.2.2.1,fun y hy=>(h.2.2.2.2 y hy).2.2⟩
theorem R7(b:List ax)(x:aJ)(now:Int)(hb:dE b)(hx:Cp x):g15 (b,()) x now=some ((),(((iI b x now).1,()),((iI b x now).2,()),())):=by
 have bo:=bl;have hcp:=A8 b hb;have aeh:N6 x 0 4=vD (jj x 0 4) 2:=GU x 0 4 hx (amv _) (by decide);have Fx:=Ax x;unfold g15 iI;rw[hcp,aeh,aes x hx,TL b hb];unfold Mw vD;dsimp only[oB];cases Ic:jh b with
 | false=>rfl
 | true=>
   rw[iQ];cases Fq:bh now with
   | false=>rfl
   | true=>
     cases ho:jj x 0 4 with
     | none=>
       have hp:eR x=(([],[],()),1):=by unfold eR;rw[ho]
       rw[hp];try rfl
     | some t=>
       have h4:t.length=4:=(eP ho).2.1;dsimp only[oB,oT,oF,oN];rw[KE ho,J3 t (by omega)];dsimp only[oB,oT,oF];cases hr:bF (dJ t) []with
       | true=>rfl
       | false=>
         cases h0:aj (eR x).2 0 with
         | false=>dsimp only[oT,oF,oM];rw[XD t 1 (by omega)];dsimp only[oB];rw[aaF _ (Lp t 1)];try rfl
         | true=>
           dsimp only[oT,oF,oN];have Vd:=wE ho h0;generalize (eR x).1=m at Fx Vd ⊢;subst Vd;rw[aiy m Fx];unfold Qk yw;dsimp only[oB];cases hq0:aj (gN m).2 0 with
           | false=>dsimp only[oT,oF,oM];rw[DM m _ [] [] Fx (amv _) (amv _)];try rfl
           | true=>
             obtain⟨hmM,hqM⟩:=AE hq0;have Vk:=EJ Fx;dsimp only[oT,oF,oN];generalize (gN m).1=q at hqM Vk ⊢;rw[Bf b q.2.1 hb.1];unfold vk;dsimp only[oB];cases hk:aE (ar b q.2.1) 0 with
             | true=>dsimp only[oT];rw[DM m 3 [] [] Fx (amv _) (amv _)];try rfl
             | false=>
               obtain⟨i,y,e,hy⟩:=eN (of_decide_eq_false hk);have Yw:gt aK b (ar b q.2.1)=y:=by rw[e];exact aM _ hy
               have hgp:gt d94 b (ar b q.2.1)=y:=by rw[e];exact aM _ hy
               have kL:aX (ar b q.2.1) b=true:=by rw[e];exact aD hy
               have hyB:=Bi (hb.2 y (amo hy));have hso:=Q1 (slotsOf y) q.2.2.2.2.1 q.2.2.2.2.2.1 hyB.1 hyB.2;rw[kL,hgp,Yw];dsimp only[oT,oF];refine(bn hso).trans ?_;unfold CV;dsimp only[oB];cases ho2:jr (slotsOf y) q.2.2.2.2.1 q.2.2.2.2.2.1 with
               | some o=>rfl
               | none=>
                 dsimp only[oT,oF];show cond (aj (ae (slotsOf y)) 6) _ _=_;cases h6:aj (ae (slotsOf y)) 6 with
                 | true=>dsimp only[oT];rw[DM m 10 [] [] Fx (amv _) (amv _)];try rfl
                 | false=>
                   dsimp only[oF];obtain⟨hs,j,z,e2,hz⟩:=zw Ic hk (by rw[Yw];exact ho2) (by rw[Yw];exact h6) hmM hr hqM (now:=now);have aei:=DM m (dm b q now).2.1 q.2.2.2.1 (dm b q now).2.2 Fx Vk.2.2.1 (FW (wq b q now));rw[acV b q now hb Vk];dsimp only[oB];rw[aei];dsimp only[oB];have hgn:gt aK (bN b q now) (ar b q.2.1)=z:=by rw[e2];exact aM _ hz
                   have p9:gt d94 (bN b q now) (ar b q.2.1)=z:=by rw[e2];exact aM _ hz
                   have hib:aX (ar b q.2.1) (bN b q now)=true:=by rw[e2];exact aD hz
                   rw[hgn]at hs;have xu:=Nc hs;unfold ui;rw[hgn];cases Fu:aj (dm b q now).2.1 0 with
                   | true=>
                     have hnx:bN b q now=(dm b q now).1:=by unfold bN;rw[Fu];try rfl
                     rw[hnx]at p9 hib ⊢;dsimp only[oT,oF,oN];rw[hib,p9];dsimp only[oT];exact bn xu
                   | false=>
                     have hnx:bN b q now=b:=by unfold bN;rw[Fu];try rfl
                     rw[hnx]at p9 ⊢;have hzy:z=y:=p9.symm.trans hgp;subst hzy;exact bn xu
theorem QY(b:List ax)(x:aJ)(now:Int)(hb:dE b)(hx:Cp x):g17 (b,()) x now=some ((),(((iI b x now).1,()),((iI b x now).2,()),())):=by
 have bo:=bl;have hcp:=AN b hb;have aeh:Pz x 0 4=vD (jj x 0 4) 2:=KH x 0 4 hx (amv _) (by decide);have Fx:=Ax x;unfold g17 iI;rw[hcp,aeh,afO x hx,Tg b hb];unfold Mw vD;dsimp only[oB];cases Ic:jh b with
 | false=>rfl
 | true=>
   rw[iM];cases Fq:bh now with
   | false=>rfl
   | true=>
     cases ho:jj x 0 4 with
     | none=>
       have hp:eR x=(([],[],()),1):=by unfold eR;rw[ho]
       rw[hp];try rfl
     | some t=>
       have h4:t.length=4:=(eP ho).2.1;dsimp only[oB,oT,oF,oN];rw[KE ho,Jv t (by omega)];dsimp only[oB,oT,oF];cases hr:bF (dJ t) []with
       | true=>rfl
       | false=>
         cases h0:aj (eR x).2 0 with
         | false=>dsimp only[oT,oF,oM];rw[XK t 1 (by omega)];dsimp only[oB];rw[Z5 _ (Lp t 1)];try rfl
         | true=>
           dsimp only[oT,oF,oN];have Vd:=wE ho h0;generalize (eR x).1=m at Fx Vd ⊢;subst Vd;rw[aio m Fx];unfold Qk yw;dsimp only[oB];cases hq0:aj (gN m).2 0 with
           | false=>dsimp only[oT,oF,oM];rw[Eb m _ [] [] Fx (amv _) (amv _)];try rfl
           | true=>
             obtain⟨hmM,hqM⟩:=AE hq0;have Vk:=EJ Fx;dsimp only[oT,oF,oN];generalize (gN m).1=q at hqM Vk ⊢;rw[Aj b q.2.1 hb.1];unfold vk;dsimp only[oB];cases hk:aE (ar b q.2.1) 0 with
             | true=>dsimp only[oT];rw[Eb m 3 [] [] Fx (amv _) (amv _)];try rfl
             | false=>
               obtain⟨i,y,e,hy⟩:=eN (of_decide_eq_false hk);have Yw:gt aK b (ar b q.2.1)=y:=by rw[e];exact aM _ hy
               have hgp:gt d94 b (ar b q.2.1)=y:=by rw[e];exact aM _ hy
               have kL:aX (ar b q.2.1) b=true:=by rw[e];exact aD hy
               have hyB:=Bi (hb.2 y (amo hy));have hso:=SD (slotsOf y) q.2.2.2.2.1 q.2.2.2.2.2.1 hyB.1 hyB.2;rw[kL,hgp,Yw];dsimp only[oT,oF];refine(bn hso).trans ?_;unfold CV;dsimp only[oB];cases ho2:jr (slotsOf y) q.2.2.2.2.1 q.2.2.2.2.2.1 with
               | some o=>rfl
               | none=>
                 dsimp only[oT,oF];show cond (aj (ae (slotsOf y)) 6) _ _=_;cases h6:aj (ae (slotsOf y)) 6 with
                 | true=>dsimp only[oT];rw[Eb m 10 [] [] Fx (amv _) (amv _)];try rfl
                 | false=>
                   dsimp only[oF];obtain⟨hs,j,z,e2,hz⟩:=zw Ic hk (by rw[Yw];exact ho2) (by rw[Yw];exact h6) hmM hr hqM (now:=now);have aei:=Eb m (dm b q now).2.1 q.2.2.2.1 (dm b q now).2.2 Fx Vk.2.2.1 (FW (wq b q now));rw[abj b q now hb Vk];dsimp only[oB];rw[aei];dsimp only[oB];have hgn:gt aK (bN b q now) (ar b q.2.1)=z:=by rw[e2];exact aM _ hz
                   have p9:gt d94 (bN b q now) (ar b q.2.1)=z:=by rw[e2];exact aM _ hz
                   have hib:aX (ar b q.2.1) (bN b q now)=true:=by rw[e2];exact aD hz
                   rw[hgn]at hs;have xu:=N5 hs;unfold ui;rw[hgn];cases Fu:aj (dm b q now).2.1 0 with
                   | true=>
                     have hnx:bN b q now=(dm b q now).1:=by unfold bN;rw[Fu];try rfl
                     rw[hnx]at p9 hib ⊢;dsimp only[oT,oF,oN];rw[hib,p9];dsimp only[oT];exact bn xu
                   | false=>
                     have hnx:bN b q now=b:=by unfold bN;rw[Fu];try rfl
                     rw[hnx]at p9 ⊢;have hzy:z=y:=p9.symm.trans hgp;subst hzy;exact bn xu
abbrev qu:=Int×aJ×aJ×Unit
def pf(b:List ax)(now:Int):List ax:=b.map fun a=>aC a now
theorem vF{b:List ax}(now:Int)(hb:dE b):dE (pf b now):=⟨by unfold pf;rw[anO];exact hb.1,fun a ha=>by obtain⟨y,hy,rfl⟩:=an9.1 ha;exact dR now (hb.2 y hy)⟩
theorem I4(xs:List ax)(now:Int)(hb:dE xs):g71 (xs,()) now=zR (pf xs now):=by
 have bo:=bl;have hs:=hb.1;unfold g71 pf;have h:=aO (step:=Fo Ar) xs (fun i (a:List ax)=>(now,xs,ae xs,((i:Nat):Int),([],()),(a,()),())) (fun _ x a=>Sum.inl (a++[aC x now])) (fun a=> .inl (now,xs,ae xs,(xs.length:Int),([],()),(a,()),())) (fun i a=>a.length=i) (a0:=[]) rfl (fun i x a hx ha=>by
  have aV:=ah hx;have hm:=hb.2 x (amo hx);show Ar now xs (ae xs) (i:Int) ([],()) (a,())=_;unfold Ar;have e:∀ y:ax,bk 160 a [y]=true:=fun y=>amq (by simp;omega)
  have e0:gt d94 xs (i:Int)=x:=aM _ hx;rw[aL hx,aD hx,e0];dsimp only[oT];rw[ni x now hm];dsimp only[oB];rw[e,aU (by omega)];try rfl) (fun i x a a' hx ha hf=>by
  simp only[amx]at hf;rw[<- hf,amj,ha];try rfl) (fun a ha=>by
  show Ar now xs (ae xs) (xs.length:Int) ([],()) (a,())=_;unfold Ar;rw[aA rfl];try rfl)
 rw[yW]at h;have h':ZP now xs (ae xs) 0 ([],()) ([],())=_:=h;rw[h'];try rfl
theorem Kd(xs:List ax)(now:Int)(hb:dE xs):g72 (xs,()) now=zR (pf xs now):=by
 have bo:=bl;have hs:=hb.1;unfold g72 JA pf;have h:=aO (step:=Fo mi) xs (fun i (a:List ax)=>(((now,()),()),xs,ae xs,((i:Nat):Int),([],()),(a,()),())) (fun _ x a=>Sum.inl (a++[aC x now])) (fun a=> .inl (((now,()),()),xs,ae xs,(xs.length:Int),([],()),(a,()),())) (fun i a=>a.length=i) (a0:=[]) rfl (fun i x a hx ha=>by
  have aV:=ah hx;have hm:=hb.2 x (amo hx);show mi ((now,()),()) xs (ae xs) (i:Int) ([],()) (a,())=_;unfold mi acj;have e:∀ y:ax,bk 160 a [y]=true:=fun y=>amq (by simp;omega)
  have e0:gt d94 xs (i:Int)=x:=aM _ hx;rw[aL hx,aD hx,e0];dsimp only[oT];rw[nx x now hm];dsimp only[oB];rw[e,aU (by omega)];try rfl) (fun i x a a' hx ha hf=>by
  simp only[amx]at hf;rw[<- hf,amj,ha];try rfl) (fun a ha=>by
  show mi ((now,()),()) xs (ae xs) (xs.length:Int) ([],()) (a,())=_;unfold mi;rw[aA rfl];try rfl)
 rw[yW]at h;have h':FQ ((now,()),()) xs (ae xs) 0 ([],()) ([],())=_:=h;rw[h'];try rfl
def SR(s:List gA)(i:Nat):Bool:=match s[i]? with | some k=>aj k.1 1 | none=>false
def pO(s:List gA)(i:Nat)(e:qu)(b:List ax):List ax×aJ:=iI (cond (SR s i) (pf b e.1) b) e.2.1 e.1
def Nv(s:List gA)(i:Nat)(e:qu)(a:List ax×List (aJ×Unit)):List ax×List (aJ×Unit):=((pO s i e a.1).1,a.2++[((pO s i e a.1).2,())])
def foldI{α A:Type}(F:Nat->α->A->A):Nat->List α->A->A
 | _,[],a=>a
 | i,x::r,a=>foldI F (i+1) r (F i x a)
theorem wR{α A Y:Type}(F:Nat->α->A->A)(z:A->Y):∀(xs:List α) (i:Nat) (a:A),kO (fun i x a=>Sum.inl (F i x a)) z i xs a=z (foldI F i xs a)
 | [],_,_=>rfl
 | x::r,i,a=>wR F z r (i+1) (F i x a)
theorem CO{α A:Type}(F:Nat->α->A->A)(I:Nat->A->Prop):∀(xs:List α) (i:Nat) (a:A),I i a->(∀ j x a,xs[j]? = some x->I (i+j) a->I (i+j+1) (F (i+j) x a))->I (i+xs.length) (foldI F i xs a)
 | [],i,a,h,_=>h
 | x::r,i,a,h,hs=>by
   have:=CO F I r (i+1) (F i x a) (hs 0 x a rfl h) fun j y b hy hb=>by have:=hs (j+1) y b hy (by rw[show i+(j+1)=i+1+j by omega];exact hb);rw[show i+(j+1)=i+1+j by omega]at this;exact this
   rw[show i+(x::r).length=i+1+r.length by simp only[amw];omega];exact this
def runM(s:List gA)(l:List qu)(b:List ax):List ax×List (aJ×Unit):=foldI (Nv s) 0 l (b,[])
def S3(l:List qu):Prop:=l.length<=1048576/\∀ e∈l,Cp e.2.1
theorem Oo{l:List dk}(h:eG l=true):∀ z∈l,z.2.2.1.length<=200:=by
 unfold eG at h;cases ha:allI (dq l) 0 l with
 | false=>rw[ha]at h;cases h
 | true=>
   intro z hz;obtain⟨i,hi⟩:=anL.1 hz;have:=gH _ ha hi;unfold dq at this;cases hm:ll z with
   | false=>rw[hm]at this;cases this
   | true=>unfold ll at hm;simp only[anM,ami]at hm;have h3:=bB.1 hm.2.2;unfold ae at h3;omega
def HOr(P:aJ->Prop)(b:List ax)(now:Int)(v:List ax×aJ):Prop:=(v.1=b/\P v.2)∨∃ m q,jh b=true/\E2 q/\eG (slotsOf (gt aK (bN b q now) (ar b q.2.1))++[e8 b m q now])=true/\v=ui b m q now
theorem IG(P:aJ->Prop)(p0:P [])(hrp:∀ m c h t,P (uo m c h t))(hbr:∀ t,P (oC (lx t 1).1))(b:List ax)(x:aJ)(now:Int)(E8:∀ a∈b,bp a=true->∀ z∈slotsOf a,P z.2.2.1):HOr P b now (iI b x now):=by
 have h0:∀ o:aJ,P o->HOr P b now (b,o):=fun o ho=> .inl ⟨rfl,ho⟩
 unfold iI;cases Ic:jh b <;> first | exact h0 [] p0 | skip
 cases bh now <;> first | exact h0 [] p0 | skip
 cases ho:jj x 0 4 with
 | none=>exact h0 [] p0
 | some t=>
   dsimp only[oT];cases hr:bF (dJ t) [] <;> first | exact h0 [] p0 | skip
   cases BZ:aj (eR x).2 0 <;> first | exact h0 _ (hbr t) | skip
   have Vd:=wE ho BZ;have Fx:=Ax x;dsimp only[oT,oF];unfold yw;generalize (eR x).1=m at Vd Fx ⊢;subst Vd;cases hq0:aj (gN m).2 0 <;> first | exact h0 _ (hrp _ _ _ _) | skip
   obtain⟨hmM,hqM⟩:=AE hq0;have Vk:=EJ Fx;generalize (gN m).1=q at hqM Vk ⊢;unfold vk;dsimp only[oT];cases hk:aE (ar b q.2.1) 0 <;> first | exact h0 _ (hrp _ _ _ _) | skip
   dsimp only[oF];cases hs:jr (slotsOf (gt aK b (ar b q.2.1))) q.2.2.2.2.1 q.2.2.2.2.2.1 with
   | some o=>
     refine h0 o ?_;obtain⟨i,y,e,hy⟩:=eN (of_decide_eq_false hk);have Yw:gt aK b (ar b q.2.1)=y:=by rw[e];exact aM _ hy
     rw[Yw]at hs;unfold jr at hs;obtain⟨z,hz,rfl⟩:=anT.1 hs;exact E8 y (amo hy) (sK Ic hy) z (aoM hz)
   | none=>
     dsimp only;cases h6:aj (ae (slotsOf (gt aK b (ar b q.2.1)))) 6 <;> first | exact h0 _ (hrp _ _ _ _) | skip
     exact .inr ⟨m,q,Ic,Vk,(zw Ic hk hs h6 hmM hr hqM).1,rfl⟩
theorem HB(b:List ax)(x:aJ)(now:Int):HOr (fun o=>o.length<=200) b now (iI b x now):=
 IG (fun o=>o.length<=200) (amv _) (fun m c h t=>amp (KB m c h t) (by decide)) (fun t=>amp (Ya t 1) (by decide)) b x now fun _ _ hm z hz=>Oo (xR hm) z hz
theorem Cr{b:List ax}(x:aJ)(now:Int)(hb:dE b):dE (iI b x now).1:=by
 rcases HB b x now with ⟨h,_⟩ | ⟨m,q,_,_,hs,h⟩
 . rw[h];exact hb
 . rw[h];exact To hb hs
theorem DH(s:List gA)(i:Nat)(e:qu){b:List ax}(hb:dE b):dE (pO s i e b).1:=by
 unfold pO;cases SR s i with
 | false=>exact Cr _ _ hb
 | true=>exact Cr _ _ (vF _ hb)
theorem Wq(b:List ax)(l:List qu)(s:List gA)(hb:dE b)(hl:S3 l)(hs:s.length<=1048576):g29 (b,()) l s=some ((),(((runM s l b).1,()),((runM s l b).2,()),())):=by
 have bo:=bl;have h1:=hl.1;unfold g29 runM;rw[A8 b hb];dsimp only[oB];have h:=aO (step:=Az zy) l (fun i (a:List ax×List (aJ×Unit))=>(s,a.2,l,ae l,((i:Nat):Int),(([],()):List ax×Unit),(a.1,()),())) (fun i e a=>Sum.inl (Nv s i e a)) (fun a=> .inl (s,a.2,l,ae l,(l.length:Int),([],()),(a.1,()),())) (fun i a=>dE a.1/\a.2.length<=i) (a0:=(b,[])) ⟨hb,oR _⟩ (fun i e a hx ha=>by
  have aV:=ah hx;have hB:=hl.2 e (amo hx);have iV:∀ v:aJ×Unit,bk 24 a.2 [v]=true:=fun v=>amq (by show(a.2.length+1) * 24<=bQ;omega)
  show zy s a.2 l (ae l) (i:Int) ([],()) (a.1,())=_;unfold zy Nv pO;dsimp only;rw[aL hx,aD hx,aM _ hx];dsimp only[oT];rw[R7 a.1 e.2.1 e.1 ha.1 hB,I4 a.1 e.1 ha.1,aU (by omega)];dsimp only[oB];rw[R7 (pf a.1 e.1) e.2.1 e.1 (vF _ ha.1) hB];dsimp only[oB];rw[iV,iV];by_cases hi:i<s.length
  . have hk:s[i]? = some (s[i]'hi):=amm hi;generalize s[i]'hi=k at hk;have hsw:SR s i=aj k.1 1:=by unfold SR;rw[hk]
    rw[aL hk,aD hk,aM _ hk,hsw];cases aj k.1 1 <;> rfl
  . rw[aF (by unfold ae;omega),show SR s i=false by unfold SR;rw[amA (by omega)]];try rfl) (fun i e a a' hx ha hf=>by
  simp only[amx]at hf;rw[<- hf];refine⟨DH s i e ha.1,?_⟩;show(a.2++[((pO s i e a.1).2,())]).length<=_;rw[amj,anY];omega) (fun a ha=>by
  show zy s a.2 l (ae l) (l.length:Int) ([],()) (a.1,())=_;unfold zy;rw[aA rfl];try rfl)
 rw[wR]at h;exact bn h
theorem WE(b:List ax)(l:List qu)(s:List gA)(hb:dE b)(hl:S3 l)(hs:s.length<=1048576):g31 (b,()) l s=some ((),(((runM s l b).1,()),((runM s l b).2,()),())):=by
 have bo:=bl;have h1:=hl.1;unfold g31 runM;rw[AN b hb];dsimp only[oB];have h:=aO (step:=Az xZ) l (fun i (a:List ax×List (aJ×Unit))=>(s,a.2,l,ae l,((i:Nat):Int),(([],()):List ax×Unit),(a.1,()),())) (fun i e a=>Sum.inl (Nv s i e a)) (fun a=> .inl (s,a.2,l,ae l,(l.length:Int),([],()),(a.1,()),())) (fun i a=>dE a.1/\a.2.length<=i) (a0:=(b,[])) ⟨hb,oR _⟩ (fun i e a hx ha=>by
  have aV:=ah hx;have hB:=hl.2 e (amo hx);have iV:∀ v:aJ×Unit,bk 24 a.2 [v]=true:=fun v=>amq (by show(a.2.length+1) * 24<=bQ;omega)
  show xZ s a.2 l (ae l) (i:Int) ([],()) (a.1,())=_;unfold xZ Nv pO;dsimp only;rw[aL hx,aD hx,aM _ hx];dsimp only[oT];rw[QY a.1 e.2.1 e.1 ha.1 hB,Kd a.1 e.1 ha.1,aU (by omega)];dsimp only[oB];rw[QY (pf a.1 e.1) e.2.1 e.1 (vF _ ha.1) hB];dsimp only[oB];rw[iV,iV];by_cases hi:i<s.length
  . have hk:s[i]? = some (s[i]'hi):=amm hi;generalize s[i]'hi=k at hk;have hsw:SR s i=aj k.1 1:=by unfold SR;rw[hk]
    rw[aL hk,aD hk,aM _ hk,hsw];cases aj k.1 1 <;> rfl
  . rw[aF (by unfold ae;omega),show SR s i=false by unfold SR;rw[amA (by omega)]];try rfl) (fun i e a a' hx ha hf=>by
  simp only[amx]at hf;rw[<- hf];refine⟨DH s i e ha.1,?_⟩;show(a.2++[((pO s i e a.1).2,())]).length<=_;rw[amj,anY];omega) (fun a ha=>by
  show xZ s a.2 l (ae l) (l.length:Int) ([],()) (a.1,())=_;unfold xZ;rw[aA rfl];try rfl)
 rw[wR]at h;exact bn h
end Go.Av
