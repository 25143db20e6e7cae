/- FnExactRun, a part. -/
import Derived.Test.YtcmhjdkpbgncfaaGreatDoorP2
import Derived.Test.YtcmhjdkpbgncfaaGreatDoorP3
set_option maxRecDepth 100000
set_option maxHeartbeats 4000000
namespace Go.Av
theorem RP{a:ax}(h:aI a<=1048576):bK a:=by
 have hw:aI a=a.1.length+wL aZ a.2.2.2.2.2.1+dF (dw a)+wL bA a.2.2.2.2.2.2.2.2.2.2.1:=rfl;have hr:dF (dw a)=a.2.2.2.2.2.2.2.2.1.length+a.2.2.2.2.2.2.2.2.2.1.length:=rfl;have h1:=oh aZ a.2.2.2.2.2.1;have h2:=oh bA a.2.2.2.2.2.2.2.2.2.2.1;refine⟨by omega,⟨by omega,fun y hy => ?_⟩,⟨?_,?_⟩,by omega,fun y hy => ?_⟩
 . have:=oG aZ hy;have e:aZ y=y.1.length:=rfl;omega
 . show a.2.2.2.2.2.2.2.2.1.length<=_; omega
 . show a.2.2.2.2.2.2.2.2.2.1.length<=_; omega
 . have:=oG bA hy;have e:bA y=y.1.length+y.2.1.length+y.2.2.1.length:=rfl;omega
theorem nf(a:ax)(now:Int):aI (aC a now)<=aI a:=by
 unfold aC;have hw:aI a=a.1.length+wL aZ a.2.2.2.2.2.1+dF (dw a)+wL bA a.2.2.2.2.2.2.2.2.2.2.1:=rfl;cases bo a with
 | false=>exact oR _
 | true =>
   cases bh now with
   | false=>exact oR _
   | true => have:=ri aZ (gG now) a.2.2.2.2.2.1;show a.1.length+wL aZ (a.2.2.2.2.2.1.filter (gG now))+dF (dw a)+wL bA a.2.2.2.2.2.2.2.2.2.2.1<=_;omega
theorem aak(xs:List aO)(h:aO):wL aZ (eS xs h).1<=wL aZ xs+1+h.1.length:=by
 have h0:wL aZ ([]:List aO)=0:=rfl;unfold eS;cases dm xs with
 | false=>simp only[oF]; omega
 | true =>
   cases dm (jX xs h)with
   | false=>simp only[oT,oF]; omega
   | true =>
     simp only[oT];have e1:cL aZ (jX xs h)=cL aZ (xs.takeWhile (np h))+(aZ h+cL aZ ((xs.dropWhile (np h)).filter (cj h.1))):=by unfold jX cL;simp only[ao1,ao2,amO,anx]
     have e2:=wZ aZ (cj h.1) (xs.dropWhile (np h));have e3:cL aZ xs=cL aZ (xs.takeWhile (np h))+cL aZ (xs.dropWhile (np h)):=by
      have:xs=xs.takeWhile (np h)++xs.dropWhile (np h):=aoW.symm
      conv=>lhs; rw[this]
      simp only[cL,ao1,ao2]
     have e4:=LG xs h;have e5:aZ h=h.1.length:=rfl;show(jX xs h).length+cL aZ (jX xs h)<=(xs.length+cL aZ xs)+1+h.1.length;omega
theorem adl(a:ax)(id:S8)(bJ ny now:Int):aI (lP a id bJ ny now).1<=aI a+1+id.length:=by
 have h0:aI aK<=aI a:=aml (aoh rfl) (amr _);have hs:=nf a now;unfold lP;generalize aC a now=s at hs ⊢;cases cond (bo a) (cond (bh now) (bm id) false) false with
 | false=>simp only[oF]; omega
 | true =>
 cases da bJ 1 9007199254740992 with
 | false=>simp only[oT,oF]; omega
 | true =>
 cases(cond (!da ny 1 9999) true (aE 1000000000 (ak .i64 now ny)))with
 | true=>simp only[oT,oF]; omega
 | false =>
 cases ck 0 (az s.2.2.2.2.2.1 id)with
 | true=>simp only[oT,oF]; omega
 | false =>
 cases aj (ae s.2.2.2.2.2.1) 4 with
 | true=>simp only[oT,oF]; omega
 | false =>
 cases aj (hE s bJ now) 0 with
 | false=>simp only[oT,oF]; omega
 | true => simp only[oT,oF];have hw:aI s=s.1.length+wL aZ s.2.2.2.2.2.1+dF (dw s)+wL bA s.2.2.2.2.2.2.2.2.2.2.1:=rfl;have hl:=qo (dw s) now bJ;have e1:=aak s.2.2.2.2.2.1 (id,bJ,ak .i64 now ny,());have e2:dF (dw s)=(dw s).2.2.1.length+(dw s).2.2.2.1.length:=rfl;show s.1.length+wL aZ (eS s.2.2.2.2.2.1 (id,bJ,ak .i64 now ny,())).1+((du (dw s) now bJ).2.2.1.length+(du (dw s) now bJ).2.2.2.1.length)+wL bA s.2.2.2.2.2.2.2.2.2.2.1<=_;simp only at e1;omega
theorem acQ(a:ax)(id:S8)(bJ now:Int):aI (lN a id bJ now).1<=aI a:=by
 have h0:aI aK<=aI a:=aml (aoh rfl) (amr _);have hs:=nf a now;unfold lN;cases cond (bo a) (cond (bh now) (bm id) false) false with
 | false=>exact h0
 | true =>
   cases da bJ 1 9007199254740992 with
   | false=>exact h0
   | true =>
     generalize aC a now=s at hs ⊢;by_cases ll:az s.2.2.2.2.2.1 id<0
     . rw[aR ll]; exact h0
     . rw[aF ll];cases aj (hE s bJ now) 0 with
       | false=>exact h0
       | true => have hw:aI s=s.1.length+wL aZ s.2.2.2.2.2.1+dF (dw s)+wL bA s.2.2.2.2.2.2.2.2.2.2.1:=rfl;have hl:=qo (dw s) now bJ;have e1:=Py aZ (xs:=s.2.2.2.2.2.1) (k:=az s.2.2.2.2.2.1 id) (y:=((gt ([],0,0,()) s.2.2.2.2.2.1 (az s.2.2.2.2.2.1 id)).1,ak .i64 (gt ([],0,0,()) s.2.2.2.2.2.1 (az s.2.2.2.2.2.1 id)).2.1 bJ,(gt ([],0,0,()) s.2.2.2.2.2.1 (az s.2.2.2.2.2.1 id)).2.2.1,())) ([],0,0,()) (jQ ll) rfl;have e2:dF (dw s)=(dw s).2.2.1.length+(dw s).2.2.2.1.length:=rfl;show s.1.length+wL aZ (cZ s.2.2.2.2.2.1 (az s.2.2.2.2.2.1 id) _)+((du (dw s) now bJ).2.2.1.length+(du (dw s) now bJ).2.2.2.1.length)+wL bA s.2.2.2.2.2.2.2.2.2.2.1<=_;rw[e1];omega
theorem GS(a:ax)(l:List aO){n:Nat}(h:wL aZ l<=wL aZ a.2.2.2.2.2.1+n):aI (J1 a l)<=aI a+n:=by have hw:aI a=a.1.length+wL aZ a.2.2.2.2.2.1+dF (dw a)+wL bA a.2.2.2.2.2.2.2.2.2.2.1:=rfl;show a.1.length+wL aZ l+dF (dw a)+wL bA a.2.2.2.2.2.2.2.2.2.2.1<=_;omega
theorem aci(a b:ax)(id:S8)(now:Int)(hb:bK a):aI (gr a b id now).1<=aI a/\aI (gr a b id now).2.1<=aI b+1+1048576:=by
 have h0:aI aK=0:=rfl;have hs:=nf a now;have ht:=nf b now;have eD:=dS now hb;unfold gr;generalize aC a now=s at hs eD ⊢;generalize aC b now=t at ht ⊢;cases cond (bo a) (cond (bh now) (bm id) false) false with
 | false=>simp only[oF]; omega
 | true =>
 cases bo b with
 | false=>simp only[oT,oF]; omega
 | true =>
 cases bF a.1 b.1 with
 | true=>simp only[oT,oF]; omega
 | false =>
 cases aE (az s.2.2.2.2.2.1 id) 0 with
 | true=>simp only[oT,oF]; omega
 | false =>
 cases ck 0 (az t.2.2.2.2.2.1 id)with
 | true=>simp only[oT,oF]; omega
 | false =>
 cases aj (ae t.2.2.2.2.2.1) 4 with
 | true=>simp only[oT,oF]; omega
 | false =>
 cases aE (hO t now) (gt pY s.2.2.2.2.2.1 (az s.2.2.2.2.2.1 id)).2.1 with
 | true=>simp only[oT,oF]; omega
 | false => simp only[oT,oF];have hg:=Gu (k:=az s.2.2.2.2.2.1 id) eD.2.1.2;have e1:=aak t.2.2.2.2.2.1 (gt pY s.2.2.2.2.2.1 (az s.2.2.2.2.2.1 id));have w1:=GS s (s.2.2.2.2.2.1.filter (cj id)) (n:=0) (ri aZ (cj id) s.2.2.2.2.2.1);have w2:=GS t (eS t.2.2.2.2.2.1 (gt pY s.2.2.2.2.2.1 (az s.2.2.2.2.2.1 id))).1 (n:=1+1048576) (by omega);omega
theorem DU(a:ax)(p:Int)(l:List aO)(h:wL aZ l<=wL aZ a.2.2.2.2.2.1):aI (K6 a p l)<=aI a:=by have hw:aI a=a.1.length+wL aZ a.2.2.2.2.2.1+dF (dw a)+wL bA a.2.2.2.2.2.2.2.2.2.2.1:=rfl;show a.1.length+wL aZ l+dF (dw a)+wL bA a.2.2.2.2.2.2.2.2.2.2.1<=_;omega
theorem ae8(a:ax)(id:S8)(bJ:Int)(last:Bool)(now:Int):aI (pq a id bJ last now).1<=aI a:=by
 have h0:aI aK<=aI a:=aml (aoh rfl) (amr _);have hs:=nf a now;unfold pq;generalize aC a now=s at hs ⊢;have hf:=DU s (ak .i64 s.2.2.1 bJ) _ (ri aZ (cj id) s.2.2.2.2.2.1);cases cond (bo a) (cond (bh now) (bm id) false) false <;> first | exact h0 | skip
 cases da bJ 1 9007199254740992 <;> first | exact h0 | skip
 by_cases ll:az s.2.2.2.2.2.1 id<0
 . rw[aR ll]; exact h0
 rw[aF ll];have e1:=fun v=>Py aZ (xs:=s.2.2.2.2.2.1) (k:=az s.2.2.2.2.2.1 id) (y:=((gt pY s.2.2.2.2.2.1 (az s.2.2.2.2.2.1 id)).1,v,(gt pY s.2.2.2.2.2.1 (az s.2.2.2.2.2.1 id)).2.2.1,())) pY (jQ ll) rfl
 cases aE (gt pY s.2.2.2.2.2.1 (az s.2.2.2.2.2.1 id)).2.1 bJ <;> first | exact h0 | skip
 dsimp only[oT,oF];cases(cond last true (aj bJ (gt pY s.2.2.2.2.2.1 (az s.2.2.2.2.2.1 id)).2.1))
 . exact aml (DU s _ _ (aoh (e1 _))) hs
 . exact aml hf hs
theorem acF(a:ax)(id:S8)(now:Int):aI (lK a id now).1<=aI a:=by
 have h0:aI aK<=aI a:=aml (aoh rfl) (amr _);have hs:=nf a now;unfold lK;generalize aC a now=s at hs ⊢;have hf:=DU s s.2.2.1 _ (ri aZ (cj id) s.2.2.2.2.2.1);cases cond (bo a) (cond (bh now) (bm id) false) false <;> first | exact h0 | skip
 cases aE (az s.2.2.2.2.2.1 id) 0 <;> first | exact h0 | skip
 exact aml hf hs
theorem VP(a:ax)(now:Int):aI (iM a now).1<=aI a:=by
 have h0:aI aK<=aI a:=aml (aoh rfl) (amr _);have hs:=nf a now;unfold iM;cases bo a <;> first | exact h0 | skip
 cases bh now <;> first | exact h0 | exact hs
theorem ag3(a b:ax)(q:fw)(now:Int)(hb:bK a)(hi:q.2.2.2.1.length<=1048576):aI (mP a b q now).1<=aI a+1048577/\aI (mP a b q now).2.1<=aI b+1048577:=by
 have w1:=adl a q.2.2.2.1 q.2.2.2.2.2.2.1 q.2.2.2.2.2.2.2.1 now;have w2:=acQ a q.2.2.2.1 q.2.2.2.2.2.2.1 now;have w3:=fun l=>ae8 a q.2.2.2.1 q.2.2.2.2.2.2.1 l now
 have w4:=acF a q.2.2.2.1 now;have w5:=aci a b q.2.2.2.1 now hb;have w6:=VP a now;unfold mP;cases aj q.1 1 with
 | true=>simp only[oT]; omega
 | false =>
 cases aj q.1 2 with
 | true=>simp only[oT,oF]; omega
 | false =>
 cases aj q.1 3 with
 | true=>have:=w3 (aj q.1 4); simp only[oT,oF]; omega
 | false =>
 cases aj q.1 4 with
 | true=>have:=w3 true; simp only[oT,oF]; omega
 | false =>
 cases aj q.1 5 with
 | true=>simp only[oT,oF]; omega
 | false =>
 cases aj q.1 6 with
 | true=>simp only[oT,oF]; omega
 | false=>cases aj q.1 7 <;> simp only[oT,oF] <;> omega
theorem L7(w:ax->Nat)(y:ax):∀(xs:List ax) (i:Nat),((xs.set i y).map w).sum<=(xs.map w).sum+w y
 | [],i=>by simp
 | x::r,0=>by simp only[List.set_cons_zero,amO,anx]; omega
 | x::r,i+1=>by have:=L7 w y r i;simp only[ao7,amO,anx]; omega
theorem LC(xs:List ax)(k:Int)(y:ax):wL aI (cZ xs k y)<=wL aI xs+aI y:=by have:=L7 aI y xs k.toNat;show(xs.set k.toNat y).length+((xs.set k.toNat y).map aI).sum<=xs.length+(xs.map aI).sum+aI y;rw[ano]; omega
theorem adK(xs:List ax)(k:Int):aI (gt aK xs k)<=wL aI xs:=by
 have h0:aI aK=0:=rfl;show aI (xs.getD k.toNat aK)<=_;cases h:xs[k.toNat]? with
 | none=>simp only[List.getD,h,Option.getD_none]; omega
 | some y=>simp only[List.getD,h,anB]; exact oG aI (amk h)
theorem aff{xs:List ax}(hb:dJ xs)(k:Int):bK (gt aK xs k):=by
 show bK (xs.getD k.toNat aK);cases h:xs[k.toNat]? with
 | none=>simp only[List.getD,h,Option.getD_none]; exact fg
 | some y=>simp only[List.getD,h,anB]; exact hb.2 y (amk h)
theorem aa8(b:List ax)(q:fw)(now:Int)(hb:dJ b)(hi:q.2.2.2.1.length<=1048576):wL aI (dk b q now).1<=3 * wL aI b+2097154:=by
 have h0:wL aI ([]:List ax)=0:=rfl;unfold dk;cases ji b with
 | false=>simp only[oF]; omega
 | true =>
 cases lg q with
 | false=>simp only[oT,oF]; omega
 | true =>
 cases bh now with
 | false=>simp only[oT,oF]; omega
 | true =>
 simp only[oT];have g1:=adK b (ar b q.2.1);have g2:=adK b (ar b q.2.2.1);cases aj q.1 6 with
 | true =>
   simp only[oT];have ho:=ag3 (gt aK b (ar b q.2.1)) (gt aK b (ar b q.2.2.1)) q now (aff hb _) hi;generalize mP (gt aK b (ar b q.2.1)) (gt aK b (ar b q.2.2.1)) q now=r at ho ⊢;cases(cond (aE (ar b q.2.1) 0) true (aE (ar b q.2.2.1) 0))with
   | true=>simp only[oT]; omega
   | false =>
   simp only[oF];cases aj r.2.2.1 0 with
   | false=>simp only[oF]; omega
   | true => simp only[oT];have s1:=LC b (ar b q.2.2.1) r.2.1;have s2:=LC (cZ b (ar b q.2.2.1) r.2.1) (ar b q.2.1) r.1;omega
 | false =>
   simp only[oF];have ho:=ag3 (gt aK b (ar b q.2.1)) (gt aK b (ar b q.2.1)) q now (aff hb _) hi;generalize mP (gt aK b (ar b q.2.1)) (gt aK b (ar b q.2.1)) q now=r at ho ⊢;cases aE (ar b q.2.1) 0 with
   | true=>simp only[oT]; omega
   | false =>
   simp only[oF];cases aj r.2.2.1 0 with
   | false=>simp only[oF]; omega
   | true => simp only[oT];have s2:=LC b (ar b q.2.1) r.1;omega
theorem Wt(a:ax)(l:List dj):aI (Kw a l)<=aI a+wL bA l:=by have hw:aI a=a.1.length+wL aZ a.2.2.2.2.2.1+dF (dw a)+wL bA a.2.2.2.2.2.2.2.2.2.2.1:=rfl;show a.1.length+wL aZ a.2.2.2.2.2.1+dF (dw a)+wL bA l<=_;omega
theorem Vj(a:ax):wL bA (slotsOf a)<=aI a:=by have hw:aI a=a.1.length+wL aZ a.2.2.2.2.2.1+dF (dw a)+wL bA a.2.2.2.2.2.2.2.2.2.2.1:=rfl;show wL bA a.2.2.2.2.2.2.2.2.2.2.1<=_;omega
theorem Wf(b:List ax)(m:bw)(q:fw)(now:Int)(hb:dJ b)(hq:DR q):wL aI (sx b m q now).1<=9 * wL aI b+9000000/\(sx b m q now).2.length<=180:=by
 have hd:wL aI (bN b q now)<=3 * wL aI b+2097154:=by
  unfold bN;cases aj (dk b q now).2.1 0 with
  | true=>exact aa8 b q now hb hq.2.2.1
  | false=>show wL aI b<=_; omega
 have hr:=KE m (dk b q now).2.1 q.2.2.2.1 (dk b q now).2.2;have hg:=adK (bN b q now) (ar b q.2.1);have hs:=Vj (gt aK (bN b q now) (ar b q.2.1));refine⟨?_,hr⟩;have h1:=LC (bN b q now) (ar b q.2.1) (Kw (gt aK (bN b q now) (ar b q.2.1)) (slotsOf (gt aK (bN b q now) (ar b q.2.1))++[fb b m q now]));have h2:=Wt (gt aK (bN b q now) (ar b q.2.1)) (slotsOf (gt aK (bN b q now) (ar b q.2.1))++[fb b m q now]);have h3:wL bA (slotsOf (gt aK (bN b q now) (ar b q.2.1))++[fb b m q now])=wL bA (slotsOf (gt aK (bN b q now) (ar b q.2.1)))+1+bA (fb b m q now):=by unfold wL;rw[amf,ao1,ao2,anU];show _+1+(_+(bA (fb b m q now)+0))=_;omega
 have h4:bA (fb b m q now)=q.2.2.2.2.1.length+q.2.2.2.2.2.1.length+(ui m (dk b q now).2.1 q.2.2.2.1 (dk b q now).2.2).length:=rfl;have q1:=hq.2.2.2.1;have q2:=hq.2.2.2.2;show wL aI (cZ (bN b q now) (ar b q.2.1) (Kw (gt aK (bN b q now) (ar b q.2.1)) (slotsOf (gt aK (bN b q now) (ar b q.2.1))++[fb b m q now])))<=_;omega
theorem LK{α:Type}{w:α->Nat}{n c:Nat}{xs:List α}(h:xs.length<=n)(hc:∀ y∈xs,w y<=c):wL w xs<=n+n * c:=by
 have:∀ xs:List α,(∀ y∈xs,w y<=c)->(xs.map w).sum<=xs.length * c:=by
  intro xs;induction xs with
  | nil=>intro _; exact amr _
  | cons x r ih =>
    intro h;have h1:=h x (amo.2 (.inl rfl));have h2:=ih fun y hy=>h y (amt _ hy)
    rw[amO,anx,ams,amR,aoE];omega
 have h1:=this xs hc;have h2:xs.length * c<=n * c:=amH c h;unfold wL;omega
theorem Te{α:Type}{w:α->Nat}{f:α->α}(h:∀ x,w (f x)<=w x):∀ xs:List α,wL w (xs.map f)<=wL w xs
 | []=>oR _
 | x::r=>by have h1:=h x;have h2:=Te h r;unfold wL at h2 ⊢;simp only[amO,anx,ams]at h2 ⊢;omega
theorem Jo{a:ax}(h:bo a=true):aI a<=1400:=by
 have hw:aI a=a.1.length+wL aZ a.2.2.2.2.2.1+dF (dw a)+wL bA a.2.2.2.2.2.2.2.2.2.2.1:=rfl;have hr:dF (dw a)=a.2.2.2.2.2.2.2.2.1.length+a.2.2.2.2.2.2.2.2.2.1.length:=rfl;unfold bo fB dm gS eG at h;simp only[anI,ame]at h;obtain⟨h1,_,_,_,_,h6,h7,h8,_⟩:=h;have h1:ae a.1<=19:=ana h1.1;unfold ae at h1;have hh:wL aZ a.2.2.2.2.2.1<=4+4 * 6:=by
  have h4:ae a.2.2.2.2.2.1<=4:=ana h6.2;unfold ae at h4;refine LK (by omega) fun y hy => ?_
  obtain⟨i,hi⟩:=anH.1 hy;have:=gF _ h6.1 hi;unfold ft mH bm at this;simp only[anI,ame]at this;have h3:=bB.1 this.1.1.2;unfold ae at h3;show y.1.length<=6;omega
 have h3:1<=ae a.2.2.2.2.2.2.2.2.1/\ae a.2.2.2.2.2.2.2.2.1<=8:=bB.1 h7.2.1;have h4:ae a.2.2.2.2.2.2.2.2.2.1=ae a.2.2.2.2.2.2.2.2.1:=bt.1 h7.2.2.1;unfold ae at h3 h4;have hs:wL bA a.2.2.2.2.2.2.2.2.2.2.1<=6+6 * 210:=by
  have h4:ae a.2.2.2.2.2.2.2.2.2.2.1<=6:=ana h8.2;unfold ae at h4;refine LK (by omega) fun y hy => ?_
  obtain⟨i,hi⟩:=anH.1 hy;have:=gF _ h8.1 hi;unfold dp la at this;simp only[anI,ame]at this;obtain⟨⟨⟨_,e1⟩,⟨_,e2⟩,e3⟩,_⟩:=this;have e1:=bt.1 e1;have e2:=bt.1 e2;have e3:=bB.1 e3;unfold ae at e1 e2 e3;show y.1.length+y.2.1.length+y.2.2.1.length<=210;omega
 omega
theorem J2{b:List ax}(h:ji b=true):wL aI b<=6+6 * 1400:=by
 have h6:ae b<=6:=by unfold ji at h;simp only[anI,ame]at h;exact ana h.2
 unfold ae at h6;refine LK (by omega) fun y hy => ?_
 obtain⟨i,hi⟩:=anH.1 hy;exact Jo (sS h hi)
theorem KS{b:List ax}(x:aJ)(now:Int)(hb:dJ b)(hw:wL aI b<=9100000):wL aI (iI b x now).1<=9100000/\(iI b x now).2.length<=200:=by
 rcases Hl b x now with ⟨h,h2⟩ | ⟨m,q,h1,h2,h3,h4⟩
 . rw[h]; exact⟨hw,h2⟩
 . have:=Wf b m q now hb h2;have hs:=J2 h1;rw[h4];omega
theorem Vh(s:List gO)(i:Nat)(e:pO){b:List ax}(hb:dJ b)(hw:wL aI b<=9100000):wL aI (pR s i e b).1<=9100000/\(pR s i e b).2.length<=200:=by
 unfold pR;cases swB s i with
 | false=>exact KS _ _ hb hw
 | true=>exact KS _ _ (AM _ hb) (aml (Te (fun a=>nf a e.1) b) hw)
theorem adp(s:List gO)(l:List pO)(b:List ax)(hb:dJ b)(hw:wL aI b<=9100000):dJ (runM s l b).1/\wL aI (runM s l b).1<=9100000/\(runM s l b).2.length=l.length/\∀ r∈(runM s l b).2,r.1.length<=200:=by
 have:=CP (MK s) (fun i a=>dJ a.1/\wL aI a.1<=9100000/\a.2.length=i/\∀ r∈a.2,r.1.length<=200) l 0 (b,[]) ⟨hb,hw,rfl,fun r hr=>by simp at hr⟩ fun j e a _ h=>by
  have h2:=Vh s (0+j) e h.1 h.2.1;refine⟨Dx s _ e h.1,h2.1,?_,fun r hr => ?_⟩
  . show(a.2++[((pR s (0+j) e a.1).2,())]).length=_;rw[amf,h.2.2.1];try rfl
  . rcases anA.1 hr with hr | hr
    . exact h.2.2.2 r hr
    . rw[aoi.1 hr]; exact h2.2
 rw[amp]at this;exact this
theorem Wx{l:List pO}(h:wL dq l<=1048576)(hy:∀ e∈l,Iu e):Ku l:=by have h1:=oh dq l;refine⟨by omega,fun e he=>⟨?_,fun z hz=>(hy e he).1 z hz⟩⟩;have h2:=oG dq he;have h3:dq e=e.2.1.length+e.2.2.1.length:=rfl;omega
theorem VL(x:List ax×Unit)(l:List pO)(hb:J0 x)(hl:l.length<=bQ/\∀ y∈l,AH y)(hy:P1 x)(hyd:∀ y∈l,Iu y):g5 x l=zR true:=by
 have bp:=bk;obtain⟨b,u⟩:=x;unfold g5;rw[aa4 (b,()) 1048576 (by decide) (by decide) hb];dsimp only[oF,oB];by_cases hw:((kY (b,()):Nat):Int)<=1048576;rotate_left
 . rw[bL hw];try rfl
 rw[cV hw,aF (by omega)];dsimp only[oF];rw[Xb l _ (by omega) (by omega) hl];dsimp only[oB];by_cases Ph:((wL dq l:Nat):Int)<=1048576-((kY (b,()):Nat):Int);rotate_left
 . rw[bL Ph];try rfl
 rw[cV Ph,aF (by omega)];dsimp only[oF];have Mi:kY (b,())<=1048576:=by omega
 have Mh:wL dq l<=1048576:=by omega
 have hw2:wL aI b<=1048576:=Mi;have hln:=oh aI b;have Dn:dJ b:=⟨by omega,fun a ha=>RP (aml (oG aI ha) hw2)⟩;have hdB:=Wx Mh hyd;have hs:=ag0 b l Dn hdB;have hm:=afU b l Dn hdB;have hww:=adp [] l b Dn (by omega);generalize (runM [] l b).1=M at hs hm hww;generalize (runM [] l b).2=r at hs hm hww;have hMw:kY (M,())<=9100000:=hww.2.1;have hrl:=hww.2.2.1;have hll:=oh dq l;have hrw:wL gL r<=1048576+1048576 * 200:=LK (by omega) hww.2.2.2;have c1:=HB (M,());have c2:=HB (b,());have c3:=C8 J8 r;have c4:=C8 Nf l;have m1:=Ge (b,()) 1 (by decide) (by omega) (by omega);have m2:=Ov l (1+((lJ (b,()):Nat):Int)) (by omega) (by omega) (by omega);have m3:=Ge (M,()) 1 (by decide) (by omega) (by omega);have m4:=IN r (1+((lJ (M,()):Nat):Int)) (by omega) (by omega) (by omega);have m5:=Qu (M,()) 1 (by decide) (by omega) (by omega);have m6:=Ja r (1+((lJ (M,()):Nat):Int)) (by omega) (by omega) (by omega);have e1:=Rc (M,()) (by omega);have e2:=Rc (b,()) (by omega);have e3:=XC l (by omega);have e4:=TW r (by omega);have n1:aE (1+((lJ (b,()):Nat):Int)+((cL kC l:Nat):Int)) 0=false:=aF (by omega);have n2:aE (1+((lJ (M,()):Nat):Int)) 0=false:=aF (by omega);have n3:aE (1+((lJ (M,()):Nat):Int)+((cL cK r:Nat):Int)) 0=false:=aF (by omega);simp only[oF,oT,oB,ab7 (b,()) Mi,WE l Mh,hs,hm,e1,e2,e3,e4,m1,m2,m3,m4,m5,m6,n1,n2,n3,bX,oN]
end Go.Av
