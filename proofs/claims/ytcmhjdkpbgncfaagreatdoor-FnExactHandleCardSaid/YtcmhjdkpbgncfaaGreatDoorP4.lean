/- FnExactHandle, a part. -/
import Derived.Test.YtcmhjdkpbgncfaaGreatDoorP2
import Derived.Test.YtcmhjdkpbgncfaaGreatDoorP3
set_option maxRecDepth 100000
set_option maxHeartbeats 4000000
namespace Go.Av
theorem Nh{a:ay}(h:aH a<=1048576):bE a:=by
 have hw:aH a=a.1.length+wL aX a.2.2.2.2.2.1+du (cX a)+wL bp a.2.2.2.2.2.2.2.2.2.2.1:=rfl;have hr:du (cX a)=a.2.2.2.2.2.2.2.2.1.length+a.2.2.2.2.2.2.2.2.2.1.length:=rfl;have h1:=uG aX a.2.2.2.2.2.1;have h2:=uG bp a.2.2.2.2.2.2.2.2.2.2.1;refine⟨by omega,⟨by omega,fun y hy => ?_⟩,⟨?_,?_⟩,by omega,fun y hy => ?_⟩
 . have:=o6 aX hy;have e:aX y=y.1.length:=rfl;omega
 . show a.2.2.2.2.2.2.2.2.1.length<=_; omega
 . show a.2.2.2.2.2.2.2.2.2.1.length<=_; omega
 . have:=o6 bp hy;have e:bp y=y.1.length+y.2.1.length+y.2.2.1.length:=rfl;omega
theorem mQ(a:ay)(now:Int):aH (az a now)<=aH a:=by
 unfold az;have hw:aH a=a.1.length+wL aX a.2.2.2.2.2.1+du (cX a)+wL bp a.2.2.2.2.2.2.2.2.2.2.1:=rfl;cases bg a with
 | false=>exact oR _
 | true =>
   cases bd now with
   | false=>exact oR _
   | true => have:=pg aX (fL now) a.2.2.2.2.2.1;show a.1.length+wL aX (a.2.2.2.2.2.1.filter (fL now))+du (cX a)+wL bp a.2.2.2.2.2.2.2.2.2.2.1<=_;omega
theorem RH(xs:List aK)(h:aK):wL aX (dX xs h).1<=wL aX xs+1+h.1.length:=by
 have h0:wL aX ([]:List aK)=0:=rfl;unfold dX;cases cN xs with
 | false=>simp only[oF]; omega
 | true =>
   cases cN (iV xs h)with
   | false=>simp only[oT,oF]; omega
   | true =>
     simp only[oT];have e1:cL aX (iV xs h)=cL aX (xs.takeWhile (lC h))+(aX h+cL aX ((xs.dropWhile (lC h)).filter (bR h.1))):=by unfold iV cL;simp only[ag7,ag8,aeZ,afR]
     have e2:=uB aX (bR h.1) (xs.dropWhile (lC h));have e3:cL aX xs=cL aX (xs.takeWhile (lC h))+cL aX (xs.dropWhile (lC h)):=by
      have:xs=xs.takeWhile (lC h)++xs.dropWhile (lC h):=ag2.symm
      conv=>lhs; rw[this]
      simp only[cL,ag7,ag8]
     have e4:=Gg xs h;have e5:aX h=h.1.length:=rfl;show(iV xs h).length+cL aX (iV xs h)<=(xs.length+cL aX xs)+1+h.1.length;omega
theorem V7(a:ay)(id:S8)(amt ttl now:Int):aH (kq a id amt ttl now).1<=aH a+1+id.length:=by
 have h0:aH aL<=aH a:=aeu (agl rfl) (aeA _);have hs:=mQ a now;unfold kq;generalize az a now=s at hs ⊢;cases cond (bg a) (cond (bd now) (bf id) false) false with
 | false=>simp only[oF]; omega
 | true =>
 cases cI amt 1 9007199254740992 with
 | false=>simp only[oT,oF]; omega
 | true =>
 cases(cond (!cI ttl 1 9999) true (aD 1000000000 (ak .i64 now ttl)))with
 | true=>simp only[oT,oF]; omega
 | false =>
 cases bT 0 (ax s.2.2.2.2.2.1 id)with
 | true=>simp only[oT,oF]; omega
 | false =>
 cases aj (ae s.2.2.2.2.2.1) 4 with
 | true=>simp only[oT,oF]; omega
 | false =>
 cases aj (gn s amt now) 0 with
 | false=>simp only[oT,oF]; omega
 | true => simp only[oT,oF];have hw:aH s=s.1.length+wL aX s.2.2.2.2.2.1+du (cX s)+wL bp s.2.2.2.2.2.2.2.2.2.2.1:=rfl;have hl:=ow (cX s) now amt;have e1:=RH s.2.2.2.2.2.1 (id,amt,ak .i64 now ttl,());have e2:du (cX s)=(cX s).2.2.1.length+(cX s).2.2.2.1.length:=rfl;show s.1.length+wL aX (dX s.2.2.2.2.2.1 (id,amt,ak .i64 now ttl,())).1+((cR (cX s) now amt).2.2.1.length+(cR (cX s) now amt).2.2.2.1.length)+wL bp s.2.2.2.2.2.2.2.2.2.2.1<=_;simp only at e1;omega
theorem Wo(a:ay)(id:S8)(amt now:Int):aH (kt a id amt now).1<=aH a:=by
 have h0:aH aL<=aH a:=aeu (agl rfl) (aeA _);have hs:=mQ a now;unfold kt;cases cond (bg a) (cond (bd now) (bf id) false) false with
 | false=>exact h0
 | true =>
   cases cI amt 1 9007199254740992 with
   | false=>exact h0
   | true =>
     generalize az a now=s at hs ⊢;by_cases hat:ax s.2.2.2.2.2.1 id<0
     . rw[aP hat]; exact h0
     . rw[aG hat];cases aj (gn s amt now) 0 with
       | false=>exact h0
       | true => have hw:aH s=s.1.length+wL aX s.2.2.2.2.2.1+du (cX s)+wL bp s.2.2.2.2.2.2.2.2.2.2.1:=rfl;have hl:=ow (cX s) now amt;have e1:=NX aX (xs:=s.2.2.2.2.2.1) (k:=ax s.2.2.2.2.2.1 id) (y:=((gt ([],0,0,()) s.2.2.2.2.2.1 (ax s.2.2.2.2.2.1 id)).1,ak .i64 (gt ([],0,0,()) s.2.2.2.2.2.1 (ax s.2.2.2.2.2.1 id)).2.1 amt,(gt ([],0,0,()) s.2.2.2.2.2.1 (ax s.2.2.2.2.2.1 id)).2.2.1,())) ([],0,0,()) (iO hat) rfl;have e2:du (cX s)=(cX s).2.2.1.length+(cX s).2.2.2.1.length:=rfl;show s.1.length+wL aX (cO s.2.2.2.2.2.1 (ax s.2.2.2.2.2.1 id) _)+((cR (cX s) now amt).2.2.1.length+(cR (cX s) now amt).2.2.2.1.length)+wL bp s.2.2.2.2.2.2.2.2.2.2.1<=_;rw[e1];omega
theorem BZ(a:ay)(l:List aK){n:Nat}(h:wL aX l<=wL aX a.2.2.2.2.2.1+n):aH (EG a l)<=aH a+n:=by have hw:aH a=a.1.length+wL aX a.2.2.2.2.2.1+du (cX a)+wL bp a.2.2.2.2.2.2.2.2.2.2.1:=rfl;show a.1.length+wL aX l+du (cX a)+wL bp a.2.2.2.2.2.2.2.2.2.2.1<=_;omega
theorem Wv(a b:ay)(id:S8)(now:Int)(hb:bE a):aH (fA a b id now).1<=aH a/\aH (fA a b id now).2.1<=aH b+1+1048576:=by
 have h0:aH aL=0:=rfl;have hs:=mQ a now;have ht:=mQ b now;have hsb:=dD now hb;unfold fA;generalize az a now=s at hs hsb ⊢;generalize az b now=t at ht ⊢;cases cond (bg a) (cond (bd now) (bf id) false) false with
 | false=>simp only[oF]; omega
 | true =>
 cases bg b with
 | false=>simp only[oT,oF]; omega
 | true =>
 cases bw a.1 b.1 with
 | true=>simp only[oT,oF]; omega
 | false =>
 cases aD (ax s.2.2.2.2.2.1 id) 0 with
 | true=>simp only[oT,oF]; omega
 | false =>
 cases bT 0 (ax t.2.2.2.2.2.1 id)with
 | true=>simp only[oT,oF]; omega
 | false =>
 cases aj (ae t.2.2.2.2.2.1) 4 with
 | true=>simp only[oT,oF]; omega
 | false =>
 cases aD (gx t now) (gt nL s.2.2.2.2.2.1 (ax s.2.2.2.2.2.1 id)).2.1 with
 | true=>simp only[oT,oF]; omega
 | false => simp only[oT,oF];have hg:=CN (k:=ax s.2.2.2.2.2.1 id) hsb.2.1.2;have e1:=RH t.2.2.2.2.2.1 (gt nL s.2.2.2.2.2.1 (ax s.2.2.2.2.2.1 id));have w1:=BZ s (s.2.2.2.2.2.1.filter (bR id)) (n:=0) (pg aX (bR id) s.2.2.2.2.2.1);have w2:=BZ t (dX t.2.2.2.2.2.1 (gt nL s.2.2.2.2.2.1 (ax s.2.2.2.2.2.1 id))).1 (n:=1+1048576) (by omega);omega
theorem Bv(a:ay)(p:Int)(l:List aK)(h:wL aX l<=wL aX a.2.2.2.2.2.1):aH (Hs a p l)<=aH a:=by have hw:aH a=a.1.length+wL aX a.2.2.2.2.2.1+du (cX a)+wL bp a.2.2.2.2.2.2.2.2.2.2.1:=rfl;show a.1.length+wL aX l+du (cX a)+wL bp a.2.2.2.2.2.2.2.2.2.2.1<=_;omega
theorem Xy(a:ay)(id:S8)(amt:Int)(last:Bool)(now:Int):aH (nb a id amt last now).1<=aH a:=by
 have h0:aH aL<=aH a:=aeu (agl rfl) (aeA _);have hs:=mQ a now;unfold nb;generalize az a now=s at hs ⊢;have hf:=Bv s (ak .i64 s.2.2.1 amt) _ (pg aX (bR id) s.2.2.2.2.2.1);cases cond (bg a) (cond (bd now) (bf id) false) false <;> first | exact h0 | skip
 cases cI amt 1 9007199254740992 <;> first | exact h0 | skip
 by_cases hat:ax s.2.2.2.2.2.1 id<0
 . rw[aP hat]; exact h0
 rw[aG hat];have e1:=fun v=>NX aX (xs:=s.2.2.2.2.2.1) (k:=ax s.2.2.2.2.2.1 id) (y:=((gt nL s.2.2.2.2.2.1 (ax s.2.2.2.2.2.1 id)).1,v,(gt nL s.2.2.2.2.2.1 (ax s.2.2.2.2.2.1 id)).2.2.1,())) nL (iO hat) rfl
 cases aD (gt nL s.2.2.2.2.2.1 (ax s.2.2.2.2.2.1 id)).2.1 amt <;> first | exact h0 | skip
 dsimp only[oT,oF];cases(cond last true (aj amt (gt nL s.2.2.2.2.2.1 (ax s.2.2.2.2.2.1 id)).2.1))
 . exact aeu (Bv s _ _ (agl (e1 _))) hs
 . exact aeu hf hs
theorem Ul(a:ay)(id:S8)(now:Int):aH (kr a id now).1<=aH a:=by
 have h0:aH aL<=aH a:=aeu (agl rfl) (aeA _);have hs:=mQ a now;unfold kr;generalize az a now=s at hs ⊢;have hf:=Bv s s.2.2.1 _ (pg aX (bR id) s.2.2.2.2.2.1);cases cond (bg a) (cond (bd now) (bf id) false) false <;> first | exact h0 | skip
 cases aD (ax s.2.2.2.2.2.1 id) 0 <;> first | exact h0 | skip
 exact aeu hf hs
theorem OZ(a:ay)(now:Int):aH (gP a now).1<=aH a:=by
 have h0:aH aL<=aH a:=aeu (agl rfl) (aeA _);have hs:=mQ a now;unfold gP;cases bg a <;> first | exact h0 | skip
 cases bd now <;> first | exact h0 | exact hs
theorem ZZ(a b:ay)(q:ft)(now:Int)(hb:bE a)(hi:q.2.2.2.1.length<=1048576):aH (lN a b q now).1<=aH a+1048577/\aH (lN a b q now).2.1<=aH b+1048577:=by
 have w1:=V7 a q.2.2.2.1 q.2.2.2.2.2.2.1 q.2.2.2.2.2.2.2.1 now;have w2:=Wo a q.2.2.2.1 q.2.2.2.2.2.2.1 now;have w3:=fun l=>Xy a q.2.2.2.1 q.2.2.2.2.2.2.1 l now
 have w4:=Ul a q.2.2.2.1 now;have w5:=Wv a b q.2.2.2.1 now hb;have w6:=OZ a now;unfold lN;cases aj q.1 1 with
 | true=>simp only[oT]; omega
 | false =>
 cases aj q.1 2 with
 | true=>simp only[oT,oF]; omega
 | false =>
 cases aj q.1 3 with
 | true=>have:=w3 (aj q.1 4); simp only[oT,oF]; omega
 | false =>
 cases aj q.1 4 with
 | true=>have:=w3 true; simp only[oT,oF]; omega
 | false =>
 cases aj q.1 5 with
 | true=>simp only[oT,oF]; omega
 | false =>
 cases aj q.1 6 with
 | true=>simp only[oT,oF]; omega
 | false=>cases aj q.1 7 <;> simp only[oT,oF] <;> omega
theorem Hq(w:ay->Nat)(y:ay):∀(xs:List ay) (i:Nat),((xs.set i y).map w).sum<=(xs.map w).sum+w y
 | [],i=>by simp
 | x::r,0=>by simp only[List.set_cons_zero,aeZ,afR]; omega
 | x::r,i+1=>by have:=Hq w y r i;simp only[ahc,aeZ,afR]; omega
theorem Gv(xs:List ay)(k:Int)(y:ay):wL aH (cO xs k y)<=wL aH xs+aH y:=by have:=Hq aH y xs k.toNat;show(xs.set k.toNat y).length+((xs.set k.toNat y).map aH).sum<=xs.length+(xs.map aH).sum+aH y;rw[afz]; omega
theorem Uu(xs:List ay)(k:Int):aH (gt aL xs k)<=wL aH xs:=by
 have h0:aH aL=0:=rfl;show aH (xs.getD k.toNat aL)<=_;cases h:xs[k.toNat]? with
 | none=>simp only[List.getD,h,Option.getD_none]; omega
 | some y=>simp only[List.getD,h,afF]; exact o6 aH (aet h)
theorem Z7{xs:List ay}(hb:lJ xs)(k:Int):bE (gt aL xs k):=by
 show bE (xs.getD k.toNat aL);cases h:xs[k.toNat]? with
 | none=>simp only[List.getD,h,Option.getD_none]; exact er
 | some y=>simp only[List.getD,h,afF]; exact hb.2 y (aet h)
theorem Ve(b:List ay)(q:ft)(now:Int)(hb:lJ b)(hi:q.2.2.2.1.length<=1048576):wL aH (cV b q now).1<=3 * wL aH b+2097154:=by
 have h0:wL aH ([]:List ay)=0:=rfl;unfold cV;cases jV b with
 | false=>simp only[oF]; omega
 | true =>
 cases kf q with
 | false=>simp only[oT,oF]; omega
 | true =>
 cases bd now with
 | false=>simp only[oT,oF]; omega
 | true =>
 simp only[oT];have g1:=Uu b (au b q.2.1);have g2:=Uu b (au b q.2.2.1);cases aj q.1 6 with
 | true =>
   simp only[oT];have ho:=ZZ (gt aL b (au b q.2.1)) (gt aL b (au b q.2.2.1)) q now (Z7 hb _) hi;generalize lN (gt aL b (au b q.2.1)) (gt aL b (au b q.2.2.1)) q now=r at ho ⊢;cases(cond (aD (au b q.2.1) 0) true (aD (au b q.2.2.1) 0))with
   | true=>simp only[oT]; omega
   | false =>
   simp only[oF];cases aj r.2.2.1 0 with
   | false=>simp only[oF]; omega
   | true => simp only[oT];have s1:=Gv b (au b q.2.2.1) r.2.1;have s2:=Gv (cO b (au b q.2.2.1) r.2.1) (au b q.2.1) r.1;omega
 | false =>
   simp only[oF];have ho:=ZZ (gt aL b (au b q.2.1)) (gt aL b (au b q.2.1)) q now (Z7 hb _) hi;generalize lN (gt aL b (au b q.2.1)) (gt aL b (au b q.2.1)) q now=r at ho ⊢;cases aD (au b q.2.1) 0 with
   | true=>simp only[oT]; omega
   | false =>
   simp only[oF];cases aj r.2.2.1 0 with
   | false=>simp only[oF]; omega
   | true => simp only[oT];have s2:=Gv b (au b q.2.1) r.1;omega
theorem Q8(a:ay)(l:List cM):aH (Ga a l)<=aH a+wL bp l:=by have hw:aH a=a.1.length+wL aX a.2.2.2.2.2.1+du (cX a)+wL bp a.2.2.2.2.2.2.2.2.2.2.1:=rfl;show a.1.length+wL aX a.2.2.2.2.2.1+du (cX a)+wL bp l<=_;omega
theorem PY(a:ay):wL bp (slotsOf a)<=aH a:=by have hw:aH a=a.1.length+wL aX a.2.2.2.2.2.1+du (cX a)+wL bp a.2.2.2.2.2.2.2.2.2.2.1:=rfl;show wL bp a.2.2.2.2.2.2.2.2.2.2.1<=_;omega
theorem P6(b:List ay)(m:bl)(q:ft)(now:Int)(hb:lJ b)(hq:DC q):wL aH (x4 b m q now).1<=9 * wL aH b+9000000/\(x4 b m q now).2.length<=180:=by
 have hd:wL aH (cq b q now)<=3 * wL aH b+2097154:=by
  unfold cq;cases aj (cV b q now).2.1 0 with
  | true=>exact Ve b q now hb hq.2.2.1
  | false=>show wL aH b<=_; omega
 have hr:=Gw m (cV b q now).2.1 q.2.2.2.1 (cV b q now).2.2;have hg:=Uu (cq b q now) (au b q.2.1);have hs:=PY (gt aL (cq b q now) (au b q.2.1));refine⟨?_,hr⟩;have h1:=Gv (cq b q now) (au b q.2.1) (Ga (gt aL (cq b q now) (au b q.2.1)) (slotsOf (gt aL (cq b q now) (au b q.2.1))++[kB b m q now]));have h2:=Q8 (gt aL (cq b q now) (au b q.2.1)) (slotsOf (gt aL (cq b q now) (au b q.2.1))++[kB b m q now]);have h3:wL bp (slotsOf (gt aL (cq b q now) (au b q.2.1))++[kB b m q now])=wL bp (slotsOf (gt aL (cq b q now) (au b q.2.1)))+1+bp (kB b m q now):=by unfold wL;rw[aeo,ag7,ag8,agr];show _+1+(_+(bp (kB b m q now)+0))=_;omega
 have h4:bp (kB b m q now)=q.2.2.2.2.1.length+q.2.2.2.2.2.1.length+(qL m (cV b q now).2.1 q.2.2.2.1 (cV b q now).2.2).length:=rfl;have q1:=hq.2.2.2.1;have q2:=hq.2.2.2.2;show wL aH (cO (cq b q now) (au b q.2.1) (Ga (gt aL (cq b q now) (au b q.2.1)) (slotsOf (gt aL (cq b q now) (au b q.2.1))++[kB b m q now])))<=_;omega
theorem Wj(b:List ay)(x:aI)(now:Int)(hb:lJ b):wL aH (jo b x now).1<=9 * wL aH b+9000000/\(jo b x now).2.length<=1048576:=by
 have h0:∀ o:aI,o.length<=1048576->wL aH (b,o).1<=9 * wL aH b+9000000/\(b,o).2.length<=1048576:=fun o ho=>⟨by show wL aH b<=_; omega,ho⟩
 have hr:∀(m:bl) (c:Int) (h t:S8),(qL m c h t).length<=1048576:=fun m c h t=>aeu (Gw m c h t) (by decide)
 unfold jo;cases cond (jV b) (bd now) false <;> first | exact h0 [] (aeA _) | skip
 cases hE x 0 4 with
 | none=>exact h0 [] (aeA _)
 | some t =>
   dsimp only[oT];cases bw (db t) [] <;> first | exact h0 [] (aeA _) | skip
   cases aj (cU x).2 0 <;> first | exact h0 _ (aeu (PX t 1) (by decide)) | skip
   dsimp only[oT,oF];unfold vT;cases aj (ee (cU x).1).2 0 <;> first | exact h0 _ (hr _ _ _ _) | skip
   unfold sK;dsimp only[oT];cases aD (au b (ee (cU x).1).1.2.1) 0 <;> first | exact h0 _ (hr _ _ _ _) | skip
   dsimp only[oF];cases hs:ik (slotsOf (gt aL b (au b (ee (cU x).1).1.2.1))) (ee (cU x).1).1.2.2.2.2.1 (ee (cU x).1).1.2.2.2.2.2.1 with
   | some o => refine h0 o ?_;unfold ik at hs;obtain⟨y,hy,rfl⟩:=afT.1 hs;have hm:=agM hy;exact(qn (aa4 hb _)).2 y hm
   | none =>
     dsimp only;cases aj (ae (slotsOf (gt aL b (au b (ee (cU x).1).1.2.1)))) 6 <;> first | exact h0 _ (hr _ _ _ _) | skip
     have:=P6 b (cU x).1 (ee (cU x).1).1 now hb (A4 (we x));exact⟨this.1,aeu this.2 (by decide)⟩
theorem E8(x:List ay×Unit)(d:aI)(now:Int)(hb:Eu x)(hdb:d.length<=bN)(hy:Mr x)(hyd:∀ y∈d,nK .u8 y.1):g4 x d now=zR true:=by
 have hbig:=bh;obtain⟨b,u⟩:=x;unfold g4;by_cases hd:d.length<=1048576;rotate_left
 . rw[aP (by unfold ae; omega)];try rfl
 rw[aG (by unfold ae; omega),Uf (b,()) 1048576 (by decide) (by decide) hb];dsimp only[oF,oB];by_cases hw:((jR (b,()):Nat):Int)<=1048576;rotate_left
 . rw[cg hw];try rfl
 have hw':jR (b,())<=1048576:=by omega
 have hw2:wL aH b<=1048576:=hw';have hl:=uG aH b;have hbb:lJ b:=⟨by omega,fun a ha=>Nh (aeu (o6 aH ha) hw2)⟩;have hdB:Ai d:=⟨hd,fun y hy=>hyd y hy⟩;have hs:=UF b d now hbb hdB;have hm:=WL b d now hbb hdB;have hww:=Wj b d now hbb;generalize (jo b d now).1=M at hs hm hww;generalize (jo b d now).2=r at hs hm hww;have hMw:jR (M,())<=9 * 1048576+9000000:=by have e:jR (M,())=wL aH M:=rfl;omega
 have hrl:=hww.2;have c1:=CK (M,());have c2:=CK (b,());have m1:=Df (b,()) 1 (by decide) (by omega) (by omega);have m2:=uK d (1+((ki (b,()):Nat):Int)) (by omega) (by rw[lT]; omega);have m3:=Df (M,()) 1 (by decide) (by omega) (by omega);have m4:=uK r (1+((ki (M,()):Nat):Int)) (by omega) (by rw[lT]; omega);have m5:=Nw (M,()) 1 (by decide) (by omega) (by omega);have m6:=zp r (1+((ki (M,()):Nat):Int)) (by omega) (by rw[lT]; omega);have e1:=KX (M,()) (by omega);have e2:=KX (b,()) (by omega);have e3:=BL d (by omega);have e4:=BL r (by omega);have n1:aD (1+((ki (b,()):Nat):Int)+((cL (fun _=>1) d:Nat):Int)) 0=false:=aG (by omega);have n2:aD (1+((ki (M,()):Nat):Int)) 0=false:=aG (by omega);have n3:aD (1+((ki (M,()):Nat):Int)+((cL (fun _=>1) r:Nat):Int)) 0=false:=aG (by omega);rw[dF hw,aG (by omega)];simp only[oF,oT,oB,VU (b,()) hw',Hj d hd,hs,hm,e1,e2,e3,e4,m1,m2,m3,m4,m5,m6,n1,n2,n3,bZ,oN]
end Go.Av
