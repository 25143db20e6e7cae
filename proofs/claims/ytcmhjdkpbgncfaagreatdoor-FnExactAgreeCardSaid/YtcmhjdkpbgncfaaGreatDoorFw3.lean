/- FnExactAgree, a part. -/
import Derived.Test.YtcmhjdkpbgncfaaGreatDoorFw2
import Derived.Laws.AppendOwn
import Derived.KernelRfl
namespace Go.Av
open Go.RowKit (Below)
def Gh.lX(g:Gh)(r j:Nat)(v:Value)(F:Nat->Prop):Gh:=⟨g.be,fun r' j'=>if r'=r/\j'=j then v else g.cv r' j',fun r' j' b=>if r'=r/\j'=j then F b else g.fp r' j' b⟩
section
variable{P:Program}{cx:Cx P}{Z:Nat->Prop}{g:Gh}{st:St}{a:Act}{w:World}{E:En}
theorem lh{r j:Nat}{c:RC}{r':Nat}{R':Rt}(hR:look (st.setCell r j c).rt r'=some R'):∃ R,look st.rt r'=some R/\R'.box=R.box/\R'.cells.length=R.cells.length:=by
 rw[ig]at hR;split at hR
 . cases hl:look st.rt r' with
   | none=>rw[hl]at hR; simp at hR
   | some R => rw[hl]at hR;simp only[aeM,aen]at hR;subst hR;exact⟨R,rfl,rfl,jB _ _ _⟩
 . exact⟨R',hR,rfl,rfl⟩
theorem Rel.change(h:Rel cx Z g st a w){r j:Nat}{c c':RC}(hc:st.cell r j=some c){w':World}{v':Value}{F':Nat->Prop}(h1:w'.os=w.os)(h2:w'.tape=w.tape)(h3:w'.output=w.output)(hsz:w.heap.size<=w'.heap.size)
 (hs:c.s<=c'.s)(hm:c.m<c'.m)(hcv:c'.s=c.s->v'=g.cv r j)(hsl:c'.s=c.s->∀ e ks xs,c.v= .own (.sl e ks) xs->∃ xs',c'.v= .own (.sl e ks) xs'/\(aQ xs').length=(aQ xs).length)
 (hblk:∀ b,b<w.heap.size->¬ g.fp r j b->(∀ R,look st.rt r=some R->R.box=true->g.be r≠b)->w'.heap[b]? = w.heap[b]?)
 (hF:∀ b,F' b->b<w'.heap.size/\(cx.F0 b∨cx.w0.heap.size<=b)/\¬ Z b/\(∀ r' j',g.fp r' j' b->r'=r/\j'=j)/\(∀ r' R,look st.rt r'=some R->R.box=true->g.be r'≠b)/\∃(k:K) (x:T k),c'.v= .own k x)
 (hbox:∀ R,look st.rt r=some R->R.box=true->∃ cs e fr cs',w.heap[g.be r]? = some (.cells cs e fr)/\w'.heap[g.be r]? = some (.cells cs' e fr)/\cs'.size=cs.size/\∀ i,i<cs.size->cs'[i]? = some (if i=j then v' else g.cv r i))
 (hv:∀(k:mA Z Z w w' g (g.lX r j v' F') st (st.setCell r j c')),jJ Z (g.lX r j v' F') (st.setCell r j c') w' c'.v v' F') :
 Rel cx Z (g.lX r j v' F') (st.setCell r j c') a w'/\kf Z w w' g (g.lX r j v' F') st (st.setCell r j c'):=by
 have hfpo:∀ r' j' b,g.fp r' j' b->¬ (r'=r/\j'=j)->w'.heap[b]? = w.heap[b]? := fun r' j' b hb hne=>hblk b (h.fp r' j' b hb).1 (fun hh=>hne (h.disj _ _ _ _ _ hb hh)) fun R hR hbx he=>(h.box r R hR hbx).2.2.1 r' j' (by rw[he]; exact hb)
 have hz:∀ b,Z b->b<w.heap.size->w'.heap[b]? = w.heap[b]? := fun b hb hlt=>hblk b hlt (fun hh=>(h.fp r j b hh).2.2.1 hb) fun R hR hbx he=>(h.box r R hR hbx).2.1 (by rw[he]; exact hb)
 have hfpi:∀ r' j' b,(g.lX r j v' F').fp r' j' b->(r'=r/\j'=j/\F' b)∨(¬ (r'=r/\j'=j)/\g.fp r' j' b):=fun r' j' b hb=>by
  simp only[Gh.lX]at hb;split at hb
  . rename_i e; exact .inl ⟨e.1,e.2,hb⟩
  . rename_i e; exact .inr ⟨e,hb⟩
 have k:mA Z Z w w' g (g.lX r j v' F') st (st.setCell r j c'):=by
  refine { size:=hsz,z:=fun b hb hlt=>⟨hb,hz b hb hlt⟩,root:=fun r' R hR => ?_,cell:=fun r' j' c0 hc0 => ?_,own:=fun r j b hb=>(h.fp r j b hb).1,block:=(fb h (st':=st) (w':=w) rfl rfl).block }
  . rw[ig];by_cases e:r=r'
    . rw[if_pos e,hR]; exact⟨_,rfl,rfl,fun _=>rfl⟩
    . rw[if_neg e]; exact⟨R,hR,rfl,fun _=>rfl⟩
  . rw[cS];by_cases e:r=r'/\j=j'
    . obtain⟨rfl,rfl⟩:=e;rw[hc0]at hc;simp only[aen]at hc;subst hc;rw[if_pos ⟨rfl,rfl⟩,hc0];refine⟨_,rfl,hs,agD hm,fun e => ?_,hsl,fun _ e=>absurd e (Nat.ne_of_gt hm)⟩;simp only[Gh.lX,and_self,if_true];exact hcv e
    . rw[if_neg e];have e':¬ (r'=r/\j'=j):=fun x=>e ⟨x.1.symm,x.2.symm⟩
      refine⟨c0,hc0,oR _,oR _,fun _=>by simp only[Gh.lX]; rw[if_neg e'],fun _ e ks xs hh=>⟨xs,hh,rfl⟩,fun _ _=>⟨rfl,fun b hb _=>⟨?_,hfpo r' j' b hb e'⟩⟩⟩;simp only[Gh.lX];rw[if_neg e'];exact hb
 refine⟨?_,⟨k,eG,rfl,fun r' R' hR=>by obtain⟨R,h1,h2,_⟩:=lh hR; exact⟨R,h1,h2⟩⟩⟩;refine { os:=h1.trans h.os,tape:=h2.trans h.tape,output:=h3.trans h.output,size:=aeA h.size hsz,block := ?_,bL:=fun b hb=>⟨aeK (h.bL b hb).1 hsz,(h.bL b hb).2⟩,z0:=h.z0,fp := ?_,disj := ?_,box := ?_,cell := ?_,tm := ?_,defers:=h.defers,pin:=h.pin }
 . intro b hb hf;refine(hblk b (aeK hb h.size) (fun hh => ?_) fun R hR hbx he => ?_).trans (h.block b hb hf)
   . rcases(h.fp r j b hh).2.1 with h4 | h4
     . exact hf h4
     . omega
   . rcases(h.box r R hR hbx).1 with h4 | h4
     . exact hf (he ▸ h4)
     . omega
 . intro r' j' b hb;rcases hfpi r' j' b hb with ⟨e1,e2,hb'⟩ | ⟨hne,hb⟩
   . obtain⟨k1,k2,k3,_,_,kk,x,k4⟩:=hF b hb';exact⟨k1,k2,k3,c',kk,x,by rw[cS,if_pos ⟨e1.symm,e2.symm⟩,e1,e2,hc]; rfl,k4⟩
   . obtain⟨k1,k2,k3,c0,kk,x,k4,k5⟩:=h.fp r' j' b hb;exact⟨aeK k1 hsz,k2,k3,c0,kk,x,by rw[cS,if_neg (fun e=>hne ⟨e.1.symm,e.2.symm⟩)]; exact k4,k5⟩
 . intro r1 j1 r2 j2 b hb1 hb2;rcases hfpi _ _ _ hb1 with ⟨e1,e2,k1⟩ | ⟨hne1,k1⟩
   . rcases hfpi _ _ _ hb2 with ⟨e3,e4,k2⟩ | ⟨hne2,k2⟩
     . exact⟨e1.trans e3.symm,e2.trans e4.symm⟩
     . exact absurd ((hF b k1).2.2.2.1 r2 j2 k2) hne2
   . rcases hfpi _ _ _ hb2 with ⟨e3,e4,k2⟩ | ⟨hne2,k2⟩
     . exact absurd ((hF b k2).2.2.2.1 r1 j1 k1) hne1
     . exact h.disj _ _ _ _ _ k1 k2
 . intro r' R' hR hbx;obtain⟨R,e1,e2,e3⟩:=lh hR;obtain⟨b1,b2,b3,b4,cs,el,fr,b5,b6,b7,b8⟩:=h.box r' R e1 (by rw[<- e2]; exact hbx);have hnf:∀ r0 j0,¬ (g.lX r j v' F').fp r0 j0 (g.be r'):=fun r0 j0 hh=>by
    rcases hfpi _ _ _ hh with ⟨_,_,hh⟩ | ⟨_,hh⟩
    . exact(hF _ hh).2.2.2.2.1 r' R e1 (by rw[<- e2]; exact hbx) rfl
    . exact b3 _ _ hh
   refine⟨b1,b2,hnf,fun r'' R'' hR'' hb'' he => ?_,?_⟩
   . obtain⟨R2,f1,f2,_⟩:=lh hR'';exact b4 r'' R2 f1 (by rw[<- f2]; exact hb'') he
   . by_cases e:r'=r
     . subst e;obtain⟨cs0,el0,fr0,cs',f1,f2,f3,f4⟩:=hbox R e1 (by rw[<- e2]; exact hbx);rw[b5]at f1;simp only[aen,Obj.cells.injEq]at f1;obtain⟨rfl,rfl,rfl⟩:=f1;refine⟨cs',el,fr,f2,fun q hq=>b6 q (by omega),by rw[f3,b7,e3],fun i hi => ?_⟩;rw[f4 i (by omega)];simp only[Gh.lX,true_and]
     . refine⟨cs,el,fr,?_,b6,by rw[b7,e3],fun i hi => ?_⟩
       . have hlt:g.be r'<w.heap.size:=by
          rcases aeD (g.be r') w.heap.size with hh | hh
          . exact hh
          . simp[aeH hh]at b5
         show w'.heap[g.be r']? = _;rw[hblk _ hlt (b3 r j) fun R0 hR0 hb0 he=>e (b4 r R0 hR0 hb0 he).symm];exact b5
       . rw[b8 i hi];simp only[Gh.lX];rw[if_neg (fun x=>e x.1)]
 . intro r' j' c0 hc0;rw[cS]at hc0;split at hc0
   . rename_i e;obtain⟨rfl,rfl⟩:=e;rw[hc]at hc0;simp only[aeM,aen]at hc0;subst hc0;have e1:(g.lX r j v' F').cv r j=v':=by simp[Gh.lX]
     have e2:(g.lX r j v' F').fp r j=F':=by funext b; simp[Gh.lX]
     rw[e1,e2];exact hv k
   . rename_i e;have e':¬ (r'=r/\j'=j):=fun x=>e ⟨x.1.symm,x.2.symm⟩
     have e1:(g.lX r j v' F').cv r' j'=g.cv r' j':=by simp only[Gh.lX]; rw[if_neg e']
     have e2:(g.lX r j v' F').fp r' j'=g.fp r' j':=by funext b; simp only[Gh.lX]; rw[if_neg e']
     rw[e1,e2];exact jJ.cg k _ _ _ _ (h.cell r' j' c0 hc0) (fun _ h=>h) (fun b hb _=>hfpo r' j' b hb e')
 . intro t tv ht;rw[eG]at ht;exact⟨(h.tm t tv ht).1,bF.cg k _ _ (h.tm t tv ht).2⟩
theorem Bv{b o:Nat}{v:Value}(h:w.cell? ⟨b,o,none⟩=some v):w.setCell ⟨b,o,none⟩ v=w:=by
 have:(w.setCell ⟨b,o,none⟩ v).heap=w.heap:=by
  apply agb;intro i;simp only[World.setCell,Array.getElem?_modify];by_cases e:b=i
  . subst e;rw[if_pos rfl];simp only[World.cell?]at h;split at h
    . rename_i c el fr hh;rw[hh];simp at h;simp only[aeM,afH,ae5,afE,aen,Obj.cells.injEq,afQ];apply agb;intro q;rw[afj];by_cases e:o=q
      . subst e;rw[if_pos rfl];have hlt:o<c.size:=by
         rcases aeD o c.size with hh | hh
         . exact hh
         . simp[aeH hh]at h
        rw[if_pos hlt,h]
      . rw[if_neg e]
    . simp at h
  . rw[if_neg e]
 cases w;simp only[World.setCell]at this ⊢;congr 1
theorem dp(b o:Nat)(v:Value)(i:Nat):(w.setCell ⟨b,o,none⟩ v).heap[i]? = if b=i then (w.heap[i]?).map (fun | .cells c el fr=> .cells (c.setIfInBounds o v) el fr | x=>x)else w.heap[i]? := by
 simp only[World.setCell,Array.getElem?_modify];by_cases e:b=i
 . rw[if_pos e,if_pos e];cases w.heap[i]? with
   | none=>rfl
   | some x=>cases x <;> rfl
 . rw[if_neg e,if_neg e]
theorem Rel.Uk(h:Rel cx Z g st a w){r j:Nat}{c:RC}(hc:st.cell r j=some c){R:Rt}(hR:look st.rt r=some R)(hb:R.box=true){rv:RV}{v:Value}{F:Nat->Prop}(hF:iw cx Z g st w F)(hrv:match rv with | .own k x=>cO w k x v F | .av x=>bj Z g st w x v) :
 ∃ g',Rel cx Z g' (st.setCell r j ⟨c.s+1,c.m+1,rv⟩) a (w.setCell ⟨g.be r,j,none⟩ v)/\kf Z w (w.setCell ⟨g.be r,j,none⟩ v) g g' st (st.setCell r j ⟨c.s+1,c.m+1,rv⟩)/\g'.be=g.be:=by
 obtain⟨b1,b2,b3,b4,cs,el,fr,b5,b6,b7,b8⟩:=h.box r R hR hb;have hjl:j<cs.size:=by
  rw[b7];simp only[St.cell,hR]at hc;rcases aeD j R.cells.length with hh | hh
  . exact hh
  . simp[aeE hh]at hc
 have hsz:(w.setCell ⟨g.be r,j,none⟩ v).heap.size=w.heap.size:=by simp[World.setCell]
 have hother:∀ i,i≠g.be r->(w.setCell ⟨g.be r,j,none⟩ v).heap[i]? = w.heap[i]? := fun i hi=>by rw[dp,if_neg (fun e=>hi e.symm)]
 have:=h.change hc (c':=⟨c.s+1,c.m+1,rv⟩) (w':=w.setCell ⟨g.be r,j,none⟩ v) (v':=v) (F':=fun b=>F b/\∃(k:K) (x:T k),rv= .own k x) rfl rfl rfl (by rw[hsz]; exact oR _) (agf _) (afl _)
  (fun e=>absurd e (agJ _)) (fun e=>absurd e (agJ _)) (fun b _ _ hx=>hother b fun e=>hx R hR hb e.symm)
  (fun b hb'=>⟨by rw[hsz]; exact hF.lt b hb'.1,hF.own b hb'.1,hF.z b hb'.1,fun r' j' hh=>absurd hh (hF.fp b hb'.1 r' j'),fun r' R' hR' hx=>hF.box b hb'.1 r' R' hR' hx,hb'.2⟩)
  (fun R' hR' hx=>⟨cs,el,fr,cs.setIfInBounds j v,b5,by rw[dp,if_pos rfl,b5]; rfl,by simp,fun i hi=>by
    rw[afj];by_cases e:i=j
    . subst e; simp[hi]
    . rw[if_neg (fun x=>e x.symm),if_neg e]; exact b8 i hi⟩)
  (fun k=>by
    cases rv with
    | own kk x=>exact cO.frame _ _ _ _ _ (fun b hb=>⟨hb,kk,x,rfl⟩) (fun b hb _=>hother b fun e=>hF.box b hb r R hR ‹_› e.symm) hrv
    | av x=>exact bj.cg k _ _ hrv)
 exact⟨_,this.1,this.2,rfl⟩
end
def shape(st:St)(r:Nat):Option (Bool×Nat):=(look st.rt r).map fun R=>(R.box,R.cells.length)
theorem jz{st:St}{r j:Nat}{c:RC}(r':Nat):shape (st.setCell r j c) r'=shape st r':=by
 unfold shape;rw[ig];split
 . rename_i e;subst e;cases look st.rt r with
   | none=>rfl
   | some R=>simp[jB]
 . rfl
theorem Fj{st:St}{av:AV}{q:St×((k:K)×T k)}(h:st.take av=some q)(r':Nat):shape q.1 r'=shape st r'/\q.1.tm=st.tm:=by
 cases av with
 | ref r j s =>
   simp only[St.take]at h;split at h
   . rename_i s' m k x hc;cases hb:Nat.beq s' s with
     | false=>rw[hb]at h; simp at h
     | true=>rw[hb]at h; cases h; exact⟨jz r',eG⟩
   . simp at h
 | cut r j s n =>
   simp only[St.take]at h;split at h
   . rename_i s' m e ks x hc;cases hb:Nat.beq s' s with
     | false=>rw[hb]at h; simp at h
     | true=>rw[hb]at h; cases h; exact⟨jz r',eG⟩
   . simp at h
 | _=>simp[St.take]at h
theorem sr{st st':St}{k:K}{av:AV}{x:T k}(h:st.cz k av=some (st',x))(r':Nat):shape st' r'=shape st r'/\st'.tm=st.tm:=by
 unfold St.cz at h;split at h
 . cases h; exact⟨rfl,rfl⟩
 . split at h
   . rename_i st1 k1 x1 hq;split at h
     . cases h; exact Fj hq r'
     . simp at h
   . simp at h
theorem qV{st:St}{r n:Nat}{b:Bool}(h:shape st r=some (b,n)):∃ R,look st.rt r=some R/\R.box=b/\R.cells.length=n:=by
 unfold shape at h;cases hl:look st.rt r with
 | none=>rw[hl]at h; simp at h
 | some R=>rw[hl]at h; simp only[aeM,aen,aeT]at h; exact⟨R,rfl,h.1,h.2⟩
theorem vq{st:St}{r j:Nat}{c:RC}(h:st.cell r j=some c){R:Rt}(hR:look st.rt r=some R):j<R.cells.length:=by
 simp only[St.cell,hR]at h;rcases aeD j R.cells.length with hh | hh
 . exact hh
 . simp[aeE hh]at h
section
variable{P:Program}{cx:Cx P}{Z:Nat->Prop}{a:Act}{E:En}
theorem oV{r n:Nat}:∀(ks:List K) (l:List AV) (vs:List Value) (st:St) (g:Gh) (w:World) (j:Nat) (st':St),Rel cx Z g st a w->shape st r=some (true,n)->aU Z g st w l vs->st.cI r j ks l=some st' ->
 ∃ g',Rel cx Z g' st' a (w.setCells (g.be r) j vs)/\st'.tm=st.tm/\(vs=[]∨j+vs.length<=n)
 | [],[],[],st,g,w,j,st',h,hs,hr,ht=>by simp only[St.cI,aen]at ht;subst ht;exact⟨g,h,rfl,.inl rfl⟩
 | [],[],_::_,st,g,w,j,st',h,hs,hr,ht=>hr.elim
 | k::ks,av::l,[],st,g,w,j,st',h,hs,hr,ht=>hr.elim
 | k::ks,av::l,v::vs,st,g,w,j,st',h,hs,hr,ht=>by
   obtain⟨R,hR,hb,hn⟩:=qV hs
   have put:∀(st1:St) (g1:Gh) (rv:RV) (F:Nat->Prop) (c:RC),Rel cx Z g1 st1 a w->g1.be=g.be->st1.tm=st.tm->(∀ r',shape st1 r'=shape st r')->iw cx Z g1 st1 w F->(match rv with | .own k x=>cO w k x v F | .av x=>bj Z g1 st1 w x v)->aU Z g1 st1 w l vs->st1.cell r j=some c ->
    (st1.setCell r j ⟨c.s+1,c.m+1,rv⟩).cI r (j+1) ks l=some st'->∃ g',Rel cx Z g' st' a (w.setCells (g.be r) j (v::vs))/\st'.tm=st.tm/\(v::vs=[]∨j+(v::vs).length<=n):=by
    intro st1 g1 rv F c h1 hbe htm hsh hF hrv hl hc hst;obtain⟨R1,hR1,hb1,hn1⟩:=qV (show shape st1 r=some (true,n)by rw[hsh]; exact hs);obtain⟨g2,k1,k2,k3⟩:=h1.Uk hc hR1 hb1 hF hrv;rw[hbe]at k1 k2;obtain⟨g',m1,m2,m3⟩:=oV ks l vs _ g2 _ (j+1) st' k1 (by rw[jz,hsh]; exact hs) (aU.cg k2.cg _ _ hl) hst;rw[k3,hbe]at m1;refine⟨g',m1,m2.trans (eG.trans htm),.inr ?_⟩;have:=vq hc hR1;rcases m3 with m3 | m3
    . subst m3; simp; omega
    . simp; omega
   have bump:∀(st1:St) (rv:RV) (q:Option St),(match st1.bump r j rv with | some st'=>st'.cI r (j+1) ks l | none=>none)=some st'->∃ c,st1.cell r j=some c/\(st1.setCell r j ⟨c.s+1,c.m+1,rv⟩).cI r (j+1) ks l=some st':=by
    intro st1 rv _ hh;unfold St.bump at hh;cases hc:st1.cell r j with
    | none=>rw[hc]at hh; simp at hh
    | some c=>rw[hc]at hh; exact⟨c,rfl,hh⟩
   have take:(match st.cz k av with | some (st',x)=>(match st'.bump r j (.own k x)with | some st'=>st'.cI r (j+1) ks l | none=>none) | none=>none)=some st'->∃ g',Rel cx Z g' st' a (w.setCells (g.be r) j (v::vs))/\st'.tm=st.tm/\(v::vs=[]∨j+(v::vs).length<=n):=by
    intro hh;cases htk:st.cz k av with
    | none=>rw[htk]at hh; simp at hh
    | some q => obtain⟨st1,x⟩:=q;rw[htk]at hh;simp only at hh;obtain⟨c,hc,hst⟩:=bump st1 (.own k x) none hh;obtain⟨g1,F,k1,k2,k3,k4,k5,k6,k7⟩:=gr h hr.1 htk;exact put st1 g1 (.own k x) F c k1 k2.be k2.tm (fun r'=>(sr htk r').1) k4 k3 (aU.cg k2.cg _ _ hr.2) hc hst
   have viaRC:(match st.jo av with | some c=>(match st.bump r j c.v with | some st'=>st'.cI r (j+1) ks l | none=>none) | none=>none)=some st'->∃ g',Rel cx Z g' st' a (w.setCells (g.be r) j (v::vs))/\st'.tm=st.tm/\(v::vs=[]∨j+(v::vs).length<=n):=by
    intro hh;cases htk:st.jo av with
    | none=>rw[htk]at hh; simp at hh
    | some c1 => rw[htk]at hh;simp only at hh;obtain⟨c,hc,hst⟩:=bump st c1.v none hh;have h1:aU Z g st w [av] [v]:=⟨hr.1,trivial⟩;obtain⟨e1,e2,e3⟩:=ub h [av] [v] [c1] h1 (by simp[St.kP,htk]);obtain⟨x,hx,hxr⟩:=e3 0 c1 v rfl rfl;rw[hx]at hst;exact put st g (.av x) (fun _=>False) c h rfl rfl (fun _=>rfl) (iw.none _ _ _ _ _) hxr hr.2 hc hst
   cases av with
   | ref r2 j2 s2 =>
     simp only[St.cI]at ht;cases hb2:Nat.beq r r2&&Nat.beq j j2 with
     | true =>
       rw[hb2]at ht;simp only[oT]at ht;simp only[aeo]at hb2;have e1:=beq_eq hb2.1;have e2:=beq_eq hb2.2;subst e1; subst e2;cases hc:st.cell r j with
       | none=>rw[hc]at ht; simp at ht
       | some c =>
         rw[hc]at ht;simp only at ht;cases hcs:Nat.beq c.s s2 with
         | false=>rw[hcs]at ht; simp at ht
         | true =>
           rw[hcs]at ht;simp only[oT]at ht;obtain⟨c',k1,k2,k3⟩:=hr.1;rw[hc]at k1;simp only[aen]at k1;subst k1;have hv:=k3 (beq_eq hcs);have hlt:=vq hc hR;obtain⟨b1,b2,b3,b4,cs,el,fr,b5,b6,b7,b8⟩:=h.box r R hR hb;have hcell:w.cell? ⟨g.be r,j,none⟩=some v:=by simp only[World.cell?,b5,afH,ae5,afE];rw[b8 j (by omega),hv]
           obtain⟨g',m1,m2,m3⟩:=oV ks l vs st g w (j+1) st' h hs hr.2 ht;refine⟨g',?_,m2,.inr ?_⟩
           . show Rel cx Z g' st' a ((w.setCell ⟨g.be r,j,none⟩ v).setCells (g.be r) (j+1) vs);rw[Bv hcell];exact m1
           . rcases m3 with m3 | m3
             . subst m3; simp; omega
             . simp; omega
     | false => rw[hb2]at ht;exact take ht
   | cut r2 j2 s2 n2=>exact take ht
   | nil =>
     cases k with
     | sl e ks' => simp only[St.cI]at ht;obtain⟨c,hc,hst⟩:=bump st _ none ht;have hv:v= .slice none 0 0:=hr.1;exact put st g (.own (.sl e ks') ([]:List (Tl ks'))) (fun _=>False) c h rfl rfl (fun _=>rfl) (iw.none _ _ _ _ _) (by rw[hv]; exact jC e ks') hr.2 hc hst
     | _=>simp[St.cI]at ht
   | _=>exact viaRC ht
 | [],_::_,_,st,g,w,j,st',h,hs,hr,ht=>by simp[St.cI]at ht
 | _::_,[],_,st,g,w,j,st',h,hs,hr,ht=>by simp[St.cI]at ht
theorem Cq{t:TypeId}{ti:TI}(hT:pk P t ti){w:World}{b o:Nat}{v:Value}{vs:List Value}(hv:v.cells.toList=vs)(hl:vs.length=ti.ks.length)(h1:∀ u∈vs,u.oneCell'=true)(hc:∀ j,j<vs.length->∃ cs el fr,w.heap[b]? = some (.cells cs el fr)/\o+j<cs.size/\¬ (fr.1<=o+j/\o+j<fr.2)) :
 (Instr.storeAt t (.pointer (some ⟨b,o,none⟩)) v).run P w= .ok () (w.setCells b o vs):=by
 have hsz:v.cells.size=ti.ks.length:=by rw[<- aeY,hv,hl]
 have hst:=run_storeCells_cells (P:=P) b o vs 0 w (fun j hj=>by
  obtain⟨cs,el,fr,e1,e2,_⟩:=hc j hj;simp[World.cell?,e1,e2]) (fun j hj=>by
  obtain⟨cs,el,fr,e1,e2,e3⟩:=hc j hj;simp only[World.frozen?,aeQ,e1];simp only[agE,agj];by_cases h:fr.1<=o+j
  . exact .inr fun h'=>e3 ⟨h,h'⟩
  . exact .inl h) h1
 rw[aeQ]at hst;simp only[Instr.storeAt,Instr.sureAddr,aeN,aeX,aez,storeVar,cJ hT,hsz,hv,ne_eq,not_true_eq_false,afE];simpa using hst
end
section
variable{w w':World}
theorem ve:∀(ks:List K) (x:Tl ks) (j:Nat) (G G':Nat->Nat->Prop) (cs cs':Array Value) (o:Nat),(∀ q,q<ks.length->cs'[o+q]? = cs[o+q]?)->(∀ j b,G j b->G' j b)->(∀ j b,G j b->b<w.heap.size->w'.heap[b]? = w.heap[b]?)->fA w ks x j G cs o->fA w' ks x j G' cs' o
 | [],_,_,_,_,_,_,_,_,_,_,_=>trivial
 | k::ks,x,j,G,G',cs,cs',o,hc,hG,hw,⟨⟨v,h1,h2⟩,h3⟩ =>
   ⟨⟨v,by rw[<- h1]; exact hc 0 (by simp),cO.frame k _ v (G j) (G' j) (hG j) (hw j) h2⟩,ve ks _ (j+1) G G' cs cs' (o+1) (fun q hq=>by rw[show o+1+q=o+(q+1)by omega]; exact hc (q+1) (by simp; omega)) hG hw h3⟩
theorem yp:∀(ks:List K) (x:Tl ks) (c:Nat) (k:K) (y:T k) (z:Tl ks),setAt ks x c k y=some z->c<ks.length
 | [],_,_,_,_,_,h=>by simp[setAt]at h
 | _::_,_,0,_,_,_,_=>by simp
 | k0::ks,x,c+1,k,y,z,h=>by
   simp only[setAt]at h;split at h
   . rename_i z' hz;have:=yp ks x.2 c k y z' hz;simp; omega
   . simp at h
theorem xx:∀(ks:List K) (x:Tl ks) (c:Nat) (k:K) (y:T k) (z:Tl ks) (j:Nat) (G G':Nat->Nat->Prop) (F:Nat->Prop) (cs cs':Array Value) (o:Nat) (v:Value),setAt ks x c k y=some z->cO w' k y v F->cs'[o+c]? = some v->(∀ q,q<ks.length->q≠c->cs'[o+q]? = cs[o+q]?) ->
 (∀ q b,q≠j+c->G q b->G' q b)->(∀ b,F b->G' (j+c) b)->(∀ q b,q≠j+c->G q b->b<w.heap.size->w'.heap[b]? = w.heap[b]?)->fA w ks x j G cs o->fA w' ks z j G' cs' o
 | [],_,_,_,_,_,_,_,_,_,_,_,_,_,h,_,_,_,_,_,_,_=>by simp[setAt]at h
 | k0::ks,x,0,k,y,z,j,G,G',F,cs,cs',o,v,h,hv,hc,hcs,hG,hF,hw,⟨⟨u,h1,h2⟩,h3⟩=>by
   simp only[setAt]at h;split at h
   . rename_i y' hy;cases h;obtain⟨e,hy⟩:=cq hy;subst e;subst hy;refine⟨⟨v,hc,cO.frame _ _ _ _ _ hF (fun _ _ _=>rfl) hv⟩,?_⟩;have key:∀(ks:List K) (x:Tl ks) (q0:Nat) (o:Nat),j<q0->(∀ q,q<ks.length->cs'[o+q]? = cs[o+q]?)->fA w ks x q0 G cs o->fA w' ks x q0 G' cs' o:=by
      intro ks;induction ks with
      | nil=>intro x q0 o _ _ _; trivial
      | cons k1 ks ih => intro x q0 o hq hcs ⟨⟨u,g1,g2⟩,g3⟩;exact⟨⟨u,by rw[<- g1]; exact hcs 0 (by simp),cO.frame _ _ _ _ _ (fun b hb=>hG q0 b (by omega) hb) (fun b hb=>hw q0 b (by omega) hb) g2⟩,ih x.2 (q0+1) (o+1) (by omega) (fun q hq=>by rw[show o+1+q=o+(q+1)by omega]; exact hcs (q+1) (by simp; omega)) g3⟩
     exact key ks x.2 (j+1) (o+1) (by omega) (fun q hq=>by rw[show o+1+q=o+(q+1)by omega]; exact hcs (q+1) (by simp; omega) (by omega)) h3
   . simp at h
 | k0::ks,x,c+1,k,y,z,j,G,G',F,cs,cs',o,v,h,hv,hc,hcs,hG,hF,hw,⟨⟨u,h1,h2⟩,h3⟩=>by
   simp only[setAt]at h;split at h
   . rename_i z' hz;cases h;refine⟨⟨u,by rw[<- h1]; exact hcs 0 (by simp) (by omega),cO.frame _ _ _ _ _ (fun b hb=>hG j b (by omega) hb) (fun b hb=>hw j b (by omega) hb) h2⟩,?_⟩
     exact xx ks x.2 c k y z' (j+1) G G' F cs cs' (o+1) v hz hv (by rw[show o+1+c=o+(c+1)by omega]; exact hc) (fun q hq hne=>by rw[show o+1+q=o+(q+1)by omega]; exact hcs (q+1) (by simp; omega) (by omega))
      (fun q b hne hb=>hG q b (by omega) hb) (fun b hb=>by rw[show j+1+c=j+(c+1)by omega]; exact hF b hb) (fun q b hne hb=>hw q b (by omega) hb) h3
   . simp at h
end
section
variable{P:Program}{cx:Cx P}{Z:Nat->Prop}{g:Gh}{st:St}{a:Act}{w:World}{E:En}
theorem JO{i i' n q c:Nat}(hq:q<n)(hc:c<n)(h:¬ (i'=i/\q=c)):i' * n+q≠i * n+c:=by
 intro e;rcases agX i' i with hi | hi | hi
 . have:=aeS n (show i'+1<=i from hi);rw[ae0,agZ]at this;omega
 . subst hi;exact h ⟨rfl,by omega⟩
 . have:=aeS n (show i+1<=i' from hi);rw[ae0,agZ]at this;omega
theorem Rel.Zv(h:Rel cx Z g st a w){r j s m:Nat}{e:TypeId}{ks:List K}{xs:T (.sl e ks)}(hc:st.cell r j=some ⟨s,m,.own (.sl e ks) xs⟩){i:Nat}(hi:i<(aQ xs).length){b o l cap:Nat}(hcv:g.cv r j= .slice (some ⟨b,o,none⟩) l cap)
 {F:Nat->Prop}(hF:iw cx Z g st w F){k:K}{y:T k}{v:Value}(hv:cO w k y v F){c:Nat}{z:Tl ks}(hz:setAt ks (gi xs i) c k y=some z) :
 ∃ g',Rel cx Z g' (st.setCell r j ⟨s,m+1,.own (.sl e ks) (List.set (aQ xs) i z)⟩) a (w.setCell ⟨b,o+i * ks.length+c,none⟩ v)/\kf Z w (w.setCell ⟨b,o+i * ks.length+c,none⟩ v) g g' st (st.setCell r j ⟨s,m+1,.own (.sl e ks) (List.set (aQ xs) i z)⟩)/\g'.be=g.be /\
  ∃ cs el fr,w.heap[b]? = some (.cells cs el fr)/\o+i * ks.length+c<cs.size/\(∀ q,q<cs.size->¬ (fr.1<=q/\q<fr.2)):=by
 have hcl:=yp _ _ _ _ _ _ hz;have hown:=et h hc rfl;rw[hcv]at hown;obtain⟨a',c0,h1,h2,h3,h4,h5⟩:=hown;simp only[afm]at h1;obtain⟨rfl,rfl,rfl⟩:=h1;obtain⟨b',o',cs,el,fr,g1,g2,g3,g4,g5,G,g6,g7,g8⟩:=h5 _ rfl;simp only[afK,afQ]at g1;obtain⟨rfl,rfl⟩:=g1;have hsz:(w.setCell ⟨b,o+i * ks.length+c,none⟩ v).heap.size=w.heap.size:=by simp[World.setCell]
 have hother:∀ q,q≠b->(w.setCell ⟨b,o+i * ks.length+c,none⟩ v).heap[q]? = w.heap[q]? := fun q hq=>by rw[dp,if_neg (fun e=>hq e.symm)]
 have hlt:o+i * ks.length+c<cs.size:=by have:=aeS ks.length (show i+1<=cap by omega);rw[ae0,agZ]at this;omega
 have hlen:(aQ (e:=e) (ks:=ks) (List.set (aQ xs) i z)).length=(aQ xs).length:=afB ..
 have hFb:∀ q,F q->q≠b:=fun q hq e=>hF.fp q hq r j (by rw[e]; exact g2)
 have:=h.change hc (c':=⟨s,m+1,.own (.sl e ks) (List.set (aQ xs) i z)⟩) (w':=w.setCell ⟨b,o+i * ks.length+c,none⟩ v) (v':=g.cv r j) (F':=fun q=>g.fp r j q∨F q) rfl rfl rfl (by rw[hsz]; exact oR _) (oR _) (afl _)
  (fun _=>rfl) (fun _ e' ks' xs' hx=>by simp only[RV.own.injEq,K.sl.injEq]at hx;obtain⟨⟨rfl,rfl⟩,hx⟩:=hx;have hx:=agy hx;subst hx;exact⟨_,rfl,hlen⟩)
  (fun q _ hq _=>hother q fun e=>hq (by rw[e]; exact g2))
  (fun q hq=>by
    rcases hq with hq | hq
    . obtain⟨k1,k2,k3,_⟩:=h.fp r j q hq;exact⟨by rw[hsz]; exact k1,k2,k3,fun r' j' hh=>h.disj _ _ _ _ _ hh hq,fun r' R' hR' hx he=>(h.box r' R' hR' hx).2.2.1 r j (by rw[he]; exact hq),_,_,rfl⟩
    . exact⟨by rw[hsz]; exact hF.lt q hq,hF.own q hq,hF.z q hq,fun r' j' hh=>absurd hh (hF.fp q hq r' j'),fun r' R' hR' hx=>hF.box q hq r' R' hR' hx,_,_,rfl⟩)
  (fun R' hR' hx=>by
    obtain⟨_,_,b3,_,cs1,el1,fr1,b5,_,_,b8⟩:=h.box r R' hR' hx;refine⟨cs1,el1,fr1,cs1,b5,?_,rfl,fun q hq => ?_⟩
    . rw[hother _ fun e=>b3 r j (by rw[e]; exact g2)]; exact b5
    . rw[b8 q hq];by_cases e:q=j
      . subst e; rw[if_pos rfl]
      . rw[if_neg e])
  (fun kp=>by
    show cO _ (.sl e ks) (List.set (aQ xs) i z) (g.cv r j) _;rw[hcv];refine⟨_,cap,by rw[hlen],by rw[hlen]; exact h2,by rw[hlen]; exact h3,h4,fun a'' ha'' => ?_⟩;simp only[aen]at ha'';subst ha'';refine⟨b,o,cs.setIfInBounds (o+i * ks.length+c) v,el,fr,rfl,.inl g2,by rw[dp,if_pos rfl,g3]; rfl,fun q hq=>g4 q (by simpa using hq),by simpa using g5,fun i' j' q=>if i'=i/\j'=c then F q else G i' j' q,fun i' j' q hq => ?_,fun i1 j1 i2 j2 q hq1 hq2 => ?_,fun i' x hx => ?_⟩
    . dsimp only at hq;by_cases e:i'=i/\j'=c
      . rw[if_pos e]at hq; exact⟨.inr hq,hFb q hq⟩
      . rw[if_neg e]at hq; exact⟨.inl (g6 i' j' q hq).1,(g6 i' j' q hq).2⟩
    . dsimp only at hq1 hq2;by_cases e1:i1=i/\j1=c
      . rw[if_pos e1]at hq1;by_cases e2:i2=i/\j2=c
        . exact⟨e1.1.trans e2.1.symm,e1.2.trans e2.2.symm⟩
        . rw[if_neg e2]at hq2;exact absurd (g6 i2 j2 q hq2).1 (hF.fp q hq1 r j)
      . rw[if_neg e1]at hq1;by_cases e2:i2=i/\j2=c
        . rw[if_pos e2]at hq2;exact absurd (g6 i1 j1 q hq1).1 (hF.fp q hq2 r j)
        . rw[if_neg e2]at hq2;exact g7 i1 j1 i2 j2 q hq1 hq2
    . have hx':(List.set (aQ xs) i z)[i']? = some x:=hx;rw[agY]at hx';have hwf:∀(i' q p:Nat),G i' q p->p<w.heap.size->(w.setCell ⟨b,o+i * ks.length+c,none⟩ v).heap[p]? = w.heap[p]? := fun i' q p hp _=>hother p (g6 i' q p hp).2
      by_cases ei:i=i'
      . subst ei;rw[if_pos rfl,if_pos hi]at hx';simp only[aen]at hx';subst hx';refine xx ks (gi xs i) c k y z 0 (G i) _ F cs _ _ v hz (cO.frame _ _ _ _ _ (fun _ h=>h) (fun p hp _=>hother p (hFb p hp)) hv) ?_ (fun q hq hne => ?_) (fun q p hne hp => ?_) (fun p hp => ?_) (fun q p _ hp=>hwf i q p hp) (g8 i _ (l5 xs hi))
        . rw[afj,if_pos rfl,if_pos hlt]
        . rw[afj,if_neg (by omega)]
        . show(if i=i/\q=c then F p else G i q p);rw[if_neg (fun e=>hne (by omega))];exact hp
        . show(if i=i/\0+c=c then F p else G i (0+c) p);rw[if_pos ⟨rfl,by omega⟩];exact hp
      . rw[if_neg ei]at hx';refine ve ks x 0 (G i') _ cs _ _ (fun q hq => ?_) (fun q p hp => ?_) (hwf i') (g8 i' x hx')
        . have:=JO (i:=i) (i':=i') hq hcl (fun e=>ei e.1.symm);rw[afj,if_neg (by omega)]
        . show(if i'=i/\q=c then F p else G i' q p);rw[if_neg (fun e=>ei e.1.symm)];exact hp)
 exact⟨_,this.1,this.2,rfl,cs,el,fr,g3,hlt,fun q hq=>g4 q (Nat.lt_add_right _ hq)⟩
theorem jq{k:K}{x:T k}{v:Value}{F:Nat->Prop}(hk:qT k=false)(h:RO Z w k x v):cO w k x v F:=by
 cases k with
 | sl e ks=>simp[qT]at hk
 | _=>exact h
theorem Es{w:World}{b o:Nat}{v:Value}(h:w.cell? ⟨b,o,none⟩=some v):w.setCell ⟨b,o,none⟩ v=w:=by
 have e:(w.setCell ⟨b,o,none⟩ v).heap=w.heap:=by
  apply agb;intro i;rw[dp];split
  . rename_i e;subst e;simp only[World.cell?,afH,ae5,afE]at h;cases ho:w.heap[b]? with
    | none=>rfl
    | some x =>
      rw[ho]at h;cases x with
      | cells cs el fr =>
        simp only[aeM,aen,Obj.cells.injEq,afQ];have h:cs[o]? = some v:=h;have ho:=(aeP.1 h);apply agb;intro k;rw[afj];split
        . rename_i e; subst e; rw[if_pos ho.1,h]
        . rfl
      | _=>rfl
  . rfl
 show({ w with heap:=(w.setCell ⟨b,o,none⟩ v).heap }:World)=w;rw[e]
def nZ(w:World)(r j s m0 b p:Nat)(c:Nat)(l:List AV)(vs:List Value):Prop:=∀(q:Nat) (a:AV) (v:Value),l[q]? = some a->vs[q]? = some v->pJ r j s m0 (c+q) a=true->w.cell? ⟨b,p+c+q,none⟩=some v
theorem nZ.tail{w:World}{r j s m0 b p c:Nat}{a:AV}{l:List AV}{v:Value}{vs:List Value}(h:nZ w r j s m0 b p c (a::l) (v::vs)):nZ w r j s m0 b p (c+1) l vs:=fun q a' v' h1 h2 h3=>by have:=h (q+1) a' v' (by simpa using h1) (by simpa using h2) (by rw[show c+(q+1)=c+1+q by omega]; exact h3);rw[show p+(c+1)+q=p+c+(q+1)by omega];exact this
theorem nZ.put{w:World}{r j s m0 b p c:Nat}{l:List AV}{vs:List Value}{v:Value}(h:nZ w r j s m0 b p (c+1) l vs):nZ (w.setCell ⟨b,p+c,none⟩ v) r j s m0 b p (c+1) l vs:=fun q a' v' h1 h2 h3=>by rw[World.cell?_setCell_other _ _ _ _ (by intro e; simp at e; omega)];exact h q a' v' h1 h2 h3
theorem wu{r j s i m0:Nat}{b p:Nat}:∀(ks':List K) (l:List AV) (vs:List Value) (st:St) (g:Gh) (w:World) (c:Nat) (st':St),Rel cx Z g st a w->bj Z g st w (.pel r j s i c) (.pointer (some ⟨b,p+c,none⟩))->aU Z g st w l vs->nZ w r j s m0 b p c l vs->st.jl r j s i m0 c ks' l=some st' ->
 ∃ g',Rel cx Z g' st' a (w.setCells b (p+c) vs)/\st'.tm=st.tm/\(∀ q,q<vs.length->∃ cs el fr,w.heap[b]? = some (.cells cs el fr)/\p+c+q<cs.size/\¬ (fr.1<=p+c+q/\p+c+q<fr.2))
 | [],[],[],st,g,w,c,st',h,hp,hr,hso,ht=>by simp only[St.jl,aen]at ht;subst ht;exact⟨g,h,rfl,fun q hq=>by simp at hq⟩
 | [],[],_::_,st,g,w,c,st',h,hp,hr,_,ht=>hr.elim
 | k::ks',av::l,[],st,g,w,c,st',h,hp,hr,_,ht=>hr.elim
 | k::ks',av::l,v::vs,st,g,w,c,st',h,hp,hr,hso,ht=>by
   have put:∀(st1:St) (g1:Gh) (x:T k) (F:Nat->Prop),Rel cx Z g1 st1 a w->st1.tm=st.tm->iw cx Z g1 st1 w F->cO w k x v F->bj Z g1 st1 w (.pel r j s i c) (.pointer (some ⟨b,p+c,none⟩))->aU Z g1 st1 w l vs ->
    (match st1.cell r j with
      | some ⟨s',m,.own (.sl e ks) xs⟩=>bif Nat.beq s' s then (match setAt ks (gi xs i) c k x with
        | some y=>(st1.setCell r j ⟨s',m+1,.own (.sl e ks) (List.set (aQ xs) i y)⟩).jl r j s i m0 (c+1) ks' l
        | none=>none)else none
      | _=>none)=some st' ->
    ∃ g',Rel cx Z g' st' a (w.setCells b (p+c) (v::vs))/\st'.tm=st.tm/\(∀ q,q<(v::vs).length->∃ cs el fr,w.heap[b]? = some (.cells cs el fr)/\p+c+q<cs.size/\¬ (fr.1<=p+c+q/\p+c+q<fr.2)):=by
    intro st1 g1 x F h1 htm hF hv hp hl hst;split at hst
    . rename_i s' m e ks xs hc;cases hs:Nat.beq s' s with
      | false=>rw[hs]at hst; simp at hst
      | true =>
        rw[hs]at hst;simp only[oT]at hst;have es:=beq_eq hs;subst es;split at hst
        . rename_i y hy;obtain⟨c0,k1,k2,k3⟩:=hp;rw[hc]at k1;simp only[aen]at k1;subst k1;obtain⟨e',ks2,xs2,f1,f2,b2,o2,l2,cap2,f3,f4⟩:=k3 rfl;simp only[RV.own.injEq,K.sl.injEq]at f1;obtain⟨⟨rfl,rfl⟩,f1⟩:=f1;have f1:=agy f1;subst f1;simp only[Value.pointer.injEq,aen,afK,afQ]at f4;obtain⟨rfl,f4⟩:=f4;obtain⟨g2,m1,m2,m3,cs,el,fr,n1,n2,n3⟩:=h1.Zv hc f2 f3 hF hv hy;rw[<- f4]at m1 m2 n2;have hpel:bj Z g1 st1 w (.pel r j s' i (c+1)) (.pointer (some ⟨b,p+(c+1),none⟩)) :=
           ⟨_,hc,oR _,fun _=>⟨e,ks,xs,rfl,f2,b,o2,l2,cap2,f3,by rw[show p+(c+1)=o2+i * ks.length+(c+1)by omega]⟩⟩
          obtain⟨g',q1,q2,q3⟩:=wu ks' l vs _ g2 _ (c+1) st' m1 (bj.cg m2.cg _ _ hpel) (aU.cg m2.cg _ _ hl) hso.tail.put hst;refine⟨g',?_,q2.trans (eG.trans htm),fun q hq => ?_⟩
          . rw[show p+(c+1)=p+c+1 by omega]at q1;exact q1
          . cases q with
            | zero=>exact⟨cs,el,fr,n1,n2,n3 _ n2⟩
            | succ q =>
              obtain⟨cs',el',fr',t1,t2,t3⟩:=q3 q (by simpa using hq);rw[dp,if_pos rfl,n1]at t1;simp only[aeM,aen,Obj.cells.injEq]at t1;obtain⟨rfl,rfl,rfl⟩:=t1;refine⟨cs,el,fr,n1,?_,?_⟩
              . have:=t2; simp at this; omega
              . rw[show p+c+(q+1)=p+(c+1)+q by omega]; exact t3
        . simp at hst
    . simp at hst
   have scalar:qT k=false->(match (match st.bo k av with | some x=>bif av.bE then some (st,x)else none | none=>none)with
    | some (st1,x)=>(match st1.cell r j with
      | some ⟨s',m,.own (.sl e ks) xs⟩=>bif Nat.beq s' s then (match setAt ks (gi xs i) c k x with
        | some y=>(st1.setCell r j ⟨s',m+1,.own (.sl e ks) (List.set (aQ xs) i y)⟩).jl r j s i m0 (c+1) ks' l
        | none=>none)else none
      | _=>none)
    | none=>none)=some st'->∃ g',Rel cx Z g' st' a (w.setCells b (p+c) (v::vs))/\st'.tm=st.tm/\(∀ q,q<(v::vs).length->∃ cs el fr,w.heap[b]? = some (.cells cs el fr)/\p+c+q<cs.size/\¬ (fr.1<=p+c+q/\p+c+q<fr.2)):=by
    intro hk hh;cases hra:st.bo k av with
    | none=>rw[hra]at hh; simp at hh
    | some x =>
      rw[hra]at hh;cases hf:av.bE with
      | false=>rw[hf]at hh; simp at hh
      | true => rw[hf]at hh;simp only[oT]at hh;exact put st g x (fun _=>False) h rfl (iw.none _ _ _ _ _) (jq hk (bV h hr.1 hf hra)) hp hr.2 hh
   unfold St.jl at ht;cases hsf:st.mc r j s m0 c av with
   | true =>
     rw[hsf]at ht;simp only[oT]at ht;unfold St.mc at hsf;simp only[aeo]at hsf;obtain⟨hsf1,hsf2⟩:=hsf;have hv:=hso 0 av v rfl rfl hsf1;rw[aeQ]at hv;obtain⟨c0,k1,k2,k3⟩:=hp;have es:c0.s=s:=by
      rw[k1]at hsf2;split at hsf2
      . rename_i s' m' e' ks2 x2 hc0;cases hc0;exact beq_eq hsf2
      . simp at hsf2
     obtain⟨e,ks,xs,f1,f2,b2,o2,l2,cap2,f3,f4⟩:=k3 es;simp only[Value.pointer.injEq,aen,afK,afQ]at f4;obtain⟨rfl,f4⟩:=f4;have hp':bj Z g st w (.pel r j s i (c+1)) (.pointer (some ⟨b,p+(c+1),none⟩)) :=
      ⟨c0,k1,k2,fun _=>⟨e,ks,xs,f1,f2,b,o2,l2,cap2,f3,by rw[show p+(c+1)=o2+i * ks.length+(c+1)by omega]⟩⟩
     obtain⟨g',q1,q2,q3⟩:=wu ks' l vs st g w (c+1) st' h hp' hr.2 hso.tail ht;refine⟨g',?_,q2,fun q hq => ?_⟩
     . show Rel cx Z g' st' a ((w.setCell ⟨b,p+c,none⟩ v).setCells b (p+c+1) vs);rw[Es hv];exact q1
     . cases q with
       | zero => have hown:=h.cell r j c0 k1;rw[f1]at hown;obtain⟨a0,cp,g1,_,_,_,g2⟩:=(show cO w (.sl e ks) xs (g.cv r j) (g.fp r j)from hown);rw[f3]at g1;simp only[afm]at g1;obtain⟨b3,o3,cs,el,fr,n1,_,n2,n3,_⟩:=g2 _ g1.1.symm;simp only[afK,afQ]at n1;obtain⟨rfl,_⟩:=n1;simp only[World.cell?,afH,ae5,afE,n2]at hv;have hlt:=(aeP.1 hv).1;exact⟨cs,el,fr,n2,hlt,n3 _ (by omega)⟩
       | succ q => obtain⟨cs',el',fr',t1,t2,t3⟩:=q3 q (by simpa using hq);exact⟨cs',el',fr',t1,by omega,by rw[show p+c+(q+1)=p+(c+1)+q by omega]; exact t3⟩
   | false =>
   rw[hsf]at ht;simp only[oF]at ht;cases k with
   | sl e ks1 =>
     simp only at ht;cases htk:st.cz (.sl e ks1) av with
     | none=>rw[htk]at ht; simp at ht
     | some q => obtain⟨st1,x⟩:=q;rw[htk]at ht;simp only at ht;obtain⟨g1,F,k1,k2,k3,k4,k5,k6,k7⟩:=gr h hr.1 htk;exact put st1 g1 x F k1 k2.tm k4 k3 (bj.cg k2.cg _ _ hp) (aU.cg k2.cg _ _ hr.2) ht
   | int _=>exact scalar rfl ht
   | bool=>exact scalar rfl ht
   | str=>exact scalar rfl ht
 | [],_::_,_,st,g,w,c,st',h,hp,hr,_,ht=>by simp[St.jl]at ht
 | _::_,[],_,st,g,w,c,st',h,hp,hr,_,ht=>by simp[St.jl]at ht
end
def bT(st st':St):Prop:=∀ r j c,st.cell r j=some c->∃ c',st'.cell r j=some c'/\c.s<=c'.s/\c.m<=c'.m/\(c'.s=c.s->c'.m=c.m->c'=c)
theorem bT.refl(st:St):bT st st:=fun r j c h=>⟨c,h,oR _,oR _,fun _ _=>rfl⟩
theorem bT.trans{a b c:St}(h1:bT a b)(h2:bT b c):bT a c:=fun r j x hx=>by obtain⟨y,hy,s1,m1,e1⟩:=h1 r j x hx;obtain⟨z,hz,s2,m2,e2⟩:=h2 r j y hy;exact⟨z,hz,aeA s1 s2,aeA m1 m2,fun es em=>by have ey:=e1 (by omega) (by omega);subst ey;exact e2 es em⟩
theorem bT.set{st:St}{r j:Nat}{c c0:RC}(h0:st.cell r j=some c0)(hs:c0.s<=c.s)(hm:c0.m<c.m):bT st (st.setCell r j c):=fun r' j' x hx=>by
 rw[cS];by_cases h:r=r'/\j=j'
 . obtain⟨rfl,rfl⟩:=h;rw[if_pos ⟨rfl,rfl⟩,hx];rw[h0]at hx;cases hx;exact⟨c,rfl,hs,agD hm,fun _ e=>by omega⟩
 . rw[if_neg h];exact⟨x,hx,oR _,oR _,fun _ _=>rfl⟩
theorem jT{α:Type}{c:Bool}{x:Option α}{y:α}(h:(bif c then x else none)=some y):c=true/\x=some y:=by cases c <;> simp_all
theorem Kd{st st':St}{a:AV}{p:(k:K)×T k}(h:st.take a=some (st',p)):bT st st':=by
 unfold St.take at h;split at h
 . split at h
   . rename_i hc;obtain⟨_,h⟩:=jT h;simp only[aen,aeT]at h;obtain⟨rfl,_⟩:=h;exact bT.set hc (agf _) (afl _)
   . simp at h
 . split at h
   . rename_i hc;obtain⟨_,h⟩:=jT h;simp only[aen,aeT]at h;obtain⟨rfl,_⟩:=h;exact bT.set hc (agf _) (afl _)
   . simp at h
 . simp at h
theorem gm{st st':St}{k:K}{a:AV}{x:T k}(h:st.cz k a=some (st',x)):bT st st':=by
 unfold St.cz at h;split at h
 . simp only[aen,aeT]at h;obtain⟨rfl,_⟩:=h;exact bT.refl _
 . split at h
   . rename_i st1 k' y hy;split at h
     . simp only[aen,aeT]at h;obtain⟨rfl,_⟩:=h;exact Kd hy
     . simp at h
   . simp at h
mutual
theorem Ab:∀ k:K,K.same k k=true
 | .int a=>by simp[K.same]
 | .bool=>rfl
 | .str=>rfl
 | .sl e ks=>by simp[K.same,wx ks]
theorem wx:∀ ks:List K,K.kG ks ks=true
 | []=>rfl
 | k::ks=>by simp[K.kG,Ab k,wx ks]
end
theorem CV(k:K)(x:T k):fD k k x=some x:=by
 unfold fD;split
 . rfl
 . rename_i h; rw[Ab]at h; simp at h
theorem w5:∀(ks:List K) (z:Tl ks) (c:Nat) (k:K) (x:T k),cellAt ks z c=some ⟨k,x⟩->setAt ks z c k x=some z
 | [],_,_,_,_,h=>by simp[cellAt]at h
 | k::ks,z,0,k',x,h=>by simp only[cellAt,aen,Sigma.mk.injEq]at h;obtain⟨rfl,h⟩:=h;have h:=agy h;subst h;simp only[setAt,CV];rfl
 | k::ks,z,c+1,k',x,h=>by simp only[setAt,w5 ks z.2 c k' x h];rfl
theorem xh:∀(ks:List K) (z y:Tl ks) (c q:Nat) (k:K) (x:T k),setAt ks z c k x=some y->q≠c->cellAt ks y q=cellAt ks z q
 | [],_,_,_,_,_,_,h,_=>by simp[setAt]at h
 | k0::ks,z,y,0,q,k,x,h,hq=>by
   simp only[setAt]at h;split at h
   . cases h;cases q with
     | zero=>exact absurd rfl hq
     | succ q=>rfl
   . simp at h
 | k0::ks,z,y,c+1,q,k,x,h,hq=>by
   simp only[setAt]at h;split at h
   . rename_i z' hz;cases h;cases q with
     | zero=>rfl
     | succ q=>exact xh ks z.2 z' c q k x hz (by omega)
   . simp at h
def Ox(ks0:List K):Tl ks0->Nat->(ks:List K)->Tl ks->Option (Tl ks0)
 | z,_,[],_=>some z
 | z,c,k::ks,y=>match setAt ks0 z c k y.1 with | some z'=>Ox ks0 z' (c+1) ks y.2 | none=>none
theorem Ea{k0:K}{ks0:List K}:∀(ks:List K) (z z':Tl (k0::ks0)) (c:Nat) (y:Tl ks),Ox (k0::ks0) z (c+1) ks y=some z'->∃ u,z'=(z.1,u)/\Ox ks0 z.2 c ks y=some u
 | [],z,z',c,y,h=>by simp only[Ox,aen]at h;subst h;exact⟨z.2,rfl,rfl⟩
 | k::ks,z,z',c,y,h=>by
   simp only[Ox,setAt]at h ⊢;cases hs:setAt ks0 z.2 c k y.1 with
   | none=>rw[hs]at h; simp at h
   | some u => rw[hs]at h;exact Ea ks (z.1,u) z' (c+1) y.2 h
theorem De:∀(ks:List K) (z y z':Tl ks),Ox ks z 0 ks y=some z'->z'=y
 | [],_,_,_,_=>rfl
 | k::ks,z,y,z',h=>by simp only[Ox,setAt,CV]at h;obtain⟨u,e1,e2⟩:=Ea ks (y.1,z.2) z' 0 y.2 h;have:=De ks z.2 y.2 u e2;subst this;exact e1
theorem Dp{e:TypeId}{ks:List K}(xs:T (.sl e ks))(i:Nat)(y:Tl ks):(aQ (e:=e) (List.set (aQ xs) i y)).length=(aQ xs).length:=afB
theorem D0{e:TypeId}{ks:List K}(xs:T (.sl e ks)){i:Nat}(y:Tl ks)(h:i<(aQ xs).length):gi (e:=e) (List.set (aQ xs) i y) i=y:=by show(List.set (aQ xs) i y).getD i _=y;simp[List.getD,h]
theorem MY{st:St}{r j:Nat}{c c':RC}(h:st.cell r j=some c):(st.setCell r j c').cell r j=some c':=by rw[cS,if_pos ⟨rfl,rfl⟩,h]; rfl
section
variable{r j s i m0:Nat}{e:TypeId}{ks0:List K}{z0:Tl ks0}
theorem p9:∀(ks:List K) (l:List AV) (c:Nat) (st stf:St) (y:Tl ks) (xc:T (.sl e ks0)) (m:Nat),st.cell r j=some ⟨s,m,.own (.sl e ks0) xc⟩->i<(aQ xc).length->(∀ q,c<=q->cellAt ks0 (gi xc i) q=cellAt ks0 z0 q) ->
 st.gn r j s i m0 ks0 z0 c ks l=some (stf,y)->st.jl r j s i m0 c ks l=some stf/\∃(mf:Nat) (z:Tl ks0),Ox ks0 (gi xc i) c ks y=some z/\stf.cell r j=some ⟨s,mf,.own (.sl e ks0) (List.set (aQ xc) i z)⟩
 | [],[],c,st,stf,y,xc,m,hc,hi,hq,h=>by
   simp only[St.gn,aen,aeT]at h;obtain⟨rfl,_⟩:=h;refine⟨rfl,m,gi xc i,rfl,?_⟩;rw[hc];have:List.set (aQ xc) i (gi xc i)=aQ xc:=by
    apply agW;intro n;rw[agY];split
    . rename_i e; subst e;simp[gi,List.getD,hi]
    . rfl
   rw[this];rfl
 | [],_::_,_,_,_,_,_,_,_,_,_,h=>by simp[St.gn]at h
 | _::_,[],_,_,_,_,_,_,_,_,_,h=>by simp[St.gn]at h
 | k::ks,a::l,c,st,stf,y,xc,m,hc,hi,hq,h=>by
   unfold St.gn at h;unfold St.jl;cases hsf:st.mc r j s m0 c a with
   | true =>
     rw[hsf]at h;simp only[oT]at h ⊢;split at h
     . rename_i z hz;split at h
       . rename_i x q hx hrec;simp only[aen,aeT]at h;obtain⟨rfl,rfl⟩:=h;obtain⟨h1,mf,z1,h2,h3⟩:=p9 ks l (c+1) st q.1 q.2 xc m hc hi (fun q hq'=>hq q (by omega)) hrec;refine⟨h1,mf,z1,?_,h3⟩;obtain⟨ek,hx⟩:=cq hx;obtain⟨k',z⟩:=z;simp only at ek hx;subst ek;subst hx;have:=hq c (oR _);rw[hz]at this;simp only[Ox,w5 ks0 (gi xc i) c k' z this];exact h2
       . simp at h
     . simp at h
   | false =>
     rw[hsf]at h;simp only[oF]at h ⊢;split at h;rotate_left
     . simp at h
     . rename_i st1 x hx;have hver:bT st st1:=by
        split at hx
        . exact gm hx
        . split at hx
          . obtain⟨_,hx⟩:=jT hx;simp only[aen,aeT]at hx;obtain⟨rfl,_⟩:=hx;exact bT.refl _
          . simp at hx
       obtain⟨c1,hc1,v1,v2,v3⟩:=hver r j _ hc;split at h
       . rename_i s' m' e' ks' xs hcc;rw[hc1]at hcc;cases hcc;obtain⟨hb,h⟩:=jT h;simp only[aeo]at hb;have es:=beq_eq hb.1;have em:=beq_eq hb.2;have em':st.Dt r j=m:=by unfold St.Dt; rw[hc]
         have:=v3 es (em.trans em');simp only[RC.mk.injEq,RV.own.injEq,K.sl.injEq]at this;obtain⟨_,_,⟨he,hk⟩,hx⟩:=this;have he:=he.symm;have hk:=hk.symm;subst he;subst hk;have hx:=agy hx;subst hx;split at h
         . rename_i y1 hy1;split at h
           . rename_i q hrec;simp only[aen,aeT]at h;obtain⟨rfl,rfl⟩:=h;have es2:=es.symm;subst es2;obtain⟨h1,mf,z1,h2,h3⟩:=p9 ks l (c+1) _ q.1 q.2 (List.set (aQ xs) i y1) _ (MY hc1) (by rw[Dp]; exact hi) (fun q hq'=>by
              rw[D0 xs y1 hi,xh ks0 _ _ c q k x hy1 (by omega)];exact hq q (by omega)) hrec
             refine⟨?_,mf,z1,?_,?_⟩
             . rw[hb.1];exact h1
             . rw[D0 xs y1 hi]at h2;simp only[Ox,hy1];exact h2
             . rw[h3];have:List.set (aQ (e:=e) (List.set (aQ xs) i y1)) i z1=List.set (aQ xs) i z1:=List.set_set ..
               rw[this]
           . simp at h
         . simp at h
       . simp at h
end
theorem CS{α:Type}:∀(l:List (Nat×α)) (n:Nat) (x:α),look l n=some x->V3 l n x=l
 | [],n,x,h=>by simp[look]at h
 | (k,y)::r,n,x,h=>by
   unfold V3;rw[aK]at h;cases hb:Nat.beq k n with
   | true => have e:=beq_eq hb;subst e;rw[if_pos rfl]at h;cases h;rfl
   | false =>
     have hne:k≠n:=fun e=>by subst e; simp at hb
     rw[if_neg hne]at h;simp only[oF];rw[CS r n x h]
theorem uI{α:Type}:∀(l:List α) (j:Nat) (x:α),l[j]? = some x->kQ l j x=l
 | [],j,x,h=>by simp at h
 | y::r,0,x,h=>by simp at h; subst h; rfl
 | y::r,j+1,x,h=>by simp only[kQ]; rw[uI r j x (by simpa using h)]
theorem CB{st:St}{r j:Nat}{c:RC}(h:st.cell r j=some c):st.setCell r j c=st:=by
 unfold St.setCell;unfold St.cell at h;cases hl:look st.rt r with
 | none=>rfl
 | some R => rw[hl]at h;simp only at h ⊢;rw[uI _ _ _ h,CS _ _ _ hl]
theorem M8{st st':St}{r j s i m:Nat}{e:TypeId}{ks0 ks:List K}{xs:T (.sl e ks0)}{l:List AV}(hc:st.cell r j=some ⟨s,m,.own (.sl e ks0) xs⟩)(hi:i<(aQ xs).length)(h:st.uV r j s i ks l=some st'):st.jl r j s i (st.Dt r j) 0 ks l=some st':=by
 unfold St.uV at h;rw[hc]at h;simp only at h;have em:st.Dt r j=m:=by unfold St.Dt; rw[hc]
 rw[em];split at h
 . rename_i q hq;obtain⟨h1,mf,z,h2,h3⟩:=p9 ks l 0 st q.1 q.2 xs m hc hi (fun _ _=>rfl) hq;split at h
   . rename_i y c1 hy hc1;obtain⟨_,h⟩:=jT h;simp only[aen]at h;obtain⟨ek,hy⟩:=uW hy;subst ek;subst hy;rw[h3]at hc1;cases hc1;rw[De _ _ _ _ h2]at h3;rw[CB h3]at h;rw[<- h];exact h1
   . simp at h
 . simp at h
def nN(P:Program)(cx:Cx P)(E:En)(st':St)(a:Act)(w:World)(o:Oper):Prop :=
 ch st'/\∀(next:Act->World->Prop) (Q:Exit->Act->World->Prop),(∀ Z' g' a' w',Rel cx Z' g' st' a' w'->Fit cx E a'->next a' w')->o.wp P a w next Q
section
variable{P:Program}{cx:Cx P}{Z:Nat->Prop}{g:Gh}{st:St}{a:Act}{w:World}{E:En}
theorem Yv(h:Rel cx Z g st a w):∀(l:List AV) (vs:List Value),aU Z g st w l vs->l.all st.live=true->∀ u∈vs,u.oneCell'=true
 | [],[],_,_=>by simp
 | x::l,v::vs,hr,hl=>by
   simp only[afe,aeo]at hl;intro u hu;rcases aew.1 hu with hu | hu
   . subst hu; exact(sY h hr.1 hl.1).2
   . exact Yv h l vs hr.2 hl.2 u hu
 | [],_::_,hr,_=>hr.elim
 | _::_,[],hr,_=>hr.elim
theorem uP{r j s m i:Nat}:∀(l:List AV) (c:Nat),mT r j s m i c l=true->∀ q a,l[q]? = some a->pJ r j s m (c+q) a=true->∃ i' q',a= .pref r j s m i' q'/\q'=c+q/\i'=i
 | [],_,_,q,a,h,_=>by simp at h
 | x::l,c,h,q,a,hq,hs=>by
   have self:∀ a,pJ r j s m c a=true->∃ i' ,a= .pref r j s m i' c:=fun a ha=>by
    unfold pJ at ha;split at ha
    . rename_i r' j' s' m' i' q';simp only[aeo]at ha;obtain⟨h1,h2,h3,h4,h5⟩:=ha;exact⟨i',by rw[beq_eq h1,beq_eq h2,beq_eq h3,beq_eq h4,beq_eq h5]⟩
    . simp at ha
   unfold mT at h;cases q with
   | zero => simp only[aeu,aen]at hq;subst hq;rw[aeQ]at hs;rw[hs]at h;obtain⟨i',rfl⟩:=self _ hs;simp only[oT,aeo]at h;exact⟨i',c,rfl,rfl,beq_eq h.1⟩
   | succ q =>
     rw[afi]at hq;have hr:mT r j s m i (c+1) l=true:=by
      cases hx:pJ r j s m c x with
      | false=>rw[hx]at h; exact h
      | true => rw[hx]at h;obtain⟨i',rfl⟩:=self _ hx;simp only[oT,aeo]at h;exact h.2
     obtain⟨i',q',e1,e2,e3⟩:=uP l (c+1) hr q a hq (by rw[show c+1+q=c+(q+1)by omega]; exact hs);exact⟨i',q',e1,by omega,e3⟩
theorem H3{r j s i c:Nat}{c0:RC}{e:TypeId}{ks:List K}{xs:T (.sl e ks)}{b of l cap:Nat}{av:List AV}{vs:List Value}(h1:st.cell r j=some c0)(h2:c0.s=s)(h3:c0.v= .own (.sl e ks) xs)(h4:g.cv r j= .slice (some ⟨b,of,none⟩) l cap)
 (hr:aU Z g st w av vs)(hs:st.GW (.pel r j s i c) av=true):nZ w r j s (st.Dt r j) b (of+i * ks.length) c av vs:=fun q a v ha hv hself=>by
 obtain⟨i',q',rfl,rfl,rfl⟩:=uP _ _ hs q a ha hself;have hrel:∀(l:List AV) (vs:List Value),aU Z g st w l vs->∀(q:Nat) (a:AV) (v:Value),l[q]? = some a->vs[q]? = some v->bj Z g st w a v:=by
  intro l;induction l with
  | nil=>intro vs _ q a v h; simp at h
  | cons x l ih =>
    intro vs hr q a v h1 h2;cases vs with
    | nil=>simp at h2
    | cons u vs =>
      cases q with
      | zero=>simp only[aeu,aen]at h1 h2; subst h1 h2; exact hr.1
      | succ q=>exact ih vs hr.2 q a v (by simpa using h1) (by simpa using h2)
 obtain⟨c1,k1,k2,k3,k4⟩:=hrel _ _ hr q _ v ha hv;rw[h1]at k1;simp only[aen]at k1;subst k1;have hm:c0.m=st.Dt r j:=by unfold St.Dt; rw[h1]
 obtain⟨e',ks',xs',f1,f2,f3,b',o',l',cap',f4,f5⟩:=k4 h2 hm;rw[h3]at f1;simp only[RV.own.injEq,K.sl.injEq]at f1;obtain⟨⟨rfl,rfl⟩,_⟩:=f1;rw[h4]at f4;simp only[afm,aen,afK,afQ]at f4;obtain⟨⟨rfl,rfl⟩,_⟩:=f4;rw[show of+i' * ks.length+c+q=of+i' * ks.length+(c+q)by omega];exact f5
theorem Q0(hT:cf P E)(h:Rel cx Z g st a w)(hn:ch st)(hsz:Fit cx E a){o:Oper}(hd:o.dst=none){t:TypeId}{pa x:Operand}(ho:o.op= .store t pa x){ti:TI}{ta tx:TV}{av:AV}{p:Bool×List AV}{st':St}
 (hti:E.ti t=some ti)(hpa:st.get pa=some ta)(hav:ta.Eg = some av)(hx:st.get x=some tx)(hp:tx.cH = some p)(hlive:p.2.all st.live=true)(hlen:p.2.length=ti.ks.length)(hself:st.GW av p.2=true)(hs:st.store ti.ks p.2 av=some st'):nN P cx E st' a w o:=by
 have hc:=hn.cons.cons;have ra:=rD (aX h hc hpa) hav;obtain⟨rv,rl⟩:=lL h (aX h hc hx) hp hlive;have hlen':(a.eval x).cells.toList.length=ti.ks.length:=by rw[<- dW rv]; exact hlen
 have h1:=Yv h _ _ rv hlive;have go:∀(b of:Nat) (g':Gh),a.eval pa= .pointer (some ⟨b,of,none⟩)->Rel cx Z g' st' a (w.setCells b of (a.eval x).cells.toList)->st'.tm=st.tm->(∀ j,j<(a.eval x).cells.toList.length->∃ cs el fr,w.heap[b]? = some (.cells cs el fr)/\of+j<cs.size/\¬ (fr.1<=of+j/\of+j<fr.2))->nN P cx E st' a w o:=by
  intro b of g' e1 e2 e3 e4;refine⟨fun t tv ht=>hn t tv (by rw[<- e3]; exact ht),fun next Q hk => ?_⟩;have hrun:=Cq (P:=P) (hT t ti hti) (w:=w) (b:=b) (o:=of) (v:=a.eval x) rfl hlen' h1 e4;unfold Oper.wp;have:(execOp a.eval o).run P w= .ok .skip (w.setCells b of (a.eval x).cells.toList):=by simp only[execOp,ho,aeN,e1,hrun,aez];rfl
  rw[this,Oper.upon_skip,hd];exact hk Z g' a _ e2 hsz
 cases av with
 | ptr r j =>
   obtain⟨R,f1,f2,f3⟩:=ra;have hsh:shape st r=some (true,R.cells.length):=by simp[shape,f1,f2]
   obtain⟨g',m1,m2,m3⟩:=oV (a:=a) (r:=r) (n:=R.cells.length) ti.ks p.2 _ st g w j st' h hsh rv hs;obtain⟨b1,b2,b3,b4,cs,el,fr,b5,b6,b7,b8⟩:=h.box r R f1 f2;refine go (g.be r) j g' f3 m1 m2 fun q hq=>⟨cs,el,fr,b5,?_,?_⟩
   . rcases m3 with m3 | m3
     . rw[m3]at hq; simp at hq
     . omega
   . apply b6;rcases m3 with m3 | m3
     . rw[m3]at hq; simp at hq
     . omega
 | pel r j s i c =>
   simp only[St.store]at hs;cases hl:st.live (.pel r j s i c)with
   | false=>rw[hl]at hs; simp at hs
   | true =>
     rw[hl]at hs;simp only[oT]at hs;have ra':=ra;obtain⟨c0,f1,f2,f3⟩:=ra;simp only[St.live,f1]at hl;obtain⟨e,ks,xs,f4,f5,b,of,l,cap,f6,f7⟩:=f3 (beq_eq hl);rw[f7]at ra';have hs:st.jl r j s i (st.Dt r j) c ti.ks p.2=some st':=by
      cases hrow:Nat.beq c 0&&Nat.ble 8 p.2.length with
      | false=>rw[hrow]at hs; exact hs
      | true => rw[hrow]at hs;simp only[aeo]at hrow;have e0:=beq_eq hrow.1;subst e0;obtain⟨c0s,c0m,c0v⟩:=c0;simp only at f4 hl;subst f4;have es:=beq_eq hl;subst es;exact M8 f1 f5 hs
     obtain⟨g',m1,m2,m3⟩:=wu (a:=a) (b:=b) (p:=of+i * ks.length) ti.ks p.2 _ st g w c st' h ra' rv (H3 f1 (beq_eq hl) f4 f6 rv hself) hs;exact go b (of+i * ks.length+c) g' f7 m1 m2 m3
 | _=>simp[St.store]at hs
theorem om(h:Rel cx Z g st a w)(hn:ch st)(hsz:Fit cx E a){o:Oper}{d:Nat}(hd:o.dst=some d)(hdn:jw cx a d){x:Operand}(ho:o.op= .move x∨o.op= .assign x){tv:TV}(hx:st.get x=some tv):nN P cx E (st.aT d (tv,none)) a w o:=by
 refine⟨fun t tv' ht => ?_,fun next Q hk=>Fl h hn.cons.cons hd hdn ho hx next Q fun Z' g' v w' hr=>hk Z' g' _ w' hr (hsz.put _ _)⟩;rw[bY]at ht;split at ht
 . simp only[aen]at ht;subst ht;intro hm;obtain⟨d',hd'⟩:=zw hx hm;exact hn d' _ hd' hm
 . exact hn t tv' ht
def setFrom(cs:Array Value):Nat->List Value->Array Value
 | _,[]=>cs
 | o,v::r=>setFrom (cs.setIfInBounds o v) (o+1) r
theorem oA(w:World)(t:TypeId)(fr:Nat×Nat):∀(vs:List Value) (o:Nat) (cs:Array Value),(w.alloc (.cells cs t fr)).setCells w.heap.size o vs=w.alloc (.cells (setFrom cs o vs) t fr)
 | [],_,_=>rfl
 | v::r,o,cs=>by
   have:(w.alloc (.cells cs t fr)).setCell ⟨w.heap.size,o,none⟩ v=w.alloc (.cells (cs.setIfInBounds o v) t fr):=by
    have hh:((w.alloc (.cells cs t fr)).setCell ⟨w.heap.size,o,none⟩ v).heap=(w.alloc (.cells (cs.setIfInBounds o v) t fr)).heap:=by
     apply agb;intro i;rw[dp];show(if w.heap.size=i then ((w.heap.push (.cells cs t fr))[i]?).map _ else (w.heap.push (.cells cs t fr))[i]?)=(w.heap.push (.cells (cs.setIfInBounds o v) t fr))[i]?;rw[ae1,ae1];by_cases e:w.heap.size=i
     . subst e; simp
     . rw[if_neg e,if_neg (fun x=>e x.symm),if_neg (fun x=>e x.symm)]
    cases w;simp only[World.setCell,World.alloc]at hh ⊢;congr 1
   rw[World.setCells,this];exact oA w t fr r (o+1) _
theorem cK:∀(vs:List Value) (o:Nat) (cs:Array Value) (i:Nat),o+vs.length<=cs.size->(setFrom cs o vs)[i]? = if o<=i/\i<o+vs.length then vs[i-o]? else cs[i]?
 | [],o,cs,i,h=>by
   have:¬ (o<=i/\i<o+([]:List Value).length):=by intro hh;have:=hh.2;simp only[ae7]at this;omega
   rw[if_neg this];rfl
 | v::r,o,cs,i,h=>by
   have hl:(v::r).length=r.length+1:=rfl;rw[setFrom,cK r (o+1) _ i (by simp; omega)];by_cases e:o=i
   . subst e;rw[if_neg (by omega),if_pos (by omega),afj,if_pos rfl,if_pos (by omega),af7];rfl
   . by_cases e2:o+1<=i/\i<o+1+r.length
     . rw[if_pos e2,if_pos (by omega),show i-o=(i-(o+1))+1 by omega];rfl
     . rw[if_neg e2,if_neg (by omega),afj,if_neg e]
theorem BZ(cs:Array Value)(vs:List Value)(h:vs.length=cs.size):setFrom cs 0 vs=vs.toArray:=by
 apply agb;intro i;rw[cK vs 0 cs i (by omega)];by_cases e:i<vs.length
 . rw[if_pos (by omega)]; simp
 . rw[if_neg (by omega)];rw[aeH (by omega),aeH (by simp; omega)]
theorem Rh(h:Rel cx Z g st a w){tv:TV}{v:Value}{p:Bool×List AV}(hr:bF Z g st w tv v)(hp:tv.cH = some p)(hl:p.2.all st.live=true):It p.1 v v.cells.toList:=by
 cases tv with
 | v x => simp only[TV.cH,aen]at hp;subst hp;simp only[afe,List.all_nil,ag1]at hl;show v.cells.toList=[v];rw[(sY h hr hl).1]
 | bc r j s m e ks x => simp only[TV.cH,aen]at hp;subst hp;simp only[afe,List.all_nil,ag1]at hl;show v.cells.toList=[v];rw[(sY h (MR hr) hl).1]
 | agg l => simp only[TV.cH,aen]at hp;subst hp;obtain⟨vs,e,_⟩:=hr;subst e;simp[It,Value.cells]
 | _=>simp[TV.cH]at hp
theorem Db(w:World)(cs:Array Value)(t:TypeId)(i:Nat):cs.toList[i]? = (w.alloc (.cells cs t (0,0))).cell? ⟨w.heap.size,i,none⟩:=by
 have:(w.alloc (.cells cs t (0,0))).heap[w.heap.size]? = some (.cells cs t (0,0)):=by show(w.heap.push (.cells cs t (0,0)))[w.heap.size]? = _;simp
 simp only[World.cell?,this];simp
theorem ER{w0 w':World}{g':Gh}{st':St}{a':Act}{x:Operand}{d n:Nat}{g:Bool}{v:Value}{t:TypeId}(h:Rel cx Z g' st' a' w')(hn:ch st')(hd:look st'.tm d=some (.v (.ptr d 0)))(hdv:a'.tmps.getD d undef= .pointer (some ⟨w0.heap.size,0,none⟩))
 (hx:∀ t,x= .tmp t->t≠d->a'.tmps.getD t undef=v)(hlt:∀ t,x= .tmp t->t<a'.tmps.size)(hC:It g v v.cells.toList)(hlen:n=v.cells.size)(hw:w'=w0.alloc (.cells v.cells t (0,0))):ch (st'.rebind x d g n)/\Rel cx Z g' (st'.rebind x d g n) a' w':=by
 unfold St.rebind;cases x with
 | tmp t0 =>
   simp only;cases hb:Nat.beq t0 d with
   | true=>exact⟨hn,h⟩
   | false =>
     simp only[oF];have hne:t0≠d:=afx hb;cases hl:st'.de d 0 n with
     | none=>exact⟨hn,h⟩
     | some l =>
       simp only;obtain⟨b,o,vs,e1,e2,e3,e4⟩:=yq h (p:= .ptr d 0) (n:=n) (l:=l) (h.tm d _ hd).2 hl;rw[hdv]at e1;simp only[Value.pointer.injEq,aen,afK,afQ]at e1;obtain⟨rfl,rfl⟩:=e1;have hvs:vs=v.cells.toList:=by
        apply agW;intro i;rcases aeD i vs.length with hi | hi
        . have:=e3 i _ (aeq hi);rw[aex,hw]at this;rw[aeq hi,<- this];exact(Db w0 v.cells t i).symm
        . rw[aeE hi,aeE (by simp; omega)]
       rw[hvs]at e4;refine⟨fun t tv ht => ?_,?_⟩
       . have ht:look ((t0,eN g l)::st'.tm) t=some tv:=ht;rw[aK]at ht;split at ht
         . simp only[aen]at ht;subst ht;intro hm;cases ho:eN g l with
           | may q w y g' l'=>exact kq ho
           | _=>rw[ho]at hm; exact hm
         . exact hn t tv ht
       . refine h.tell (tm:=st'.tm) (rt:=st'.rt) (hlt t0 rfl) ?_;rw[hx t0 rfl hne];exact yc hC e4
 | _=>exact⟨hn,h⟩
theorem aab(h:Rel cx Z g st a w)(hn:ch st)(hsz:Fit cx E a){o:Oper}{d:Nat}(hd:o.dst=some d)(hdn:jw cx a d){t:TypeId}{x:Operand}(ho:o.op= .box t x){ti:TI}{tx:TV}{p:Bool×List AV}{st':St}
 (hx:st.get x=some tx)(hp:tx.cH = some p)(hf:st.free d=true)(hlive:p.2.all st.live=true)(hlen:p.2.length=ti.ks.length)(hs:(st.aT d (.v (.ptr d 0),some ⟨true,ti.ks.map mM⟩)).cI d 0 ti.ks p.2=some st'):nN P cx E (st'.rebind x d p.1 ti.ks.length) a w o:=by
 have hc:=hn.cons.cons;obtain⟨rv,rl⟩:=lL h (aX h hc hx) hp hlive;obtain⟨g1,h1,hk,hbe⟩:=h.BL (d:=d) hdn hf (cs:=(ti.ks.map zV).toArray) (e:=t) (l:=ti.ks.map mM) (by simp) (fun j c v hj hv=>by
  have hj':(ti.ks[j]?).map mM=some c:=by rw[<- ae2]; exact hj
  have hv':(ti.ks[j]?).map zV=some v:=by rw[<- ae2]; simpa using hv
  cases hk:ti.ks[j]? with
  | none=>rw[hk]at hj'; simp at hj'
  | some k0 => rw[hk]at hj' hv';simp only[aeM,aen]at hj' hv';exact .inl ⟨k0,hj'.symm,hv'.symm⟩) (tv:= .v (.ptr d 0)) (v:= .pointer (some ⟨w.heap.size,0,none⟩)) (.inl ⟨rfl,rfl⟩)
 have hsh:shape (st.aT d (.v (.ptr d 0),some ⟨true,ti.ks.map mM⟩)) d=some (true,ti.ks.length):=by unfold shape;rw[w8];simp
 obtain⟨g',m1,m2,m3⟩:=oV (r:=d) (n:=ti.ks.length) ti.ks p.2 _ _ g1 _ 0 st' h1 hsh (aU.cg hk _ _ rv) hs;rw[hbe,oA,BZ _ _ (by rw[<- dW rv,hlen]; simp),afk]at m1;have hnm':ch st':=fun t tv ht=>by
  rw[m2,bY]at ht;split at ht
  . simp only[aen]at ht; subst ht; exact fun h=>h
  . exact hn t tv ht
 obtain⟨hnm2,m1⟩:=ER (x:=x) (g:=p.1) m1 hnm' (d:=d) (v:=a.eval x) (by rw[m2,bY,if_pos rfl]) (by simp[Act.put,hdn.1]) (fun t ht hne=>by subst ht; simp[Act.put,Act.eval,aev,agx (Ne.symm hne)]) (fun t ht=>by
  subst ht;have ht2:(a.put (some d) (.pointer (some ⟨w.heap.size,0,none⟩))).tmps.size=a.tmps.size:=by simp[Act.put]
  rw[ht2];have hx:st.tv t=some tx:=hx;obtain⟨tq,h1,_⟩:=Ao hn.cons hx;exact(h.tm t tq h1).1) (Rh h (aX h hc hx) hp hlive) (hlen.symm.trans rl.symm) rfl
 refine⟨hnm2,fun next Q hk => ?_⟩
 . have hrun:(execOp a.eval o).run P w= .ok (.value (.pointer (some ⟨w.heap.size,0,none⟩))) (w.alloc (.cells (a.eval x).cells t (0,0))):=by
    simp[execOp,ho,Instr.box,newVar,newRow]
   unfold Oper.wp;rw[hrun,afo,hd];exact hk Z g' _ _ m1 (hsz.put _ _)
end
section
variable{w w':World}
theorem jt:∀(ks:List K) (x:Tl ks) (j:Nat) (G G':Nat->Nat->Prop) (cs cs':Array Value) (o o':Nat),(∀ q,q<ks.length->cs'[o'+q]? = cs[o+q]?)->(∀ j b,G j b->G' j b)->(∀ j b,G j b->b<w.heap.size->w'.heap[b]? = w.heap[b]?)->fA w ks x j G cs o->fA w' ks x j G' cs' o'
 | [],_,_,_,_,_,_,_,_,_,_,_,_=>trivial
 | k::ks,x,j,G,G',cs,cs',o,o',hc,hG,hw,⟨⟨v,h1,h2⟩,h3⟩ =>
   ⟨⟨v,by rw[<- h1]; exact hc 0 (by simp),cO.frame k _ v (G j) (G' j) (hG j) (hw j) h2⟩,jt ks _ (j+1) G G' cs cs' (o+1) (o'+1) (fun q hq=>by rw[show o'+1+q=o'+(q+1)by omega,show o+1+q=o+(q+1)by omega]; exact hc (q+1) (by simp; omega)) hG hw h3⟩
structure F9 (w:World) (ks:List K) (ys:List (Tl ks)) (news:List Value) (H:Nat->Nat->Nat->Prop) (F:Nat->Prop):Prop where
 len:news.length=ys.length * ks.length
 one:∀ v∈news,v.oneCell'=true
 sub:∀ i j b,H i j b->F b
 disj:∀ i j i' j' b,H i j b->H i' j' b->i=i'/\j=j'
 row:∀(i:Nat) (y:Tl ks),ys[i]? = some y->fA w ks y 0 (H i) news.toArray (i * ks.length)
theorem lS{i m n q:Nat}(hi:i<m)(hq:q<n):i * n+q<m * n:=by have:=aeS n (show i+1<=m from hi);rw[ae0,agZ]at this;omega
theorem F8{e:TypeId}{ks:List K}{xs:T (.sl e ks)}{ys:List (Tl ks)}{G:Nat->Nat->Nat->Prop}{cs:Array Value}{o:Nat}{news:List Value}{H:Nat->Nat->Nat->Prop}{FH:Nat->Prop}{F:Nat->Prop}{b0:Nat}{cap:Nat}
 (hG1:∀ i j b,G i j b->F b/\b≠b0)(hG2:∀ i j i' j' b,G i j b->G i' j' b->i=i'/\j=j')(hx:∀ i x,(aQ xs)[i]? = some x->fA w ks x 0 (G i) cs (o+i * ks.length))(hn:F9 w ks ys news H FH)(hFH:∀ b,FH b->¬ F b/\b≠b0)
 {b o':Nat}{cs':Array Value}{el:TypeId}{fr:Nat×Nat}{F':Nat->Prop}(hb:w'.heap[b]? = some (.cells cs' el fr))(hfr:∀ q,q<cs'.size+TK ks->¬ (fr.1<=q/\q<fr.2))(hF'b:F' b)(hF':∀ q,F q->q≠b0->F' q)(hF'':∀ q,FH q->F' q)(hGb:∀ i j q,G i j q->q≠b)(hHb:∀ q,FH q->q≠b)
 (hsame:∀ q,q<w.heap.size->q≠b0->q≠b->w'.heap[q]? = w.heap[q]?)
 (hold:∀ q,q<(aQ xs).length * ks.length->cs'[o'+q]? = cs[o+q]?)(hnew:∀ q,q<news.length->cs'[o'+(aQ xs).length * ks.length+q]? = news[q]?)(hcap:(aQ xs).length+ys.length<=cap)(hsz:o'+cap * ks.length<=cs'.size)(hbig:(aQ xs).length+ys.length<=bG) :
 cO w' (.sl e ks) (cat ks (aQ xs) ys) (.slice (some ⟨b,o',none⟩) ((aQ xs).length+ys.length) cap) F':=by
 have hlen:(aQ (e:=e) (ks:=ks) (cat ks (aQ xs) ys)).length=(aQ xs).length+ys.length:=aep ..
 refine⟨_,cap,by rw[hlen],by rw[hlen]; exact hcap,by rw[hlen]; exact hbig,by simp,fun a' ha' => ?_⟩;simp only[aen]at ha';subst ha';refine⟨b,o',cs',el,fr,rfl,hF'b,hb,hfr,hsz,fun i j q=>if i<(aQ xs).length then G i j q else H (i-(aQ xs).length) j q,fun i j q hq => ?_,fun i j i' j' q h1 h2 => ?_,fun i x hi => ?_⟩
 . dsimp only at hq;split at hq
   . exact⟨hF' q (hG1 i j q hq).1 (hG1 i j q hq).2,hGb i j q hq⟩
   . exact⟨hF'' q (hn.sub _ _ _ hq),hHb q (hn.sub _ _ _ hq)⟩
 . dsimp only at h1 h2;split at h1
   . split at h2
     . exact hG2 _ _ _ _ _ h1 h2
     . exact absurd (hG1 _ _ _ h1).1 (hFH q (hn.sub _ _ _ h2)).1
   . split at h2
     . exact absurd (hG1 _ _ _ h2).1 (hFH q (hn.sub _ _ _ h1)).1
     . obtain⟨e1,e2⟩:=hn.disj _ _ _ _ _ h1 h2;exact⟨by omega,e2⟩
 . have hi':(aQ xs++ys)[i]? = some x:=hi;by_cases hl:i<(aQ xs).length
   . rw[ae4 hl]at hi';refine jt ks x 0 (G i) _ cs cs' _ _ (fun q hq => ?_) (fun j q hq => ?_) (fun j q hq hlt=>hsame q hlt (hG1 i j q hq).2 (hGb i j q hq)) (hx i x hi')
     . have:=hold (i * ks.length+q) (lS hl hq);rw[show o'+i * ks.length+q=o'+(i * ks.length+q)by omega,show o+i * ks.length+q=o+(i * ks.length+q)by omega];exact this
     . show(if i<(aQ xs).length then G i j q else H (i-(aQ xs).length) j q);rw[if_pos hl]; exact hq
   . rw[ae3 (by omega)]at hi';have hlt:i-(aQ xs).length<ys.length:=by
      rcases aeD (i-(aQ xs).length) ys.length with h | h
      . exact h
      . simp[aeE h]at hi'
     refine jt ks x 0 (H (i-(aQ xs).length)) _ news.toArray cs' _ _ (fun q hq => ?_) (fun j q hq => ?_) (fun j q hq hlt'=>hsame q hlt' (hFH q (hn.sub _ _ _ hq)).2 (hHb q (hn.sub _ _ _ hq))) (hn.row _ x hi')
     . have hq':(i-(aQ xs).length) * ks.length+q<news.length:=by rw[hn.len]; exact lS hlt hq
       have:=hnew _ hq';have hmul:i * ks.length=(aQ xs).length * ks.length+(i-(aQ xs).length) * ks.length:=by rw[<- ae0]; congr 1; omega
       rw[show o'+i * ks.length+q=o'+(aQ xs).length * ks.length+((i-(aQ xs).length) * ks.length+q)by omega,this];simp
     . show(if i<(aQ xs).length then G i j q else H (i-(aQ xs).length) j q);rw[if_neg hl]; exact hq
end
section
variable{P:Program}{cx:Cx P}{Z:Nat->Prop}{g:Gh}{st:St}{a:Act}{w:World}{E:En}
theorem Rel.wr(h:Rel cx Z g st a w){w':World}{F:Nat->Prop}(hF:iw cx Z g st w F)(h1:w'.os=w.os)(h2:w'.tape=w.tape)(h3:w'.output=w.output)(hs:w.heap.size<=w'.heap.size)(hb:∀ b,b<w.heap.size->¬ F b->w'.heap[b]? = w.heap[b]?):Rel cx Z g st a w':=by
 have hz:∀ b,Z b->b<w.heap.size->w'.heap[b]? = w.heap[b]? := fun b hz hlt=>hb b hlt fun hf=>hF.z b hf hz
 have hfp:∀ r j b,g.fp r j b->w'.heap[b]? = w.heap[b]? := fun r j b hf=>hb b (h.fp r j b hf).1 fun hf'=>hF.fp b hf' r j hf
 have k:mA Z Z w w' g g st st :=
  { size:=hs,z:=fun b hz' hlt=>⟨hz',hz b hz' hlt⟩,root:=fun r R hR=>⟨R,hR,rfl,fun _=>rfl⟩
    cell:=fun r j c hc=>⟨c,hc,oR _,oR _,fun _=>rfl,fun _ e ks xs hh=>⟨xs,hh,rfl⟩,fun _ _=>⟨rfl,fun b hb' _=>⟨hb',hfp r j b hb'⟩⟩⟩
    own:=fun r j b hb'=>(h.fp r j b hb').1
    block:=(fb h (st':=st) (w':=w) rfl rfl).block }
 refine { os:=h1.trans h.os,tape:=h2.trans h.tape,output:=h3.trans h.output,size:=aeA h.size hs,block := ?_,bL:=fun b hb'=>⟨aeK (h.bL b hb').1 hs,(h.bL b hb').2⟩,z0:=h.z0,fp := ?_,disj:=h.disj,box := ?_,cell := ?_,tm := ?_,defers:=h.defers,pin:=h.pin }
 . intro b hlt hf;refine(hb b (aeK hlt h.size) fun hf' => ?_).trans (h.block b hlt hf);rcases hF.own b hf' with h4 | h4
   . exact hf h4
   . omega
 . intro r j b hb';obtain⟨h1,h2,h3,h4⟩:=h.fp r j b hb';exact⟨aeK h1 hs,h2,h3,h4⟩
 . intro r R hR hbx;obtain⟨b1,b2,b3,b4,cs,e,fr,b5,b6⟩:=h.box r R hR hbx;have hlt:g.be r<w.heap.size:=by
    rcases aeD (g.be r) w.heap.size with hh | hh
    . exact hh
    . simp[aeH hh]at b5
   exact⟨b1,b2,b3,b4,cs,e,fr,by rw[hb _ hlt fun hf=>hF.box _ hf r R hR hbx rfl]; exact b5,b6⟩
 . intro r j c hc;exact jJ.cg k _ _ _ _ (h.cell r j c hc) (fun _ h=>h) (fun b hb' _=>hfp r j b hb')
 . exact fun t tv ht=>⟨(h.tm t tv ht).1,bF.cg k _ _ (h.tm t tv ht).2⟩
theorem Rel.G5(h:Rel cx Z g st a w){d:Nat}(hd:jw cx a d)(hf:st.free d=true){k:K}{x:T k}{v:Value}{F:Nat->Prop}(hF:∀ b,F b->b<w.heap.size/\(cx.F0 b∨cx.w0.heap.size<=b)/\¬ Z b/\(∀ r j,¬ g.fp r j b)/\(∀ r' R',look st.rt r'=some R'->R'.box=true->g.be r'≠b))(ho:cO w k x v F) :
 ∃ g',Rel cx Z g' (st.aT d (.v (.ref d 0 0),some ⟨false,[⟨0,0,.own k x⟩]⟩)) (a.put (some d) v) w:=by
 have h6:=Rel.lG h (r:=d) (be:=0) (R:=⟨false,[⟨0,0,.own k x⟩]⟩) (cv:=fun _=>v) (fp:=fun j b=>j=0/\F b) (ju hf)
  (fun j b hb=>⟨(hF b hb.2).1,(hF b hb.2).2.1,(hF b hb.2).2.2.1,(hF b hb.2).2.2.2.1,(hF b hb.2).2.2.2.2,⟨0,0,.own k x⟩,k,x,by rw[hb.1]; rfl,rfl⟩)
  (fun j j' b h1 h2=>h1.1.trans h2.1.symm) (fun hb=>by simp at hb)
  (fun j c hj=>by
    cases j with
    | zero => simp only[aeu,aen]at hj;subst hj;exact cO.frame _ _ _ _ _ (fun b hb=>⟨rfl,hb⟩) (fun _ _ _=>rfl) ho
    | succ j=>simp at hj)
 refine⟨_,h6.mm hd (tv:= .v (.ref d 0 0)) ⟨⟨0,0,.own k x⟩,?_,oR _,fun _=>by simp[Gh.at]⟩⟩;show(match look ((d,(⟨false,[⟨0,0,.own k x⟩]⟩:Rt))::st.rt) d with | some R=>R.cells[0]? | none=>none)=_;rw[aK,if_pos rfl];rfl
end
section
variable{P:Program}{w:World}{E:En}
theorem n9{t t2 ty:TypeId}{e:TypeId}{te:TI}(ht:P.underlying t=some (.slice e))(hTe:pk P e te){d2:TypeDesc}(h2:P.underlying t2=some d2)(h2':∀ k,d2≠ .int k){b o sLen sCap n:Nat}{vx:Value}{news:List Value}{ats:Array TypeId}(hat:ats[0]? = some t)(hat2:ats[1]? = some t2)
 (hl:(Builtin.lenOf vx).run P w= .ok n w)(hf:(Builtin.firstCells te.ks.length n vx).run P w= .ok news.toArray w)(hc:sLen+n<=sCap)(h1:∀ u∈news,u.oneCell'=true)
 (hcell:∀ j,j<news.length->∃ cs el fr,w.heap[b]? = some (.cells cs el fr)/\o+sLen * te.ks.length+j<cs.size/\¬ (fr.1<=o+sLen * te.ks.length+j/\o+sLen * te.ks.length+j<fr.2)) :
 (Builtin.append_ ats ty #[.slice (some ⟨b,o,none⟩) sLen sCap,vx]).run P w= .ok (.slice (some ⟨b,o,none⟩) (sLen+n) sCap) (w.setCells b (o+sLen * te.ks.length) news):=by
 have hst:=run_storeCells_cells (P:=P) b (o+sLen * te.ks.length) news 0 w (fun j hj=>by
  obtain⟨cs,el,fr,e1,e2,_⟩:=hcell j hj;simp[World.cell?,e1,e2]) (fun j hj=>by
  obtain⟨cs,el,fr,e1,e2,e3⟩:=hcell j hj;simp only[World.frozen?,aeQ,e1];simp only[agE,agj];by_cases h:fr.1<=o+sLen * te.ks.length+j
  . exact .inr fun h'=>e3 ⟨h,h'⟩
  . exact .inl h) h1
 rw[aeQ]at hst;have hz:(match d2 with | .int _=>true | _=>false)=false:=by cases d2 <;> first | rfl | exact absurd rfl (h2' _)
 simp only[Builtin.append_,hat,hat2,aeZ,aeu,afi,aeN,aeR ht,aez,cJ hTe,aeR h2,aeX,hz,ae5,afE,hl,hc,if_true,oM,hf,fL,hst]
theorem append_nil{t t2 ty:TypeId}{e:TypeId}{te:TI}(ht:P.underlying t=some (.slice e))(hTe:pk P e te){d2:TypeDesc}(h2:P.underlying t2=some d2)(h2':∀ k,d2≠ .int k){vx:Value}{news:List Value}{ats:Array TypeId}(hat:ats[0]? = some t)(hat2:ats[1]? = some t2)
 (hl:(Builtin.lenOf vx).run P w= .ok 0 w)(hf:(Builtin.firstCells te.ks.length 0 vx).run P w= .ok news.toArray w) :
 (Builtin.append_ ats ty #[.slice none 0 0,vx]).run P w= .ok (.slice none 0 0) w:=by
 have hz:(match d2 with | .int _=>true | _=>false)=false:=by cases d2 <;> first | rfl | exact absurd rfl (h2' _)
 simp only[Builtin.append_,hat,hat2,aeZ,aeu,afi,aeN,aeR ht,aez,cJ hTe,aeR h2,aeX,hz,ae5,afE,hl,oR,aeQ,if_true,oM,hf]
theorem nq{t t2 ty:TypeId}{e:TypeId}{te:TI}(ht:P.underlying t=some (.slice e))(hTe:pk P e te){d2:TypeDesc}(h2:P.underlying t2=some d2)(h2':∀ k,d2≠ .int k){base:Option Addr}{sLen sCap n:Nat}{vx:Value}{olds news:List Value}{ats:Array TypeId}(hat:ats[0]? = some t)(hat2:ats[1]? = some t2)
 (hl:(Builtin.lenOf vx).run P w= .ok n w)(hfo:(Builtin.firstCells te.ks.length sLen (.slice base sLen sCap)).run P w.drew= .ok olds.toArray w.drew)(hf:(Builtin.firstCells te.ks.length n vx).run P w.drew= .ok news.toArray w.drew)(hc:sCap<sLen+n)(hby:0<te.bytes)(hb:(sLen+n) * te.bytes<=bG) :
 ∃ zs:Array Value,zs.size=(grownCap w (sLen+n) sCap e-(sLen+n)) * te.ks.length/\(Builtin.append_ ats ty #[.slice base sLen sCap,vx]).run P w= .ok (.slice (some ⟨w.heap.size,0,none⟩) (sLen+n) (grownCap w (sLen+n) sCap e)) (w.drew.alloc (.cells (olds.toArray++news.toArray++zs) e (0,0))):=by
 have hz:(match d2 with | .int _=>true | _=>false)=false:=by cases d2 <;> first | rfl | exact absurd rfl (h2' _)
 obtain⟨i,e1,e2,e3,z,e4,e5⟩:=hTe.info;have hzs:z.cells.size=te.ks.length:=by rw[<- aeY,e5]; simp
 refine⟨Builtin.zeroCells z.cells (grownCap w (sLen+n) sCap e-(sLen+n)),by rw[size_zeroCells,hzs],?_⟩;have hn:¬ (sLen+n<=sCap):=by omega
 have hbb:(sLen+n) * te.bytes<=140737488355328:=hb;have hle:sLen+n<=(sLen+n) * te.bytes:=afP _ hby;have h63:¬ (9223372036854775807<((sLen:Int)+(n:Int))):=by omega
 have h48:¬ (281474976710656<Builtin.nextslicecap (sLen+n) sCap * i.bytes):=by have:=growslice_fits (need:=sLen+n) (old:=sCap) (bytes:=i.bytes) hc (by rw[e3]; exact hbb);omega
 have hfo':(Builtin.firstCells i.size sLen (.slice base sLen sCap)).run P w.drew= .ok olds.toArray w.drew:=by rw[e2]; exact hfo
 have hf':(Builtin.firstCells i.size n vx).run P w.drew= .ok news.toArray w.drew:=by rw[e2]; exact hf
 simp[Builtin.append_,hat,hat2,aeR ht,aeR h2,sizeOf,typeInfo,zeroValue,e1,e4,hl,hn,h63,h48,Question.forced,hf',hfo',newRow,grownCap,hz];congr 2;rw[<- af0];congr 1;simp
end
section
variable{P:Program}{cx:Cx P}{Z:Nat->Prop}{g:Gh}{st:St}{a:Act}{w:World}{E:En}
theorem iU{fresh:Bool}{H:Nat->Nat->Prop}:∀(ks:List K) (x:Tl ks) (cs:List Value) (j:Nat),aV fresh Z w H ks x cs j->cs.length=ks.length
 | [],_,[],_,_=>rfl
 | .sl e ks'::ks,x,v::vs,j,h=>aeU (· + 1) (iU ks x.2 vs _ h.2)
 | .int _::ks,x,v::vs,j,h=>aeU (· + 1) (iU ks x.2 vs _ h.2)
 | .bool::ks,x,v::vs,j,h=>aeU (· + 1) (iU ks x.2 vs _ h.2)
 | .str::ks,x,v::vs,j,h=>aeU (· + 1) (iU ks x.2 vs _ h.2)
 | [],_,_::_,_,h=>h.elim
 | .sl _ _::_,_,[],_,h=>h.elim
 | .int _::_,_,[],_,h=>h.elim
 | .bool::_,_,[],_,h=>h.elim
 | .str::_,_,[],_,h=>h.elim
theorem gV{H:Nat->Nat->Prop}:∀(ks:List K) (x:Tl ks) (cs:List Value) (j:Nat),aV true Z w H ks x cs j->∀ u∈cs,u.oneCell'=true
 | [],_,[],_,_=>by simp
 | .sl e ks'::ks,x,v::vs,j,h=>fun u hu=>by
   rcases aew.1 hu with hu | hu
   . subst hu; exact(BH h.1).2
   . exact gV ks x.2 vs _ h.2 u hu
 | .int _::ks,x,v::vs,j,h=>fun u hu=>by
   rcases aew.1 hu with hu | hu
   . subst hu; exact(nM h.1).2
   . exact gV ks x.2 vs _ h.2 u hu
 | .bool::ks,x,v::vs,j,h=>fun u hu=>by
   rcases aew.1 hu with hu | hu
   . subst hu; exact(nM (k:= .bool) h.1).2
   . exact gV ks x.2 vs _ h.2 u hu
 | .str::ks,x,v::vs,j,h=>fun u hu=>by
   rcases aew.1 hu with hu | hu
   . subst hu; exact(nM (k:= .str) h.1).2
   . exact gV ks x.2 vs _ h.2 u hu
 | [],_,_::_,_,h=>h.elim
 | .sl _ _::_,_,[],_,h=>h.elim
 | .int _::_,_,[],_,h=>h.elim
 | .bool::_,_,[],_,h=>h.elim
 | .str::_,_,[],_,h=>h.elim
theorem nP{H:Nat->Nat->Prop}(hd:∀ n m b,H n b->H m b->n=m){cs:Array Value}:∀(ks:List K) (x:Tl ks) (vs:List Value) (j j0 o:Nat),aV true Z w H ks x vs j->(∀ q,q<vs.length->cs[o+q]? = vs[q]?) ->
 ∃ G:Nat->Nat->Prop,fA w ks x j0 G cs o/\(∀ q b,G q b->j0<=q/\∃ n,j<=n/\H n b)/\(∀ q q' b,G q b->G q' b->q=q')
 | [],_,[],j,j0,o,_,_=>⟨fun _ _=>False,trivial,fun _ _ h=>h.elim,fun _ _ _ h=>h.elim⟩
 | .sl e ks'::ks,x,v::vs,j,j0,o,h,hc=>by
   obtain⟨G,g1,g2,g3⟩:=nP hd ks x.2 vs (j+1) (j0+1) (o+1) h.2 fun q hq=>by rw[show o+1+q=o+(q+1)by omega]; exact hc (q+1) (by simp; omega)
   refine⟨fun q b=>if q=j0 then H j b else G q b,⟨⟨v,by have:=hc 0 (by simp); simpa using this,cO.frame _ _ _ _ _ (fun b hb=>by dsimp only; rw[if_pos rfl]; exact hb) (fun _ _ _=>rfl) h.1⟩,?_⟩,fun q b hb => ?_,fun q q' b hb hb' => ?_⟩
   . refine fA.frame ks x.2 (j0+1) G _ cs (o+1) (fun q b hb => ?_) (fun _ _ _ _=>rfl) g1;have:=(g2 q b hb).1;rw[if_neg (by omega)];exact hb
   . dsimp only at hb;split at hb
     . exact⟨by omega,j,oR _,hb⟩
     . obtain⟨k1,n,k2,k3⟩:=g2 q b hb;exact⟨by omega,n,by omega,k3⟩
   . dsimp only at hb hb';split at hb
     . split at hb'
       . omega
       . obtain⟨_,n,k2,k3⟩:=g2 q' b hb';have:=hd j n b hb k3;omega
     . split at hb'
       . obtain⟨_,n,k2,k3⟩:=g2 q b hb;have:=hd j n b hb' k3;omega
       . exact g3 q q' b hb hb'
 | .int k::ks,x,v::vs,j,j0,o,h,hc=>by
   obtain⟨G,g1,g2,g3⟩:=nP hd ks x.2 vs j (j0+1) (o+1) h.2 fun q hq=>by rw[show o+1+q=o+(q+1)by omega]; exact hc (q+1) (by simp; omega)
   exact⟨G,⟨⟨v,by have:=hc 0 (by simp); simpa using this,jq rfl h.1⟩,g1⟩,fun q b hb=>⟨by have:=(g2 q b hb).1; omega,(g2 q b hb).2⟩,g3⟩
 | .bool::ks,x,v::vs,j,j0,o,h,hc=>by
   obtain⟨G,g1,g2,g3⟩:=nP hd ks x.2 vs j (j0+1) (o+1) h.2 fun q hq=>by rw[show o+1+q=o+(q+1)by omega]; exact hc (q+1) (by simp; omega)
   exact⟨G,⟨⟨v,by have:=hc 0 (by simp); simpa using this,jq (k:= .bool) rfl h.1⟩,g1⟩,fun q b hb=>⟨by have:=(g2 q b hb).1; omega,(g2 q b hb).2⟩,g3⟩
 | .str::ks,x,v::vs,j,j0,o,h,hc=>by
   obtain⟨G,g1,g2,g3⟩:=nP hd ks x.2 vs j (j0+1) (o+1) h.2 fun q hq=>by rw[show o+1+q=o+(q+1)by omega]; exact hc (q+1) (by simp; omega)
   exact⟨G,⟨⟨v,by have:=hc 0 (by simp); simpa using this,jq (k:= .str) rfl h.1⟩,g1⟩,fun q b hb=>⟨by have:=(g2 q b hb).1; omega,(g2 q b hb).2⟩,g3⟩
 | [],_,_::_,_,_,_,h,_=>h.elim
 | .sl _ _::_,_,[],_,_,_,h,_=>h.elim
 | .int _::_,_,[],_,_,_,h,_=>h.elim
 | .bool::_,_,[],_,_,_,h,_=>h.elim
 | .str::_,_,[],_,_,_,h,_=>h.elim
theorem oY{Z':Nat->Prop}{G:Nat->Nat->Prop}{cs:Array Value}:∀(ks:List K) (x:Tl ks) (j b o o':Nat),flat ks=true->pz Z' w ks x b o->(∀ q,q<ks.length->cs[o'+q]? = w.cell? ⟨b,o+q,none⟩)->fA w ks x j G cs o'
 | [],_,_,_,_,_,_,_,_=>trivial
 | .int k::ks,x,j,b,o,o',hf,⟨⟨v,h1,h2⟩,h3⟩,hc=>⟨⟨v,by rw[<- h1]; exact hc 0 (by simp),jq rfl h2⟩,oY ks x.2 (j+1) b (o+1) (o'+1) hf h3 fun q hq=>by rw[show o'+1+q=o'+(q+1)by omega,show o+1+q=o+(q+1)by omega]; exact hc (q+1) (by simp; omega)⟩
 | .bool::ks,x,j,b,o,o',hf,⟨⟨v,h1,h2⟩,h3⟩,hc=>⟨⟨v,by rw[<- h1]; exact hc 0 (by simp),jq (k:= .bool) rfl h2⟩,oY ks x.2 (j+1) b (o+1) (o'+1) hf h3 fun q hq=>by rw[show o'+1+q=o'+(q+1)by omega,show o+1+q=o+(q+1)by omega]; exact hc (q+1) (by simp; omega)⟩
 | .str::ks,x,j,b,o,o',hf,⟨⟨v,h1,h2⟩,h3⟩,hc=>⟨⟨v,by rw[<- h1]; exact hc 0 (by simp),jq (k:= .str) rfl h2⟩,oY ks x.2 (j+1) b (o+1) (o'+1) hf h3 fun q hq=>by rw[show o'+1+q=o'+(q+1)by omega,show o+1+q=o+(q+1)by omega]; exact hc (q+1) (by simp; omega)⟩
 | .sl _ _::_,_,_,_,_,_,hf,_,_=>by simp[flat]at hf
theorem AJ{Z':Nat->Prop}:∀(ks:List K) (x:Tl ks) (b o q:Nat),pz Z' w ks x b o->q<ks.length->∃ v,w.cell? ⟨b,o+q,none⟩=some v/\v.oneCell'=true
 | [],_,_,_,_,_,hq=>by simp at hq
 | k::ks,x,b,o,0,⟨⟨v,h1,h2⟩,_⟩,_=>⟨v,h1,(nM h2).2⟩
 | k::ks,x,b,o,q+1,⟨_,h3⟩,hq=>by obtain⟨v,h1,h2⟩:=AJ ks x.2 b (o+1) q h3 (by simpa using hq);exact⟨v,by rw[show o+(q+1)=o+1+q by omega]; exact h1,h2⟩
theorem wC{G:Nat->Nat->Prop}{cs:Array Value}:∀(ks:List K) (x:Tl ks) (j o q:Nat),fA w ks x j G cs o->q<ks.length->∃ v,cs[o+q]? = some v/\v.oneCell'=true
 | [],_,_,_,_,_,hq=>by simp at hq
 | k::ks,x,j,o,0,⟨⟨v,h1,h2⟩,_⟩,_=>⟨v,h1,(BH h2).2⟩
 | k::ks,x,j,o,q+1,⟨_,h3⟩,hq=>by obtain⟨v,h1,h2⟩:=wC ks x.2 (j+1) (o+1) q h3 (by simpa using hq);exact⟨v,by rw[show o+(q+1)=o+1+q by omega]; exact h1,h2⟩
theorem oH{m n q:Nat}(h:q<m * n):q / n<m/\q % n<n/\q=q / n * n+q % n:=by
 have hn:0<n:=by
  rcases aga n with h0 | h0
  . subst h0; simp at h
  . exact h0
 exact⟨Nat.div_lt_of_lt_mul (by rw[agP]; exact h),Nat.mod_lt _ hn,by rw[agP]; exact(Nat.div_add_mod q n).symm⟩
structure xX (P:Program) (cx:Cx P) (Z:Nat->Prop) (g g':Gh) (st st':St) (w:World) (ks:List K) (ys:List (Tl ks)) (v:Value) (news:List Value) (H:Nat->Nat->Nat->Prop) (FH:Nat->Prop):Prop where
 rows:F9 w ks ys news H FH
 len:(Builtin.lenOf v).run P w= .ok ys.length w
 cells:∀ w1:World,w1.heap=w.heap->(Builtin.firstCells ks.length ys.length v).run P w1= .ok news.toArray w1
 free:iw cx Z g' st' w FH
 other:∀ F,iw cx Z g st w F->iw cx Z g' st' w F/\∀ b,FH b->¬ F b
 tm:st'.tm=st.tm
theorem xX.AU{ks:List K}{ys:List (Tl ks)}{v:Value}{news:List Value}(h1:news.length=ys.length * ks.length)(h2:∀ u∈news,u.oneCell'=true)(h3:∀(i:Nat) (y:Tl ks),ys[i]? = some y->fA w ks y 0 (fun _ _=>False) news.toArray (i * ks.length))
 (h4:(Builtin.lenOf v).run P w= .ok ys.length w)(h5:∀ w1:World,w1.heap=w.heap->(Builtin.firstCells ks.length ys.length v).run P w1= .ok news.toArray w1):xX P cx Z g g st st w ks ys v news (fun _ _ _=>False) (fun _=>False) :=
 ⟨⟨h1,h2,fun _ _ _ h=>h,fun _ _ _ _ _ h=>h.elim,h3⟩,h4,h5,iw.none _ _ _ _ _,fun F hF=>⟨hF,fun _ h=>h.elim⟩,rfl⟩
theorem Ip(h:Rel cx Z g st a w){e:TypeId}{ks:List K}{z:T (.sl e ks)}{v:Value}(hro:RO (gM w) w (.sl e ks) z v)(hf:flat ks=true):∃ news,xX P cx Z g g st st w ks (aQ z) v news (fun _ _ _=>False) (fun _=>False):=by
 obtain⟨aa,c,rfl,h2,h3,h4,h5⟩:=hro;by_cases hne:aQ z=[]
 . refine⟨[],xX.AU (by rw[hne]; simp) (by simp) (fun i y hi=>by rw[hne]at hi; simp at hi) rfl fun w1 _ => ?_⟩;rw[hne];cases aa with
   | none=>exact run_firstCells_none (P:=P) w1 _ _ _ _
   | some b=>exact run_firstCells_some (P:=P) w1 _ _ b _ _ [] (by simp) (fun j v hj=>by simp at hj)
 . obtain⟨b,o,rfl,_,_,hrow⟩:=h5 hne;have hcell:∀ q,q<(aQ z).length * ks.length->∃ v,w.cell? ⟨b,o+q,none⟩=some v/\v.oneCell'=true:=fun q hq=>by
    obtain⟨q1,q2,q3⟩:=oH hq;obtain⟨v,k1,k2⟩:=AJ ks _ b _ (q % ks.length) (hrow _ _ (aeq q1)) q2;exact⟨v,by rw[q3,<- afq]; exact k1,k2⟩
   have hnl:∀ q,q<(aQ z).length * ks.length->((List.range ((aQ z).length * ks.length)).map fun q=>(w.cell? ⟨b,o+q,none⟩).getD undef)[q]? = w.cell? ⟨b,o+q,none⟩:=fun q hq=>by obtain⟨v,k1,_⟩:=hcell q hq;simp[hq,k1]
   refine⟨(List.range ((aQ z).length * ks.length)).map fun q=>(w.cell? ⟨b,o+q,none⟩).getD undef,xX.AU (by simp) (fun u hu => ?_) (fun i y hi => ?_) rfl fun w1 hw1 => ?_⟩
   . obtain⟨q,hq,rfl⟩:=afM.1 hu;obtain⟨v,k1,k2⟩:=hcell q (afy.1 hq);rw[k1];exact k2
   . have hil:i<(aQ z).length:=by
      rcases aeD i (aQ z).length with hh | hh
      . exact hh
      . simp[aeE hh]at hi
     refine oY ks y 0 b _ _ hf (hrow i y hi) fun q hq => ?_
     have:=hnl (i * ks.length+q) (lS hil hq);rw[aeZ,this,afq]
   . refine run_firstCells_some (P:=P) w1 _ _ ⟨b,o,none⟩ _ _ _ (by simp) fun j v hj => ?_
     have hjl:j<(aQ z).length * ks.length:=by
      rcases aeD j ((aQ z).length * ks.length)with hh | hh
      . exact hh
      . rw[aeE (by simpa using hh)]at hj; simp at hj
     rw[hnl j hjl]at hj;rw[fL];simp only[World.cell?,hw1]at hj ⊢;exact hj
def mx:S8->List Value
 | []=>[]
 | c::s=> .int .u8 c.toNat::mx s
theorem nv:∀ s,(mx s).length=s.length
 | []=>rfl
 | _::s=>aeU (· + 1) (nv s)
theorem mQ:∀ s:S8,mx s=s.map fun b=>Value.int .u8 b.toNat
 | []=>rfl
 | c::s=>aeU (Value.int .u8 c.toNat :: ·) (mQ s)
theorem sG:∀(s:S8) (i:Nat),i<s.length->(mx s)[i]? = some (.int .u8 (s.getD i 0).toNat)
 | [],i,h=>by simp at h
 | c::s,0,_=>rfl
 | c::s,i+1,h=>sG s i (by simpa using h)
theorem Np(e:TypeId)(s:S8):∃ news,xX P cx Z g g st st w [.int .u8] (aQ (e:=e) (bytesOf s)) (.string (eQ s)) news (fun _ _ _=>False) (fun _=>False):=by
 have hl:(aQ (e:=e) (bytesOf s)).length=s.length:=bytesOf_length s;refine⟨mx s,xX.AU (by rw[nv,hl]; simp) (fun u hu => ?_) (fun i y hi => ?_) ?_ fun w1 _ => ?_⟩
 . rw[mQ]at hu;obtain⟨c,_,rfl⟩:=afM.1 hu;rfl
 . obtain⟨hi1,rfl⟩:=ow s i y hi;refine⟨⟨_,by rw[aeZ]; simpa using sG s i hi1,rfl,?_⟩,trivial⟩;have:=(s.getD i 0).toNat_lt;have e1:IntKind.u8.min=0:=rfl;have e2:IntKind.u8.max=255:=rfl;unfold nB;rw[e1,e2];show 0<=((s.getD i 0).toNat:Int)/\((s.getD i 0).toNat:Int)<=255;omega
 . rw[hl];show Result.ok (eQ s).size w=_;rw[jM]
 . rw[hl];have:((eQ s).extract 0 s.length).data.map (fun b=>Value.int .u8 b.toNat)=(mx s).toArray:=by
    rw[mQ];have h2:(eQ s).extract 0 s.length=eQ s:=by have:s.length=(eQ s).size:=(jM s).symm;rw[this];apply ahb;simp[ByteArray.data_extract]
    rw[h2];simp[eQ]
   show Result.ok (((eQ s).extract 0 s.length).data.map (fun b=>Value.int .u8 b.toNat)) w1=_;rw[this]
theorem NX{g':Gh}{st':St}{e:TypeId}{ks:List K}{z:T (.sl e ks)}{v:Value}{F:Nat->Prop}(ho:cO w (.sl e ks) z v F)(hF:iw cx Z g' st' w F)(hfp:∀ r j b,g'.fp r j b->g.fp r j b)(hsub:∀ b,F b->∃ r j,g.fp r j b)(hbe:g'.be=g.be)(hbx:∀ r R',look st'.rt r=some R'->∃ R,look st.rt r=some R/\R'.box=R.box)(htm:st'.tm=st.tm) :
 ∃ news H,xX P cx Z g g' st st' w ks (aQ z) v news H F:=by
 have oth:∀ F',iw cx Z g st w F'->iw cx Z g' st' w F'/\∀ b,F b->¬ F' b:=fun F' h'=>⟨h'.mono hfp hbe hbx,fun b hb hb'=>by obtain⟨r,j,hh⟩:=hsub b hb;exact h'.fp b hb' r j hh⟩
 obtain⟨aa,c,rfl,h2,h3,h4,h5⟩:=ho;cases aa with
 | none => have hz:aQ z=[]:=ae6.1 (by have:=h4 rfl; omega);refine⟨[],fun _ _ _=>False,⟨by rw[hz]; simp,by simp,fun _ _ _ h=>h.elim,fun _ _ _ _ _ h=>h.elim,fun i y hi=>by rw[hz]at hi; simp at hi⟩,rfl,fun w1 _=>by rw[hz]; exact run_firstCells_none (P:=P) w1 _ _ _ _,hF,oth,htm⟩
 | some aa =>
   obtain⟨b,o,cs,el,fr,rfl,k2,k3,k4,k5,G,k6,k7,k8⟩:=h5 _ rfl;have hbound:∀ q,q<(aQ z).length * ks.length->o+q<cs.size:=fun q hq=>by have:=aeS ks.length h2;omega
   have hnl:∀ q,q<(aQ z).length * ks.length->((List.range ((aQ z).length * ks.length)).map fun q=>cs.getD (o+q) undef)[q]? = cs[o+q]? := fun q hq=>by have:=hbound q hq;simp[hq,this]
   refine⟨(List.range ((aQ z).length * ks.length)).map fun q=>cs.getD (o+q) undef,G,⟨by simp,fun u hu => ?_,fun i j b' hb'=>(k6 i j b' hb').1,k7,fun i y hi => ?_⟩,rfl,fun w1 hw1 => ?_,hF,oth,htm⟩
   . obtain⟨q,hq,rfl⟩:=afM.1 hu;obtain⟨q1,q2,q3⟩:=oH (afy.1 hq);obtain⟨v,f1,f2⟩:=wC ks _ 0 _ (q % ks.length) (k8 _ _ (aeq q1)) q2;rw[afq,<- q3]at f1;rw[aev,f1];exact f2
   . have hil:i<(aQ z).length:=by
      rcases aeD i (aQ z).length with hh | hh
      . exact hh
      . simp[aeE hh]at hi
     refine jt ks y 0 (G i) (G i) cs _ _ _ (fun q hq => ?_) (fun _ _ h=>h) (fun _ _ _ _=>rfl) (k8 i y hi);rw[aeZ,hnl _ (lS hil hq),afq]
   . refine run_firstCells_some (P:=P) w1 _ _ ⟨b,o,none⟩ _ _ _ (by simp) fun j v hj => ?_
     have hjl:j<(aQ z).length * ks.length:=by
      rcases aeD j ((aQ z).length * ks.length)with hh | hh
      . exact hh
      . rw[aeE (by simpa using hh)]at hj; simp at hj
     rw[hnl j hjl]at hj;rw[fL];simp only[World.cell?,hw1,k3];exact hj
theorem IT(h:Rel cx Z g st a w){r:Nat}{l:List RC}{v:Value}{ks:List K}{x:Tl ks}{st':St}(hl:look st.rt r=some ⟨true,l⟩)(hv:v= .slice (some ⟨g.be r,0,none⟩) 1 1)(ht:iH st true ks (l.map tj)=some (st',x)) :
 ∃ g' news H FH,Rel cx Z g' st' a w/\xX P cx Z g g' st st' w ks [x] v news H FH:=by
 obtain⟨b1,b2,b3,b4,cs,el,fr,b5,b6,b7,b8⟩:=h.box r _ hl rfl;have hrel:aU Z g st w (l.map tj) cs.toList:=by
  refine kn (by simp[b7]) fun j y u hj hu => ?_
  rw[ae2]at hj;cases hc:l[j]? with
  | none=>rw[hc]at hj; simp at hj
  | some c =>
    rw[hc]at hj;simp only[aeM,aen]at hj;have hcell:st.cell r j=some c:=by simp only[St.cell,hl]; exact hc
    have hjl:j<cs.size:=by rw[b7];exact vq hcell hl
    rw[aer,b8 j hjl]at hu;simp only[aen]at hu;subst hj;subst hu;unfold tj;cases hcv:c.v with
    | own k y=>trivial
    | av y=>exact vp h hcell hcv
 obtain⟨g',H0,m1,m2,m3⟩:=kZ true ks (l.map tj) cs.toList st g st' x 0 h hrel ht;have htm:st'.tm=st.tm:=by
  have:∀(ks:List K) (l:List AV) (st st':St) (x:Tl ks),iH st true ks l=some (st',x)->st'.tm=st.tm:=by
   intro ks;induction ks with
   | nil=>intro l st st' x hh; cases l with | nil=>cases hh; rfl | cons _ _=>simp[iH]at hh
   | cons k ks ih =>
     intro l st st' x hh;cases l with
     | nil=>cases k <;> simp[iH]at hh
     | cons av l =>
       cases k with
       | sl e ks' =>
         unfold iH at hh;simp only[oT]at hh;split at hh
         . rename_i st1 y hy;split at hh
           . rename_i q hq;cases hh;exact(ih l st1 q.1 q.2 hq).trans (sr hy 0).2
           . simp at hh
         . simp at hh
       | _ =>
         unfold iH at hh;split at hh
         . rename_i y q hy hf hq;cases hh;exact ih l st q.1 q.2 hq
         . simp at hh
  exact this ks _ st st' x ht
 obtain⟨G,n1,n2,n3⟩:=nP (H:=H0) m2.disj (cs:=cs) ks x cs.toList 0 0 0 m3 fun q hq=>by rw[aex,aer]
 have hlen:=iU ks x _ 0 m3;have hfree:iw cx Z g' st' w (fun b=>∃ n,H0 n b):=⟨fun b ⟨n,hb⟩=>(m2.free n).lt b hb,fun b ⟨n,hb⟩=>(m2.free n).own b hb,fun b ⟨n,hb⟩=>(m2.free n).z b hb,fun b ⟨n,hb⟩=>(m2.free n).fp b hb,fun b ⟨n,hb⟩=>(m2.free n).box b hb⟩;refine⟨g',cs.toList,fun i j b=>i=0/\G j b,fun b=>∃ n,H0 n b,m1,⟨by simpa using hlen,gV ks x _ 0 m3,fun i j b hb=>by
  obtain⟨_,n,_,hh⟩:=n2 j b hb.2;exact⟨n,hh⟩,fun i j i' j' b hb hb'=>⟨hb.1.trans hb'.1.symm,n3 j j' b hb.2 hb'.2⟩,fun i y hi => ?_⟩,by rw[hv]; rfl,fun w1 hw1 => ?_,hfree,fun F hF=>⟨hF.mono m2.fp m2.be m2.box,fun b ⟨n,hb⟩ hb'=>by
  obtain⟨r0,j0,hh⟩:=m2.sub n b hb;exact hF.fp b hb' r0 j0 hh⟩,htm⟩
 . cases i with
   | zero => simp only[aeu,aen]at hi;subst hi;rw[Nat.zero_mul,afk];exact fA.frame ks x 0 G _ cs 0 (fun j b hb=>⟨rfl,hb⟩) (fun _ _ _ _=>rfl) n1
   | succ i=>simp at hi
 . rw[hv];refine run_firstCells_some (P:=P) w1 _ _ ⟨g.be r,0,none⟩ _ _ _ (by simpa using hlen) fun j u hj => ?_
   rw[fL,aex];simp only[World.cell?,hw1,b5];rw[aer]at hj;exact hj
theorem NJ(h:Rel cx Z g st a w){e:TypeId}{ks:List K}{y:TV}{v:Value}(hr:bF Z g st w y v){st':St}{ys:List (Tl ks)}(hn:st.news e ks y=some (st',ys)):∃ g' news H FH,Rel cx Z g' st' a w/\xX P cx Z g g' st st' w ks ys v news H FH:=by
 have src:∀ av,bF Z g st w (.v av) v->(match st.source (.sl e ks) ks av with | some (st',z)=>some (st',aQ z) | none=>none)=some (st',ys)->∃ g' news H FH,Rel cx Z g' st' a w/\xX P cx Z g g' st st' w ks ys v news H FH:=by
  intro av hra hh;unfold St.source at hh;cases hf:flat ks with
  | true =>
    rw[hf]at hh;simp only[oT]at hh;cases hra':st.bo (.sl e ks) av with
    | none=>rw[hra']at hh; simp at hh
    | some z => rw[hra']at hh;cases hh;obtain⟨news,hnews⟩:=Ip (P:=P) h (mg h hra hra') hf;exact⟨g,news,_,_,h,hnews⟩
  | false =>
    rw[hf]at hh;simp only[oF]at hh;cases htk:st.cz (.sl e ks) av with
    | none=>rw[htk]at hh; simp at hh
    | some q => obtain⟨st1,z⟩:=q;rw[htk]at hh;cases hh;obtain⟨g1,F,k1,k2,k3,k4,k5,k6,k7⟩:=gr h hra htk;obtain⟨news,H,hnews⟩:=NX (P:=P) (g:=g) (st:=st) k3 k4 k5 k6 k2.be k2.box k2.tm;exact⟨g1,news,H,F,k1,hnews⟩
 cases y with
 | v av =>
   cases av with
   | d k s =>
     cases k with
     | str =>
       simp only[St.news]at hn;split at hn
       . rename_i z hz;cases hn;obtain⟨eq,hz⟩:=cq hz;cases eq;subst hz;obtain⟨hv,_⟩:=(hr:RO Z w .str s v);subst hv;obtain⟨news,hnews⟩:=Np (P:=P) (cx:=cx) (Z:=Z) (g:=g) (st:=st) (w:=w) e s;exact⟨g,news,_,_,h,hnews⟩
       . simp at hn
     | _=>exact src _ hr hn
   | brow r n =>
     simp only[St.news]at hn;cases hb:Nat.beq n 1 with
     | false=>rw[hb]at hn; simp at hn
     | true =>
       rw[hb]at hn;simp only[oT]at hn;have hn1:=beq_eq hb;subst hn1;split at hn
       . rename_i l hl;split at hn
         . rename_i st1 x hx;cases hn;obtain⟨R,_,_,hv⟩:=(hr:bj Z g st w (.brow r 1) v);exact IT h hl hv hx
         . simp at hn
       . simp at hn
   | _=>exact src _ hr hn
 | _=>simp[St.news]at hn
end
theorem cA:∀(vs:List Value) (o:Nat) (cs:Array Value),(setFrom cs o vs).size=cs.size
 | [],_,_=>rfl
 | v::r,o,cs=>by rw[setFrom,cA r]; simp
theorem dK(b:Nat):∀(vs:List Value) (o:Nat) (w:World) (cs:Array Value) (el:TypeId) (fr:Nat×Nat),w.heap[b]? = some (.cells cs el fr) ->
 (w.setCells b o vs).heap[b]? = some (.cells (setFrom cs o vs) el fr)/\(∀ i,i≠b->(w.setCells b o vs).heap[i]? = w.heap[i]?)/\(w.setCells b o vs).heap.size=w.heap.size/\(w.setCells b o vs).os=w.os/\(w.setCells b o vs).tape=w.tape/\(w.setCells b o vs).output=w.output
 | [],o,w,cs,el,fr,h=>⟨h,fun _ _=>rfl,rfl,rfl,rfl,rfl⟩
 | v::r,o,w,cs,el,fr,h=>by
   have h1:(w.setCell ⟨b,o,none⟩ v).heap[b]? = some (.cells (cs.setIfInBounds o v) el fr):=by rw[dp,if_pos rfl,h]; rfl
   obtain⟨g1,g2,g3,g4,g5,g6⟩:=dK b r (o+1) _ _ el fr h1;refine⟨g1,fun i hi => ?_,?_,g4,g5,g6⟩
   . rw[World.setCells,g2 i hi,dp,if_neg (fun e=>hi e.symm)]
   . rw[World.setCells,g3]; simp[World.setCell]
section
variable{P:Program}{cx:Cx P}{Z:Nat->Prop}{g:Gh}{st:St}{a:Act}{w:World}{E:En}
theorem Kr(hT:cf P E)(h:Rel cx Z g st a w)(hn:ch st)(hsz:Fit cx E a){o:Oper}{d:Nat}(hd:o.dst=some d)(hdn:jw cx a d){c:Call}(ho:o.op= .call c)(hcal:c.callee= .builtin .append){x y:Operand}(hargs:c.args.toList=[x,y]){t t2:Nat}{ts:List Nat}(hts:c.argTypes.toList=t::t2::ts)
 {ti te:TI}(hti:E.ti t=some ti)(hte:E.sl t=some te){tx ty:TV}(hx:st.get x=some tx)(hy:st.get y=some ty)(h2:E.str t2=true∨∃ te2,E.sl t2=some te2){st':St}(hrun:(st.append d ti.elem te tx ty).run=some st'):nN P cx E st' a w o:=by
 have hc:=hn.cons.cons;obtain⟨ks0,q1,q2,q3,q4⟩:=uD hT hte hti;have hTe:=hT _ _ q4;obtain⟨tt,ks1,t1,_,_,_,hu⟩:=iM hT hte;rw[hti]at t1;simp only[aen]at t1;subst t1;obtain⟨d2,hu2,hd2⟩:∃ d2,P.underlying t2=some d2/\∀ k,d2≠ .int k:=by
  rcases h2 with h2 | ⟨te2,h2⟩
  . exact⟨_,ob hT h2,fun _ h=>by simp at h⟩
  . obtain⟨_,_,_,_,_,_,hu2⟩:=iM hT h2;exact⟨_,hu2,fun _ h=>by simp at h⟩
 unfold St.append at hrun;obtain⟨av,hav,hrun⟩:=Tr.af hrun;obtain⟨⟨st1,xs⟩,htk,hrun⟩:=Tr.af hrun;obtain⟨⟨st2,ys⟩,hnw,hrun⟩:=Tr.af hrun;simp only at hnw hrun;cases hcond:st2.free d&&Nat.blt 0 te.bytes with
 | false=>rw[hcond]at hrun; simp[Tr.run]at hrun
 | true =>
   rw[hcond]at hrun;simp only[oT]at hrun;simp only[aeo]at hcond;obtain⟨hfree,hby⟩:=hcond;have hby:0<te.bytes:=afr (aeJ hby);obtain⟨hble,hrun⟩:=Tr.bB hrun;simp only[Tr.run,aen]at hrun;subst hrun;have hbytes:((aQ xs).length+ys.length) * te.bytes<=bG:=aeJ hble;have hbig:(aQ xs).length+ys.length<=bG:=aeA (afP _ hby) hbytes;obtain⟨g1,F,k1,k2,k3,k4,k5,k6,k7⟩:=gr h (rD (aX h hc hx) hav) htk;obtain⟨g2,news,H,FH,m1,m2⟩:=NJ (P:=P) k1 (bF.cg k2.cg _ _ (aX h hc hy)) hnw;obtain⟨f1,f2⟩:=m2.other F k4;have hnm:ch (st2.aT d (.v (.ref d 0 0),some ⟨false,[⟨0,0,.own (.sl ti.elem te.ks) (cat te.ks (aQ xs) ys)⟩]⟩)):=fun t tv ht=>by
    rw[bY]at ht;split at ht
    . simp only[aen]at ht; subst ht; exact fun h=>h
    . exact hn t tv (by rw[<- k2.tm,<- m2.tm]; exact ht)
   refine⟨hnm,fun next Q hk => ?_⟩
   have fin:∀(v':Value) (w':World) (F':Nat->Prop),(Builtin.append_ c.argTypes o.type #[a.eval x,a.eval y]).run P w= .ok v' w'->Rel cx Z g2 st2 a w'->(∀ b,F' b->b<w'.heap.size/\(cx.F0 b∨cx.w0.heap.size<=b)/\¬ Z b/\(∀ r j,¬ g2.fp r j b)/\(∀ r' R',look st2.rt r'=some R'->R'.box=true->g2.be r'≠b)) ->
    cO w' (.sl ti.elem te.ks) (cat te.ks (aQ xs) ys) v' F'->o.wp P a w next Q:=by
    intro v' w' F' hr hrel hF' hown;have hargs':c.args = #[x,y]:=by rw[<- afk (xs:=c.args),hargs]
    have:(execOp a.eval o).run P w= .ok (.value v') w':=by simp only[execOp,ho,resolve,hcal,hargs',aeN,aeX,aez,invoke,builtin,afZ,aff,agk,hr]
    unfold Oper.wp;rw[this,afo,hd];obtain⟨g3,hg⟩:=hrel.G5 hdn hfree hF' hown;exact hk Z g3 _ _ hg (hsz.put _ _)
   have hat:c.argTypes[0]? = some t:=by rw[<- aer,hts]; rfl
   have hat2:c.argTypes[1]? = some t2:=by rw[<- aer,hts]; rfl
   have hFs:∀(w':World),w.heap.size<=w'.heap.size->∀ b,F b∨FH b->b<w'.heap.size/\(cx.F0 b∨cx.w0.heap.size<=b)/\¬ Z b/\(∀ r j,¬ g2.fp r j b)/\(∀ r' R',look st2.rt r'=some R'->R'.box=true->g2.be r'≠b):=fun w' hs b hb=>by
    rcases hb with hb | hb
    . exact⟨aeK (f1.lt b hb) hs,f1.own b hb,f1.z b hb,f1.fp b hb,f1.box b hb⟩
    . exact⟨aeK (m2.free.lt b hb) hs,m2.free.own b hb,m2.free.z b hb,m2.free.fp b hb,m2.free.box b hb⟩
   obtain⟨base,cap,ev,c1,c2,c3,c4⟩:=k3;have hnl:=m2.rows.len;by_cases hfit:(aQ xs).length+ys.length<=cap
   . cases base with
     | none =>
       have hcap:=c3 rfl;have hx0:aQ xs=[]:=ae6.1 (by omega);have hy0:ys=[]:=ae6.1 (by omega);have e1:a.eval x= .slice none 0 0:=by rw[ev,hx0,hcap]; rfl
       refine fin (.slice none 0 0) w (fun _=>False) ?_ m1 (fun b hb=>hb.elim) ?_
       . rw[e1];refine append_nil (news:=news) hu hTe hu2 hd2 hat hat2 ?_ ?_
         . have:=m2.len; rw[hy0]at this; exact this
         . have:=m2.cells w rfl; rw[hy0]at this; exact this
       . rw[hx0,hy0];exact jC _ _
     | some aa =>
       obtain⟨b,of,cs,el,fr,rfl,n2,n3,n4,n5,G,n6,n7,n8⟩:=c4 _ rfl;obtain⟨s1,s2,s3,s4,s5,s6⟩:=dK b news (of+(aQ xs).length * te.ks.length) w cs el fr n3;have hroom:of+(aQ xs).length * te.ks.length+news.length<=cs.size:=by have:=aeS te.ks.length hfit;rw[ae0]at this;omega
       refine fin (.slice (some ⟨b,of,none⟩) ((aQ xs).length+ys.length) cap) (w.setCells b (of+(aQ xs).length * te.ks.length) news) (fun q=>F q∨FH q) ?_ (m1.wr f1 s4 s5 s6 (by rw[s3]; exact oR _) fun q _ hq=>s2 q fun e=>hq (by rw[e]; exact n2)) (hFs _ (by rw[s3]; exact oR _)) ?_
       . rw[ev];exact n9 hu hTe hu2 hd2 hat hat2 m2.len (m2.cells w rfl) hfit m2.rows.one fun j hj=>⟨cs,el,fr,n3,by omega,n4 _ (by omega)⟩
       . refine F8 (w:=w) (b0:=b) (F:=F) n6 n7 n8 m2.rows (fun q hq=>⟨f2 q hq,fun e=>f2 q hq (by rw[e]; exact n2)⟩) s1 (fun q hq=>n4 q (by rw[cA]at hq; exact hq)) (.inl n2) (fun q hq _=> .inl hq) (fun q hq=> .inr hq) (fun i j q hq=>(n6 i j q hq).2) (fun q hq e=>f2 q hq (by rw[e]; exact n2)) (fun q _ hq _=>s2 q hq) (fun q hq => ?_) (fun q hq => ?_) hfit (by rw[cA]; exact n5) hbig
         . rw[cK _ _ _ _ hroom,if_neg (by omega)]
         . rw[cK _ _ _ _ hroom,if_pos (by omega)];congr 1;omega
   . have hgrow:cap<(aQ xs).length+ys.length:=by omega
     have hge:=grownCap_ge w ((aQ xs).length+ys.length) cap ti.elem;have hnot:∀ q,F q∨FH q->q≠w.heap.size:=fun q hq e=>by have:=(hFs w (oR _) q hq).1;omega
     have olds:∃(olds:List Value) (b0:Nat) (cs:Array Value) (of:Nat) (G:Nat->Nat->Nat->Prop),(Builtin.firstCells te.ks.length (aQ xs).length (.slice base (aQ xs).length cap)).run P w.drew= .ok olds.toArray w.drew/\olds.length=(aQ xs).length * te.ks.length/\(∀ q,q<(aQ xs).length * te.ks.length->olds[q]? = cs[of+q]?) /\
      (∀ i j b,G i j b->F b/\b≠b0)/\(∀ i j i' j' b,G i j b->G i' j' b->i=i'/\j=j')/\(∀ i x,(aQ xs)[i]? = some x->fA w te.ks x 0 (G i) cs (of+i * te.ks.length))/\(∀ q,FH q->q≠b0):=by
      cases base with
      | none => have hcap:=c3 rfl;have hx0:aQ xs=[]:=ae6.1 (by omega);refine⟨[],w.heap.size,#[],0,fun _ _ _=>False,?_,by rw[hx0]; simp,fun q hq=>by rw[hx0]at hq; simp at hq,fun _ _ _ h=>h.elim,fun _ _ _ _ _ h=>h.elim,fun i x hi=>by rw[hx0]at hi; simp at hi,fun q hq=>hnot q (.inr hq)⟩;exact run_firstCells_none (P:=P) w.drew _ _ _ _
      | some aa =>
        obtain⟨b,of,cs,el,fr,rfl,n2,n3,n4,n5,G,n6,n7,n8⟩:=c4 _ rfl;have hbound:∀ q,q<(aQ xs).length * te.ks.length->of+q<cs.size:=fun q hq=>by have:=aeS te.ks.length c1;omega
        have hnl':∀ q,q<(aQ xs).length * te.ks.length->((List.range ((aQ xs).length * te.ks.length)).map fun q=>cs.getD (of+q) undef)[q]? = cs[of+q]? := fun q hq=>by have:=hbound q hq;simp[hq,this]
        refine⟨(List.range ((aQ xs).length * te.ks.length)).map fun q=>cs.getD (of+q) undef,b,cs,of,G,?_,by simp,hnl',n6,n7,n8,fun q hq e=>f2 q hq (by rw[e]; exact n2)⟩;refine run_firstCells_some (P:=P) w.drew _ _ ⟨b,of,none⟩ _ _ _ (by simp) fun j v hj => ?_
        have hjl:j<(aQ xs).length * te.ks.length:=by
         rcases aeD j ((aQ xs).length * te.ks.length)with hh | hh
         . exact hh
         . rw[aeE (by simpa using hh)]at hj; simp at hj
        rw[hnl' j hjl]at hj;rw[fL];have n3':w.drew.heap[b]? = some (.cells cs el fr):=n3;simp only[World.cell?,n3'];exact hj
     obtain⟨olds,b0,cs,of,G,r1,r2,r3,r4,r5,r6,r7⟩:=olds;obtain⟨zs,z1,z2⟩:=nq (ty:=o.type) (vx:=a.eval y) hu hTe hu2 hd2 hat hat2 m2.len r1 (m2.cells w.drew rfl) hgrow hby hbytes;have hheap:(w.drew.alloc (.cells (olds.toArray++news.toArray++zs) ti.elem (0,0))).heap=w.heap.push (.cells (olds.toArray++news.toArray++zs) ti.elem (0,0)):=rfl;have hsize:(w.drew.alloc (.cells (olds.toArray++news.toArray++zs) ti.elem (0,0))).heap.size=w.heap.size+1:=by rw[hheap,afN]
     have hold:∀ q,q<w.heap.size->(w.drew.alloc (.cells (olds.toArray++news.toArray++zs) ti.elem (0,0))).heap[q]? = w.heap[q]? := fun q hq=>by rw[hheap,ae1,if_neg (by omega)]
     refine fin (.slice (some ⟨w.heap.size,0,none⟩) ((aQ xs).length+ys.length) (grownCap w ((aQ xs).length+ys.length) cap ti.elem)) (w.drew.alloc (.cells (olds.toArray++news.toArray++zs) ti.elem (0,0))) (fun q=>(F q∨FH q)∨q=w.heap.size) (by rw[ev]; exact z2) (m1.wr f1 rfl rfl rfl (by rw[hsize]; omega) fun q hq _=>hold q hq) (fun b hb => ?_) ?_
     . rcases hb with hb | rfl
       . exact hFs _ (by rw[hsize]; omega) b hb
       . refine⟨by rw[hsize]; omega,.inr m1.size,fun hz=>by have:=(m1.bL _ hz).1; omega,fun r j hh=>by have:=(m1.fp r j _ hh).1; omega,fun r' R' hR' hb' he => ?_⟩;obtain⟨_,_,_,_,cs1,el1,fr1,b5,_⟩:=m1.box r' R' hR' hb';rw[he,aeH (oR _)]at b5;simp at b5
     . refine F8 (w:=w) (b0:=b0) (F:=F) r4 r5 r6 m2.rows (fun q hq=>⟨f2 q hq,r7 q hq⟩) (el:=ti.elem) (fr:=(0,0)) (cs':=olds.toArray++news.toArray++zs) (by rw[hheap,ae1,if_pos rfl]) (by simp) (.inr rfl) (fun q hq _=> .inl (.inl hq)) (fun q hq=> .inl (.inr hq)) (fun i j q hq=>hnot q (.inl (r4 i j q hq).1)) (fun q hq=>hnot q (.inr hq)) (fun q hq _ _=>hold q hq) (fun q hq => ?_) (fun q hq => ?_) hge ?_ hbig
       . rw[<- r3 q hq,aex,af0,afg (by simp; omega)];simp
       . rw[aex,af0,agG (by simp; omega),afg (by simp; omega)];simp only[ahe,r2,afa,aeZ]
       . have e1:(olds.toArray++news.toArray++zs).size=olds.length+news.length+zs.size:=by simp
         rw[e1,r2,hnl,z1,aex,<- ae0,<- ae0];exact aeS _ (by omega)
end
section
variable{P:Program}{w:World}{E:En}{P:Program}{cx:Cx P}{Z:Nat->Prop}{g:Gh}{st:St}{a:Act}
theorem yP{z:Array Value}{ks:List K}(hz:z.toList=ks.map zV)(n j:Nat)(hj:j<n * ks.length):(Builtin.zeroCells z n)[j]? = (ks.map zV)[j % ks.length]? := by
 have hl:z.size=ks.length:=by rw[<- aeY,hz]; simp
 have hpos:0<ks.length:=by
  rcases aga ks.length with h | h
  . rw[h]at hj; simp at hj
  . exact h
 unfold Builtin.zeroCells;simp only[Array.getElem?_map,hl];have:(Array.range (n * ks.length))[j]? = some j:=by simp[hj]
 rw[this];have hm:j % ks.length<ks.length:=Nat.mod_lt _ hpos;simp only[aeM];rw[<- hz,aer];rw[Array.getElem!_eq_getD];simp[aev,hl,hm]
theorem Dl{t t2 ty:TypeId}{e:TypeId}{te:TI}(ht:P.underlying t=some (.slice e))(hTe:pk P e te){k2:IntKind}(h2:P.underlying t2=some (.int k2)){ats:Array TypeId}(hat:ats[0]? = some t)(hat2:ats[1]? = some t2){k:IntKind} :
 (Builtin.append_ ats ty #[.slice none 0 0,.int k 0]).run P w= .ok (.slice none 0 0) w:=by
 obtain⟨i,e1,e2,e3,z,e4,e5⟩:=hTe.info;have hw:IntKind.i64.wrap 0=0:=by decide
 have ha:∀ w,(asInt (.int k 0)).run P w= .ok 0 w:=fun w=>by simp[asInt,asIntOf]
 simp[Builtin.append_,hat,hat2,aeR ht,aeR h2,sizeOf,typeInfo,zeroValue,e1,e4,ha,hw]
theorem yN{t t2 ty:TypeId}{e:TypeId}{te:TI}(ht:P.underlying t=some (.slice e))(hTe:pk P e te){k2:IntKind}(h2:P.underlying t2=some (.int k2)){ats:Array TypeId}(hat:ats[0]? = some t)(hat2:ats[1]? = some t2){k:IntKind}{n:Nat}(hn:0<n)(hby:0<te.bytes)(hb:n * te.bytes<=bG) :
 ∃ zs:Array Value,zs.size=(grownCap w n 0 e) * te.ks.length/\(∀ j,j<n * te.ks.length->zs[j]? = (te.ks.map zV)[j % te.ks.length]?)/\(Builtin.append_ ats ty #[.slice none 0 0,.int k (n:Int)]).run P w= .ok (.slice (some ⟨w.heap.size,0,none⟩) n (grownCap w n 0 e)) (w.drew.alloc (.cells zs e (0,0))):=by
 obtain⟨i,e1,e2,e3,z,e4,e5⟩:=hTe.info;have hzs:z.cells.size=te.ks.length:=by rw[<- aeY,e5]; simp
 have hge:=grownCap_ge w n 0 e;have hbb:n * te.bytes<=140737488355328:=hb;have hle:n<=n * te.bytes:=afP _ hby;have h63:¬ (9223372036854775807<(n:Int)):=by omega
 have h48:¬ (281474976710656<Builtin.nextslicecap n 0 * i.bytes):=by have:=growslice_fits (need:=n) (old:=0) (bytes:=i.bytes) hn (by rw[e3]; exact hbb);omega
 have hmin:IntKind.i64.min = -9223372036854775808:=by decide
 have hmax:IntKind.i64.max=9223372036854775807:=by decide
 have hw:IntKind.i64.wrap (n:Int)=n:=HK ⟨by rw[hmin]; omega,by rw[hmax]; omega⟩;have h48':¬ (281474976710656<(n:Int) * (i.bytes:Int)):=by rw[e3];have:((n * te.bytes:Nat):Int)<=((140737488355328:Nat):Int):=Int.ofNat_le.2 hbb;rw[Int.natCast_mul]at this;omega
 have hneg:¬ ((n:Int)<0):=by omega
 have hn0:¬ (n=0):=by omega
 have ha:∀ w,(asInt (.int k (n:Int))).run P w= .ok (n:Int) w:=fun w=>by simp[asInt,asIntOf]
 have hfo:∀ w,(Builtin.firstCells i.size 0 (.slice none 0 0)).run P w= .ok #[] w:=fun w=>by simp[Builtin.firstCells]
 refine⟨(if n * i.size=0 then #[]else Builtin.zeroCells z.cells n)++Builtin.zeroCells z.cells (grownCap w n 0 e-n),?_,?_,?_⟩
 . rw[ags,size_zeroCells,hzs,e2];split
   . rename_i h0;rcases Nat.mul_eq_zero.1 h0 with h | h
     . omega
     . rw[h]; simp
   . rw[size_zeroCells,hzs,<- ae0];congr 1;omega
 . intro j hj;have hne:¬ (n * i.size=0):=by rw[e2]; omega
   rw[if_neg hne,afg (by rw[size_zeroCells,hzs]; exact hj)];exact yP e5 n j hj
 . simp only[Builtin.append_,hat,hat2,aeZ,aeu,afi,aeN,aeR ht,aez,cJ hTe,aeR h2,aeX,if_true,ha,hw,hneg,afE,typeInfo];simp[e1,h48',hw,hneg,hn0,h63,h48,Question.forced,hfo,newRow,grownCap,zeroValue,e4,ha,sizeOf,typeInfo];have hfo':∀ w,(Builtin.firstCells te.ks.length 0 (.slice none 0 0)).run P w= .ok #[] w:=fun w=>by simp[Builtin.firstCells]
   rw[hfo',<- e2];simp only[aez,Array.empty_append];by_cases h0:n * i.size=0
   . rw[if_pos h0,if_pos h0]; simp
   . rw[if_neg h0,if_neg h0]; rfl
theorem Iy(hT:cf P E)(h:Rel cx Z g st a w)(hn:ch st)(hsz:Fit cx E a){o:Oper}{d:Nat}(hd:o.dst=some d)(hdn:jw cx a d){c:Call}(ho:o.op= .call c)(hcal:c.callee= .builtin .append){x y:Operand}(hargs:c.args.toList=[x,y]){t t2:Nat}{ts:List Nat}(hts:c.argTypes.toList=t::t2::ts)
 {ti te:TI}(hti:E.ti t=some ti)(hte:E.sl t=some te){tx ty:TV}(hx:st.get x=some tx)(hy:st.get y=some ty)(h2:E.i64 t2=true)(hnil:eW tx=true){k:IntKind}{n:Int}(hint:ty.int? = some (k,n)){st':St}(hrun:(st.mO d ti.elem te n).run=some st'):nN P cx E st' a w o:=by
 have hc:=hn.cons.cons;obtain⟨ks0,q1,q2,q3,q4⟩:=uD hT hte hti;have hTe:=hT _ _ q4;obtain⟨tt,ks1,t1,_,_,_,hu⟩:=iM hT hte;rw[hti]at t1;simp only[aen]at t1;subst t1;have hu2:∃ k2,P.underlying t2=some (.int k2):=by
  unfold En.i64 at h2;split at h2
  . rename_i e0 by0 fl0 hti2;obtain⟨dd,u1,u2⟩:=(hT t2 _ hti2).desc;cases dd <;> simp[iz]at u2;exact⟨_,u1⟩
  . simp at h2
 obtain⟨k2,hu2⟩:=hu2;unfold St.mO at hrun;cases hcond:st.free d&&Nat.blt 0 te.bytes with
 | false=>rw[hcond]at hrun; simp[Tr.run]at hrun
 | true =>
   rw[hcond]at hrun;simp only[oT]at hrun;simp only[aeo]at hcond;obtain⟨hfree,hby⟩:=hcond;have hby:0<te.bytes:=afr (aeJ hby);obtain⟨hble,hrun⟩:=Tr.bB hrun;simp only[Tr.run,aen]at hrun;subst hrun;simp only[aeo,bM,afJ]at hble;obtain⟨n0,n1⟩:=hble;obtain⟨m,rfl⟩:=Int.eq_ofNat_of_zero_le n0;have hmb:m * te.bytes<=bG:=by
    have:((m * te.bytes:Nat):Int)<=(bG:Int):=by rw[Int.natCast_mul]; exact n1
    exact_mod_cast this
   have hnm:ch (st.aT d (.v (.ref d 0 0),some ⟨false,[⟨0,0,.own (.sl ti.elem te.ks) (List.replicate (m:Int).toNat (iq te.ks))⟩]⟩)):=fun t tv ht=>by
    rw[bY]at ht;split at ht
    . simp only[aen]at ht; subst ht; exact fun h=>h
    . exact hn t tv ht
   refine⟨hnm,fun next Q hk => ?_⟩;have ex:a.eval x= .slice none 0 0:=tM (aX h hc hx) hnil;have ey:a.eval y= .int k (m:Int):=(fB (aX h hc hy) hint).1;have hat:c.argTypes[0]? = some t:=by rw[<- aer,hts]; rfl
   have hat2:c.argTypes[1]? = some t2:=by rw[<- aer,hts]; rfl
   have hargs':c.args = #[x,y]:=by rw[<- afk (xs:=c.args),hargs]
   have fin:∀(v':Value) (w':World) (F':Nat->Prop),(Builtin.append_ c.argTypes o.type #[a.eval x,a.eval y]).run P w= .ok v' w'->Rel cx Z g st a w'->(∀ b,F' b->b<w'.heap.size/\(cx.F0 b∨cx.w0.heap.size<=b)/\¬ Z b/\(∀ r j,¬ g.fp r j b)/\(∀ r' R',look st.rt r'=some R'->R'.box=true->g.be r'≠b)) ->
    cO w' (.sl ti.elem te.ks) (List.replicate (m:Int).toNat (iq te.ks)) v' F'->o.wp P a w next Q:=by
    intro v' w' F' hr hrel hF' hown;have:(execOp a.eval o).run P w= .ok (.value v') w':=by simp only[execOp,ho,resolve,hcal,hargs',aeN,aeX,aez,invoke,builtin,afZ,aff,agk,hr]
    unfold Oper.wp;rw[this,afo,hd];obtain⟨g3,hg⟩:=hrel.G5 hdn hfree hF' hown;exact hk Z g3 _ _ hg (hsz.put _ _)
   rcases aga m with hm | hm
   . subst hm;refine fin (.slice none 0 0) w (fun _=>False) (by rw[ex,ey]; exact Dl hu hTe hu2 hat hat2) h (fun b hb=>hb.elim) ?_;exact jC _ _
   . obtain⟨zs,z1,z2,z3⟩:=yN (P:=P) (w:=w) (ty:=o.type) hu hTe hu2 hat hat2 (k:=k) hm hby hmb;have hge:=grownCap_ge w m 0 ti.elem;have hheap:(w.drew.alloc (.cells zs ti.elem (0,0))).heap=w.heap.push (.cells zs ti.elem (0,0)):=rfl;have hsize:(w.drew.alloc (.cells zs ti.elem (0,0))).heap.size=w.heap.size+1:=by rw[hheap,afN]
     have hold:∀ q,q<w.heap.size->(w.drew.alloc (.cells zs ti.elem (0,0))).heap[q]? = w.heap[q]? := fun q hq=>by rw[hheap,ae1,if_neg (by omega)]
     have hrel:Rel cx Z g st a (w.drew.alloc (.cells zs ti.elem (0,0))):=h.wr (iw.none _ _ _ _ _) rfl rfl rfl (by rw[hsize]; omega) fun q hq _=>hold q hq
     refine fin _ _ (fun q=>q=w.heap.size) (by rw[ex,ey]; exact z3) hrel (fun b hb => ?_) ?_
     . subst hb;refine⟨by rw[hsize]; omega,.inr h.size,fun hz=>by have:=(h.bL _ hz).1; omega,fun r j hh=>by have:=(h.fp r j _ hh).1; omega,fun r' R' hR' hb' he => ?_⟩;obtain⟨_,_,_,_,cs1,el1,fr1,b5,_⟩:=h.box r' R' hR' hb';rw[he,aeH (oR _)]at b5;simp at b5
     . have hlen:(aQ (e:=ti.elem) (ks:=te.ks) (List.replicate (m:Int).toNat (iq te.ks))).length=m:=by simp[aQ]
       have hbig:m<=bG:=aeA (afP _ hby) hmb;refine⟨_,_,by rw[hlen],by rw[hlen]; omega,by rw[hlen]; exact hbig,fun h=>by simp at h,fun a' ha' => ?_⟩;simp only[aen]at ha';subst ha';refine⟨_,_,zs,ti.elem,(0,0),rfl,rfl,by rw[hheap,ae1,if_pos rfl],fun q _ hh=>by simp at hh,by rw[z1]; omega,fun _ _ _=>False,fun _ _ _ h=>h.elim,fun _ _ _ _ _ h=>h.elim,fun i y hi => ?_⟩;have hil:i<m:=by
        rcases aeD i m with hh | hh
        . exact hh
        . rw[aeE (by rw[hlen]; exact hh)]at hi; simp at hi
       have hy:y=iq te.ks:=by
        have:(List.replicate (m:Int).toNat (iq te.ks))[i]? = some y:=hi;rw[agU]at this;split at this
        . simp only[aen]at this; exact this.symm
        . simp at this
       subst hy;refine o9 te.ks 0 zs _ fun c v hc => ?_
       have hcl:c<te.ks.length:=by
        rcases aeD c te.ks.length with hh | hh
        . exact hh
        . rw[aeE (by simpa using hh)]at hc; simp at hc
       have hidx:i * te.ks.length+c<m * te.ks.length:=by have:(i+1) * te.ks.length<=m * te.ks.length:=aeS _ (by omega);rw[ae0]at this;omega
       rw[aex,z2 _ hidx,agP,Nat.mul_add_mod,agH hcl];exact hc
end
def Mj(Z:Nat->Prop)(w:World):(ks:List K)->Tl ks->(Nat->Option Value)->Nat->Prop
 | [],_,_,_=>True
 | k::ks,x,f,o=>(∃ v,f o=some v/\RO Z w k x.1 v)/\Mj Z w ks x.2 f (o+1)
theorem pz.n{Z:Nat->Prop}{w:World}{b:Nat}:∀ {ks:List K} {x:Tl ks} {o:Nat},pz Z w ks x b o->Mj Z w ks x (fun q=>w.cell? ⟨b,q,none⟩) o
 | [],_,_,_=>trivial
 | k::ks,x,o,h=>⟨h.1,pz.n h.2⟩
theorem qc.n{Z:Nat->Prop}{w:World}{l:List Value}:∀ {ks:List K} {x:Tl ks} {vs:List Value} {o:Nat},qc Z w ks x vs->(∀ q,q<ks.length->l[o+q]? = vs[q]?)->Mj Z w ks x (fun q=>l[q]?) o
 | [],_,_,_,_,_=>trivial
 | k::ks,x,v::vs,o,h,hl=>⟨⟨v,by simpa using hl 0 (by simp),h.1⟩,qc.n h.2 fun q hq=>by rw[show o+1+q=o+(q+1)by omega]; simpa using hl (q+1) (by simp; omega)⟩
 | _::_,_,[],_,h,_=>h.elim
theorem MH{Z:Nat->Prop}{w:World}:∀ {ks:List K} {x:Tl ks} {vs:List Value},qc Z w ks x vs->vs.length=ks.length
 | [],_,[],_=>rfl
 | _::_,_,_::_,h=>aeU (· + 1) (MH h.2)
 | [],_,_::_,h=>h.elim
 | _::_,_,[],h=>h.elim
theorem Mi{Z:Nat->Prop}{w:World}:∀ {ks:List K} {x:Tl ks} {vs:List Value},qc Z w ks x vs->∀ u∈vs,u.oneCell'=true
 | [],_,[],_,u,hu=>by simp at hu
 | _::_,_,v::vs,h,u,hu=>by
   rcases aew.1 hu with hu | hu
   . subst hu; exact(nM h.1).2
   . exact Mi h.2 u hu
 | [],_,_::_,h,_,_=>h.elim
 | _::_,_,[],h,_,_=>h.elim
theorem Mj.l{Z Z':Nat->Prop}{w w':World}(hs:w.heap.size<=w'.heap.size)(hZ:∀ b,Z b->b<w.heap.size->Z' b/\w'.heap[b]? = w.heap[b]?){f:Nat->Option Value}{b:Nat}:∀ {ks:List K} {x:Tl ks} {o o':Nat},Mj Z w ks x f o->(∀ q,q<ks.length->w'.cell? ⟨b,o'+q,none⟩=f (o+q))->pz Z' w' ks x b o'
 | [],_,_,_,_,_=>trivial
 | k::ks,x,o,o',⟨⟨v,h1,h2⟩,h3⟩,hc=>⟨⟨v,by rw[<- h1]; exact hc 0 (by simp),RO.mono hs hZ k _ v h2⟩,Mj.l hs hZ h3 fun q hq=>by rw[show o'+1+q=o'+(q+1)by omega,show o+1+q=o+(q+1)by omega]; exact hc (q+1) (by simp; omega)⟩
section
variable{P:Program}{cx:Cx P}{Z:Nat->Prop}{g:Gh}{st:St}{a:Act}{w:World}{E:En}
theorem cO.sh{w:World}{e:TypeId}{ks:List K}{xs:T (.sl e ks)}{v:Value}{F:Nat->Prop}(h:cO w (.sl e ks) xs v F):Sh Z F w ks (aQ xs) v:=by obtain⟨a,c,h1,h2,h3,h4,h5⟩:=h;refine⟨a,c,h1,h2,h3,h4,fun a' ha => ?_⟩;obtain⟨b,o,cs,e,fr,g1,g2,g3,g4,g5,G,g6,g7,g8⟩:=h5 a' ha;exact⟨b,o,cs,e,fr,g1,g2,g3,g4,g5,fun i x hx=>fA.ro ks x 0 (G i) cs _ b e fr g3 (fun j b' hb'=> .inr (g6 i j b' hb')) (g8 i x hx)⟩
theorem HW(h:Rel cx Z g st a w){e:TypeId}{ks:List K}{tv:TV}{v:Value}(hr:bF Z g st w tv v){st':St}{x:T (.sl e ks)}(ht:st.Cw e ks tv=some (st',x)) :
 ∃ g' F,Rel cx Z g' st' a w/\kf Z w w g g' st st'/\Sh Z F w ks (aQ x) v/\iw cx Z g' st' w F:=by
 unfold St.Cw at ht;split at ht
 . rename_i r j s m e' ks' x';split at ht
   . rename_i c hc;cases hb:Nat.beq c.s s&&Nat.beq c.m m with
     | false=>rw[hb]at ht; simp at ht
     | true =>
       rw[hb]at ht;simp only[oT]at ht;simp only[aeo]at hb;split at ht
       . rename_i y hy;cases ht;obtain⟨e1,hy⟩:=cq hy;cases e1;subst hy;obtain⟨c',h1,_,_,h4⟩:=hr;rw[hc]at h1;cases h1;obtain⟨k1,k2,k3⟩:=h.kill hc;exact⟨_,_,k1,k2,h4 (beq_eq hb.1) (beq_eq hb.2),k3⟩
       . simp at ht
   . simp at ht
 . obtain⟨g1,F,k1,k2,k3,k4,_⟩:=gr h hr ht;exact⟨g1,F,k1,k2,k3.sh,k4⟩
 . simp at ht
structure TY (P:Program) (Z:Nat->Prop) (w:World) (ks:List K) (ys:List (Tl ks)) (v:Value) (news:List Value):Prop where
 len:news.length=ys.length * ks.length
 one:∀ u∈news,u.oneCell'=true
 row:∀ i y,ys[i]? = some y->Mj Z w ks y (fun q=>news[q]?) (i * ks.length)
 lenOf:(Builtin.lenOf v).run P w= .ok ys.length w
 cells:∀ w1:World,w1.heap=w.heap->(Builtin.firstCells ks.length ys.length v).run P w1= .ok news.toArray w1
theorem HV(h:Rel cx Z g st a w){e:TypeId}{ks:List K}{tv:TV}{v:Value}(hr:bF Z g st w tv v){ys:List (Tl ks)}(hn:st.C7 e ks tv=some ys):∃ news,TY P Z w ks ys v news:=by
 unfold St.C7 at hn;split at hn
 . rename_i r n;cases hb:Nat.beq n 1 with
   | false=>rw[hb]at hn; simp at hn
   | true =>
     rw[hb]at hn;simp only[oT]at hn;have:=beq_eq hb;subst this;split at hn
     . rename_i l hl;cases hf:l.all nh with
       | false=>rw[hf]at hn; simp at hn
       | true =>
         rw[hf]at hn;simp only[oT]at hn;split at hn
         . rename_i x hx;cases hn;obtain⟨R,_,_,hv⟩:=(hr:bj Z g st w (.brow r 1) v);obtain⟨b1,b2,b3,b4,cs,el,fr,b5,b6,b7,b8⟩:=h.box r _ hl rfl;have hrel:aU Z g st w (l.map tj) cs.toList:=by
            refine kn (by simp[b7]) fun j y u hj hu => ?_
            rw[ae2]at hj;cases hc:l[j]? with
            | none=>rw[hc]at hj; simp at hj
            | some c =>
              rw[hc]at hj;simp only[aeM,aen]at hj;have hcell:st.cell r j=some c:=by simp only[St.cell,hl]; exact hc
              have hjl:j<cs.size:=by rw[b7];exact vq hcell hl
              rw[aer,b8 j hjl]at hu;simp only[aen]at hu;subst hj;subst hu;unfold tj;cases hcv:c.v with
              | own k y=>trivial
              | av y=>exact vp h hcell hcv
           have hfast:(l.map tj).all AV.bE=true:=by
            rw[aeG]at hf ⊢;intro x hx;obtain⟨c,hc,rfl⟩:=afM.1 hx;have:=hf c hc;unfold nh at this;unfold tj;split at this
            . exact this
            . simp at this
           have hro:=cT h ks _ _ x hrel hfast hx;have hlen:=MH hro;refine⟨cs.toList,by simpa using hlen,Mi hro,fun i y hi => ?_,by rw[hv]; rfl,fun w1 hw1 => ?_⟩
           . cases i with
             | zero => simp only[aeu,aen]at hi;subst hi;exact hro.n fun q _=>by simp
             | succ i=>simp at hi
           . rw[hv];refine run_firstCells_some (P:=P) w1 _ _ ⟨g.be r,0,none⟩ _ _ _ (by simpa using hlen) fun j u hj => ?_
             rw[fL,aex];simp only[World.cell?,hw1,b5];rw[aer]at hj;exact hj
         . simp at hn
     . simp at hn
 . rename_i k x;split at hn
   . rename_i z hz;cases hn;obtain⟨e1,hz⟩:=cq hz;subst e1;subst hz;obtain⟨aa,c,rfl,h2,h3,h4,h5⟩:=(hr:RO Z w (.sl e ks) x v);by_cases hne:aQ x=[]
     . refine⟨[],by rw[hne]; simp,by simp,fun i y hi=>by rw[hne]at hi; simp at hi,rfl,fun w1 _ => ?_⟩;rw[hne];cases aa with
       | none=>exact run_firstCells_none (P:=P) w1 _ _ _ _
       | some b=>exact run_firstCells_some (P:=P) w1 _ _ b _ _ [] (by simp) (fun j v hj=>by simp at hj)
     . obtain⟨b,o,rfl,_,_,hrow⟩:=h5 hne;have hcell:∀ q,q<(aQ x).length * ks.length->∃ v,w.cell? ⟨b,o+q,none⟩=some v/\v.oneCell'=true:=fun q hq=>by
        obtain⟨q1,q2,q3⟩:=oH hq;obtain⟨v,k1,k2⟩:=AJ ks _ b _ (q % ks.length) (hrow _ _ (aeq q1)) q2;exact⟨v,by rw[q3,<- afq]; exact k1,k2⟩
       have hnl:∀ q,q<(aQ x).length * ks.length->((List.range ((aQ x).length * ks.length)).map fun q=>(w.cell? ⟨b,o+q,none⟩).getD undef)[q]? = w.cell? ⟨b,o+q,none⟩:=fun q hq=>by obtain⟨v,k1,_⟩:=hcell q hq;simp[hq,k1]
       refine⟨(List.range ((aQ x).length * ks.length)).map fun q=>(w.cell? ⟨b,o+q,none⟩).getD undef,by simp,fun u hu => ?_,fun i y hi => ?_,rfl,fun w1 hw1 => ?_⟩
       . obtain⟨q,hq,rfl⟩:=afM.1 hu;obtain⟨v,k1,k2⟩:=hcell q (afy.1 hq);rw[k1];exact k2
       . have hil:i<(aQ x).length:=(aeW.1 hi).1;have:=(hrow i y hi).n;have mv:∀(ks':List K) (y:Tl ks') (o1 o2:Nat) (f f':Nat->Option Value),(∀ q,q<ks'.length->f' (o2+q)=f (o1+q))->Mj Z w ks' y f o1->Mj Z w ks' y f' o2:=by
          intro ks';induction ks' with
          | nil=>intros; trivial
          | cons k ks' ih => intro y o1 o2 f f' hf ⟨⟨v,h1,h2⟩,h3⟩;exact⟨⟨v,by rw[<- h1]; exact hf 0 (by simp),h2⟩,ih _ _ _ _ _ (fun q hq=>by rw[show o2+1+q=o2+(q+1)by omega,show o1+1+q=o1+(q+1)by omega]; exact hf (q+1) (by simp; omega)) h3⟩
         refine mv ks y _ _ _ _ (fun q hq => ?_) this;rw[hnl _ (lS hil hq),afq]
       . refine run_firstCells_some (P:=P) w1 _ _ ⟨b,o,none⟩ _ _ _ (by simp) fun j v hj => ?_
         have hjl:j<(aQ x).length * ks.length:=by have:=(aeW.1 hj).1;simpa using this
         rw[hnl j hjl]at hj;rw[fL];simp only[World.cell?,hw1]at hj ⊢;exact hj
   . simp at hn
 . simp at hn
theorem LU{ks:List K}{xs ys:List (Tl ks)}{b0 o b o':Nat}{F F':Nat->Prop}{w w':World}{news:List Value}{v:Value}{cs':Array Value}{el:TypeId}{fr:Nat×Nat}{cap:Nat}
 (hx:∀ i x,xs[i]? = some x->pz (fun q=>Z q∨F q/\q≠b0) w ks x b0 (o+i * ks.length))(hn:TY P Z w ks ys v news)(hb:w'.heap[b]? = some (.cells cs' el fr))(hfr:∀ q,q<cs'.size+TK ks->¬ (fr.1<=q/\q<fr.2))(hF'b:F' b)(hs:w.heap.size<=w'.heap.size)
 (hZ:∀ q,Z q->q<w.heap.size->w'.heap[q]? = w.heap[q]?)(hF:∀ q,F q->q≠b0->q<w.heap.size->F' q/\q≠b/\w'.heap[q]? = w.heap[q]?)
 (hold:∀ q,q<xs.length * ks.length->cs'[o'+q]? = w.cell? ⟨b0,o+q,none⟩)(hnew:∀ q,q<news.length->cs'[o'+xs.length * ks.length+q]? = news[q]?)(hcap:xs.length+ys.length<=cap)(hsz:o'+cap * ks.length<=cs'.size)(hbig:xs.length+ys.length<=bG) :
 Sh Z F' w' ks (xs++ys) (.slice (some ⟨b,o',none⟩) (xs.length+ys.length) cap):=by
 refine⟨_,cap,by rw[aep],by rw[aep]; exact hcap,by rw[aep]; exact hbig,by simp,fun a' ha' => ?_⟩;simp only[aen]at ha';subst ha';refine⟨b,o',cs',el,fr,rfl,hF'b,hb,hfr,hsz,fun i x hi => ?_⟩;have hcell:∀ q,w'.cell? ⟨b,q,none⟩=cs'[q]? := fun q=>by simp[World.cell?,hb]
 by_cases hl:i<xs.length
 . rw[ae4 hl]at hi;refine Mj.l hs (fun q hq hlt => ?_) (hx i x hi).n fun q hq => ?_
   . rcases hq with hq | hq
     . exact⟨.inl hq,hZ q hq hlt⟩
     . obtain⟨f1,f2,f3⟩:=hF q hq.1 hq.2 hlt;exact⟨.inr ⟨f1,f2⟩,f3⟩
   . have:=hold (i * ks.length+q) (lS hl hq);show _=w.cell? ⟨b0,o+i * ks.length+q,none⟩;rw[hcell,afq,this,afq]
 . rw[ae3 (by omega)]at hi;have hlt:i-xs.length<ys.length:=(aeW.1 hi).1;refine Mj.l hs (fun q hq hlt=>⟨.inl hq,hZ q hq hlt⟩) (hn.row _ x hi) fun q hq => ?_
   have hq':(i-xs.length) * ks.length+q<news.length:=by rw[hn.len]; exact lS hlt hq
   have:=hnew _ hq';have hmul:i * ks.length=xs.length * ks.length+(i-xs.length) * ks.length:=by rw[<- ae0]; congr 1; omega
   rw[hcell,show o'+i * ks.length+q=o'+xs.length * ks.length+((i-xs.length) * ks.length+q)by omega,this]
theorem Rel.VA(h:Rel cx Z g st a w){d:Nat}(hd:jw cx a d)(hf:st.free d=true){e:TypeId}{ks:List K}{x:List (Tl ks)}{v:Value}{F:Nat->Prop}(hF:∀ b,F b->b<w.heap.size/\(cx.F0 b∨cx.w0.heap.size<=b)/\¬ Z b/\(∀ r j,¬ g.fp r j b)/\(∀ r' R',look st.rt r'=some R'->R'.box=true->g.be r'≠b))(ho:Sh Z F w ks x v) :
 ∃ g',Rel cx Z g' (st.aT d (.bc d 0 0 0 e ks x,some ⟨false,[⟨0,0,.own (.sl e ks) ([]:List (Tl ks))⟩]⟩)) (a.put (some d) v) w:=by
 have h6:=Rel.lG h (r:=d) (be:=0) (R:=⟨false,[⟨0,0,.own (.sl e ks) ([]:List (Tl ks))⟩]⟩) (cv:=fun _=> .slice none 0 0) (fp:=fun j b=>j=0/\F b) (ju hf)
  (fun j b hb=>⟨(hF b hb.2).1,(hF b hb.2).2.1,(hF b hb.2).2.2.1,(hF b hb.2).2.2.2.1,(hF b hb.2).2.2.2.2,⟨0,0,.own (.sl e ks) ([]:List (Tl ks))⟩,.sl e ks,([]:List (Tl ks)),by rw[hb.1]; rfl,rfl⟩)
  (fun j j' b h1 h2=>h1.1.trans h2.1.symm) (fun hb=>by simp at hb)
  (fun j c hj=>by
    cases j with
    | zero => simp only[aeu,aen]at hj;subst hj;exact jC e ks
    | succ j=>simp at hj)
 refine⟨_,h6.mm hd (tv:= .bc d 0 0 0 e ks x) ⟨⟨0,0,.own (.sl e ks) ([]:List (Tl ks))⟩,?_,oR _,oR _,fun _ _=>Sh.mono (oR _) (fun b hb _=>⟨hb,rfl⟩) (fun b hb _=>⟨by simp[Gh.at]; exact hb,rfl⟩) ho⟩⟩;show(match look ((d,(⟨false,[⟨0,0,.own (.sl e ks) ([]:List (Tl ks))⟩]⟩:Rt))::st.rt) d with | some R=>R.cells[0]? | none=>none)=_;rw[aK,if_pos rfl];rfl
theorem Iv(hT:cf P E)(h:Rel cx Z g st a w)(hn:ch st)(hsz:Fit cx E a){o:Oper}{d:Nat}(hd:o.dst=some d)(hdn:jw cx a d){c:Call}(ho:o.op= .call c)(hcal:c.callee= .builtin .append){x y:Operand}(hargs:c.args.toList=[x,y]){t t2:Nat}{ts:List Nat}(hts:c.argTypes.toList=t::t2::ts)
 {ti te:TI}(hti:E.ti t=some ti)(hte:E.sl t=some te){tx ty:TV}(hx:st.get x=some tx)(hy:st.get y=some ty)(h2:E.str t2=true∨∃ te2,E.sl t2=some te2){st':St}(hrun:(st.nj d ti.elem te tx ty).run=some st'):nN P cx E st' a w o:=by
 have hc:=hn.cons.cons;obtain⟨ks0,q1,q2,q3,q4⟩:=uD hT hte hti;have hTe:=hT _ _ q4;obtain⟨tt,ks1,t1,_,_,_,hu⟩:=iM hT hte;rw[hti]at t1;simp only[aen]at t1;subst t1;obtain⟨d2,hu2,hd2⟩:∃ d2,P.underlying t2=some d2/\∀ k,d2≠ .int k:=by
  rcases h2 with h2 | ⟨te2,h2⟩
  . exact⟨_,ob hT h2,fun _ h=>by simp at h⟩
  . obtain⟨_,_,_,_,_,_,hu2⟩:=iM hT h2;exact⟨_,hu2,fun _ h=>by simp at h⟩
 unfold St.nj at hrun;obtain⟨⟨st1,xs⟩,htk,hrun⟩:=Tr.af hrun;obtain⟨ys,hnw,hrun⟩:=Tr.af hrun;simp only at hnw hrun;cases hcond:st1.free d&&Nat.blt 0 te.bytes with
 | false=>rw[hcond]at hrun; simp[Tr.run]at hrun
 | true =>
   rw[hcond]at hrun;simp only[oT]at hrun;simp only[aeo]at hcond;obtain⟨hfree,hby⟩:=hcond;have hby:0<te.bytes:=afr (aeJ hby);obtain⟨hble,hrun⟩:=Tr.bB hrun;simp only[Tr.run,aen]at hrun;subst hrun;have hbytes:((aQ xs).length+ys.length) * te.bytes<=bG:=aeJ hble;have hbig:(aQ xs).length+ys.length<=bG:=aeA (afP _ hby) hbytes;obtain⟨g1,F,k1,k2,k3,k4⟩:=HW h (aX h hc hx) htk;obtain⟨news,m2⟩:=HV (P:=P) k1 (bF.cg k2.cg _ _ (aX h hc hy)) hnw;refine⟨fun t tv ht => ?_,fun next Q hk => ?_⟩
   . rw[bY]at ht;split at ht
     . simp only[aen]at ht; subst ht; exact fun h=>h
     . exact hn t tv (by rw[<- k2.tm]; exact ht)
   have fin:∀(v':Value) (w':World) (F':Nat->Prop),(Builtin.append_ c.argTypes o.type #[a.eval x,a.eval y]).run P w= .ok v' w'->Rel cx Z g1 st1 a w'->(∀ b,F' b->b<w'.heap.size/\(cx.F0 b∨cx.w0.heap.size<=b)/\¬ Z b/\(∀ r j,¬ g1.fp r j b)/\(∀ r' R',look st1.rt r'=some R'->R'.box=true->g1.be r'≠b)) ->
    Sh Z F' w' te.ks (aQ xs++ys) v'->o.wp P a w next Q:=by
    intro v' w' F' hr hrel hF' hown;have hargs':c.args = #[x,y]:=by rw[<- afk (xs:=c.args),hargs]
    have:(execOp a.eval o).run P w= .ok (.value v') w':=by simp only[execOp,ho,resolve,hcal,hargs',aeN,aeX,aez,invoke,builtin,afZ,aff,agk,hr]
    unfold Oper.wp;rw[this,afo,hd];obtain⟨g3,hg⟩:=hrel.VA (e:=ti.elem) hdn hfree hF' hown;exact hk Z g3 _ _ hg (hsz.put _ _)
   have hat:c.argTypes[0]? = some t:=by rw[<- aer,hts]; rfl
   have hat2:c.argTypes[1]? = some t2:=by rw[<- aer,hts]; rfl
   have hFs:∀(w':World),w.heap.size<=w'.heap.size->∀ b,F b->b<w'.heap.size/\(cx.F0 b∨cx.w0.heap.size<=b)/\¬ Z b/\(∀ r j,¬ g1.fp r j b)/\(∀ r' R',look st1.rt r'=some R'->R'.box=true->g1.be r'≠b):=fun w' hs b hb =>
    ⟨aeK (k4.lt b hb) hs,k4.own b hb,k4.z b hb,k4.fp b hb,k4.box b hb⟩
   obtain⟨base,cap,ev,c1,c2,c3,c4⟩:=k3;have hnl:=m2.len;by_cases hfit:(aQ xs).length+ys.length<=cap
   . cases base with
     | none =>
       have hcap:=c3 rfl;have hx0:aQ xs=[]:=ae6.1 (by omega);have hy0:ys=[]:=ae6.1 (by omega);have e1:a.eval x= .slice none 0 0:=by rw[ev,hx0,hcap]; rfl
       refine fin (.slice none 0 0) w (fun _=>False) ?_ k1 (fun b hb=>hb.elim) ?_
       . rw[e1];refine append_nil (news:=news) hu hTe hu2 hd2 hat hat2 ?_ ?_
         . have:=m2.lenOf; rw[hy0]at this; exact this
         . have:=m2.cells w rfl; rw[hy0]at this; exact this
       . rw[hx0,hy0];exact(jC ti.elem te.ks).sh
     | some aa =>
       obtain⟨b,of,cs,el,fr,rfl,n2,n3,n4,n5,n6⟩:=c4 _ rfl;obtain⟨s1,s2,s3,s4,s5,s6⟩:=dK b news (of+(aQ xs).length * te.ks.length) w cs el fr n3;have hroom:of+(aQ xs).length * te.ks.length+news.length<=cs.size:=by have:=aeS te.ks.length hfit;rw[ae0]at this;omega
       refine fin (.slice (some ⟨b,of,none⟩) ((aQ xs).length+ys.length) cap) (w.setCells b (of+(aQ xs).length * te.ks.length) news) F ?_ (k1.wr k4 s4 s5 s6 (by rw[s3]; exact oR _) fun q _ hq=>s2 q fun e=>hq (by rw[e]; exact n2)) (hFs _ (by rw[s3]; exact oR _)) ?_
       . rw[ev];exact n9 hu hTe hu2 hd2 hat hat2 m2.lenOf (m2.cells w rfl) hfit m2.one fun j hj=>⟨cs,el,fr,n3,by omega,n4 _ (by omega)⟩
       . refine LU (b0:=b) (F:=F) n6 m2 s1 (fun q hq=>n4 q (by rw[cA]at hq; exact hq)) n2 (by rw[s3]; exact oR _) (fun q hq _=>s2 q fun e=>k4.z b n2 (by rw[<- e]; exact hq)) (fun q hq hne _=>⟨hq,hne,s2 q hne⟩) (fun q hq => ?_) (fun q hq => ?_) hfit (by rw[cA]; exact n5) hbig
         . rw[cK _ _ _ _ hroom,if_neg (by omega)];exact(show w.cell? ⟨b,of+q,none⟩=cs[of+q]? by simp[World.cell?,n3]).symm
         . rw[cK _ _ _ _ hroom,if_pos (by omega)];congr 1;omega
   . have hgrow:cap<(aQ xs).length+ys.length:=by omega
     have hge:=grownCap_ge w ((aQ xs).length+ys.length) cap ti.elem;have hnot:∀ q,F q->q≠w.heap.size:=fun q hq e=>by have:=(hFs w (oR _) q hq).1;omega
     have olds:∃(olds:List Value) (b0 of:Nat),(Builtin.firstCells te.ks.length (aQ xs).length (.slice base (aQ xs).length cap)).run P w.drew= .ok olds.toArray w.drew/\olds.length=(aQ xs).length * te.ks.length/\(∀ q,q<(aQ xs).length * te.ks.length->olds[q]? = w.cell? ⟨b0,of+q,none⟩) /\
      (∀ i x,(aQ xs)[i]? = some x->pz (fun q=>Z q∨F q/\q≠b0) w te.ks x b0 (of+i * te.ks.length)):=by
      cases base with
      | none => have hcap:=c3 rfl;have hx0:aQ xs=[]:=ae6.1 (by omega);exact⟨[],0,0,run_firstCells_none (P:=P) w.drew _ _ _ _,by rw[hx0]; simp,fun q hq=>by rw[hx0]at hq; simp at hq,fun i x hi=>by rw[hx0]at hi; simp at hi⟩
      | some aa =>
        obtain⟨b,of,cs,el,fr,rfl,n2,n3,n4,n5,n6⟩:=c4 _ rfl;have hbound:∀ q,q<(aQ xs).length * te.ks.length->of+q<cs.size:=fun q hq=>by have:=aeS te.ks.length c1;omega
        have hcl:∀ q,w.cell? ⟨b,q,none⟩=cs[q]? := fun q=>by simp[World.cell?,n3]
        have hnl':∀ q,q<(aQ xs).length * te.ks.length->((List.range ((aQ xs).length * te.ks.length)).map fun q=>cs.getD (of+q) undef)[q]? = cs[of+q]? := fun q hq=>by have:=hbound q hq;simp[hq,this]
        refine⟨(List.range ((aQ xs).length * te.ks.length)).map fun q=>cs.getD (of+q) undef,b,of,?_,by simp,fun q hq=>by rw[hcl]; exact hnl' q hq,n6⟩;refine run_firstCells_some (P:=P) w.drew _ _ ⟨b,of,none⟩ _ _ _ (by simp) fun j v hj => ?_
        have hjl:j<(aQ xs).length * te.ks.length:=by have:=(aeW.1 hj).1;simpa using this
        rw[hnl' j hjl]at hj;rw[fL];exact(hcl _).trans hj
     obtain⟨olds,b0,of,r1,r2,r3,r4⟩:=olds;obtain⟨zs,z1,z2⟩:=nq (ty:=o.type) (vx:=a.eval y) hu hTe hu2 hd2 hat hat2 m2.lenOf r1 (m2.cells w.drew rfl) hgrow hby hbytes;have hheap:(w.drew.alloc (.cells (olds.toArray++news.toArray++zs) ti.elem (0,0))).heap=w.heap.push (.cells (olds.toArray++news.toArray++zs) ti.elem (0,0)):=rfl;have hsize:(w.drew.alloc (.cells (olds.toArray++news.toArray++zs) ti.elem (0,0))).heap.size=w.heap.size+1:=by rw[hheap,afN]
     have hold:∀ q,q<w.heap.size->(w.drew.alloc (.cells (olds.toArray++news.toArray++zs) ti.elem (0,0))).heap[q]? = w.heap[q]? := fun q hq=>by rw[hheap,ae1,if_neg (by omega)]
     refine fin (.slice (some ⟨w.heap.size,0,none⟩) ((aQ xs).length+ys.length) (grownCap w ((aQ xs).length+ys.length) cap ti.elem)) (w.drew.alloc (.cells (olds.toArray++news.toArray++zs) ti.elem (0,0))) (fun q=>F q∨q=w.heap.size) (by rw[ev]; exact z2) (k1.wr k4 rfl rfl rfl (by rw[hsize]; omega) fun q hq _=>hold q hq) (fun b hb => ?_) ?_
     . rcases hb with hb | rfl
       . exact hFs _ (by rw[hsize]; omega) b hb
       . refine⟨by rw[hsize]; omega,.inr k1.size,fun hz=>by have:=(k1.bL _ hz).1; omega,fun r j hh=>by have:=(k1.fp r j _ hh).1; omega,fun r' R' hR' hb' he => ?_⟩;obtain⟨_,_,_,_,cs1,el1,fr1,b5,_⟩:=k1.box r' R' hR' hb';rw[he,aeH (oR _)]at b5;simp at b5
     . refine LU (b0:=b0) (F:=F) r4 m2 (el:=ti.elem) (fr:=(0,0)) (cs':=olds.toArray++news.toArray++zs) (by rw[hheap,ae1,if_pos rfl]) (by simp) (.inr rfl) (by rw[hsize]; omega) (fun q hq hlt=>hold q hlt) (fun q hq _ hlt=>⟨.inl hq,hnot q hq,hold q hlt⟩) (fun q hq => ?_) (fun q hq => ?_) hge ?_ hbig
       . rw[<- r3 q hq,aex,af0,afg (by simp; omega)];simp
       . rw[aex,af0,agG (by simp; omega),afg (by simp; omega)];simp only[ahe,r2,afa,aeZ]
       . have e1:(olds.toArray++news.toArray++zs).size=olds.length+news.length+zs.size:=by simp
         rw[e1,r2,hnl,z1,aex,<- ae0,<- ae0];exact aeS _ (by omega)
end
abbrev QT:=Nat->Nat->Option (RC×(Nat->Prop))
def Gh.sy(g:Gh)(L:QT):Gh:=⟨g.be,g.cv,fun r j b=>match L r j with | some p=>p.2 b | none=>g.fp r j b⟩
structure ND (st st':St) (L:QT):Prop where
 tm:st'.tm=st.tm
 shape:∀ r,shape st' r=shape st r
 cell:∀ r j,st'.cell r j=match L r j with | some p=>(st.cell r j).map (fun _=>p.1) | none=>st.cell r j
 rt:∀ r,(∀ j,L r j=none)->look st'.rt r=look st.rt r
section
variable{P:Program}{cx:Cx P}{Z:Nat->Prop}{g:Gh}{st st':St}{a:Act}{w w':World}{E:En}{L:QT}
theorem sE{st st':St}{r:Nat}{R':Rt}(hs:shape st' r=shape st r)(h:look st'.rt r=some R'):∃ R,look st.rt r=some R/\R'.box=R.box/\R'.cells.length=R.cells.length:=by
 have h1:shape st r=some (R'.box,R'.cells.length):=by rw[<- hs]; simp[shape,h]
 obtain⟨R,k1,k2,k3⟩:=qV h1;exact⟨R,k1,k2.symm,k3.symm⟩
theorem Rel.sy(h:Rel cx Z g st a w)(hl:ND st st' L)(h1:w'.os=w.os)(h2:w'.tape=w.tape)(h3:w'.output=w.output)(hsz:w.heap.size<=w'.heap.size)
 (hL:∀ r j p,L r j=some p->∃ c,st.cell r j=some c/\p.1.s=c.s/\c.m<p.1.m/\∃ e ks xs xs',c.v= .own (.sl e ks) xs/\p.1.v= .own (.sl e ks) xs'/\(aQ xs').length=(aQ xs).length/\cO w' (.sl e ks) xs' (g.cv r j) p.2)
 (hF:∀ r j p,L r j=some p->∀ b,p.2 b->b<w'.heap.size/\((∃ r0 j0 p0,L r0 j0=some p0/\g.fp r0 j0 b)∨w.heap.size<=b)/\¬ Z b)
 (hd:∀ r j p r' j' p' b,L r j=some p->L r' j'=some p'->p.2 b->p'.2 b->r=r'/\j=j')
 (hblk:∀ b,b<w.heap.size->(∀ r j p,L r j=some p->¬ g.fp r j b)->w'.heap[b]? = w.heap[b]?) :
 Rel cx Z (g.sy L) st' a w'/\kf Z w w' g (g.sy L) st st':=by
 have hfpo:∀ r j b,L r j=none->g.fp r j b->w'.heap[b]? = w.heap[b]? := fun r j b hn hb=>hblk b (h.fp r j b hb).1 fun r0 j0 p0 hp0 hh=>by obtain⟨e1,e2⟩:=h.disj _ _ _ _ _ hb hh;subst e1; subst e2;rw[hn]at hp0; simp at hp0
 have hz:∀ b,Z b->b<w.heap.size->w'.heap[b]? = w.heap[b]? := fun b hb hlt=>hblk b hlt fun r j p hp hh=>(h.fp r j b hh).2.2.1 hb
 have hfpi:∀ r j b,(g.sy L).fp r j b->(∃ p,L r j=some p/\p.2 b)∨(L r j=none/\g.fp r j b):=fun r j b hb=>by
  simp only[Gh.sy]at hb;cases hp:L r j with
  | none=>rw[hp]at hb; exact .inr ⟨rfl,hb⟩
  | some p=>rw[hp]at hb; exact .inl ⟨p,rfl,hb⟩
 have k:mA Z Z w w' g (g.sy L) st st':=by
  refine { size:=hsz,z:=fun b hb hlt=>⟨hb,hz b hb hlt⟩,root:=fun r R hR => ?_,cell:=fun r j c hc => ?_,own:=fun r j b hb=>(h.fp r j b hb).1,block:=(fb h (st':=st) (w':=w) rfl rfl).block }
  . obtain⟨R',e1,e2,_⟩:=sE (st:=st') (st':=st) (hl.shape r).symm hR;exact⟨R',e1,e2.symm,fun _=>rfl⟩
  . rw[hl.cell];cases hp:L r j with
    | none=>exact⟨c,hc,oR _,oR _,fun _=>rfl,fun _ e ks xs hh=>⟨xs,hh,rfl⟩,fun _ _=>⟨rfl,fun b hb _=>⟨by simp only[Gh.sy,hp]; exact hb,hfpo r j b hp hb⟩⟩⟩
    | some p => obtain⟨c0,f1,f2,f3,e,ks,xs,xs',f4,f5,f6,f7⟩:=hL r j p hp;rw[hc]at f1;simp only[aen]at f1;subst f1;rw[hc];refine⟨p.1,rfl,by omega,by omega,fun _=>rfl,fun _ e' ks' xs0 hh => ?_,fun _ e=>absurd e (by omega)⟩;rw[f4]at hh;simp only[RV.own.injEq,K.sl.injEq]at hh;obtain⟨⟨rfl,rfl⟩,hh⟩:=hh;have hh:=agy hh;subst hh;exact⟨xs',f5,f6⟩
 have hbn:∀ r R,look st.rt r=some R->R.box=true->∀ r' j',¬ (g.sy L).fp r' j' (g.be r):=fun r R hR hb r' j' hh=>by
  obtain⟨_,_,b3,_,cs,el,fr,b5,_⟩:=h.box r R hR hb;have hlt:g.be r<w.heap.size:=by
   rcases aeD (g.be r) w.heap.size with hh | hh
   . exact hh
   . simp[aeH hh]at b5
  rcases hfpi _ _ _ hh with ⟨p,hp,hh⟩ | ⟨_,hh⟩
  . rcases(hF _ _ _ hp _ hh).2.1 with ⟨r0,j0,p0,_,k2⟩ | k2
    . exact b3 r0 j0 k2
    . omega
  . exact b3 _ _ hh
 refine⟨?_,⟨k,hl.tm,rfl,fun r R' hR=>by obtain⟨R,e1,e2,_⟩:=sE (hl.shape r) hR; exact⟨R,e1,e2⟩⟩⟩;refine { os:=h1.trans h.os,tape:=h2.trans h.tape,output:=h3.trans h.output,size:=aeA h.size hsz,block := ?_,bL:=fun b hb=>⟨aeK (h.bL b hb).1 hsz,(h.bL b hb).2⟩,z0:=h.z0,fp := ?_,disj := ?_,box := ?_,cell := ?_,tm := ?_,defers:=h.defers,pin:=h.pin }
 . intro b hb hf;refine(hblk b (aeK hb h.size) fun r j p hp hh => ?_).trans (h.block b hb hf);rcases(h.fp r j b hh).2.1 with h4 | h4
   . exact hf h4
   . omega
 . intro r j b hb;rcases hfpi r j b hb with ⟨p,hp,hb⟩ | ⟨hp,hb⟩
   . obtain⟨k1,k2,k3⟩:=hF r j p hp b hb;obtain⟨c,f1,_,_,e,ks,xs,xs',_,f5,_⟩:=hL r j p hp;refine⟨k1,?_,k3,p.1,_,xs',by rw[hl.cell,hp,f1]; rfl,f5⟩;rcases k2 with ⟨r0,j0,p0,_,k2⟩ | k2
     . exact(h.fp _ _ _ k2).2.1
     . exact .inr (aeA h.size k2)
   . obtain⟨k1,k2,k3,c,kk,x,k4,k5⟩:=h.fp r j b hb;exact⟨aeK k1 hsz,k2,k3,c,kk,x,by rw[hl.cell,hp]; exact k4,k5⟩
 . intro r1 j1 r2 j2 b hb1 hb2;rcases hfpi _ _ _ hb1 with ⟨p1,hp1,k1⟩ | ⟨hp1,k1⟩
   . rcases hfpi _ _ _ hb2 with ⟨p2,hp2,k2⟩ | ⟨hp2,k2⟩
     . exact hd _ _ _ _ _ _ b hp1 hp2 k1 k2
     . exfalso;rcases(hF _ _ _ hp1 b k1).2.1 with ⟨r0,j0,p0,hp0,hh⟩ | hh
       . obtain⟨e1,e2⟩:=h.disj _ _ _ _ _ hh k2;subst e1; subst e2;rw[hp2]at hp0; simp at hp0
       . have:=(h.fp _ _ _ k2).1; omega
   . rcases hfpi _ _ _ hb2 with ⟨p2,hp2,k2⟩ | ⟨hp2,k2⟩
     . exfalso;rcases(hF _ _ _ hp2 b k2).2.1 with ⟨r0,j0,p0,hp0,hh⟩ | hh
       . obtain⟨e1,e2⟩:=h.disj _ _ _ _ _ hh k1;subst e1; subst e2;rw[hp1]at hp0; simp at hp0
       . have:=(h.fp _ _ _ k1).1; omega
     . exact h.disj _ _ _ _ _ k1 k2
 . intro r R' hR hbx;obtain⟨R,e1,e2,e3⟩:=sE (hl.shape r) hR;have hbx':R.box=true:=by rw[<- e2]; exact hbx
   obtain⟨b1,b2,b3,b4,cs,el,fr,b5,b6,b7,b8⟩:=h.box r R e1 hbx';have hlt:g.be r<w.heap.size:=by
    rcases aeD (g.be r) w.heap.size with hh | hh
    . exact hh
    . simp[aeH hh]at b5
   refine⟨b1,b2,hbn r R e1 hbx',fun r' R'' hR'' hb'' he => ?_,cs,el,fr,?_,b6,by rw[b7,e3],b8⟩
   . obtain⟨R2,f1,f2,_⟩:=sE (hl.shape r') hR'';exact b4 r' R2 f1 (by rw[<- f2]; exact hb'') he
   . show w'.heap[g.be r]? = _;rw[hblk _ hlt fun r0 j0 p0 _ hh=>b3 r0 j0 hh];exact b5
 . intro r j c hc;rw[hl.cell]at hc;cases hp:L r j with
   | none =>
     rw[hp]at hc;have e2:(g.sy L).fp r j=g.fp r j:=by funext b; simp only[Gh.sy,hp]
     rw[e2];exact jJ.cg k _ _ _ _ (h.cell r j c hc) (fun _ h=>h) (fun b hb _=>hfpo r j b hp hb)
   | some p =>
     rw[hp]at hc;obtain⟨c0,f1,_,_,e,ks,xs,xs',_,f5,_,f7⟩:=hL r j p hp;rw[f1]at hc;simp only[aeM,aen]at hc;subst hc;have e2:(g.sy L).fp r j=p.2:=by funext b; simp only[Gh.sy,hp]
     rw[e2,f5];exact f7
 . intro t tv ht;rw[hl.tm]at ht;exact⟨(h.tm t tv ht).1,bF.cg k _ _ (h.tm t tv ht).2⟩
end
section
variable{w w':World}
theorem zE:∀(ks:List K) (x:Tl ks) (j:Nat) (G:Nat->Nat->Prop) (cs:Array Value) (o c:Nat) (k:K) (y:T k),fA w ks x j G cs o->cellAt ks x c=some ⟨k,y⟩->∃ v,cs[o+c]? = some v/\cO w k y v (G (j+c))
 | [],_,_,_,_,_,_,_,_,_,h=>by simp[cellAt]at h
 | k0::ks,x,j,G,cs,o,0,k,y,⟨⟨v,h1,h2⟩,_⟩,h=>by simp only[cellAt,aen,Sigma.mk.injEq]at h;obtain⟨rfl,h⟩:=h;have h:=agy h;subst h;exact⟨v,h1,h2⟩
 | k0::ks,x,j,G,cs,o,c+1,k,y,⟨_,h3⟩,h=>by obtain⟨v,h1,h2⟩:=zE ks x.2 (j+1) G cs (o+1) c k y h3 h;exact⟨v,by rw[show o+(c+1)=o+1+c by omega]; exact h1,by rw[show j+(c+1)=j+1+c by omega]; exact h2⟩
theorem J6{e:TypeId}{ks:List K}{xs:T (.sl e ks)}{b o l cap:Nat}{F:Nat->Prop}(h:cO w (.sl e ks) xs (.slice (some ⟨b,o,none⟩) l cap) F){i c:Nat}(hi:i<(aQ xs).length){k:K}{y:T k}(hc:cellAt ks (gi xs i) c=some ⟨k,y⟩) :
 ∃ v Fi,w.cell? ⟨b,o+i * ks.length+c,none⟩=some v/\cO w k y v Fi/\(∀ q,Fi q->F q/\q≠b)/\F b /\
  ∀(w':World) (y':T k) (z:Tl ks) (F':Nat->Prop),setAt ks (gi xs i) c k y'=some z->cO w' k y' v F'->(∀ q,F' q->F q->Fi q)->(∀ q,q<w.heap.size->F q->¬ Fi q->w'.heap[q]? = w.heap[q]?)->(∀ q,F q->q<w.heap.size) ->
   cO w' (.sl e ks) (List.set (aQ xs) i z) (.slice (some ⟨b,o,none⟩) l cap) (fun q=>(F q/\¬ Fi q)∨F' q):=by
 obtain⟨a',c0,h1,h2,h3,h4,h5⟩:=h;simp only[afm]at h1;obtain⟨rfl,rfl,rfl⟩:=h1;obtain⟨b',o',cs,el,fr,g1,g2,g3,g4,g5,G,g6,g7,g8⟩:=h5 _ rfl;simp only[afK,afQ]at g1;obtain⟨rfl,rfl⟩:=g1;obtain⟨v,hv1,hv2⟩:=zE ks _ 0 (G i) cs _ c k y (g8 i _ (l5 xs hi)) hc;rw[aex]at hv2;refine⟨v,G i c,?_,hv2,fun q hq=>g6 i c q hq,g2,fun w' y' z F' hz ho hF' hw hlt => ?_⟩
 . simp only[World.cell?,g3,afH,ae5,afE];exact hv1
 . have hlen:(aQ (e:=e) (ks:=ks) (List.set (aQ xs) i z)).length=(aQ xs).length:=afB ..
   have hbG:¬ G i c b:=fun hh=>(g6 i c b hh).2 rfl
   have hcl:=yp _ _ _ _ _ _ hz;have hblt:=hlt b g2;refine⟨_,cap,by rw[hlen],by rw[hlen]; exact h2,by rw[hlen]; exact h3,h4,fun a'' ha'' => ?_⟩;simp only[aen]at ha'';subst ha'';refine⟨b,o,cs,el,fr,rfl,.inl ⟨g2,hbG⟩,by rw[hw b hblt g2 hbG]; exact g3,g4,g5,fun i' j' q=>if i'=i/\j'=c then F' q else G i' j' q,fun i' j' q hq => ?_,fun i1 j1 i2 j2 q hq1 hq2 => ?_,fun i' x hx => ?_⟩
   . dsimp only at hq;split at hq
     . refine⟨.inr hq,fun e => ?_⟩;subst e;exact hbG (hF' q hq g2)
     . rename_i hne;refine⟨.inl ⟨(g6 i' j' q hq).1,fun hh=>hne ?_⟩,(g6 i' j' q hq).2⟩;exact g7 i' j' i c q hq hh
   . dsimp only at hq1 hq2;have cross:∀ i1 j1,¬ (i1=i/\j1=c)->G i1 j1 q->F' q->False:=fun i1 j1 hne hG hF=>by
      exact hne (g7 i1 j1 i c q hG (hF' q hF (g6 i1 j1 q hG).1))
     by_cases e1:i1=i/\j1=c
     . rw[if_pos e1]at hq1;by_cases e2:i2=i/\j2=c
       . exact⟨e1.1.trans e2.1.symm,e1.2.trans e2.2.symm⟩
       . rw[if_neg e2]at hq2; exact(cross i2 j2 e2 hq2 hq1).elim
     . rw[if_neg e1]at hq1;by_cases e2:i2=i/\j2=c
       . rw[if_pos e2]at hq2; exact(cross i1 j1 e1 hq1 hq2).elim
       . rw[if_neg e2]at hq2; exact g7 _ _ _ _ q hq1 hq2
   . have hx':(List.set (aQ xs) i z)[i']? = some x:=hx;rw[agY]at hx';by_cases ei:i=i'
     . subst ei;rw[if_pos rfl,if_pos hi]at hx';simp only[aen]at hx';subst hx';refine xx ks (gi xs i) c k y' z 0 (G i) _ F' cs cs _ v hz ho hv1 (fun _ _ _=>rfl) (fun q p hne hp => ?_) (fun p hp => ?_) (fun q p hne hp _ => ?_) (g8 i _ (l5 xs hi))
       . show(if i=i/\q=c then F' p else G i q p);rw[if_neg (fun e=>hne (by omega))]; exact hp
       . show(if i=i/\0+c=c then F' p else G i (0+c) p);rw[if_pos ⟨rfl,by omega⟩]; exact hp
       . exact hw p (hlt p (g6 i q p hp).1) (g6 i q p hp).1 fun hh=>hne (by have:=(g7 i q i c p hp hh).2; omega)
     . rw[if_neg ei]at hx';refine fA.frame ks x 0 (G i') _ cs _ (fun j q hq => ?_) (fun j q hq _ => ?_) (g8 i' x hx')
       . show(if i'=i/\j=c then F' q else G i' j q);rw[if_neg (fun e=>ei e.1.symm)]; exact hq
       . exact hw q (hlt q (g6 i' j q hq).1) (g6 i' j q hq).1 fun hh=>ei (g7 i' j i c q hq hh).1.symm
end
section
variable{P:Program}{cx:Cx P}{Z:Nat->Prop}{a:Act}{w:World}{E:En}
theorem dv.mono{F F':Nat->Nat->Prop}(hF:∀ i b,F i b->F' i b):∀(ps:List PK) (x:PT ps) (vs:List Value) (i:Nat),dv Z w F ps x vs i->dv Z w F' ps x vs i
 | [],_,[],_,_=>trivial
 | .c _ _::ps,x,v::vs,i,h=>⟨h.1,dv.mono hF ps x.2 vs _ h.2⟩
 | .pt _::ps,x,v::vs,i,h=>⟨h.1,dv.mono hF ps x.2 vs _ h.2⟩
 | .nil::ps,x,v::vs,i,h=>⟨h.1,dv.mono hF ps x vs _ h.2⟩
 | .fn _ _::ps,x,v::vs,i,h=>⟨h.1,dv.mono hF ps x.2 vs _ h.2⟩
 | .io _ ks::ps,x,v::vs,i,⟨⟨cs,e,h⟩,h'⟩=>⟨⟨cs,e,aV.mono hF ks x.1 cs i h⟩,dv.mono hF ps x.2 vs _ h'⟩
 | .mv _::ps,x,v::vs,i,h=>⟨cO.frame _ _ _ _ _ (hF i) (fun _ _ _=>rfl) h.1,dv.mono hF ps x.2 vs _ h.2⟩
 | .pw _::ps,x,v::vs,i,h=>⟨h.1.mono hF,dv.mono hF ps x.2 vs _ h.2⟩
 | .pw _::_,_,[],_,h=>h.elim
 | [],_,_::_,_,h=>h.elim
 | .c _ _::_,_,[],_,h=>h.elim
 | .fn _ _::_,_,[],_,h=>h.elim
 | .io _ _::_,_,[],_,h=>h.elim
 | .pt _::_,_,[],_,h=>h.elim
 | .nil::_,_,[],_,h=>h.elim
 | .mv _::_,_,[],_,h=>h.elim
theorem aV.bL{Z':Nat->Prop}{H:Nat->Nat->Prop}(hz:∀ b,Z b->b<w.heap.size->Z' b):∀(ks:List K) (x:Tl ks) (cs:List Value) (j:Nat),aV true Z w H ks x cs j->aV true Z' w H ks x cs j
 | [],_,[],_,_=>trivial
 | .sl e ks'::ks,x,v::vs,j,h=>⟨h.1,aV.bL hz ks x.2 vs _ h.2⟩
 | .int _::ks,x,v::vs,j,h=>⟨h.1.bL hz,aV.bL hz ks x.2 vs j h.2⟩
 | .bool::ks,x,v::vs,j,h=>⟨h.1.bL hz,aV.bL hz ks x.2 vs j h.2⟩
 | .str::ks,x,v::vs,j,h=>⟨h.1.bL hz,aV.bL hz ks x.2 vs j h.2⟩
 | [],_,_::_,_,h=>h.elim
 | .sl _ _::_,_,[],_,h=>h.elim
 | .int _::_,_,[],_,h=>h.elim
 | .bool::_,_,[],_,h=>h.elim
 | .str::_,_,[],_,h=>h.elim
def Zb(Z:Nat->Prop)(g:Gh)(st:St):Nat->Prop:=fun b=>Z b∨∃ r R,look st.rt r=some R/\R.box=true/\g.be r=b
theorem So{g:Gh}{st:St}(h:Rel cx Z g st a w):∀ b,Zb Z g st b->b<w.heap.size:=fun b hb=>by
 rcases hb with hb | ⟨r,R,hR,hx,e⟩
 . exact(h.bL b hb).1
 . obtain⟨_,_,_,_,cs,el,fr,b5,_⟩:=h.box r R hR hx;rw[e]at b5;rcases aeD b w.heap.size with hh | hh
   . exact hh
   . simp[aeH hh]at b5
theorem RR{g:Gh}{st:St}(h:Rel cx Z g st a w){r j b:Nat}(hb:g.fp r j b):¬ Zb Z g st b:=fun hz=>by
 rcases hz with hz | ⟨r',R,hR,hx,e⟩
 . exact(h.fp _ _ _ hb).2.2.1 hz
 . exact(h.box r' R hR hx).2.2.1 r j (e ▸ hb)
def FK(g:Gh)(st:St)(w w':World)(r j:Nat)(c':RC)(F F':Nat->Prop):Prop :=
 ∃ c e ks xs xs',st.cell r j=some c/\c'.s=c.s/\c.m<c'.m/\c.v= .own (.sl e ks) xs/\c'.v= .own (.sl e ks) xs'/\(aQ xs').length=(aQ xs).length/\cO w' (.sl e ks) xs' (g.cv r j) (fun q=>(g.fp r j q/\¬ F q)∨F' q)
structure Mm (g:Gh) (st:St) (w:World) (n:Ln) (k:K) (F:Nat->Prop) (v:Value):Prop where
 sub:∀ b,F b->g.fp n.r n.j b
 back:∀(w':World) (y':T k) (F':Nat->Prop) (c':RC),st.Bt n ⟨k,y'⟩=some c'->cO w' k y' v F'->(∀ q,F' q->g.fp n.r n.j q->F q)->(∀ q,q<w.heap.size->g.fp n.r n.j q->¬ F q->w'.heap[q]? = w.heap[q]?)->FK g st w w' n.r n.j c' F F'
theorem Qh{w w':World}{e:TypeId}{ks:List K}{xs xs':T (.sl e ks)}{v:Value}{F F':Nat->Prop}(h:cO w (.sl e ks) xs v F)(h':cO w' (.sl e ks) xs' v F'):(aQ xs').length=(aQ xs).length:=by obtain⟨a,c,h1,_⟩:=h;obtain⟨a',c',h1',_⟩:=h';rw[h1]at h1';simp only[afm]at h1';exact h1'.2.1.symm
theorem Jj{g:Gh}{st:St}(h:Rel cx Z g st a w){av:AV}{v:Value}{e0:TypeId}{ks0:List K}{n:Ln}{y:T (.sl e0 ks0)}(hr:bj Z g st w av v)(hl:st.CL (.sl e0 ks0) av=some (n,y)) :
 ∃ F,cO w (.sl e0 ks0) y v F/\Mm g st w n (.sl e0 ks0) F v:=by
 cases av with
 | ref r j s =>
   simp only[St.CL]at hl;split at hl
   . rename_i s' m k' x hc;cases hb:Nat.beq s' s with
     | false=>rw[hb]at hl; simp at hl
     | true =>
       rw[hb]at hl;simp only[oT]at hl;split at hl
       . rename_i y' hy;cases hl;obtain⟨rfl,hy⟩:=cq hy;have hy:x=y:=hy;subst hy;have:=beq_eq hb;subst this;obtain⟨c,q1,q2,q3⟩:=hr;rw[hc]at q1;cases q1;have q3:=q3 rfl;subst q3;have ho:cO w (.sl e0 ks0) x (g.cv r j) (g.fp r j):=h.cell r j _ hc;refine⟨g.fp r j,ho,fun b hb=>hb,fun w' y' F' c' hbk ho' hF' hw' => ?_⟩;simp only[St.Bt,hc,aen]at hbk;subst hbk;refine⟨_,e0,ks0,x,y',hc,rfl,afl _,rfl,rfl,Qh ho ho',?_⟩;exact cO.frame _ _ _ _ _ (fun b hb=> .inr hb) (fun _ _ _=>rfl) ho'
       . simp at hl
   . simp at hl
 | pref r j s m i c =>
   simp only[St.CL]at hl;split at hl
   . rename_i s' m' e ks x hc;cases hb:Nat.beq s' s&&Nat.beq m' m with
     | false=>rw[hb]at hl; simp at hl
     | true =>
       rw[hb]at hl;simp only[oT]at hl;simp only[aeo]at hb;split at hl
       . rename_i k' y1 hcell;split at hl
         . rename_i y' hy;cases hl;obtain⟨rfl,hy⟩:=cq hy;have hy:y1=y:=hy;subst hy;have e1:=beq_eq hb.1;have e2:=beq_eq hb.2;subst e1; subst e2;obtain⟨c0,q1,q2,q3,q4⟩:=hr;rw[hc]at q1;cases q1;obtain⟨e',ks',xs',p1,p2,p3,b,o,l,cap,p4,p5⟩:=q4 rfl rfl;simp only[RV.own.injEq,K.sl.injEq]at p1;obtain⟨⟨rfl,rfl⟩,p1⟩:=p1;have p1:=agy p1;subst p1;have ho:cO w (.sl e ks) x (g.cv r j) (g.fp r j):=h.cell r j _ hc;rw[p4]at ho;obtain⟨v',Fi,u1,u2,u3,u4,u5⟩:=J6 ho p2 hcell;rw[p5]at u1;simp only[aen]at u1;subst u1;refine⟨Fi,u2,fun b hb=>(u3 b hb).1,fun w' y' F' c' hbk ho' hF' hw' => ?_⟩;simp only[St.Bt,hc]at hbk;split at hbk
           . rename_i z hz;simp only[aen]at hbk;subst hbk;refine⟨_,e,ks,x,_,hc,rfl,afl _,rfl,rfl,afB ..,?_⟩;show cO w' (.sl e ks) _ (g.cv r j) _;rw[p4];exact u5 w' y' z F' hz ho' hF' hw' fun q hq=>(h.fp r j q hq).1
           . simp at hbk
         . simp at hl
       . simp at hl
   . simp at hl
 | _=>simp[St.CL]at hl
def Ff:List K->List Value->List (K×Value)
 | .sl e ks'::ks,v::vs=>(.sl e ks',v)::Ff ks vs
 | .int _::ks,_::vs=>Ff ks vs
 | .bool::ks,_::vs=>Ff ks vs
 | .str::ks,_::vs=>Ff ks vs
 | _,_=>[]
def yU:List PK->List Value->List (K×Value)
 | .io gg ks::ps,v::vs=>Ff ks (cellsOf gg v)++yU ps vs
 | .c _ _::ps,_::vs=>yU ps vs
 | .pt _::ps,_::vs=>yU ps vs
 | .nil::ps,_::vs=>yU ps vs
 | .fn _ _::ps,_::vs=>yU ps vs
 | .mv _::ps,_::vs=>yU ps vs
 | _,_=>[]
def fP(g:Gh)(st:St)(w:World)(F:Nat->Nat->Prop):List Ln->List (K×Value)->Nat->Prop
 | [],[],_=>True
 | n::l,p::r,i=>Mm g st w n p.1 (F i) p.2/\fP g st w F l r (i+1)
 | _,_,_=>False
theorem Mm.eq{g:Gh}{st:St}{n:Ln}{k:K}{F F':Nat->Prop}{v:Value}(h:Mm g st w n k F v)(e:∀ b,F b↔F' b):Mm g st w n k F' v:=by
 have:F=F':=funext fun b=>propext (e b)
 rw[<- this]; exact h
theorem fP.eq{g:Gh}{st:St}{F F':Nat->Nat->Prop}:∀(l:List Ln) (r:List (K×Value)) (i:Nat),(∀ m b,i<=m->m<i+l.length->(F m b↔F' m b))->fP g st w F l r i->fP g st w F' l r i
 | [],[],_,_,_=>trivial
 | n::l,p::r,i,e,h=>⟨h.1.eq fun b=>e i b (oR _) (by simp),fP.eq l r (i+1) (fun m b h1 h2=>e m b (by omega) (by simp only[aeF]; omega)) h.2⟩
 | [],_::_,_,_,h=>h.elim
 | _::_,[],_,_,h=>h.elim
theorem fP.len{g:Gh}{st:St}{F:Nat->Nat->Prop}:∀(l:List Ln) (r:List (K×Value)) (i:Nat),fP g st w F l r i->l.length=r.length
 | [],[],_,_=>rfl
 | n::l,p::r,i,h=>aeU (· + 1) (fP.len l r (i+1) h.2)
 | [],_::_,_,h=>h.elim
 | _::_,[],_,h=>h.elim
theorem fP.app{g:Gh}{st:St}{F:Nat->Nat->Prop}:∀(l l':List Ln) (r r':List (K×Value)) (i:Nat),fP g st w F l r i->fP g st w F l' r' (i+l.length)->fP g st w F (l++l') (r++r') i
 | [],_,[],_,_,_,h=>h
 | n::l,l',p::r,r',i,h,h'=>⟨h.1,fP.app l l' r r' (i+1) h.2 (by rw[show i+1+l.length=i+(n::l).length by simp; omega]; exact h')⟩
 | [],_,_::_,_,_,h,_=>h.elim
 | _::_,_,[],_,_,h,_=>h.elim
theorem l9{g:Gh}{st:St}(h:Rel cx Z g st a w):∀(ks:List K) (l:List AV) (cs:List Value) (i:Nat) (ns:List Ln) (y:Tl ks),aU Z g st w l cs->st.nU ks l=some (ns,y) ->
 ns.length=bD ks/\∃ F:Nat->Nat->Prop,aV true Z w F ks y cs i/\fP g st w F ns (Ff ks cs) i/\∀ m b,F m b->i<=m/\m<i+bD ks
 | [],[],[],i,ns,y,_,hl=>by simp only[St.nU,aen,aeT]at hl;obtain⟨rfl,_⟩:=hl;exact⟨rfl,fun _ _=>False,trivial,trivial,fun _ _ h=>h.elim⟩
 | [],[],_::_,_,_,_,h1,_=>h1.elim
 | [],_::_,_,_,_,_,_,hl=>by simp[St.nU]at hl
 | _::_,[],_,_,_,_,_,hl=>by simp[St.nU]at hl
 | _::_,_::_,[],_,_,_,h1,_=>h1.elim
 | .sl e ks'::ks,av::l,v::vs,i,ns,y,h1,hl=>by
   simp only[St.nU]at hl;split at hl
   . rename_i p q hp hq;cases hl;obtain⟨F1,k1,k2⟩:=Jj h h1.1 hp;obtain⟨hlen,F,m1,m2,m3⟩:=l9 h ks l vs (i+1) q.1 q.2 h1.2 hq;have hs:∀ m b,(i+1<=m)->(((m=i/\F1 b)∨F m b)↔F m b):=fun m b hm=>⟨fun hh=>hh.elim (fun h=>by omega) id,.inr⟩
     refine⟨by simp[bD,hlen],fun m b=>(m=i/\F1 b)∨F m b,⟨cO.frame _ _ _ _ _ (fun b hb=> .inl ⟨rfl,hb⟩) (fun _ _ _=>rfl) k1,aV.mono (fun m b hb=> .inr hb) _ _ _ _ m1⟩,⟨k2.eq fun b=>⟨fun hb=> .inl ⟨rfl,hb⟩,fun hb=>hb.elim (fun h=>h.2) fun hb=>by have:=(m3 i b hb).1; omega⟩,?_⟩,fun m b hb => ?_⟩
     . exact fP.eq _ _ _ (fun m b h1 _=>(hs m b h1).symm) m2
     . simp only[bD];rcases hb with hb | hb
       . omega
       . have:=m3 m b hb; omega
   . simp at hl
 | .int k::ks,av::l,v::vs,i,ns,y,h1,hl=>by
   simp only[St.nU]at hl;split at hl
   . rename_i x q hx hf hq;cases hl;obtain⟨hlen,F,m1,m2,m3⟩:=l9 h ks l vs i q.1 q.2 h1.2 hq;exact⟨hlen,F,⟨bV h h1.1 hf hx,m1⟩,m2,m3⟩
   . simp at hl
 | .bool::ks,av::l,v::vs,i,ns,y,h1,hl=>by
   simp only[St.nU]at hl;split at hl
   . rename_i x q hx hf hq;cases hl;obtain⟨hlen,F,m1,m2,m3⟩:=l9 h ks l vs i q.1 q.2 h1.2 hq;exact⟨hlen,F,⟨bV h h1.1 hf hx,m1⟩,m2,m3⟩
   . simp at hl
 | .str::ks,av::l,v::vs,i,ns,y,h1,hl=>by
   simp only[St.nU]at hl;split at hl
   . rename_i x q hx hf hq;cases hl;obtain⟨hlen,F,m1,m2,m3⟩:=l9 h ks l vs i q.1 q.2 h1.2 hq;exact⟨hlen,F,⟨bV h h1.1 hf hx,m1⟩,m2,m3⟩
   . simp at hl
theorem mR{g:Gh}{st:St}(h:Rel cx Z g st a w){Z':Nat->Prop}(hz0:∀ b,Z b->b<w.heap.size->Z' b)(hb0:∀ r R,look st.rt r=some R->R.box=true->Z' (g.be r)):∀(ps:List PK) (l:List TV) (vs:List Value) (i:Nat) (ns:List Ln) (x:PT ps),fy Z g st w l vs->st.bR ps l=some (ns,x) ->
 ∃ F:Nat->Nat->Prop,dv Z' w F ps x vs i/\fP g st w F ns (yU ps vs) i/\∀ m b,F m b->i<=m/\m<i+ns.length
 | [],[],[],i,ns,x,_,hl=>by simp only[St.bR,aen,aeT]at hl;obtain⟨rfl,_⟩:=hl;exact⟨fun _ _=>False,trivial,trivial,fun _ _ h=>h.elim⟩
 | [],[],_::_,_,_,_,h1,_=>h1.elim
 | [],_::_,_,_,_,_,_,hl=>by simp[St.bR]at hl
 | .c _ _::_,[],_,_,_,_,_,hl=>by simp[St.bR]at hl
 | .fn _ _::_,[],_,_,_,_,_,hl=>by simp[St.bR]at hl
 | .io _ _::_,[],_,_,_,_,_,hl=>by simp[St.bR]at hl
 | .mv _::_,[],_,_,_,_,_,hl=>by simp[St.bR]at hl
 | .mv _::_,_::_,_,_,_,_,_,hl=>by simp[St.bR]at hl
 | .pt _::_,[],_,_,_,_,_,hl=>by simp[St.bR]at hl
 | .nil::_,[],_,_,_,_,_,hl=>by simp[St.bR]at hl
 | .nil::_,_::_,_,_,_,_,_,hl=>by simp[St.bR]at hl
 | .pt _::_,_::_,_,_,_,_,_,hl=>by simp[St.bR]at hl
 | .c _ _::_,_::_,[],_,_,_,h1,_=>h1.elim
 | .fn _ _::_,_::_,[],_,_,_,h1,_=>h1.elim
 | .io _ _::_,_::_,[],_,_,_,h1,_=>h1.elim
 | .c gg ks::ps,tv::r,v::vs,i,ns,x,h1,hl=>by
   unfold St.bR at hl;cases hl2:tv.cH with
   | none=>rw[hl2]at hl; simp at hl
   | some p =>
     obtain⟨gg',l⟩:=p;rw[hl2]at hl;simp only at hl;cases hb:bS gg gg'&&l.all AV.bE with
     | false=>rw[hb]at hl; simp at hl
     | true =>
       rw[hb]at hl;simp only[oT]at hl;simp only[aeo]at hb;have hg:=dL hb.1;subst hg;split at hl
       . rename_i z q hz hq;cases hl;obtain⟨us,e1,e2⟩:=gD (ki h1.1 hl2);obtain⟨F,k1,k2,k3⟩:=mR h hz0 hb0 ps r vs i q.1 q.2 h1.2 hq;exact⟨F,⟨⟨us,e1,qc.bL hz0 ks z us (cT h ks l us z e2 hb.2 hz)⟩,k1⟩,k2,k3⟩
       . simp at hl
 | .fn f cs::ps,tv::r,v::vs,i,ns,x,h1,hl=>by
   cases tv with
   | fn f' caps =>
     unfold St.bR at hl;cases hb:Nat.beq f f' with
     | false=>rw[hb]at hl; simp at hl
     | true =>
       rw[hb]at hl;simp only[oT]at hl;have hf:=beq_eq hb;subst hf;split at hl
       . rename_i z q hz hq;cases hl;obtain⟨us,e1,e2⟩:=h1.1;obtain⟨F,k1,k2,k3⟩:=mR h hz0 hb0 ps r vs i q.1 q.2 h1.2 hq;exact⟨F,⟨⟨us,e1,lM h hz0 (fun _=>hb0) cs caps us.toList z e2 hz⟩,k1⟩,k2,k3⟩
       . simp at hl
   | _=>simp[St.bR]at hl
 | .io gg ks::ps,tv::r,v::vs,i,ns,x,h1,hl=>by
   unfold St.bR at hl;cases hl2:tv.cH with
   | none=>rw[hl2]at hl; simp at hl
   | some p =>
     obtain⟨gg',l⟩:=p;rw[hl2]at hl;simp only at hl;cases hb:bS gg gg' with
     | false=>rw[hb]at hl; simp at hl
     | true =>
       rw[hb]at hl;simp only[oT]at hl;have hg:=dL hb;subst hg;split at hl
       . rename_i p q hp hq;cases hl;obtain⟨us,e1,e2⟩:=gD (ki h1.1 hl2);obtain⟨hlen,F1,m1,m2,m3⟩:=l9 h ks l us i p.1 p.2 e2 hp;obtain⟨F,k1,k2,k3⟩:=mR h hz0 hb0 ps r vs (i+bD ks) q.1 q.2 h1.2 hq;refine⟨fun m b=>F1 m b∨F m b,⟨⟨us,e1,aV.mono (fun m b hb=> .inl hb) _ _ _ _ (aV.bL hz0 _ _ _ _ m1)⟩,dv.mono (fun m b hb=> .inr hb) _ _ _ _ k1⟩,?_,fun m b hb => ?_⟩
         . simp only[yU,e1.eq];refine fP.app _ _ _ _ _ (fP.eq _ _ _ (fun m b hm1 hm2=>⟨.inl,fun hh=>hh.elim id fun hh=>by have:=(k3 m b hh).1; omega⟩) m2) ?_;rw[hlen];exact fP.eq _ _ _ (fun m b hm1 hm2=>⟨.inr,fun hh=>hh.elim (fun hh=>by have:=(m3 m b hh).2; omega) id⟩) k2
         . simp only[aep,hlen];rcases hb with hb | hb
           . have:=m3 m b hb; omega
           . have:=k3 m b hb; omega
       . simp at hl
def jy(w':World)(G:Nat->Nat->Prop):List ((k:K)×T k)->List (K×Value)->Nat->Prop
 | [],[],_=>True
 | y::l,p::r,i=>(y.1=p.1/\cO w' y.1 y.2 p.2 (G i))/\jy w' G l r (i+1)
 | _,_,_=>False
theorem jy.app{w':World}{G:Nat->Nat->Prop}:∀(l l':List ((k:K)×T k)) (r r':List (K×Value)) (i:Nat),jy w' G l r i->jy w' G l' r' (i+l.length)->jy w' G (l++l') (r++r') i
 | [],_,[],_,_,_,h=>h
 | n::l,l',p::r,r',i,h,h'=>⟨h.1,jy.app l l' r r' (i+1) h.2 (by rw[show i+1+l.length=i+(n::l).length by simp; omega]; exact h')⟩
 | [],_,_::_,_,_,h,_=>h.elim
 | _::_,_,[],_,_,h,_=>h.elim
theorem kB:∀(ks:List K) (y:Tl ks),(xv ks y).length=bD ks
 | [],_=>rfl
 | .sl _ _::ks,x=>aeU (· + 1) (kB ks x.2)
 | .int _::ks,x=>kB ks x.2
 | .bool::ks,x=>kB ks x.2
 | .str::ks,x=>kB ks x.2
theorem kA{Z':Nat->Prop}{w':World}{G:Nat->Nat->Prop}:∀(ks:List K) (y:Tl ks) (cs:List Value) (i:Nat),aV true Z' w' G ks y cs i->jy w' G (xv ks y) (Ff ks cs) i
 | [],_,[],_,_=>trivial
 | .sl e ks'::ks,y,v::vs,i,h=>⟨⟨rfl,h.1⟩,kA ks y.2 vs (i+1) h.2⟩
 | .int _::ks,y,v::vs,i,h=>kA ks y.2 vs i h.2
 | .bool::ks,y,v::vs,i,h=>kA ks y.2 vs i h.2
 | .str::ks,y,v::vs,i,h=>kA ks y.2 vs i h.2
 | [],_,_::_,_,h=>h.elim
 | .sl _ _::_,_,[],_,h=>h.elim
 | .int _::_,_,[],_,h=>h.elim
 | .bool::_,_,[],_,h=>h.elim
 | .str::_,_,[],_,h=>h.elim
def Aq:List PK->Bool
 | []=>true
 | .mv _::_=>false
 | .pw _::_=>false
 | .c _ _::ps=>Aq ps
 | .pt _::ps=>Aq ps
 | .nil::ps=>Aq ps
 | .fn _ _::ps=>Aq ps
 | .io _ _::ps=>Aq ps
theorem oW{Z':Nat->Prop}{w':World}{G:Nat->Nat->Prop}:∀(ps:List PK) (y:rm ps) (vs:List Value) (i:Nat),Aq ps=true->vs.length=ps.length->tV Z' w' G ps y vs i->jy w' G (j4 ps y) (yU ps vs) i
 | [],_,[],_,_,_,_=>trivial
 | .c _ _::ps,y,v::vs,i,hn,hl,h=>oW ps y vs i hn (by simpa using hl) h
 | .pt _::ps,y,v::vs,i,hn,hl,h=>oW ps y vs i hn (by simpa using hl) h
 | .nil::ps,y,v::vs,i,hn,hl,h=>oW ps y vs i hn (by simpa using hl) h
 | .fn _ _::ps,y,v::vs,i,hn,hl,h=>oW ps y vs i hn (by simpa using hl) h
 | .mv _::ps,y,v::vs,i,hn,hl,h=>by simp[Aq]at hn
 | .pw _::ps,y,v::vs,i,hn,hl,h=>by simp[Aq]at hn
 | .pw _::ps,y,[],i,hn,hl,h=>h.elim
 | .io gg ks::ps,y,v::vs,i,hn,hl,⟨⟨cs,e,h⟩,h'⟩=>by simp only[yU,j4,e.eq];exact jy.app _ _ _ _ _ (kA ks y.1 cs i h) (by rw[kB]; exact oW ps y.2 vs _ hn (by simpa using hl) h')
 | [],_,_::_,_,_,hl,_=>by simp at hl
 | .c _ _::ps,y,[],i,hn,hl,h=>h.elim
 | .pt _::ps,y,[],i,hn,hl,h=>h.elim
 | .nil::ps,y,[],i,hn,hl,h=>h.elim
 | .fn _ _::ps,y,[],i,hn,hl,h=>h.elim
 | .io _ _::ps,y,[],i,hn,hl,h=>h.elim
 | .mv _::ps,y,[],i,hn,hl,h=>h.elim
theorem lK{st:St}:∀(ps:List PK) (l:List TV) (q:List Ln×PT ps),st.bR ps l=some q->Aq ps=true
 | [],_,_,_=>rfl
 | .c gg ks::ps,[],q,h=>by simp[St.bR]at h
 | .fn _ _::ps,[],q,h=>by simp[St.bR]at h
 | .io _ _::ps,[],q,h=>by simp[St.bR]at h
 | .mv _::ps,[],q,h=>by simp[St.bR]at h
 | .mv _::ps,_::_,q,h=>by simp[St.bR]at h
 | .pw _::ps,[],q,h=>by simp[St.bR]at h
 | .pw _::ps,_::_,q,h=>by simp[St.bR]at h
 | .pt _::ps,[],q,h=>by simp[St.bR]at h
 | .nil::ps,[],q,h=>by simp[St.bR]at h
 | .nil::ps,_::_,q,h=>by simp[St.bR]at h
 | .pt _::ps,_::_,q,h=>by simp[St.bR]at h
 | .c gg ks::ps,tv::r,q,h=>by
   unfold St.bR at h;split at h
   . rename_i g' l hl;cases hb:bS gg g'&&l.all AV.bE with
     | false=>rw[hb]at h; simp at h
     | true =>
       rw[hb]at h;simp only[oT]at h;split at h
       . rename_i y hx hy; exact lK ps r _ hy
       . simp at h
   . simp at h
 | .fn f cs::ps,tv::r,q,h=>by
   cases tv with
   | fn f' caps =>
     unfold St.bR at h;cases hb:Nat.beq f f' with
     | false=>rw[hb]at h; simp at h
     | true =>
       rw[hb]at h;simp only[oT]at h;split at h
       . rename_i y hx hy; exact lK ps r _ hy
       . simp at h
   | _=>simp[St.bR]at h
 | .io gg ks::ps,tv::r,q,h=>by
   unfold St.bR at h;split at h
   . rename_i g' l hl;cases hb:bS gg g' with
     | false=>rw[hb]at h; simp at h
     | true =>
       rw[hb]at h;simp only[oT]at h;split at h
       . rename_i y hx hy; exact lK ps r _ hy
       . simp at h
   . simp at h
def H9(g:Gh)(st:St)(w w':World)(F G:Nat->Nat->Prop):List (Nat×Nat×RC)->Nat->Prop
 | [],_=>True
 | (r,j,c)::l,i=>(FK g st w w' r j c (F i) (G i)/\∀ b,F i b->g.fp r j b)/\H9 g st w w' F G l (i+1)
theorem zj{g:Gh}{st:St}{w':World}{F G:Nat->Nat->Prop} :
 ∀(ns:List Ln) (ys:List ((k:K)×T k)) (kv:List (K×Value)) (i:Nat) (qs:List (Nat×Nat×RC)),st.rS ns ys=some qs->fP g st w F ns kv i->jy w' G ys kv i ->
  (∀ m n,ns[m]? = some n->(∀ q,G (i+m) q->g.fp n.r n.j q->F (i+m) q)/\∀ q,q<w.heap.size->g.fp n.r n.j q->¬ F (i+m) q->w'.heap[q]? = w.heap[q]?) ->
  H9 g st w w' F G qs i/\qs.map (fun q=>(q.1,q.2.1))=ns.map fun n=>(n.r,n.j)
 | [],[],[],i,qs,hb,_,_,_=>by simp only[St.rS,aen]at hb;subst hb;exact⟨trivial,rfl⟩
 | n::ns,y::ys,p::kv,i,qs,hb,hL,hP,hh=>by
   simp only[St.rS]at hb;split at hb
   . rename_i c q hc hq;simp only[aen]at hb;subst hb;obtain⟨k1,k2⟩:=zj ns ys kv (i+1) q hq hL.2 hP.2 fun m n' hm=>by
      have:=hh (m+1) n' (by simpa using hm);rw[show i+(m+1)=i+1+m by omega]at this;exact this
     obtain⟨h1,h2⟩:=hh 0 n rfl;obtain⟨k0,y0⟩:=y;obtain⟨kp,v⟩:=p;obtain⟨⟨e1,e2⟩,_⟩:=hP;simp only at e1 e2;subst e1;exact⟨⟨⟨hL.1.back w' y0 (G i) c hc e2 h1 h2,hL.1.sub⟩,k1⟩,by simp[k2]⟩
   . simp at hb
 | [],[],_::_,_,_,_,h,_,_=>h.elim
 | [],_::_,_,_,_,hb,_,_,_=>by simp[St.rS]at hb
 | _::_,[],_,_,_,hb,_,_,_=>by simp[St.rS]at hb
 | _::_,_::_,[],_,_,_,h,_,_=>h.elim
def kS(g:Gh)(F G:Nat->Nat->Prop):List (Nat×Nat×RC)->Nat->QT
 | [],_=>fun _ _=>none
 | (r,j,c)::l,i=>fun r' j'=>if r=r'/\j=j' then some (c,fun b=>(g.fp r j b/\¬ F i b)∨G i b)else kS g F G l (i+1) r' j'
theorem eu{g:Gh}{F G:Nat->Nat->Prop}:∀(q:List (Nat×Nat×RC)) (i:Nat) (r j:Nat) (p:RC×(Nat->Prop)),kS g F G q i r j=some p->∃ m,q[m]? = some (r,j,p.1)/\p.2=fun b=>(g.fp r j b/\¬ F (i+m) b)∨G (i+m) b
 | [],_,_,_,_,h=>by simp[kS]at h
 | (r0,j0,c)::l,i,r,j,p,h=>by
   simp only[kS]at h;split at h
   . rename_i e;obtain⟨rfl,rfl⟩:=e;simp only[aen]at h;subst h;exact⟨0,rfl,rfl⟩
   . obtain⟨m,h1,h2⟩:=eu l (i+1) r j p h;exact⟨m+1,h1,by rw[h2,show i+1+m=i+(m+1)by omega]⟩
theorem sQ{g:Gh}{F G:Nat->Nat->Prop}:∀(q:List (Nat×Nat×RC)) (i m:Nat) (r j:Nat) (c:RC),q[m]? = some (r,j,c)->∃ p,kS g F G q i r j=some p
 | [],_,_,_,_,_,h=>by simp at h
 | (r0,j0,c0)::l,i,m,r,j,c,h=>by
   simp only[kS];split
   . exact⟨_,rfl⟩
   . rename_i hne;cases m with
     | zero=>simp only[aeu,aen,aeT]at h; exact absurd ⟨h.1,h.2.1⟩ hne
     | succ m=>exact sQ l (i+1) m r j c (by simpa using h)
theorem gO{g:Gh}{F G:Nat->Nat->Prop}{st:St}:∀(q:List (Nat×Nat×RC)) (i:Nat),ND st (st.setCells q) (kS g F G q i)
 | [],i=>⟨rfl,fun _=>rfl,fun _ _=>rfl,fun _ _=>rfl⟩
 | (r,j,c)::l,i=>by
   have ih:=gO (g:=g) (F:=F) (G:=G) (st:=st) l (i+1);refine⟨by simp only[St.setCells]; rw[eG]; exact ih.tm,fun r'=>by simp only[St.setCells]; rw[jz]; exact ih.shape r',fun r' j' => ?_,fun r' hr => ?_⟩
   . simp only[St.setCells];rw[cS];simp only[kS];split
     . rw[ih.cell];split
       . simp[Option.map_map];rfl
       . rfl
     . exact ih.cell r' j'
   . simp only[St.setCells];rw[ig];by_cases e:r=r'
     . have:=hr j;simp[kS,e]at this
     . rw[if_neg e];refine ih.rt r' fun j' => ?_
       have:=hr j';simp only[kS]at this;rw[if_neg (fun hh=>e hh.1)]at this;exact this
theorem H9.get{g:Gh}{st:St}{w w':World}{F G:Nat->Nat->Prop}:∀(q:List (Nat×Nat×RC)) (i m:Nat) (r j:Nat) (c:RC),H9 g st w w' F G q i->q[m]? = some (r,j,c)->FK g st w w' r j c (F (i+m)) (G (i+m))/\∀ b,F (i+m) b->g.fp r j b
 | [],_,_,_,_,_,_,h=>by simp at h
 | (r0,j0,c0)::l,i,0,r,j,c,h,hq=>by simp only[aeu,aen,aeT]at hq;obtain⟨rfl,rfl,rfl⟩:=hq;exact h.1
 | (r0,j0,c0)::l,i,m+1,r,j,c,h,hq=>by have:=H9.get l (i+1) m r j c h.2 (by simpa using hq);rw[show i+1+m=i+(m+1)by omega]at this;exact this
theorem xF:∀(l:List Ln) (r j m:Nat) (n:Ln),GZ r j l=false->l[m]? = some n->¬ (n.r=r/\n.j=j)
 | [],_,_,_,_,_,h=>by simp at h
 | n0::l,r,j,m,n,h,hm=>by
   simp only[GZ,af2]at h;cases m with
   | zero => simp only[aeu,aen]at hm;subst hm;rintro⟨rfl,rfl⟩;simp at h
   | succ m=>exact xF l r j m n h.2 (by simpa using hm)
theorem sS:∀(l:List Ln) (m m':Nat) (n n':Ln),noTwo l=true->l[m]? = some n->l[m']? = some n'->n.r=n'.r->n.j=n'.j->m=m'
 | [],_,_,_,_,_,h,_,_,_=>by simp at h
 | n0::l,m,m',n,n',h,h1,h2,e1,e2=>by
   simp only[noTwo,aeo,ae8]at h;cases m with
   | zero =>
     cases m' with
     | zero=>rfl
     | succ m' => simp only[aeu,aen]at h1;subst h1;exact(xF l n0.r n0.j m' n' h.1 (by simpa using h2) ⟨e1.symm,e2.symm⟩).elim
   | succ m =>
     cases m' with
     | zero => simp only[aeu,aen]at h2;subst h2;exact(xF l n0.r n0.j m n h.1 (by simpa using h1) ⟨e1,e2⟩).elim
     | succ m'=>exact aeU (· + 1) (sS l m m' n n' h.2 (by simpa using h1) (by simpa using h2) e1 e2)
theorem fP.get{g:Gh}{st:St}{F:Nat->Nat->Prop}:∀(l:List Ln) (r:List (K×Value)) (i m:Nat) (n:Ln),fP g st w F l r i->l[m]? = some n->∀ b,F (i+m) b->g.fp n.r n.j b
 | [],_,_,_,_,_,h=>by simp at h
 | n0::l,p::r,i,0,n,h,hm=>by simp only[aeu,aen]at hm;subst hm;exact h.1.sub
 | n0::l,p::r,i,m+1,n,h,hm=>by have:=fP.get l r (i+1) m n h.2 (by simpa using hm);rw[show i+1+m=i+(m+1)by omega]at this;exact this
 | _::_,[],_,_,_,h,_=>h.elim
theorem u0{st:St}{dst:Option Nat}{tvs:List TV}:∀ {l:List Su} {st':St},(st.nL dst l tvs).run=some st'->∃ s ns x z y tv q,s∈l/\(kb s.rs=false/\s.fresh=true)/\noTwo ns=true/\st.bR s.ps tvs=some (ns,x)/\s.sO x=some (z,y)/\hU (pT 0 true s.rs y 0)=some tv/\st.rS ns (j4 s.ps z)=some q/\st'=(st.setCells q).Ck dst tv
 | [],st',h=>by simp[St.nL,Tr.run]at h
 | s::r,st',h=>by
   have again:(st.nL dst r tvs).run=some st'->∃ s' ns x z y tv q,s'∈s::r/\(kb s'.rs=false/\s'.fresh=true)/\noTwo ns=true/\st.bR s'.ps tvs=some (ns,x)/\s'.sO x=some (z,y)/\hU (pT 0 true s'.rs y 0)=some tv/\st.rS ns (j4 s'.ps z)=some q/\st'=(st.setCells q).Ck dst tv:=fun h=>by obtain⟨s',ns,x,z,y,tv,q,h1,h2⟩:=u0 h;exact⟨s',ns,x,z,y,tv,q,aeB _ h1,h2⟩
   unfold St.nL at h;cases hq:kb s.rs|| !s.fresh with
   | true=>rw[hq]at h; exact again h
   | false =>
     rw[hq]at h;simp only[oF]at h;simp only[af2,aha]at hq;split at h
     . rename_i ns x hx;split at h
       . rename_i f hf;cases hn:noTwo ns with
         | false=>rw[hn]at h; simp[Tr.run]at h
         | true => rw[hn]at h;simp only[oT,Tr.run,afF]at h;obtain⟨⟨z,y⟩,h0,h⟩:=h;obtain⟨tv,h1,h⟩:=Tr.af h;obtain⟨q,h2,h⟩:=Tr.af h;simp only[Tr.run,aen]at h;exact⟨s,ns,x,z,y,tv,q,aeI ..,hq,hn,hx,by simp[Su.sO,hf,h0],h1,h2,h.symm⟩
       . simp[Tr.run]at h
     . exact again h
theorem Nq(hga:cZ P E){g:Gh}{st:St}(h:Rel cx Z g st a w)(hn:ch st)(hsz:Fit cx E a){o:Oper}{dst:Option Nat}(hdn:∀ d,dst=some d->jw cx a d)(hd:o.dst=dst){c:Call}{f:Operand}{gid:Nat}{caps:List (Bool×List AV)}{l:List TV}
 (ho:o.op= .call c)(hcal:c.callee= .value f)(hg:st.get f=some (.fn gid caps))(hl:st.getAll c.args.toList=some l){st':St}
 (hrun:(st.nL dst (E.ga gid) (l++caps.map fun p=>bif p.1 then .agg p.2 else (match p.2 with | [a]=> .v a | _=> .agg p.2))).run=some st'):nN P cx E st' a w o:=by
 have hc:=hn.cons.cons;obtain⟨s,ns,x,z,y,tv,q,hs,⟨hsl,hfr⟩,hnt,hx,hy,hw,hq,rfl⟩:=u0 hrun;obtain⟨cv,ef,ec⟩:=aX h hc hg;have hrel:=fy.app (iB h hc _ _ hl) (km _ _ ec);have hvs:c.args.toList.map a.eval++cv.toList=(c.args.map a.eval++cv).toList:=by simp
 rw[hvs]at hrel;obtain⟨F,k1,k2,k3⟩:=mR h (Z':=Zb Z g st) (fun _ h _=> .inl h) (fun r R hR hb=> .inr ⟨r,R,hR,hb,rfl⟩) s.ps _ _ 0 ns x hrel hx;have hin:∀ i b,F i b->∃ n,ns[i]? = some n/\g.fp n.r n.j b:=fun i b hb=>by
  have hlt:i<ns.length:=by have:=(k3 i b hb).2; omega
  have:=fP.get ns _ 0 i _ k2 (aeq hlt) b (by rw[aex]; exact hb);exact⟨_,aeq hlt,this⟩
 have hdis:∀ i j b,F i b->F j b->i=j:=fun i j b h1 h2=>by obtain⟨n1,q1,q2⟩:=hin i b h1;obtain⟨n2,q3,q4⟩:=hin j b h2;obtain⟨e1,e2⟩:=h.disj _ _ _ _ b q2 q4;exact sS ns i j n1 n2 hnt q1 q3 e1 e2
 have hsu:=hga.1 gid s hs w (Zb Z g st) F _ x (z,y) (h.gl.mono (oR _) fun b hb _=>⟨.inl hb,rfl⟩) k1 (So h) (fun i b hb=>by obtain⟨n,_,q2⟩:=hin i b hb; exact⟨(h.fp _ _ _ q2).1,RR h q2⟩) hdis hy;have htv:¬ tv.gJ:=lJ hw;have hnm:ch ((st.setCells q).Ck dst tv):=fun t tv' ht=>by
  cases dst with
  | none => have e:(st.setCells q).tm=st.tm:=(gO (g:=g) (F:=F) (G:=F) q 0).tm;exact hn t tv' (by rw[<- e]; exact ht)
  | some d =>
    have e:(st.setCells q).tm=st.tm:=(gO (g:=g) (F:=F) (G:=F) q 0).tm;simp only[St.Ck]at ht;rw[bY]at ht;split at ht
    . simp only[aen]at ht; subst ht; exact htv
    . exact hn t tv' (by rw[<- e]; exact ht)
 refine⟨hnm,fun next Q hk => ?_⟩;unfold Oper.wp;rw[oq ho hcal ef];refine sH hsu ?_;rintro v w' ⟨Z',H,vs,rfl,ha,hio,hr⟩;have hlen:(c.args.map a.eval++cv).toList.length=s.ps.length:=gF _ _ _ _ k1;have hpost:=oW s.ps z _ 0 (lK s.ps _ _ hx) hlen hio;have hgsub:∀ i b,H (2 * i) b->(∃ m,F m b)∨w.heap.size<=b:=fun i b hb=>(ha.fp _ b hb).2.2
 have hsame:∀(m:Nat) (n:Ln),ns[m]? = some n->∀ b i,F i b->g.fp n.r n.j b->i=m:=fun m n hm b i hi hb=>by obtain⟨n1,q1,q2⟩:=hin i b hi;obtain⟨e1,e2⟩:=h.disj _ _ _ _ b q2 hb;exact sS ns i m n1 n hnt q1 hm e1 e2
 rw[hfr]at hr;obtain⟨hQ,hnames⟩:=zj (w:=w) (w':=w') (F:=F) (G:=fun i=>H (2 * i)) ns _ _ 0 q hq k2 hpost fun m n hm=>by
  rw[aex];refine⟨fun b hb hfb => ?_,fun b hlt hfb hnF=>ha.block b hlt fun i hi => ?_⟩
  . rcases hgsub m b hb with ⟨i,hi⟩ | hnew
    . have:=hsame m n hm b i hi hfb;rw[<- this]; exact hi
    . have:=(h.fp _ _ _ hfb).1;omega
  . have:=hsame m n hm b i hi hfb;exact hnF (this ▸ hi)
 have hname:∀(m r j:Nat) (c':RC),q[m]? = some (r,j,c')->∃ n:Ln,ns[m]? = some n/\n.r=r/\n.j=j:=fun m r j c' hm=>by
  have h1:(q.map (fun q=>(q.1,q.2.1)))[m]? = some (r,j):=by rw[ae2,hm]; rfl
  rw[hnames,ae2]at h1;cases hm2:ns[m]? with
  | none=>rw[hm2]at h1; simp at h1
  | some n => rw[hm2]at h1;simp only[aeM,aen,aeT]at h1;exact⟨n,rfl,h1.1,h1.2⟩
 have hnameB:∀(m:Nat) (n:Ln),ns[m]? = some n->∃ p,kS g F (fun i=>H (2 * i)) q 0 n.r n.j=some p:=fun m n hm=>by
  have h1:(ns.map fun n=>(n.r,n.j))[m]? = some (n.r,n.j):=by rw[ae2,hm]; rfl
  rw[<- hnames,ae2]at h1;cases hm2:q[m]? with
  | none=>rw[hm2]at h1; simp at h1
  | some c' => obtain⟨r1,j1,c1⟩:=c';rw[hm2]at h1;simp only[aeM,aen,aeT]at h1;obtain⟨rfl,rfl⟩:=h1;exact sQ q 0 m _ _ c1 hm2
 have hlent:=gO (g:=g) (F:=F) (G:=fun i=>H (2 * i)) (st:=st) q 0
 obtain⟨hR,hM⟩:=h.sy hlent ha.os ha.tape ha.output ha.size
  (fun r j p hp=>by obtain⟨m,e1,e2⟩:=eu q 0 r j p hp;obtain⟨⟨c0,e,ks,xs,xs',f1,f2,f3,f4,f5,f6,f7⟩,_⟩:=H9.get q 0 m r j p.1 hQ e1;exact⟨c0,f1,f2,f3,e,ks,xs,xs',f4,f5,f6,by rw[e2]; exact f7⟩)
  (fun r j p hp b hb=>by
    obtain⟨m,e1,e2⟩:=eu q 0 r j p hp;rw[e2]at hb;rcases hb with ⟨hb,_⟩ | hb
    . obtain⟨t1,t2,t3,_⟩:=h.fp r j b hb;exact⟨aeK t1 ha.size,.inl ⟨r,j,p,hp,hb⟩,t3⟩
    . obtain⟨t1,t2,t3⟩:=ha.fp _ b hb;refine⟨t1,?_,fun hz=>t2 (ha.z b (.inl hz))⟩;rcases t3 with ⟨i,hi⟩ | hnew
      . obtain⟨n,q1,q2⟩:=hin i b hi;obtain⟨p0,hp0⟩:=hnameB i n q1;exact .inl ⟨n.r,n.j,p0,hp0,q2⟩
      . exact .inr hnew)
  (fun r j p r' j' p' b hp hp' hb hb'=>by
    obtain⟨m,e1,e2⟩:=eu q 0 r j p hp;obtain⟨m',e1',e2'⟩:=eu q 0 r' j' p' hp';rw[e2]at hb;rw[e2']at hb';rw[aex]at hb hb';have cross:∀ m r j c1 i,q[m]? = some (r,j,c1)->g.fp r j b->¬ F m b->H (2 * i) b->False:=fun m r j c1 i e1 k1 k2 k3=>by
     obtain⟨n,t1,t2,t3⟩:=hname m r j c1 e1;rcases hgsub i b k3 with ⟨i',hi'⟩ | hnew
     . have:=hsame m n t1 b i' hi' (by rw[t2,t3]; exact k1);exact k2 (this ▸ hi')
     . have:=(h.fp _ _ _ k1).1; omega
    rcases hb with ⟨hb,hb2⟩ | hb
    . rcases hb' with ⟨hb',_⟩ | hb'
      . exact h.disj _ _ _ _ b hb hb'
      . exact(cross m r j _ m' e1 hb hb2 hb').elim
    . rcases hb' with ⟨hb',hb2'⟩ | hb'
      . exact(cross m' r' j' _ m e1' hb' hb2' hb).elim
      . have:=ha.disj _ _ b hb hb';have hmm:m=m':=by omega
        subst hmm;rw[e1]at e1';simp only[aen,aeT]at e1';exact⟨e1'.1,e1'.2.1⟩)
  (fun b hlt hnl=>ha.block b hlt fun i hi=>by obtain⟨n,q1,q2⟩:=hin i b hi;obtain⟨p0,hp0⟩:=hnameB i n q1;exact hnl _ _ p0 hp0 q2)
 rw[hd];cases dst with
 | none=>exact hk _ _ _ _ hR hsz
 | some d=>exact hk _ _ _ _ (hR.mm (hdn d rfl) (ft (kr _ _ _ _ hr (fun hh=>by simp at hh) (fun _=>hsl)) hw)) (hsz.put _ _)
end
section
variable{P:Program}{cx:Cx P}{Z Z2:Nat->Prop}{g:Gh}{st st':St}{a:Act}{w w':World}{E:En}
def Gh.B0(g:Gh)(r:Nat)(cv:Nat->Value)(fp:Nat->Nat->Prop):Gh:=⟨g.be,fun r' j=>if r'=r then cv j else g.cv r' j,fun r' j b=>if r'=r then fp j b else g.fp r' j b⟩
theorem Rel.yr(h:Rel cx Z g st a w){r:Nat}{R:Rt}(hR:look st.rt r=some R)(hb:R.box=true):g.be r<w.heap.size:=by obtain⟨_,_,_,_,cs,el,fr,b5,_⟩:=h.box r R hR hb;exact(aeP.1 b5).1
theorem Rel.XR(h:Rel cx Z g st a w){r:Nat}{R R':Rt}{cv:Nat->Value}{fp:Nat->Nat->Prop}(hR:look st.rt r=some R)(hb:R.box=true)(hb':R'.box=true)(hlen:R'.cells.length=R.cells.length)(htm:st'.tm=st.tm)
 (hrt:∀ r',look st'.rt r'=if r'=r then some R' else look st.rt r')(h1:w'.os=w.os)(h2:w'.tape=w.tape)(h3:w'.output=w.output)(hsz:w.heap.size<=w'.heap.size)
 (hver:∀(j:Nat) (c c':RC),R.cells[j]? = some c->R'.cells[j]? = some c'->c.s<c'.s/\c.m<c'.m)
 (hz:∀ b,Z b->Z2 b)(hz2:∀ b,Z2 b->b<w'.heap.size/\(Z b∨w.heap.size<=b))
 (hcells:∃ vs e fr,w'.heap[g.be r]? = some (.cells vs e fr)/\(∀ q,q<vs.size->¬ (fr.1<=q/\q<fr.2))/\vs.size=R'.cells.length/\∀ j,j<vs.size->vs[j]? = some (cv j))
 (hcell:∀(j:Nat) (c':RC),R'.cells[j]? = some c'->match c'.v with | RV.own k x=>cO w' k x (cv j) (fp j) | .av (.d k x)=>RO Z2 w' k x (cv j) | .av _=>False)
 (hF:∀ j b,fp j b->b<w'.heap.size/\((∃ j0,g.fp r j0 b)∨w.heap.size<=b)/\¬ Z2 b/\b≠g.be r/\∃(c':RC) (k:K) (x:T k),R'.cells[j]? = some c'/\c'.v=RV.own k x)
 (hd:∀ j j' b,fp j b->fp j' b->j=j')
 (hblk:∀ b,b<w.heap.size->b≠g.be r->(∀ j,¬ g.fp r j b)->w'.heap[b]? = w.heap[b]?):Rel cx Z2 (g.B0 r cv fp) st' a w':=by
 have hbe:=h.yr hR hb;obtain⟨c1,c2,c3,c4,_⟩:=h.box r R hR hb;have hzn:∀ b,b<w.heap.size->Z2 b->Z b:=fun b hlt hh=>(hz2 b hh).2.elim id fun hh=>by omega
 have hzw:∀ b,Z b->b<w.heap.size->w'.heap[b]? = w.heap[b]? := fun b hb hlt=>hblk b hlt (fun e=>c2 (e ▸ hb)) fun j hh=>(h.fp _ _ _ hh).2.2.1 hb
 have hfpo:∀ r' j b,r'≠r->g.fp r' j b->w'.heap[b]? = w.heap[b]? := fun r' j b hn hb'=>hblk b (h.fp r' j b hb').1 (fun e=>c3 r' j (e ▸ hb')) fun j0 hh=>hn (h.disj _ _ _ _ _ hb' hh).1
 have hcellr:∀ r' j,st'.cell r' j=if r'=r then R'.cells[j]? else st.cell r' j:=fun r' j=>by simp only[St.cell,hrt];by_cases e:r'=r <;> simp[e]
 have hcr:∀ j,st.cell r j=R.cells[j]? := fun j=>by simp only[St.cell,hR]
 have k:mA Z Z2 w w' g (g.B0 r cv fp) st st':=by
  refine { size:=hsz,z:=fun b hb hlt=>⟨hz b hb,hzw b hb hlt⟩,root:=fun r' R0 hR0 => ?_,cell:=fun r' j c hc => ?_,own:=fun r' j b hb=>(h.fp r' j b hb).1,block:=(fb h (st':=st) (w':=w) rfl rfl).block }
  . rw[hrt];by_cases e:r'=r
    . subst e;rw[if_pos rfl];rw[hR]at hR0;cases hR0;exact⟨R',rfl,hb'.trans hb.symm,fun _=>rfl⟩
    . rw[if_neg e];exact⟨R0,hR0,rfl,fun _=>rfl⟩
  . rw[hcellr];by_cases e:r'=r
    . subst e;rw[if_pos rfl];rw[hcr]at hc;have hlt:j<R'.cells.length:=by rw[hlen]; exact(aeW.1 hc).1
      obtain⟨v1,v2⟩:=hver j c _ hc (aeq hlt);exact⟨_,aeq hlt,by omega,by omega,fun e=>absurd e (by omega),fun e=>absurd e (by omega),fun e=>absurd e (by omega)⟩
    . rw[if_neg e];exact⟨c,hc,oR _,oR _,fun _=>by simp only[Gh.B0]; rw[if_neg e],fun _ e ks xs hh=>⟨xs,hh,rfl⟩,fun _ _=>⟨rfl,fun b hb _=>⟨by simp only[Gh.B0]; rw[if_neg e]; exact hb,hfpo r' j b e hb⟩⟩⟩
 have hfpi:∀ r' j b,(g.B0 r cv fp).fp r' j b->(r'=r/\fp j b)∨(r'≠r/\g.fp r' j b):=fun r' j b hh=>by
  have hh':(if r'=r then fp j b else g.fp r' j b):=hh;by_cases e:r'=r
  . rw[if_pos e]at hh'; exact .inl ⟨e,hh'⟩
  . rw[if_neg e]at hh'; exact .inr ⟨e,hh'⟩
 have hnb:∀ r' R0,look st.rt r'=some R0->R0.box=true->∀ r1 j1,¬ (g.B0 r cv fp).fp r1 j1 (g.be r'):=fun r' R0 hR0 hx r1 j1 hh=>by
  obtain⟨d1,d2,d3,d4,_⟩:=h.box r' R0 hR0 hx;have hlt:=h.yr hR0 hx;rcases hfpi _ _ _ hh with ⟨_,hh⟩ | ⟨_,hh⟩
  . obtain⟨f1,f2,f3,f4,_⟩:=hF _ _ hh;rcases f2 with ⟨j0,f2⟩ | f2
    . exact d3 _ _ f2
    . omega
  . exact d3 _ _ hh
 refine { os:=h1.trans h.os,tape:=h2.trans h.tape,output:=h3.trans h.output,size:=aeA h.size hsz,block := ?_,bL:=fun b hb=>⟨(hz2 b hb).1,(hz2 b hb).2.elim (fun hh=>(h.bL b hh).2) fun hh=> .inr (aeA h.size hh)⟩,z0:=fun b hb hlt=>hz b (h.z0 b hb hlt),fp := ?_,disj := ?_,box := ?_,cell := ?_,tm := ?_,defers:=h.defers,pin:=h.pin }
 . intro b hlt hf;refine(hblk b (aeK hlt h.size) (fun e => ?_) fun j hh => ?_).trans (h.block b hlt hf)
   . rcases c1 with c1 | c1
     . exact hf (e ▸ c1)
     . omega
   . rcases(h.fp _ _ _ hh).2.1 with h4 | h4
     . exact hf h4
     . omega
 . intro r' j b hh;rcases hfpi _ _ _ hh with ⟨e,hk⟩ | ⟨e,hh⟩
   . subst e;obtain⟨f1,f2,f3,f4,c',kk,x,f5,f6⟩:=hF _ _ hk;refine⟨f1,?_,f3,c',kk,x,by rw[hcellr,if_pos rfl]; exact f5,f6⟩;rcases f2 with ⟨j0,f2⟩ | f2
     . exact(h.fp _ _ _ f2).2.1
     . exact .inr (aeA h.size f2)
   . obtain⟨k1,k2,k3,c,kk,x,k4,k5⟩:=h.fp _ _ _ hh;exact⟨aeK k1 hsz,k2,fun hh=>k3 (hzn b k1 hh),c,kk,x,by rw[hcellr,if_neg e]; exact k4,k5⟩
 . intro r1 j1 r2 j2 b hb1 hb2;rcases hfpi _ _ _ hb1 with ⟨e1,k1⟩ | ⟨e1,k1⟩
   . rcases hfpi _ _ _ hb2 with ⟨e2,k2⟩ | ⟨e2,k2⟩
     . exact⟨e1.trans e2.symm,hd _ _ b k1 k2⟩
     . exfalso;rcases(hF _ _ k1).2.1 with ⟨j0,hh⟩ | hh
       . exact e2 (h.disj _ _ _ _ _ k2 hh).1
       . have:=(h.fp _ _ _ k2).1; omega
   . rcases hfpi _ _ _ hb2 with ⟨e2,k2⟩ | ⟨e2,k2⟩
     . exfalso;rcases(hF _ _ k2).2.1 with ⟨j0,hh⟩ | hh
       . exact e1 (h.disj _ _ _ _ _ k1 hh).1
       . have:=(h.fp _ _ _ k1).1; omega
     . exact h.disj _ _ _ _ _ k1 k2
 . intro r' R0 hR0 hx;rw[hrt]at hR0;by_cases e:r'=r
   . subst e;rw[if_pos rfl]at hR0;cases hR0;obtain⟨vs,el,fr,w1,w2,w3,w4⟩:=hcells;refine⟨c1,fun hh=>c2 (hzn _ hbe hh),hnb _ R hR hb,fun r1 R1 hR1 hx1 he => ?_,vs,el,fr,w1,w2,w3,fun j hj=>by rw[w4 j hj]; simp[Gh.B0]⟩;rw[hrt]at hR1;by_cases e1:r1=r'
     . exact e1
     . rw[if_neg e1]at hR1;exact c4 r1 R1 hR1 hx1 he
   . rw[if_neg e]at hR0;obtain⟨d1,d2,d3,d4,cs,el,fr,b5,b6,b7,b8⟩:=h.box r' R0 hR0 hx;have hlt:=h.yr hR0 hx;refine⟨d1,fun hh=>d2 (hzn _ hlt hh),hnb _ R0 hR0 hx,fun r1 R1 hR1 hx1 he => ?_,cs,el,fr,?_,b6,b7,fun j hj=>by rw[b8 j hj]; simp only[Gh.B0]; rw[if_neg e]⟩
     . rw[hrt]at hR1;by_cases e1:r1=r
       . subst e1;exact d4 r1 R hR hb he
       . rw[if_neg e1]at hR1;exact d4 r1 R1 hR1 hx1 he
     . show w'.heap[g.be r']? = _;rw[hblk _ hlt (fun he=>e (c4 r' R0 hR0 hx he)) fun j hh=>d3 _ _ hh];exact b5
 . intro r' j c hc;rw[hcellr]at hc;by_cases e:r'=r
   . subst e;rw[if_pos rfl]at hc;have h5:=hcell j c hc;have e1:(g.B0 r' cv fp).cv r' j=cv j:=by simp[Gh.B0]
     have e2:(g.B0 r' cv fp).fp r' j=fp j:=by funext b; simp[Gh.B0]
     rw[e1,e2];cases hv:c.v with
     | own kk x=>rw[hv]at h5; exact h5
     | av av0 => rw[hv]at h5;cases av0 <;> first | exact h5 | exact h5.elim
   . rw[if_neg e]at hc;have e1:(g.B0 r cv fp).cv r' j=g.cv r' j:=by simp[Gh.B0,e]
     have e2:(g.B0 r cv fp).fp r' j=g.fp r' j:=by funext b; simp[Gh.B0,e]
     rw[e1,e2];exact jJ.cg k _ _ _ _ (h.cell r' j c hc) (fun _ h=>h) (fun b hb _=>hfpo r' j b e hb)
 . intro t tv ht;rw[htm]at ht;exact⟨(h.tm t tv ht).1,bF.cg k _ _ (h.tm t tv ht).2⟩
end
section
variable{P:Program}{cx:Cx P}{Z:Nat->Prop}{g:Gh}{st:St}{a:Act}{w:World}{E:En}
theorem zK{cs:List (Bool×K)}{ps:List PK}{tv:TV}{r:List TV}{p:Option (Nat×List RC)×PT (.pw cs::ps)}(h:st.ca (.pw cs::ps) (tv::r)=some p) :
 ∃ q l0 z y,tv= .v (.ptr q 0)/\look st.rt q=some ⟨true,l0⟩/\l0.length<=200000/\ea st cs l0=some z/\st.ca ps r=some (none,y)/\p.1=some (q,l0)/\p.2=(z,y):=by
 cases tv with
 | v av =>
   cases av with
   | ptr q j =>
     cases j with
     | zero =>
       simp only[St.ca]at h;split at h
       . rename_i l0 hl;cases hb:Nat.ble l0.length 200000 with
         | false=>rw[hb]at h; simp at h
         | true =>
           rw[hb]at h;simp only[oT]at h;split at h
           . rename_i z y hz hy;cases h;exact⟨q,l0,z,y,rfl,hl,aeJ hb,hz,hy,rfl,rfl⟩
           . simp at h
       . simp at h
     | succ j=>simp[St.ca]at h
   | _=>simp[St.ca]at h
 | _=>simp[St.ca]at h
theorem nJ(h:Rel cx Z g st a w):∀(ps:List PK) (l:List TV) (vs:List Value) (x:PT ps) (F:Nat->Nat->Prop) (i:Nat),fy Z g st w l vs->st.ca ps l=some (none,x)->dv Z w F ps x vs i
 | [],[],[],_,_,_,_,_=>trivial
 | [],[],_::_,_,_,_,h1,_=>h1.elim
 | [],_::_,_,_,_,_,_,h2=>by simp[St.ca]at h2
 | .c gg ks::ps,[],_,x,F,i,h1,h2=>by simp[St.ca]at h2
 | .c gg ks::ps,tv::r,[],x,F,i,h1,h2=>h1.elim
 | .c gg ks::ps,tv::r,v::vs,x,F,i,h1,h2=>by
   unfold St.ca at h2;cases hl:tv.cH with
   | none=>rw[hl]at h2; simp at h2
   | some p =>
     obtain⟨gg',l⟩:=p;rw[hl]at h2;simp only at h2;cases hb:bS gg gg'&&l.all AV.bE with
     | false=>rw[hb]at h2; simp at h2
     | true =>
       rw[hb]at h2;simp only[oT]at h2;simp only[aeo]at hb;have hg:=dL hb.1;subst hg;split at h2
       . rename_i z q hz hq;obtain⟨q1,q2⟩:=q;cases h2;obtain⟨us,e1,e2⟩:=gD (ki h1.1 hl);exact⟨⟨us,e1,cT h ks l us z e2 hb.2 hz⟩,nJ h ps r vs _ F i h1.2 hq⟩
       . simp at h2
 | .fn f cs::ps,[],_,x,F,i,h1,h2=>by simp[St.ca]at h2
 | .fn f cs::ps,tv::r,[],x,F,i,h1,h2=>h1.elim
 | .fn f cs::ps,tv::r,v::vs,x,F,i,h1,h2=>by
   cases tv with
   | fn f' caps =>
     unfold St.ca at h2;cases hb:Nat.beq f f' with
     | false=>rw[hb]at h2; simp at h2
     | true =>
       rw[hb]at h2;simp only[oT]at h2;have hf:=beq_eq hb;subst hf;split at h2
       . rename_i z q hz hq;obtain⟨q1,q2⟩:=q;cases h2;obtain⟨us,e1,e2⟩:=h1.1;exact⟨⟨us,e1,lM h (fun _ h _=>h) (fun hh=>by simp at hh) cs caps us.toList z e2 hz⟩,nJ h ps r vs _ F i h1.2 hq⟩
       . simp at h2
   | _=>simp[St.ca]at h2
 | .pw cs::ps,[],_,x,F,i,h1,h2=>by simp[St.ca]at h2
 | .pw cs::ps,tv::r,_,x,F,i,h1,h2=>by obtain⟨q,l0,z,y,_,_,_,_,_,hh,_⟩:=zK h2;cases hh
 | .pt _::_,_,_,x,F,i,h1,h2=>by simp[St.ca]at h2
 | .nil::_,_,_,x,F,i,h1,h2=>by simp[St.ca]at h2
 | .io _ _::_,_,_,x,F,i,h1,h2=>by simp[St.ca]at h2
 | .mv _::_,_,_,x,F,i,h1,h2=>by simp[St.ca]at h2
theorem WL(h:Rel cx Z g st a w){q:Nat}{cs:List (Bool×K)}{l0:List RC}{z:BT cs}(e2:look st.rt q=some ⟨true,l0⟩)(e4:ea st cs l0=some z):PY Z w (TE g st ((q,200000)::df q cs 0)) cs z (.pointer (some ⟨g.be q,0,none⟩)) 0:=by
 obtain⟨b1,b2,b3,b4,us,el,fr,b5,b6,b7,b8⟩:=h.box q _ e2 rfl;have hcell:∀ j c,l0[j]? = some c->st.cell q j=some c:=fun j c hj=>by simp only[St.cell,e2]; exact hj
 have hback:=lH h (r:=q) ((q,200000)::df q cs 0) cs l0 z 0 us.toList [(q,200000)] [] (fun j c hj=>by rw[aex]; exact hcell j c hj) (by rw[aeY]; exact b7) (fun j u hj=>by
  rw[aex];have hj':j<us.size:=by have:=(aeW.1 hj).1;simpa using this
  have:=b8 j hj';rw[<- aer,hj]at this;exact ae9 this) e4 (by simp)
 exact⟨g.be q,us,el,fr,rfl,b5,b6,⟨_,rfl,.inr ⟨rfl,⟨_,e2,rfl⟩,rfl⟩⟩,hback⟩
theorem oC(h:Rel cx Z g st a w):∀(ps:List PK) (l:List TV) (vs:List Value) (x:PT ps) (q:Nat) (l0:List RC),fy Z g st w l vs->st.ca ps l=some (some (q,l0),x) ->
 ∃(cs:List (Bool×K)) (z0:BT cs),look st.rt q=some ⟨true,l0⟩/\l0.length<=200000/\ea st cs l0=some z0/\dv Z w (TE g st ((q,200000)::df q cs 0)) ps x vs 0 /\
  ∀(Z':Nat->Prop) (w':World) (G:Nat->Nat->Prop) (y:rm ps),tV Z' w' G ps y vs 0->∃ z:BT cs,ik ps y=bK cs z/\PY Z' w' G cs z (.pointer (some ⟨g.be q,0,none⟩)) 0
 | [],[],_,_,_,_,_,h2=>by simp only[St.ca]at h2; cases h2
 | [],_::_,_,_,_,_,_,h2=>by simp[St.ca]at h2
 | .c gg ks::ps,[],_,x,q,l0,h1,h2=>by simp[St.ca]at h2
 | .c gg ks::ps,tv::r,[],x,q,l0,h1,h2=>h1.elim
 | .c gg ks::ps,tv::r,v::vs,x,q,l0,h1,h2=>by
   unfold St.ca at h2;cases hl:tv.cH with
   | none=>rw[hl]at h2; simp at h2
   | some p =>
     obtain⟨gg',l⟩:=p;rw[hl]at h2;simp only at h2;cases hb:bS gg gg'&&l.all AV.bE with
     | false=>rw[hb]at h2; simp at h2
     | true =>
       rw[hb]at h2;simp only[oT]at h2;simp only[aeo]at hb;have hg:=dL hb.1;subst hg;split at h2
       . rename_i z p hz hq;obtain⟨q1,q2⟩:=p;cases h2;obtain⟨us,e1,e2⟩:=gD (ki h1.1 hl);obtain⟨cs,z0,k1,k2,k3,k4,k5⟩:=oC h ps r vs _ q l0 h1.2 hq;exact⟨cs,z0,k1,k2,k3,⟨⟨us,e1,cT h ks l us z e2 hb.2 hz⟩,k4⟩,fun Z' w' G y hy=>k5 Z' w' G y hy⟩
       . simp at h2
 | .fn f cs::ps,[],_,x,q,l0,h1,h2=>by simp[St.ca]at h2
 | .fn f cs::ps,tv::r,[],x,q,l0,h1,h2=>h1.elim
 | .fn f cs::ps,tv::r,v::vs,x,q,l0,h1,h2=>by
   cases tv with
   | fn f' caps =>
     unfold St.ca at h2;cases hb:Nat.beq f f' with
     | false=>rw[hb]at h2; simp at h2
     | true =>
       rw[hb]at h2;simp only[oT]at h2;have hf:=beq_eq hb;subst hf;split at h2
       . rename_i z p hz hq;obtain⟨q1,q2⟩:=p;cases h2;obtain⟨us,e1,e2⟩:=h1.1;obtain⟨cs',z0,k1,k2,k3,k4,k5⟩:=oC h ps r vs _ q l0 h1.2 hq;exact⟨cs',z0,k1,k2,k3,⟨⟨us,e1,lM h (fun _ h _=>h) (fun hh=>by simp at hh) cs caps us.toList z e2 hz⟩,k4⟩,fun Z' w' G y hy=>k5 Z' w' G y hy⟩
       . simp at h2
   | _=>simp[St.ca]at h2
 | .pw cs::ps,[],_,x,q,l0,h1,h2=>by simp[St.ca]at h2
 | .pw cs::ps,tv::r,[],x,q,l0,h1,h2=>h1.elim
 | .pw cs::ps,tv::r,v::vs,x,q,l0,h1,h2=>by obtain⟨q',l0',z,y,e1,e2,e3,e4,e5,e6,e7⟩:=zK h2;simp only[aen,aeT]at e6;obtain⟨rfl,rfl⟩:=e6;have e7:x=(z,y):=e7;subst e7;subst e1;obtain⟨R,r1,r2,rfl⟩:=h1.1;exact⟨cs,z,e2,e3,e4,⟨WL h e2 e4,nJ h ps r vs y _ _ h1.2 e5⟩,fun Z' w' G y hy=>⟨y.1,rfl,hy.1⟩⟩
 | .pt _::_,_,_,x,q,l0,h1,h2=>by simp[St.ca]at h2
 | .nil::_,_,_,x,q,l0,h1,h2=>by simp[St.ca]at h2
 | .io _ _::_,_,_,x,q,l0,h1,h2=>by simp[St.ca]at h2
 | .mv _::_,_,_,x,q,l0,h1,h2=>by simp[St.ca]at h2
def FX(st:St)(q:Nat)(l0:List RC)(ps:List PK)(z:rm ps):St:=⟨st.tm,(q,⟨true,jd l0 (ik ps z)⟩)::st.rt⟩
theorem uw{st:St}{dst:Option Nat}{tvs:List TV}:∀ {l:List Su} {st':St},(st.ur dst l tvs).run=some st'->∃ s q l0 x z y,s∈l/\st.ca s.ps tvs=some (some (q,l0),x)/\s.sO x=some (z,y)/\((dst=none/\st'=FX st q l0 s.ps z)∨∃ d p,dst=some d/\eb d s y=some p/\((s.fresh&&kb s.rs)=true->(FX st q l0 s.ps z).free d=true)/\st'=(FX st q l0 s.ps z).aT d p)
 | [],st',h=>by simp[St.ur,Tr.run]at h
 | s::r,st',h=>by
   unfold St.ur at h;split at h
   . rename_i q l0 x hx;split at h
     . rename_i f hf;simp only[Tr.run,afF]at h;obtain⟨⟨z,y⟩,h0,h⟩:=h;refine⟨s,q,l0,x,z,y,aeI ..,hx,by simp[Su.sO,hf,h0],?_⟩;cases dst with
       | none=>simp only[Tr.run,aen]at h; exact .inl ⟨rfl,h.symm⟩
       | some d =>
         obtain⟨p,h1,h⟩:=Tr.af h;refine .inr ⟨d,p,rfl,h1,?_⟩;cases hq: !(s.fresh&&kb s.rs)||St.free ⟨st.tm,(q,⟨true,jd l0 (ik s.ps z)⟩)::st.rt⟩ d with
         | false=>rw[hq]at h; simp[Tr.run]at h
         | true => rw[hq]at h;simp only[oT,Tr.run,aen]at h;refine⟨fun hh => ?_,h.symm⟩;rw[hh]at hq;exact hq
     . simp[Tr.run]at h
   . obtain⟨s',q,l0,x,z,y,h1,h2⟩:=uw h;exact⟨s',q,l0,x,z,y,aeB _ h1,h2⟩
theorem sx(r:Nat):∀(cs:List (Bool×K)) (j m:Nat) (nm:Nat×Nat),(df r cs j)[m]? = some nm->nm=(r,j+m)/\m<cs.length
 | [],_,_,_,h=>by simp[df]at h
 | _::cs,j,0,nm,h=>by simp only[df,aeu,aen]at h;exact⟨h.symm,by simp⟩
 | _::cs,j,m+1,nm,h=>by obtain⟨h1,h2⟩:=sx r cs (j+1) m nm (by simpa[df]using h);exact⟨by rw[h1,show j+1+m=j+(m+1)by omega],by simpa using h2⟩
theorem Rw(h:Rel cx Z g st a w){q:Nat}{cs:List (Bool×K)}{l0:List RC}(e1:look st.rt q=some ⟨true,l0⟩)(e2:l0.length<=200000)(hl0:l0.length=cs.length){F:Nat->Nat->Prop}(hF:TE g st ((q,200000)::df q cs 0)=F) :
 (∀ i b,F i b->(i=0/\b=g.be q)∨(∃ j,i=1+j/\j<l0.length/\g.fp q j b))/\∀ i j b,F i b->F j b->i=j:=by
 obtain⟨b1,b2,b3,b4,_⟩:=h.box q _ e1 rfl;have hin:∀ i b,F i b->(i=0/\b=g.be q)∨(∃ j,i=1+j/\j<l0.length/\g.fp q j b):=fun i b hb=>by
  rw[<- hF]at hb;obtain⟨nm,n1,n2⟩:=hb;cases i with
  | zero =>
    simp only[aeu,aen]at n1;subst n1;rcases n2 with n2 | ⟨_,_,n2⟩
    . exfalso;obtain⟨_,_,_,c0,_,_,n3,_⟩:=h.fp _ _ _ n2;simp only[St.cell,e1]at n3;have:=(aeW.1 n3).1;omega
    . exact .inl ⟨rfl,n2⟩
  | succ j =>
    rw[afi]at n1;obtain⟨rfl,n3⟩:=sx q cs 0 j nm n1;rw[aex]at n2;rcases n2 with n2 | ⟨n4,_,_⟩
    . exact .inr ⟨j,by omega,by omega,n2⟩
    . simp only at n4; omega
 refine⟨hin,fun i j b h1 h2 => ?_⟩;rcases hin i b h1 with ⟨i1,i2⟩ | ⟨i1,i2,_,i3⟩
 . rcases hin j b h2 with ⟨j1,j2⟩ | ⟨j1,j2,_,j3⟩
   . omega
   . exact(b3 _ _ (i2 ▸ j3)).elim
 . rcases hin j b h2 with ⟨j1,j2⟩ | ⟨j1,j2,_,j3⟩
   . exact(b3 _ _ (j2 ▸ i3)).elim
   . have:=(h.disj _ _ _ _ b i3 j3).2;omega
theorem z6:∀(l r:List RC),l.length=r.length->(jd l r).length=l.length
 | [],[],_=>rfl
 | _::l,_::r,h=>aeU (· + 1) (z6 l r (by simpa using h))
 | [],_::_,h=>by simp at h
 | _::_,[],h=>by simp at h
theorem oP:∀(l r:List RC) (j:Nat) (c':RC),(jd l r)[j]? = some c'->∃ c d,l[j]? = some c/\r[j]? = some d/\c'=⟨c.s+1,c.m+1,d.v⟩
 | [],_,_,_,h=>by simp[jd]at h
 | _::_,[],_,_,h=>by simp[jd]at h
 | c::l,d::r,0,c',h=>by simp only[jd,aeu,aen]at h;exact⟨c,d,rfl,rfl,h.symm⟩
 | c::l,d::r,j+1,c',h=>by obtain⟨c0,d0,h1,h2,h3⟩:=oP l r j c' (by simpa[jd]using h);exact⟨c0,d0,by simpa using h1,by simpa using h2,h3⟩
theorem LK(hga:cZ P E){g:Gh}{st:St}(h:Rel cx Z g st a w)(hn:ch st)(hsz:Fit cx E a){o:Oper}{dst:Option Nat}(hdn:∀ d,dst=some d->jw cx a d)(hd:o.dst=dst){c:Call}{f:Operand}{gid:Nat}{caps:List (Bool×List AV)}{l:List TV}
 (ho:o.op= .call c)(hcal:c.callee= .value f)(hg:st.get f=some (.fn gid caps))(hl:st.getAll c.args.toList=some l){st':St}
 (hrun:(st.ur dst (E.ga gid) (l++caps.map fun p=>bif p.1 then .agg p.2 else (match p.2 with | [a]=> .v a | _=> .agg p.2))).run=some st'):nN P cx E st' a w o:=by
 have hc:=hn.cons.cons;obtain⟨s,q,l0,x,z,y,hs,hx,hy,hw⟩:=uw hrun;obtain⟨cv,ef,ec⟩:=aX h hc hg;have hrel:=fy.app (iB h hc _ _ hl) (km _ _ ec);have hvs:c.args.toList.map a.eval++cv.toList=(c.args.map a.eval++cv).toList:=by simp
 rw[hvs]at hrel;obtain⟨cs,z0,e1,e2,e3,k1,k2⟩:=oC h s.ps _ _ x q l0 hrel hx;obtain⟨b1,b2,b3,b4,us0,el0,fr0,b5,b6,b7,b8⟩:=h.box q _ e1 rfl;have hbe:g.be q<w.heap.size:=h.yr e1 rfl;have hl0:l0.length=cs.length:=by rw[(lA cs l0 z0 e3).1,kx]
 generalize hF:TE g st ((q,200000)::df q cs 0)=F at k1;obtain⟨hin,hdis⟩:=Rw h e1 e2 hl0 hF;have hlow:∀ i b,F i b->b<w.heap.size/\¬ Z b:=fun i b hb=>by
  rcases hin i b hb with ⟨_,i2⟩ | ⟨_,_,_,i3⟩
  . rw[i2]; exact⟨hbe,b2⟩
  . exact⟨(h.fp _ _ _ i3).1,(h.fp _ _ _ i3).2.2.1⟩
 have hsu:=hga.1 gid s hs w Z F _ x (z,y) h.gl k1 (fun b hb=>(h.bL b hb).1) hlow hdis hy;have hmay:∀ d p,eb d s y=some p->¬ p.1.gJ:=fun d p hp=>by
  unfold eb at hp;split at hp
  . rename_i tv hw;simp only[aen]at hp;subst hp;exact lJ hw
  . simp at hp
 refine⟨fun t tv' ht => ?_,fun next Q hk => ?_⟩
 . rcases hw with ⟨_,rfl⟩ | ⟨d,p,_,hp,_,rfl⟩
   . exact hn t tv' ht
   . rw[bY]at ht;split at ht
     . simp only[aen]at ht; subst ht; exact hmay _ _ hp
     . exact hn t tv' ht
 unfold Oper.wp;rw[oq ho hcal ef];refine sH hsu ?_;rintro v w' ⟨Z',H,vs,rfl,ha,hio,hr⟩;obtain⟨z1,q1,b,us,el,fr,q2,q3,q4,q5,q6⟩:=k2 Z' w' _ _ hio;simp only[Value.pointer.injEq,aen,afK,afQ]at q2;subst q2;have hel:=kx cs z1;have hcl:=rH cs z1 us.toList (0+1) q6;rw[aeY]at hcl;have hbl:(jd l0 (bK cs z1)).length=l0.length:=z6 _ _ (by rw[hel]; exact hl0);have q1:ik s.ps z=bK cs z1:=q1
 have hR:=h.XR (Z2:=Z') (st':=FX st q l0 s.ps z) (w':=w') (r:=q) (R':=⟨true,jd l0 (bK cs z1)⟩) (cv:=fun j=>us.toList.getD j undef) (fp:=fun j b=>(∃ k y,(bK cs z1)[j]? = some ⟨0,0,.own k y⟩)/\H (2 * (0+1+j)) b) e1 rfl rfl hbl rfl
  (fun r'=>by
    show look ((q,(⟨true,jd l0 (ik s.ps z)⟩:Rt))::st.rt) r'=_;rw[q1,aK];by_cases e:q=r'
    . rw[if_pos e,if_pos e.symm]
    . rw[if_neg e,if_neg (fun hh=>e hh.symm)]) ha.os ha.tape ha.output ha.size
  (fun j c c' h1 h2=>by obtain⟨c0,d0,m1,m2,rfl⟩:=oP _ _ _ _ h2;have h1:l0[j]? = some c:=h1;rw[h1]at m1;cases m1;exact⟨afl _,afl _⟩) ha.z ha.bL
  ⟨us,el,fr,q3,q4,by show us.size=(jd _ _).length; rw[hbl,hcl,hl0],fun j hj=>by
    rw[<- aer];have hj':j<us.toList.length:=by simpa using hj
    rw[List.getD,aeq hj']; rfl⟩
  (fun j c' hj=>by
    obtain⟨c0,d0,m1,m2,rfl⟩:=oP _ _ _ _ hj;obtain⟨u,p1,p2⟩:=np cs z1 us.toList (0+1) j d0 q6 m2;have hu:us.toList.getD j undef=u:=by rw[List.getD,p1]; rfl
    rcases p2 with ⟨k,y,rfl,q3⟩ | ⟨k,y,rfl,q3⟩
    . show cO w' k y _ _;rw[hu];exact cO.frame _ _ _ _ _ (fun b hb=>⟨⟨k,y,m2⟩,hb⟩) (fun _ _ _=>rfl) q3
    . show RO Z' w' k y _;rw[hu];exact q3)
  (fun j b hb=>by
    obtain⟨⟨k,y,m1⟩,m2⟩:=hb;obtain⟨t1,t2,t3⟩:=ha.fp _ b m2;refine⟨t1,?_,t2,fun e => ?_,?_⟩
    . rcases t3 with ⟨i,t3⟩ | t3
      . rcases hin i b t3 with ⟨_,i2⟩ | ⟨_,_,_,i3⟩
        . exfalso;have:=ha.disj _ _ b m2 (by rw[i2]; exact q5);omega
        . exact .inl ⟨_,i3⟩
      . exact .inr t3
    . have:=ha.disj _ _ b m2 (by rw[e]; exact q5);omega
    . have hj:j<(jd l0 (bK cs z1)).length:=by
       have:=(aeW.1 m1).1;rw[hbl,hl0]; omega
      obtain⟨c0,d0,n1,n2,n3⟩:=oP _ _ j _ (aeq hj);rw[m1]at n2;cases n2;exact⟨_,k,y,aeq hj,by rw[n3]⟩)
  (fun j j' b h1 h2=>by have:=ha.disj _ _ b h1.2 h2.2;omega)
  (fun b hlt hne hf=>ha.block b hlt fun i hi=>by
    rcases hin i b hi with ⟨_,i2⟩ | ⟨_,_,_,i3⟩
    . exact hne i2
    . exact hf _ i3)
 rw[hd];rcases hw with ⟨rfl,rfl⟩ | ⟨d,p,rfl,hp,hfree,rfl⟩
 . exact hk _ _ _ _ hR hsz
 unfold eb at hp;split at hp
 . rename_i tv hw;simp only[aen]at hp;cases hb:s.fresh&&kb s.rs with
   | false => rw[hb]at hp;subst hp;exact hk _ _ _ _ (hR.mm (hdn d rfl) (ft (kr _ _ _ _ hr (fun _=>rfl) (fun hh=>by rw[hh]at hb; simpa using hb)) hw)) (hsz.put _ _)
   | true =>
     rw[hb]at hp;subst hp;have hfr:s.fresh=true:=by rw[aeo]at hb; exact hb.1
     rw[hfr]at hr hw;have hHb:∀ j b,H (2 * j+1) b->b<w'.heap.size/\(cx.F0 b∨cx.w0.heap.size<=b)/\¬ Z' b/\(∀ r j,¬ (g.B0 q (fun j=>us.toList.getD j undef) (fun j b=>(∃ k y,(bK cs z1)[j]? = some ⟨0,0,.own k y⟩)/\H (2 * (0+1+j)) b)).fp r j b)/\(∀ r' R',look (FX st q l0 s.ps z).rt r'=some R'->R'.box=true->g.be r'≠b):=fun j b hbb=>by
      obtain⟨t1,t2,t3⟩:=ha.fp _ b hbb;have hq:b≠g.be q:=fun e=>by have:=ha.disj _ _ b hbb (by rw[e]; exact q5);omega
      refine⟨t1,?_,t2,fun r' j' hh => ?_,fun r' R' hR' hb' he => ?_⟩
      . rcases t3 with ⟨i,t3⟩ | t3
        . rcases hin i b t3 with ⟨_,i2⟩ | ⟨_,_,_,i3⟩
          . exact(hq i2).elim
          . exact(h.fp _ _ _ i3).2.1
        . exact .inr (aeA h.size t3)
      . have hh':(if r'=q then _ else g.fp r' j' b):=hh;by_cases e:r'=q
        . rw[if_pos e]at hh';have:=ha.disj _ _ b hbb hh'.2;omega
        . rw[if_neg e]at hh';rcases t3 with ⟨i,t3⟩ | t3
          . rcases hin i b t3 with ⟨_,i2⟩ | ⟨_,_,_,i3⟩
            . exact hq i2
            . exact e (h.disj _ _ _ _ _ hh' i3).1
          . have:=(h.fp _ _ _ hh').1; omega
      . have hl:look (FX st q l0 s.ps z).rt r'=(if q=r' then some ⟨true,jd l0 (ik s.ps z)⟩else look st.rt r'):=aK _ _ _ _;rw[hl]at hR';by_cases e:q=r'
        . subst e; exact hq he.symm
        . rw[if_neg e]at hR';rcases t3 with ⟨i,t3⟩ | t3
          . rcases hin i b t3 with ⟨_,i2⟩ | ⟨_,_,_,i3⟩
            . exact hq i2
            . exact(h.box r' R' hR' hb').2.2.1 _ _ (he ▸ i3)
          . have:=h.yr hR' hb'; omega
     have h6:=Rel.lG hR (r:=d) (be:=0) (R:=⟨false,cr s.rs y⟩) (cv:=fun j=>(r9 s.rs vs).getD j undef) (fp:=fun j b=>j<(cr s.rs y).length/\H (2 * j+1) b) (ju (hfree hb))
      (fun j b hb=>by obtain⟨t1,t2,t3,t4,t5⟩:=hHb _ b hb.2;obtain⟨e,ks',x',v',g1',g2',g3'⟩:=kV _ _ _ _ hr j _ (aeq hb.1);exact⟨t1,t2,t3,t4,t5,_,_,x',aeq hb.1,by rw[g1']⟩)
      (fun j j' b h1 h2=>by have:=ha.disj _ _ b h1.2 h2.2; omega) (fun hb=>by simp at hb)
      (fun j c hj=>by
        obtain⟨e,ks',x',v',g1',g2',g3'⟩:=kV _ _ _ _ hr j c hj;subst g1';have hjl:j<(cr s.rs y).length:=by
         rcases aeD j (cr s.rs y).length with hh | hh
         . exact hh
         . simp[aeE hh]at hj
        show cO w' (.sl e ks') x' _ _;simp only[List.getD,g2',afY];rw[aex]at g3';exact cO.frame _ _ _ _ _ (fun b hb=>⟨hjl,hb⟩) (fun _ _ _=>rfl) g3')
     refine hk _ _ _ _ (h6.mm (hdn d rfl) (tv:=tv) (ft (rz _ _ _ _ hr (fun i c hi => ?_) fun i v hi => ?_) hw)) (hsz.put _ _)
     . show(match look ((d,(⟨false,cr s.rs y⟩:Rt))::(FX st q l0 s.ps z).rt) d with | some R=>R.cells[0+i]? | none=>none)=_;rw[aK,if_pos rfl,aex];exact hi
     . simp[Gh.at,List.getD,hi]
 . simp at hp
end
section
variable{P:Program}{cx:Cx P}{Z:Nat->Prop}{a:Act}{w:World}{E:En}
theorem oG{Z':Nat->Prop}(hz0:∀ b,Z b->b<w.heap.size->Z' b):∀(ps:List PK) (l:List TV) (vs:List Value) (st:St) (g:Gh) (st':St) (x:PT ps) (i:Nat),Rel cx Z g st a w->(∀ r R,look st.rt r=some R->R.box=true->Z' (g.be r))->fy Z g st w l vs->st.fX ps l=some (st',x) ->
 ∃ g' F n,Rel cx Z g' st' a w/\lN cx Z w g g' st st' F i n/\dv Z' w F ps x vs i/\st'.tm=st.tm
 | [],[],vs,st,g,st',x,i,h,hb0,hr,ht=>by
   simp only[St.fX,aen,aeT]at ht;obtain⟨rfl,_⟩:=ht;cases vs with
   | nil=>exact⟨g,_,0,h,lN.refl i,trivial,rfl⟩
   | cons _ _=>exact hr.elim
 | .c gg ks::ps,tv::r,[],st,g,st',x,i,h,hb0,hr,ht=>hr.elim
 | .c gg ks::ps,tv::r,v::vs,st,g,st',x,i,h,hb0,hr,ht=>by
   unfold St.fX at ht;cases hl:tv.cH with
   | none=>rw[hl]at ht; simp at ht
   | some p =>
     obtain⟨gg',l⟩:=p;rw[hl]at ht;simp only at ht;cases hb:bS gg gg'&&l.all AV.bE with
     | false=>rw[hb]at ht; simp at ht
     | true =>
       rw[hb]at ht;simp only[oT]at ht;simp only[aeo]at hb;have hg:=dL hb.1;subst hg;split at ht
       . rename_i z q hz hq;cases ht;obtain⟨us,e1,e2⟩:=gD (ki hr.1 hl);obtain⟨g',F,n,k1,k2,k3,k4⟩:=oG hz0 ps r vs st g q.1 q.2 i h hb0 hr.2 hq;refine⟨g',F,n,k1,k2,⟨⟨us,e1,qc.bL hz0 ks z us (cT h ks l us z e2 hb.2 hz)⟩,k3⟩,k4⟩
       . simp at ht
 | .fn f cs::ps,tv::r,[],st,g,st',x,i,h,hb0,hr,ht=>hr.elim
 | .fn f cs::ps,tv::r,v::vs,st,g,st',x,i,h,hb0,hr,ht=>by
   cases tv with
   | fn f' caps =>
     unfold St.fX at ht;cases hb:Nat.beq f f' with
     | false=>rw[hb]at ht; simp at ht
     | true =>
       rw[hb]at ht;simp only[oT]at ht;have hf:=beq_eq hb;subst hf;split at ht
       . rename_i z q hz hq;cases ht;obtain⟨us,e1,e2⟩:=hr.1;obtain⟨g',F,n,k1,k2,k3,k4⟩:=oG hz0 ps r vs st g q.1 q.2 i h hb0 hr.2 hq;exact⟨g',F,n,k1,k2,⟨⟨us,e1,lM h hz0 (fun _=>hb0) cs caps us.toList z e2 hz⟩,k3⟩,k4⟩
       . simp at ht
   | _=>simp[St.fX]at ht
 | .mv k::ps,tv::r,[],st,g,st',x,i,h,hb0,hr,ht=>hr.elim
 | .mv k::ps,tv::r,v::vs,st,g,st',x,i,h,hb0,hr,ht=>by
   cases tv with
   | v av =>
     unfold St.fX at ht;split at ht
     . rename_i st1 y hy;split at ht
       . rename_i q hq;cases ht;obtain⟨g1,F1,k1,k2,k3,k4,k5,k6,k7⟩:=gr h hr.1 hy;have t1:lN cx Z w g g1 st st1 (fun n b=>n=i/\F1 b) i 1 :=
          ⟨fun p v=>rW.cg k2.cg p v,fun x v=>bj.cg k2.cg x v,k5,fun n=>⟨fun b hb=>k4.lt b hb.2,fun b hb=>k4.own b hb.2,fun b hb=>k4.z b hb.2,fun b hb=>k4.fp b hb.2,fun b hb=>k4.box b hb.2⟩,fun n b hb=>k6 b hb.2,fun n m b h1 h2=>h1.1.trans h2.1.symm,fun i b hb=>⟨by omega,by omega⟩,k2.be,k2.box⟩
         have hr2:∀(l:List TV) (vs:List Value),fy Z g st w l vs->fy Z g1 st1 w l vs:=by
          intro l;induction l with
          | nil=>intro vs h; cases vs with | nil=>trivial | cons _ _=>exact h.elim
          | cons p r ih=>intro vs h; cases vs with | nil=>exact h.elim | cons v vs=>exact⟨bF.cg k2.cg _ _ h.1,ih vs h.2⟩
         obtain⟨g',F,n,m1,m2,m3,m4⟩:=oG hz0 ps r vs st1 g1 q.1 q.2 (i+1) k1 (fun r R hR hbx=>by obtain⟨R0,e1,e2⟩:=k2.box r R hR; rw[k2.be]; exact hb0 r R0 e1 (by rw[<- e2]; exact hbx)) (hr2 _ _ hr.2) hq;exact⟨g',fun n b=>(n=i/\F1 b)∨F n b,1+n,m1,t1.trans m2,⟨cO.frame _ _ _ _ _ (fun b hb=> .inl ⟨rfl,hb⟩) (fun _ _ _=>rfl) k3,dv.mono (fun i b hb=> .inr hb) _ _ _ _ m3⟩,m4.trans k2.tm⟩
       . simp at ht
     . simp at ht
   | _=>simp[St.fX]at ht
 | .pt _::_,_::_,_,st,g,st',x,i,h,hb0,hr,ht=>by simp[St.fX]at ht
 | .nil::_,_::_,_,st,g,st',x,i,h,hb0,hr,ht=>by simp[St.fX]at ht
 | .nil::_,[],_,st,g,st',x,i,h,hb0,hr,ht=>by simp[St.fX]at ht
 | .pt _::_,[],_,st,g,st',x,i,h,hb0,hr,ht=>by simp[St.fX]at ht
 | .io _ _::_,_::_,_,st,g,st',x,i,h,hb0,hr,ht=>by simp[St.fX]at ht
 | [],_::_,_,st,g,st',x,i,h,hb0,hr,ht=>by simp[St.fX]at ht
 | .c _ _::_,[],_,st,g,st',x,i,h,hb0,hr,ht=>by simp[St.fX]at ht
 | .fn _ _::_,[],_,st,g,st',x,i,h,hb0,hr,ht=>by simp[St.fX]at ht
 | .io _ _::_,[],_,st,g,st',x,i,h,hb0,hr,ht=>by simp[St.fX]at ht
 | .mv _::_,[],_,st,g,st',x,i,h,hb0,hr,ht=>by simp[St.fX]at ht
theorem ye{st:St}{dst:Nat}{tvs:List TV}:∀ {l:List Su} {st':St},(st.vc dst l tvs).run=some st'->∃ s st1 x z y p,s∈l/\s.fresh=true/\st.fX s.ps tvs=some (st1,x)/\s.sO x=some (z,y)/\eb dst s y=some p/\st1.free dst=true/\st'=st1.aT dst p
 | [],st',h=>by simp[St.vc,Tr.run]at h
 | s::r,st',h=>by
   have again:(st.vc dst r tvs).run=some st'->∃ s' st1 x z y p,s'∈s::r/\s'.fresh=true/\st.fX s'.ps tvs=some (st1,x)/\s'.sO x=some (z,y)/\eb dst s' y=some p/\st1.free dst=true/\st'=st1.aT dst p:=fun h=>by obtain⟨s',st1,x,z,y,p,h1,h2⟩:=ye h;exact⟨s',st1,x,z,y,p,aeB _ h1,h2⟩
   have fin:∀(st1:St) (p:TV×Option Rt),(bif st1.free dst then Tr.ret (st1.aT dst p)else .fail).run=some st'->st1.free dst=true/\st'=st1.aT dst p:=fun st1 p hh=>by
    cases hf:st1.free dst with
    | false=>rw[hf]at hh; simp[Tr.run]at hh
    | true=>rw[hf]at hh; simp only[oT,Tr.run,aen]at hh; exact⟨rfl,hh.symm⟩
   unfold St.vc at h;cases hq:il s.ps|| !s.fresh with
   | true=>rw[hq]at h; exact again h
   | false =>
     rw[hq]at h;simp only[oF]at h;simp only[af2,aha]at hq;split at h
     . rename_i st1 x hx;split at h
       . rename_i f hf;simp only[Tr.run,afF]at h;obtain⟨⟨z,y⟩,h0,h⟩:=h;obtain⟨p,h1,h2⟩:=Tr.af h;obtain⟨h3,h4⟩:=fin st1 p h2;exact⟨s,st1,x,z,y,p,aeI ..,hq.2,hx,by simp[Su.sO,hf,h0],h1,h3,h4⟩
       . rename_i gg hg;obtain⟨p,h1,h2⟩:=Tr.af h;obtain⟨h3,h4⟩:=fin st1 p h2;exact⟨s,st1,x,Ov s.ps,gg x,p,aeI ..,hq.2,hx,by simp[Su.sO,hg],h1,h3,h4⟩
     . exact again h
theorem Ui(hga:cZ P E){g:Gh}{st:St}(h:Rel cx Z g st a w)(hn:ch st)(hsz:Fit cx E a){o:Oper}{d:Nat}(hd:o.dst=some d)(hdn:jw cx a d){c:Call}{f:Operand}{gid:Nat}{caps:List (Bool×List AV)}{l:List TV}
 (ho:o.op= .call c)(hcal:c.callee= .value f)(hg:st.get f=some (.fn gid caps))(hl:st.getAll c.args.toList=some l){st':St}
 (hrun:(st.vc d (E.ga gid) (l++caps.map fun p=>bif p.1 then .agg p.2 else (match p.2 with | [a]=> .v a | _=> .agg p.2))).run=some st'):nN P cx E st' a w o:=by
 have hc:=hn.cons.cons;obtain⟨s,st1,x,z,y,p,hs,hfr,hx,hy,hp,hfree,rfl⟩:=ye hrun;obtain⟨cv,ef,ec⟩:=aX h hc hg;have hrel:=fy.app (iB h hc _ _ hl) (km _ _ ec);have hvs:c.args.toList.map a.eval++cv.toList=(c.args.map a.eval++cv).toList:=by simp
 rw[hvs]at hrel;obtain⟨g1,F,n,k1,k2,k3,k4⟩:=oG (Z':=Zb Z g st) (fun _ h _=> .inl h) s.ps _ _ st g st1 x 0 h (fun r R hR hb=> .inr ⟨r,R,hR,hb,rfl⟩) hrel hx;have hsu:=hga.1 gid s hs w (Zb Z g st) F _ x (z,y) (h.gl.mono (oR _) fun b hb _=>⟨.inl hb,rfl⟩) k3 (So h) (fun i b hb=>⟨(k2.free i).lt b hb,by obtain⟨r,j,hh⟩:=k2.sub i b hb; exact RR h hh⟩) (fun i j b=>k2.disj i j b) hy;have hp':¬ p.1.gJ:=by
  unfold eb at hp;split at hp
  . rename_i tv hw;simp only[aen]at hp;subst hp;exact lJ hw
  . simp at hp
 refine⟨fun t tv ht => ?_,fun next Q hk => ?_⟩
 . rw[bY]at ht;split at ht
   . simp only[aen]at ht; subst ht; exact hp'
   . exact hn t tv (by rw[<- k4]; exact ht)
 unfold Oper.wp;rw[oq ho hcal ef];refine sH hsu ?_;rintro v w' ⟨Z',H,vs,rfl,ha,_,hr⟩;rw[hd];have hFree:iw cx Z g1 st1 w (fun b=>∃ i,F i b):=⟨fun b ⟨i,hb⟩=>(k2.free i).lt b hb,fun b ⟨i,hb⟩=>(k2.free i).own b hb,fun b ⟨i,hb⟩=>(k2.free i).z b hb,fun b ⟨i,hb⟩=>(k2.free i).fp b hb,fun b ⟨i,hb⟩=>(k2.free i).box b hb⟩;have hw':Rel cx Z g1 st1 a w':=k1.wr hFree ha.os ha.tape ha.output ha.size fun b hb hf=>ha.block b hb fun i hi=>hf ⟨i,hi⟩
 unfold eb at hp;split at hp
 . rename_i tv hw;simp only[aen]at hp;rw[hfr,agh]at hp;rw[hfr]at hr hw;cases hb:kb s.rs with
   | false => rw[hb]at hp;subst hp;exact hk _ _ _ _ (hw'.mm hdn (ft (kr _ _ _ _ hr (fun hh=>by simp at hh) (fun _=>hb)) hw)) (hsz.put _ _)
   | true =>
     rw[hb]at hp;subst hp;have hHb:∀ n b,H n b->b<w'.heap.size/\(cx.F0 b∨cx.w0.heap.size<=b)/\¬ Z b/\(∀ r j,¬ g1.fp r j b)/\(∀ r' R',look st1.rt r'=some R'->R'.box=true->g1.be r'≠b):=fun n b hb=>by
      obtain⟨h1,h2,h3⟩:=ha.fp n b hb;have hz:¬ Z b:=fun hz=>h2 (ha.z b (.inl hz))
      rcases h3 with hf | hnew
      . exact⟨h1,hFree.own b hf,hz,hFree.fp b hf,hFree.box b hf⟩
      . refine⟨h1,.inr (aeA k1.size hnew),hz,fun r j hh=>by have:=(k1.fp r j b hh).1; omega,fun r' R' hR' hb' he => ?_⟩;obtain⟨_,_,_,_,cs1,el1,fr1,b5,_⟩:=k1.box r' R' hR' hb';rw[he,aeH hnew]at b5;simp at b5
     have h6:=Rel.lG hw' (r:=d) (be:=0) (R:=⟨false,cr s.rs y⟩) (cv:=fun j=>(r9 s.rs vs).getD j undef) (fp:=fun j b=>j<(cr s.rs y).length/\H (2 * j+1) b) (ju hfree)
      (fun j b hb=>by obtain⟨t1,t2,t3,t4,t5⟩:=hHb _ b hb.2;obtain⟨e,ks',x',v',g1',g2',g3'⟩:=kV _ _ _ _ hr j _ (aeq hb.1);exact⟨t1,t2,t3,t4,t5,_,_,x',aeq hb.1,by rw[g1']⟩)
      (fun j j' b h1 h2=>by have:=ha.disj _ _ b h1.2 h2.2; omega) (fun hb=>by simp at hb)
      (fun j c hj=>by
        obtain⟨e,ks',x',v',g1',g2',g3'⟩:=kV _ _ _ _ hr j c hj;subst g1';have hjl:j<(cr s.rs y).length:=by
         rcases aeD j (cr s.rs y).length with hh | hh
         . exact hh
         . simp[aeE hh]at hj
        show cO w' (.sl e ks') x' _ _;simp only[List.getD,g2',afY];rw[aex]at g3';exact cO.frame _ _ _ _ _ (fun b hb=>⟨hjl,hb⟩) (fun _ _ _=>rfl) g3')
     refine hk _ _ _ _ (h6.mm hdn (tv:=tv) (ft (rz _ _ _ _ hr (fun i c hi => ?_) fun i v hi => ?_) hw)) (hsz.put _ _)
     . show(match look ((d,(⟨false,cr s.rs y⟩:Rt))::st1.rt) d with | some R=>R.cells[0+i]? | none=>none)=_;rw[aK,if_pos rfl,aex];exact hi
     . simp[Gh.at,List.getD,hi]
 . simp at hp
theorem tA(hT:cf P E)(hga:cZ P E):qI P E:=by
 intro cx Z g st a w o st' h hn hsz hdo hrun;have hdn:∀ d,o.dst=some d->jw cx a d:=fun d hd=>by rw[hd]at hdo;exact hsz.dst hdo
 have key:nN P cx E st' a w o:=by
  generalize hop:o.op=op at hrun;generalize hdst:o.dst=dst at hrun;unfold yS at hrun;split at hrun
  . obtain⟨ti,h1,hrun⟩:=Tr.af hrun;obtain⟨ta,h2,hrun⟩:=Tr.af hrun;obtain⟨av,h3,hrun⟩:=Tr.af hrun;obtain⟨tx,h4,hrun⟩:=Tr.af hrun;obtain⟨p,h5,hrun⟩:=Tr.af hrun;cases hb:p.2.all st.live&&Nat.beq p.2.length ti.ks.length with
    | false=>rw[hb]at hrun; simp[Tr.run]at hrun
    | true => rw[hb]at hrun;simp only[oT]at hrun;simp only[aeo]at hb;obtain⟨hself,hrun⟩:=Tr.bB hrun;obtain⟨s1,h6,hrun⟩:=Tr.af hrun;simp only[Tr.run,aen]at hrun;subst hrun;exact Q0 hT h hn hsz hdst hop h1 h2 h3 h4 h5 hb.1 (beq_eq hb.2) hself h6
  . obtain⟨tv,h1,hrun⟩:=Tr.af hrun;simp only[Tr.run,aen]at hrun;subst hrun;exact om h hn hsz hdst (hdn _ hdst) (.inr hop) h1
  . obtain⟨tv,h1,hrun⟩:=Tr.af hrun;simp only[Tr.run,aen]at hrun;subst hrun;exact om h hn hsz hdst (hdn _ hdst) (.inl hop) h1
  . rename_i t x d;obtain⟨ti,h1,hrun⟩:=Tr.af hrun;obtain⟨tv,h2,hrun⟩:=Tr.af hrun;obtain⟨p,h3,hrun⟩:=Tr.af hrun;cases hb:st.free d&&p.2.all st.live&&Nat.beq p.2.length ti.ks.length with
    | false=>rw[hb]at hrun; simp[Tr.run]at hrun
    | true => rw[hb]at hrun;simp only[oT]at hrun;simp only[aeo]at hb;obtain⟨s1,h6,hrun⟩:=Tr.af hrun;simp only[Tr.run,aen]at hrun;subst hrun;exact aab h hn hsz hdst (hdn _ hdst) hop h2 h3 hb.1.1 hb.1.2 (beq_eq hb.2) h6
  . rename_i c;split at hrun
    . rename_i x y hcal hargs;split at hrun
      . rename_i d t t2 ts hts;obtain⟨ti,h1,hrun⟩:=Tr.af hrun;obtain⟨te,h2,hrun⟩:=Tr.af hrun;obtain⟨tx,h3,hrun⟩:=Tr.af hrun;obtain⟨ty,h4,hrun⟩:=Tr.af hrun;cases hb:E.str t2||(E.sl t2).isSome with
        | false =>
          rw[hb]at hrun;simp only[oF]at hrun;cases hb2:E.i64 t2&&eW tx with
          | false=>rw[hb2]at hrun; simp[Tr.run]at hrun
          | true => rw[hb2]at hrun;simp only[oT]at hrun;simp only[aeo]at hb2;obtain⟨p,h5,hrun⟩:=Tr.af hrun;exact Iy hT h hn hsz hdst (hdn _ hdst) hop hcal hargs hts h1 h2 h3 h4 hb2.1 hb2.2 h5 hrun
        | true =>
          rw[hb]at hrun;simp only[oT]at hrun;have h5:E.str t2=true∨∃ te2,E.sl t2=some te2:=by
           simp only[afz]at hb;rcases hb with hb | hb
           . exact .inl hb
           . cases he:E.sl t2 with
             | none=>rw[he]at hb; simp at hb
             | some te2=>exact .inr ⟨te2,rfl⟩
          cases hsh:st.J1 te.ks tx ty with
          | true=>rw[hsh]at hrun; exact Iv hT h hn hsz hdst (hdn _ hdst) hop hcal hargs hts h1 h2 h3 h4 h5 hrun
          | false=>rw[hsh]at hrun; exact Kr hT h hn hsz hdst (hdn _ hdst) hop hcal hargs hts h1 h2 h3 h4 h5 hrun
      . simp[Tr.run]at hrun
    . rename_i f hcal;obtain⟨tf,h1,hrun⟩:=Tr.af hrun;split at hrun
      . rename_i gid caps;obtain⟨l,h2,hrun⟩:=Tr.af hrun;cases hpw:KS (E.ga gid)with
        | true => rw[hpw]at hrun;exact LK hga h hn hsz (fun d hd=>hdn d (hdst.trans hd)) hdst hop hcal h1 h2 hrun
        | false =>
        rw[hpw]at hrun;simp only[oF]at hrun;cases hio:J0 (E.ga gid)with
        | true => rw[hio]at hrun;exact Nq hga h hn hsz (fun d hd=>hdn d (hdst.trans hd)) hdst hop hcal h1 h2 hrun
        | false =>
          rw[hio]at hrun;simp only[oF]at hrun;split at hrun
          . exact Ui hga h hn hsz hdst (hdn _ hdst) hop hcal h1 h2 hrun
          . simp[Tr.run]at hrun
      . simp[Tr.run]at hrun
    . simp[Tr.run]at hrun
  . simp[Tr.run]at hrun
 exact key
end
def FJ:Value->K->Bool
 | .int k n,.int k'=>k == k'&&n == 0
 | .bool b,.bool=> !b
 | .string s,.str=>Nat.beq s.size 0
 | .slice none 0 0,.sl _ _=>true
 | _,_=>false
def ml:List Value->List K->Bool
 | [],[]=>true
 | v::vs,k::ks=>FJ v k&&ml vs ks
 | _,_=>false
theorem HQ{v:Value}{k:K}(h:FJ v k=true):v=zV k:=by
 unfold FJ at h;split at h
 . simp only[aeo,beq_iff_eq]at h;rw[h.1,h.2]; rfl
 . rename_i b;cases b with
   | false=>rfl
   | true=>simp at h
 . rename_i s;have hs:s.size=0:=beq_eq h;show Value.string s= .string (eQ []);congr 1;apply ahb;apply Array.ext';have:s.data.toList=[]:=by
    apply ae6.1;rw[aeY];exact hs
   rw[this];rfl
 . rfl
 . simp at h
theorem uX:∀ {vs:List Value} {ks:List K},ml vs ks=true->vs=ks.map zV
 | [],[],_=>rfl
 | v::vs,k::ks,h=>by simp only[ml,aeo]at h;rw[HQ h.1,uX h.2];rfl
 | [],_::_,h=>by simp[ml]at h
 | _::_,[],h=>by simp[ml]at h
def tl:List (Nat×Nat)->List Field->Bool
 | [],_=>true
 | (o,t)::r,f::fs=>Nat.beq f.offset o&&Nat.beq f.type t&&tl r fs
 | _::_,[]=>false
theorem xm:∀ {l:List (Nat×Nat)} {fs:List Field},tl l fs=true->∀ i o t,H6 l i=some (o,t)->∃ fi,fs[i]? = some fi/\fi.offset=o/\fi.type=t
 | [],fs,h,i,o,t,hf=>by simp[H6]at hf
 | (o0,t0)::r,f::fs,h,0,o,t,hf=>by simp only[tl,aeo]at h;simp only[H6,aen,aeT]at hf;exact⟨f,rfl,(beq_eq h.1.1).trans hf.1,(beq_eq h.1.2).trans hf.2⟩
 | (o0,t0)::r,f::fs,h,i+1,o,t,hf=>by simp only[tl,aeo]at h;exact xm h.2 i o t hf
 | _::_,[],h,_,_,_,_=>by simp[tl]at h
def N6(P:Program)(f:Field):Bool:=match P.info? f.type with | some i=>Nat.blt 0 i.size | none=>false
def oz(P:Program)(ti:TI):TypeDesc->Bool
 | .struct fs=>ti.agg&&tl ti.flds fs.toList&&fs.toList.all (N6 P)
 | .slice e=> !ti.agg&&(match ti.ks with | [.sl e' _]=>Nat.beq e' e&&Nat.beq ti.elem e | _=>false)
 | .int k=> !ti.agg&&(match ti.ks with | [.int k']=>k' == k | _=>false)
 | .bool=> !ti.agg&&(match ti.ks with | [.bool]=>true | _=>false)
 | .string=> !ti.agg&&(match ti.ks with | [.str]=>true | _=>false)
 | _=>false
def V1(P:Program)(t:Nat)(ti:TI):Bool:=match P.info? t,P.underlying t with
 | some i,some d=>Nat.beq i.size ti.ks.length&&Nat.beq i.bytes ti.bytes&&(match i.zero with | some z=>ml z.cells.toList ti.ks | none=>false)&&oz P ti d
 | _,_=>false
theorem Jr{P:Program}{ti:TI}{d:TypeDesc}(h:oz P ti d=true):iz P ti d:=by
 cases d with
 | struct fs =>
   simp only[oz,aeo]at h;refine⟨h.1.1,fun f o u hf => ?_,fun fi hfi => ?_⟩
   . obtain⟨fi,h1,h2⟩:=xm h.1.2 f o u hf;exact⟨fi,by rw[<- aer]; exact h1,h2⟩
   . have:=aeG.1 h.2 fi hfi;unfold N6 at this;cases hi:P.info? fi.type with
     | none=>rw[hi]at this; simp at this
     | some i=>rw[hi]at this; exact⟨i,rfl,Nat.ne_of_gt (afr (aeJ this))⟩
 | slice e =>
   simp only[oz,aeo,ae8]at h;obtain⟨h1,h2⟩:=h;split at h2
   . rename_i e' ks hk;simp only[aeo]at h2;have e1:=beq_eq h2.1;subst e1;exact⟨h1,ks,hk,beq_eq h2.2⟩
   . simp at h2
 | int k =>
   simp only[oz,aeo,ae8]at h;obtain⟨h1,h2⟩:=h;split at h2
   . rename_i k' hk;have:k'=k:=by simpa using h2
     subst this;exact⟨h1,hk⟩
   . simp at h2
 | bool =>
   simp only[oz,aeo,ae8]at h;obtain⟨h1,h2⟩:=h;split at h2
   . rename_i hk; exact⟨h1,hk⟩
   . simp at h2
 | string =>
   simp only[oz,aeo,ae8]at h;obtain⟨h1,h2⟩:=h;split at h2
   . rename_i hk; exact⟨h1,hk⟩
   . simp at h2
 | _=>simp[oz]at h
theorem Qz{P:Program}{t:Nat}{ti:TI}(h:V1 P t ti=true):pk P t ti:=by
 unfold V1 at h;split at h
 . rename_i i d hi hd;simp only[aeo]at h;obtain⟨⟨⟨h1,h2⟩,h3⟩,h4⟩:=h;refine⟨⟨i,hi,beq_eq h1,beq_eq h2,?_⟩,d,hd,Jr h4⟩;split at h3
   . rename_i z hz;exact⟨z,hz,uX h3⟩
   . simp at h3
 . simp at h
def Ry(P:Program):List (Nat×TI)->Bool
 | []=>true
 | (t,ti)::r=>V1 P t ti&&Ry P r
theorem Cf{P:Program}:∀ {l:List (Nat×TI)},Ry P l=true->∀ t ti,(t,ti)∈l->pk P t ti
 | [],_,_,_,h=>by simp at h
 | (t0,ti0)::r,h,t,ti,hm=>by
   simp only[Ry,aeo]at h;rcases aew.1 hm with hm | hm
   . cases hm; exact Qz h.1
   . exact Cf h.2 t ti hm
theorem ON{P:Program}{E:En}(h:Ry P E.tt=true):cf P E:=fun t ti ht=>Cf h t ti (gY _ _ _ ht)
def lQ(lo:Nat->Bool):Code->Bool
 | .seq a b=>lQ lo a&&lQ lo b
 | .cond _ a b=>lQ lo a&&lQ lo b
 | .block id c=> !lo id&&lQ lo c
 | .loop c=>lQ lo c
 | _=>true
theorem bz{P:Program}{E:En}(hrg:∀ id,E.rg id=none:=by intro _; rfl):∀(c:Code),lQ (fun id=>(E.lo id).isSome) c=true->db P E c
 | .seq a b,h=>by simp only[lQ,aeo]at h;exact⟨bz hrg a h.1,bz hrg b h.2⟩
 | .cond _ a b,h=>by simp only[lQ,aeo]at h;exact⟨bz hrg a h.1,bz hrg b h.2⟩
 | .block id c,h=>by simp only[lQ,aeo,ae8]at h;refine⟨fun L hL => ?_,fun _=>bz hrg c h.2⟩;rw[hL]at h;simp at h
 | .skip,_=>trivial
 | .region id _ _,_=>fun F hF=>by rw[hrg id]at hF; simp at hF
 | .loop c,h=>bz (E:=E) hrg c h
 | .rangeFunc _ _ _ _,_=>trivial
 | .exit _,_=>trivial
 | .scope _,_=>trivial
 | .label _,_=>trivial
 | .goto _,_=>trivial
 | .ret,_=>trivial
 | .refuse _,_=>trivial
def lR(rg:Nat->Bool)(lo:Nat->Bool):Code->List (Nat×Code)
 | .seq a b=>lR rg lo a++lR rg lo b
 | .cond _ a b=>lR rg lo a++lR rg lo b
 | .block id c=>bif lo id then []else lR rg lo c
 | .region id ops dr=>bif rg id then [(id,.region id ops dr)]else []
 | .loop c=>lR rg lo c
 | _=>[]
def ez(lo:Nat->Bool):Code->List (Nat×Code)
 | .seq a b=>ez lo a++ez lo b
 | .cond _ a b=>ez lo a++ez lo b
 | .block id c=>bif lo id then [(id,c)]else ez lo c
 | .loop c=>ez lo c
 | _=>[]
theorem fZ{P:Program}{E:En}:∀(c:Code),(∀ id b F,(id,b)∈lR (fun id=>(E.rg id).isSome) (fun id=>(E.lo id).isSome) c->E.rg id=some F->cM P E b F)->(∀ id b L,(id,b)∈ez (fun id=>(E.lo id).isSome) c->E.lo id=some L->iQ P E id b L)->db P E c
 | .seq a b,hr,h=>⟨fZ a (fun id b F hm=>hr id b F (af3 _ hm)) fun id b L hm=>h id b L (af3 _ hm),fZ b (fun id b F hm=>hr id b F (agn _ hm)) fun id b L hm=>h id b L (agn _ hm)⟩
 | .cond _ a b,hr,h=>⟨fZ a (fun id b F hm=>hr id b F (af3 _ hm)) fun id b L hm=>h id b L (af3 _ hm),fZ b (fun id b F hm=>hr id b F (agn _ hm)) fun id b L hm=>h id b L (agn _ hm)⟩
 | .block id c,hr,h=>by
   refine⟨fun L hL=>h id c L ?_ hL,fun hn=>fZ c (fun id' b F hm hF=>hr id' b F (by simp only[lR,hn,afH,oF]; exact hm) hF) fun id' b L hm hL=>h id' b L ?_ hL⟩
   . simp[ez,hL]
   . simp only[ez,hn,afH,oF];exact hm
 | .skip,_,_=>trivial
 | .region id ops dr,hr,_=>fun F hF=>hr id _ F (by simp[lR,hF]) hF
 | .loop c,hr,h=>fZ (E:=E) c hr h
 | .rangeFunc _ _ _ _,_,_=>trivial
 | .exit _,_,_=>trivial
 | .scope _,_,_=>trivial
 | .label _,_,_=>trivial
 | .goto _,_,_=>trivial
 | .ret,_,_=>trivial
 | .refuse _,_,_=>trivial
section
variable{X Y:Type}(step:X->Option (Sum X Y))
theorem zt{n m:Nat}{x:X}{y:Y}(h:iter step n x=some y)(hm:n<=m):iter step m x=some y:=by
 induction n generalizing m x with
 | zero=>simp[iter]at h
 | succ n ih =>
   obtain⟨k,rfl⟩:∃ k,m=k+1:=⟨m-1,by omega⟩;unfold iter at h ⊢;split at h
   . rename_i x' hx;exact ih h (by omega)
   . rename_i z hx;exact h
   . simp at h
noncomputable def aq(x:X):Option Y:=open Classical in if h:∃ n y,iter step n x=some y then some (Classical.choose (afL h))else none
theorem xP{x:X}{y:Y}(h:aq step x=some y):∃ n,iter step n x=some y:=by
 unfold aq at h;split at h
 . rename_i hh;simp only[aen]at h;subst h;exact⟨_,afL (afL hh)⟩
 . simp at h
theorem C9{n:Nat}{x:X}{y:Y}(h:iter step n x=some y):aq step x=some y:=by have hh:∃ n y,iter step n x=some y:=⟨n,y,h⟩;unfold aq;rw[dif_pos hh];have h1:=afL (afL hh);have e1:=zt step h (Nat.le_max_left n (Classical.choose hh));have e2:=zt step h1 (Nat.le_max_right n (Classical.choose hh));rw[e1]at e2;exact e2.symm
theorem dU{x x':X}{y:Y}(h:step x=some (.inl x'))(h':aq step x'=some y):aq step x=some y:=by obtain⟨n,hn⟩:=xP step h';refine C9 step (n:=n+1) ?_;unfold iter;rw[h];exact hn
theorem dA{x:X}{y:Y}(h:step x=some (.inr y)):aq step x=some y:=by refine C9 step (n:=1) ?_;unfold iter;rw[h]
end
abbrev Rd(A Q:Type):=Option (Sum A (Sum A Q))
abbrev yO{A B Z:Type}(r:A->B->Z)(x:A×B×Unit):Z:=r x.1 x.2.1
abbrev Py{A B Z:Type}(φ:A×B×Unit->Z)(a:A)(b:B):Z:=φ (a,b,())
abbrev iT{A B C Z:Type}(r:A->B->C->Z)(x:A×B×C×Unit):Z:=r x.1 x.2.1 x.2.2.1
abbrev vm{A B C Z:Type}(φ:A×B×C×Unit->Z)(a:A)(b:B)(c:C):Z:=φ (a,b,c,())
abbrev da{A B C D Z:Type}(r:A->B->C->D->Z)(x:A×B×C×D×Unit):Z:=r x.1 x.2.1 x.2.2.1 x.2.2.2.1
abbrev nA{A B C D Z:Type}(φ:A×B×C×D×Unit->Z)(a:A)(b:B)(c:C)(d:D):Z:=φ (a,b,c,d,())
abbrev nD{A B C D E Z:Type}(r:A->B->C->D->E->Z)(x:A×B×C×D×E×Unit):Z:=r x.1 x.2.1 x.2.2.1 x.2.2.2.1 x.2.2.2.2.1
abbrev JU{A B C D E Z:Type}(φ:A×B×C×D×E×Unit->Z)(a:A)(b:B)(c:C)(d:D)(e:E):Z:=φ (a,b,c,d,e,())
abbrev BU{A B C D E F Z:Type}(r:A->B->C->D->E->F->Z)(x:A×B×C×D×E×F×Unit):Z:=r x.1 x.2.1 x.2.2.1 x.2.2.2.1 x.2.2.2.2.1 x.2.2.2.2.2.1
abbrev Xh{A B C D E F Z:Type}(φ:A×B×C×D×E×F×Unit->Z)(a:A)(b:B)(c:C)(d:D)(e:E)(f:F):Z:=φ (a,b,c,d,e,f,())
abbrev zO{A B C D E F G Z:Type}(r:A->B->C->D->E->F->G->Z)(x:A×B×C×D×E×F×G×Unit):Z:=r x.1 x.2.1 x.2.2.1 x.2.2.2.1 x.2.2.2.2.1 x.2.2.2.2.2.1 x.2.2.2.2.2.2.1
abbrev W8{A B C D E F G Z:Type}(φ:A×B×C×D×E×F×G×Unit->Z)(a:A)(b:B)(c:C)(d:D)(e:E)(f:F)(g:G):Z:=φ (a,b,c,d,e,f,g,())
abbrev OJ{A B C D E F G H Z:Type}(r:A->B->C->D->E->F->G->H->Z)(x:A×B×C×D×E×F×G×H×Unit):Z:=r x.1 x.2.1 x.2.2.1 x.2.2.2.1 x.2.2.2.2.1 x.2.2.2.2.2.1 x.2.2.2.2.2.2.1 x.2.2.2.2.2.2.2.1
abbrev cu8{A B C D E F G H Z:Type}(φ:A×B×C×D×E×F×G×H×Unit->Z)(a:A)(b:B)(c:C)(d:D)(e:E)(f:F)(g:G)(h:H):Z:=φ (a,b,c,d,e,f,g,h,())
abbrev un9{A B C D E F G H I Z:Type}(r:A->B->C->D->E->F->G->H->I->Z)(x:A×B×C×D×E×F×G×H×I×Unit):Z:=r x.1 x.2.1 x.2.2.1 x.2.2.2.1 x.2.2.2.2.1 x.2.2.2.2.2.1 x.2.2.2.2.2.2.1 x.2.2.2.2.2.2.2.1 x.2.2.2.2.2.2.2.2.1
abbrev cu9{A B C D E F G H I Z:Type}(φ:A×B×C×D×E×F×G×H×I×Unit->Z)(a:A)(b:B)(c:C)(d:D)(e:E)(f:F)(g:G)(h:H)(i:I):Z:=φ (a,b,c,d,e,f,g,h,i,())
abbrev HS{A B C D E F G H I J Z:Type}(r:A->B->C->D->E->F->G->H->I->J->Z)(x:A×B×C×D×E×F×G×H×I×J×Unit):Z:=r x.1 x.2.1 x.2.2.1 x.2.2.2.1 x.2.2.2.2.1 x.2.2.2.2.2.1 x.2.2.2.2.2.2.1 x.2.2.2.2.2.2.2.1 x.2.2.2.2.2.2.2.2.1 x.2.2.2.2.2.2.2.2.2.1
abbrev Z6{A B C D E F G H I J Z:Type}(φ:A×B×C×D×E×F×G×H×I×J×Unit->Z)(a:A)(b:B)(c:C)(d:D)(e:E)(f:F)(g:G)(h:H)(i:I)(j:J):Z:=φ (a,b,c,d,e,f,g,h,i,j,())
def aw(k:IntKind)(a b:Int):Int:=k.wrap (a+b)
def aW(k:IntKind)(a b:Int):Int:=k.wrap (a-b)
def vi(k:IntKind)(a b:Int):Int:=k.wrap (a * b)
def jU(k:IntKind)(a b:Int):Int:=k.wrap (a.tdiv b)
def eF(a b:Int):Int:=a.tmod b
def IX(k:IntKind)(a b:Int):Int:=k.wrap ((BitVec.ofInt k.bits a &&& BitVec.ofInt k.bits b).toNat:Int)
def Oy(k:IntKind)(a b:Int):Int:=k.wrap ((BitVec.ofInt k.bits a ||| BitVec.ofInt k.bits b).toNat:Int)
def Pb(k:IntKind)(a b:Int):Int:=k.wrap (a * 2 ^ min b.toNat k.bits)
def pg(k:IntKind)(a b:Int):Int:=a.fdiv (2 ^ min b.toNat k.bits)
def dE(k:IntKind)(a:Int):Int:=k.wrap a
def ae{α:Type}(xs:List α):Int:=(xs.length:Int)
def G8(n:Nat)(i j:Int):Bool:=Nat.rec true (fun _ r=>Nat.beq i.toNat j.toNat&&r) n
def aZ{α:Type}(i:Int)(xs:List α):Bool:=nR i xs.length
def dZ{α:Type}(lo hi:Int)(xs:List α):Bool:=iF lo hi xs.length
def YE(lo hi:Int):Bool:=iF lo hi 0
def gt{α:Type}(d:α)(xs:List α)(i:Int):α:=xs.getD i.toNat d
def dw{α:Type}(xs:List α)(i:Int)(x:α):List α:=List.set xs i.toNat x
def Pv{α:Type}(xs:List α)(n:Int):List α:=List.take n.toNat xs
def eV{α:Type}(xs ys:List α):List α:=xs++ys
def wz(s t:S8):S8:=s++t
def a6{α:Type}(bytes:Nat)(xs ys:List α):Bool:=Nat.ble ((xs.length+ys.length) * bytes) bG
def Yd{α:Type}(bytes:Nat)(xs:List α):Bool:=Nat.ble (xs.length * bytes) bG
def jv(s t:S8):Bool:=Nat.ble (s.length+t.length) bG
def yK(s t:S8):Bool:=Op.bytesLess s t
def leS(s t:S8):Bool:=Op.bytesLess s t||bk s t
def ee(s:S8)(i:Int):Int:=CR s i.toNat
def um{α:Type}(d:α)(n:Int):List α:=List.replicate n.toNat d
def O3(bytes:Nat)(n:Int):Bool:=bM 0 n&&(bM (n * bytes) bG&&Nat.blt 0 bytes)
def ak(f:Func):Code:=match f.body with | some c=>c | none=> .skip
def Vo:Code->Code
 | .loop b=>b
 | _=> .skip
def na(id:Nat):Code->Option Code
 | .seq a b=>match na id a with | some c=>some c | none=>na id b
 | .cond _ a b=>match na id a with | some c=>some c | none=>na id b
 | .block i c=>bif Nat.beq i id then some (Vo c)else na id c
 | .loop b=>na id b
 | _=>none
def jn(id:Nat)(c:Code):Code:=(na id c).getD .skip
abbrev SS:=Sum Su Sc
abbrev iS(s:Su):SS:= .inl s
abbrev iC(s:Sc):SS:= .inr s
def Dc:List (Nat×SS)->Nat->List Su
 | [],_=>[]
 | (g,.inl s)::r,f=>bif Nat.beq g f then s::Dc r f else Dc r f
 | (_,.inr _)::r,f=>Dc r f
def Fc:List (Nat×SS)->Nat->Option Sc
 | [],_=>none
 | (g,.inr s)::r,f=>bif Nat.beq g f then some s else Fc r f
 | _::r,f=>Fc r f
def uZ(n:Nat)(tt:List (Nat×TI))(l:List (Nat×SS))(ρ:List SE)(lo:Nat->Option (Lo ρ))(pins:List Nat)(rg:Nat->Option (St->Tr St)):En:=⟨n,tt,Dc l,ρ,lo,pins,rg,Fc l⟩
def Zd(P:Program)(g:Nat):SS->Prop
 | .inl s=>au P g s
 | .inr s=>EF P g s
def nx(P:Program):List (Nat×SS)->Prop
 | []=>True
 | (g,s)::r=>Zd P g s/\nx P r
theorem sI{P:Program}:∀(l:List (Nat×SS)) (f:Nat) (s:Su),nx P l->s∈Dc l f->au P f s
 | [],_,_,_,h=>by simp[Dc]at h
 | (_,.inr _)::r,f,s,hl,h=>sI r f s hl.2 h
 | (g,.inl s0)::r,f,s,hl,h=>by
   unfold Dc at h;cases hb:Nat.beq g f with
   | false=>rw[hb]at h; exact sI r f s hl.2 h
   | true =>
     rw[hb]at h;have:=beq_eq hb;subst this;rcases aew.1 h with h | h
     . subst h; exact hl.1
     . exact sI r g s hl.2 h
theorem xr{P:Program}:∀(l:List (Nat×SS)) (f:Nat) (s:Sc),nx P l->Fc l f=some s->EF P f s
 | [],_,_,_,h=>by simp[Fc]at h
 | (_,.inl _)::r,f,s,hl,h=>xr r f s hl.2 h
 | (g,.inr s0)::r,f,s,hl,h=>by
   unfold Fc at h;cases hb:Nat.beq g f with
   | false=>rw[hb]at h; exact xr r f s hl.2 h
   | true => rw[hb]at h;cases beq_eq hb;cases h;exact hl.1
theorem bZ{P:Program}{E:En}{l:List (Nat×SS)}(hl:nx P l)(h:E.ga=Dc l:=by rfl)(hc:E.gc=Fc l:=by rfl):cZ P E:=⟨fun f s hs=>sI l f s hl (h ▸ hs),fun f s hs=>xr l f s hl (hc ▸ hs)⟩
theorem oU{P:Program}{E E':En}(h:cf P E)(e:E'.tt=E.tt:=by rfl):cf P E':=fun t ti ht=>h t ti (by unfold En.ti at ht ⊢;rw[<- e]; exact ht)
def xe(P:Program)(E:En):List (Nat×Code)->Prop
 | []=>True
 | (id,b)::r=>(∀ L,E.lo id=some L->iQ P E id b L)/\xe P E r
theorem pX{P:Program}{E:En}:∀(l:List (Nat×Code)) (id:Nat) (b:Code) (L:Lo E.ρ),xe P E l->(id,b)∈l->E.lo id=some L->iQ P E id b L
 | [],_,_,_,_,h,_=>by simp at h
 | (i,c)::r,id,b,L,hl,h,hL=>by
   rcases aew.1 h with h | h
   . cases h; exact hl.1 L hL
   . exact pX r id b L hl.2 h hL
def EX(P:Program)(E:En):List (Nat×Code)->Prop
 | []=>True
 | (id,b)::r=>(∀ F,E.rg id=some F->cM P E b F)/\EX P E r
theorem yb{P:Program}{E:En}:∀(l:List (Nat×Code)) (id:Nat) (b:Code) (F:St->Tr St),EX P E l->(id,b)∈l->E.rg id=some F->cM P E b F
 | [],_,_,_,_,h,_=>by simp at h
 | (i,c)::r,id,b,F,hl,h,hF=>by
   rcases aew.1 h with h | h
   . cases h; exact hl.1 F hF
   . exact yb r id b F hl.2 h hF
theorem pL{P:Program}{E:En}{id:Nat}{b:Code}{F0:St->Tr St}(h:E.rg id=some F0)(hs:cM P E b F0):∀ F,E.rg id=some F->cM P E b F:=fun F hF=>by rw[h]at hF;cases hF;exact hs
theorem ux{P:Program}{E:En}{c:Code}(bs:List (Nat×Code))(h:ez (fun id=>(E.lo id).isSome) c=bs)(hs:xe P E bs)(hrg:∀ id,E.rg id=none:=by intro _; rfl):db P E c :=
 fZ c (fun id b F hm hF=>by rw[hrg id]at hF; simp at hF) fun id b L hm hL=>pX bs id b L hs (h ▸ hm) hL
theorem cC{P:Program}{E:En}{c:Code}(bs:List (Nat×Code))(h:ez (fun id=>(E.lo id).isSome) c=bs)(hs:xe P E bs)(rs:List (Nat×Code))(hr:lR (fun id=>(E.rg id).isSome) (fun id=>(E.lo id).isSome) c=rs)(hrs:EX P E rs):db P E c :=
 fZ c (fun id b F hm hF=>yb rs id b F hrs (hr ▸ hm) hF) fun id b L hm hL=>pX bs id b L hs (h ▸ hm) hL
theorem Pn{P:Program}{E:En}{id:Nat}{b:Code}{L0:Lo E.ρ}(h:E.lo id=some L0)(hs:iQ P E id b L0):∀ L,E.lo id=some L->iQ P E id b L:=fun L hL=>by rw[h]at hL;cases hL;exact hs
theorem An{P:Program}{E:En}(hT:cf P E)(hga:cZ P E)(hm:P.follows .mixedOrders=true){id:Nat}{σ:List SE}{body:Code}{step:ej σ->Option (Sum (ej σ) (Sum (ej σ) (ej E.ρ)))}
 (ht:∀ x,(lZ E id σ body x).run=step x)(hl:db P E body):iQ P E id (.loop body) ⟨σ,fun x=>aq step x⟩ :=
 Fo hT hga (tA hT hga) hm (uN E) hl fun x r h=>by obtain⟨n,hn⟩:=xP step h;have e:(fun x=>(lZ E id σ body x).run)=step:=funext ht;exact⟨n,by rw[e]; exact hn⟩
theorem nu {P : Program} {E : En} (hT : cf P E) (hga : cZ P E) (hm : P.follows .mixedOrders = true) {f : Nat} {fn : Func} {c : Code} (hf : P.funcs[f]? = some fn) (hname : (fn.name == "runtime.NumGoroutine") = false) (hb : fn.body = some c) (hnt : E.nt = fn.ntmps) (hl : db P E c)
 {s:Su} (hs:∀ x y,s.sO x=some y->∃ z,(lu s.ps=true->z=y.1)/\(Ei E c fn.results.toList s.ps s.rs s.fresh x).run=some (z,y.2)):au P f s :=
 Ni hT hga (tA hT hga) hm hf hname hb hnt hl hs
def dm:Code->Code | .seq a _=>a | c=>c
def cB:Code->Code | .seq _ b=>b | c=>c
def GQ:Code->Nat | .region i _ _=>i | _=>0
def nC(c:Code)(i:Nat):Oper:=match c with | .region _ ops _=>ops.getD i default | _=>default
def qp(id:Nat):Code->Option Code
 | .seq a b=>match qp id a with | some c=>some c | none=>qp id b
 | .cond _ a b=>match qp id a with | some c=>some c | none=>qp id b
 | .block _ c=>qp id c
 | .loop b=>qp id b
 | .region i ops dr=>bif Nat.beq i id then some (.region i ops dr)else none
 | _=>none
def a8(id:Nat)(c:Code):Code:=(qp id c).getD .skip
def Mw(o:Oper):Call:=match o.op with | .call c=>c | _=>⟨.builtin .len,#[],#[]⟩
def mzB(bytes:Nat)(n:Int):Bool:=bM 0 n&&bM (n * bytes) bG
def XH{ρ:List SE}:List (Nat×Lo ρ)->Nat->Option (Lo ρ)
 | [],_=>none
 | (k,L)::r,i=>bif Nat.beq k i then some L else XH r i
def JW(n:Nat)(tt:List (Nat×TI))(l:List (Nat×SS))(ρ:List SE)(los:List (Nat×Lo ρ))(pins:List Nat):En:=uZ n tt l ρ (XH los) pins fun _=>none
theorem ac{P:Program}{f:Nat}{s:Su}{l:List (Nat×SS)}(h:au P f s)(r:nx P l):nx P ((f,iS s)::l):=⟨h,r⟩
theorem ack{P:Program}{f:Nat}{s:Sc}{l:List (Nat×SS)}(h:EF P f s)(r:nx P l):nx P ((f,iC s)::l):=⟨h,r⟩
theorem an{P:Program}:nx P []:=trivial
def Yf(P:Program)(E:En)(C c:Code):Prop:=cf P E->cZ P E->P.follows .mixedOrders=true->db P E c
def Q3(P:Program)(E:En)(C:Code)(ks:List Nat):Prop:=cf P E->cZ P E->P.follows .mixedOrders=true->xe P E (ks.map fun k=>(k,.loop (jn k C)))
theorem sn{P:Program}{E:En}{C:Code}:Q3 P E C []:=fun _ _ _=>trivial
theorem dI{P:Program}{n:Nat}{tt:List (Nat×TI)}{l:List (Nat×SS)}{ρ:List SE}{los:List (Nat×Lo ρ)}{pins:List Nat}{C c:Code}
 (h:ez (fun id=>((JW n tt l ρ los pins).lo id).isSome) c=[]:=by kernel_rfl):Yf P (JW n tt l ρ los pins) C c:=fun _ _ _ =>
 ux [] h trivial
theorem sc{P:Program}{E:En}{C:Code}{k:Nat}{ks:List Nat}{σ:List SE}{step:ej σ->Option (Sum (ej σ) (Sum (ej σ) (ej E.ρ)))}(hl:Yf P E C (jn k C))(r:Q3 P E C ks)(h:E.lo k=some ⟨σ,fun x=>aq step x⟩:=by exact rfl)
 (ht:∀ x,(lZ E k σ (jn k C) x).run=step x:=by intro x; kernel_rfl):Q3 P E C (k::ks):=fun hT hga hm =>
 ⟨Pn h (An hT hga hm ht (hl hT hga hm)),r hT hga hm⟩
theorem lp{P:Program}{n:Nat}{tt:List (Nat×TI)}{l:List (Nat×SS)}{ρ:List SE}{los:List (Nat×Lo ρ)}{pins:List Nat}{C c:Code}(ks:List Nat)(hs:Q3 P (JW n tt l ρ los pins) C ks)
 (h:ez (fun id=>((JW n tt l ρ los pins).lo id).isSome) c=ks.map fun k=>(k,.loop (jn k C)):=by kernel_rfl):Yf P (JW n tt l ρ los pins) C c:=fun hT hga hm =>
 ux _ h (hs hT hga hm)
theorem flq{P:Program}{tt:List (Nat×TI)}{E0:En}(hT:cf P E0)(hm:P.follows .mixedOrders=true){f:Nat}{s:Su}{n:Nat}{l:List (Nat×SS)}(hl:nx P l){ρ:List SE}{los:List (Nat×Lo ρ)}{pins:List Nat}{fn:Func}
 (h : (P.funcs[f]?, (fn.name == "runtime.NumGoroutine"), fn.body.isSome, fn.ntmps) = (some fn, false, true, n)) (hlo : Yf P (JW n tt l ρ los pins) (ak fn) (ak fn))
 (ht:∀ x,(Ei (JW n tt l ρ los pins) (ak fn) fn.results.toList s.ps s.rs s.fresh x).run=s.sO x)(e:tt=E0.tt:=by rfl):au P f s:=by
 simp only[aeT]at h;have hb:fn.body=some (ak fn):=by
  have h:=h.2.2.1;unfold ak;cases hb:fn.body with
  | none=>rw[hb]at h; simp at h
  | some c=>rfl
 have hT':cf P (JW n tt l ρ los pins):=oU hT e;have hga:cZ P (JW n tt l ρ los pins):=bZ (l:=l) hl;exact nu hT' hga hm h.1 h.2.1 hb h.2.2.2.symm (hlo hT' hga hm) fun x y hy=>⟨y.1,fun _=>rfl,(ht x).trans hy⟩
end Go.Av
