/- FnExactHandle, a part. -/
import Derived.Test.YtcmhjdkpbgncfaaGreatDoorFw2
import Derived.Laws.AppendOwn
import Derived.KernelRfl
namespace Go.Av
open Go.RowKit (Below)
def Gh.lX(g:Gh)(r j:Nat)(v:Value)(F:Nat->Prop):Gh:=⟨g.be,fun r' j'=>if r'=r/\j'=j then v else g.cv r' j',fun r' j' b=>if r'=r/\j'=j then F b else g.fp r' j' b⟩
section
variable{P:Program}{cx:Cx P}{Z:Nat->Prop}{g:Gh}{st:St}{a:Act}{w:World}{E:En}
theorem lh{r j:Nat}{c:RC}{r':Nat}{R':Rt}(hR:look (st.setCell r j c).rt r'=some R'):∃ R,look st.rt r'=some R/\R'.box=R.box/\R'.cells.length=R.cells.length:=by
 rw[iw]at hR;split at hR
 . cases hl:look st.rt r' with
   | none=>rw[hl]at hR; simp at hR
   | some R => rw[hl]at hR;simp only[aeM,aem]at hR;subst hR;exact⟨R,rfl,rfl,jN _ _ _⟩
 . exact⟨R',hR,rfl,rfl⟩
theorem Rel.change(h:Rel cx Z g st a w){r j:Nat}{c c':RC}(hc:st.cell r j=some c){w':World}{v':Value}{F':Nat->Prop}(h1:w'.os=w.os)(h2:w'.tape=w.tape)(h3:w'.output=w.output)(hsz:w.heap.size<=w'.heap.size)
 (hs:c.s<=c'.s)(hm:c.m<c'.m)(hcv:c'.s=c.s->v'=g.cv r j)(hsl:c'.s=c.s->∀ e ks xs,c.v= .own (.sl e ks) xs->∃ xs',c'.v= .own (.sl e ks) xs'/\(aR xs').length=(aR xs).length)
 (hblk:∀ b,b<w.heap.size->¬ g.fp r j b->(∀ R,look st.rt r=some R->R.box=true->g.be r≠b)->w'.heap[b]? = w.heap[b]?)
 (hF:∀ b,F' b->b<w'.heap.size/\(cx.F0 b∨cx.w0.heap.size<=b)/\¬ Z b/\(∀ r' j',g.fp r' j' b->r'=r/\j'=j)/\(∀ r' R,look st.rt r'=some R->R.box=true->g.be r'≠b)/\∃(k:K) (x:T k),c'.v= .own k x)
 (hbox:∀ R,look st.rt r=some R->R.box=true->∃ cs e fr cs',w.heap[g.be r]? = some (.cells cs e fr)/\w'.heap[g.be r]? = some (.cells cs' e fr)/\cs'.size=cs.size/\∀ i,i<cs.size->cs'[i]? = some (if i=j then v' else g.cv r i))
 (hv:∀(k:mF Z Z w w' g (g.lX r j v' F') st (st.setCell r j c')),jU Z (g.lX r j v' F') (st.setCell r j c') w' c'.v v' F') :
 Rel cx Z (g.lX r j v' F') (st.setCell r j c') a w'/\kn Z w w' g (g.lX r j v' F') st (st.setCell r j c'):=by
 have hfpo:∀ r' j' b,g.fp r' j' b->¬ (r'=r/\j'=j)->w'.heap[b]? = w.heap[b]? := fun r' j' b hb hne=>hblk b (h.fp r' j' b hb).1 (fun hh=>hne (h.disj _ _ _ _ _ hb hh)) fun R hR hbx he=>(h.box r R hR hbx).2.2.1 r' j' (by rw[he]; exact hb)
 have hz:∀ b,Z b->b<w.heap.size->w'.heap[b]? = w.heap[b]? := fun b hb hlt=>hblk b hlt (fun hh=>(h.fp r j b hh).2.2.1 hb) fun R hR hbx he=>(h.box r R hR hbx).2.1 (by rw[he]; exact hb)
 have hfpi:∀ r' j' b,(g.lX r j v' F').fp r' j' b->(r'=r/\j'=j/\F' b)∨(¬ (r'=r/\j'=j)/\g.fp r' j' b):=fun r' j' b hb=>by
  simp only[Gh.lX]at hb;split at hb
  . rename_i e; exact .inl ⟨e.1,e.2,hb⟩
  . rename_i e; exact .inr ⟨e,hb⟩
 have k:mF Z Z w w' g (g.lX r j v' F') st (st.setCell r j c'):=by
  refine { size:=hsz,z:=fun b hb hlt=>⟨hb,hz b hb hlt⟩,root:=fun r' R hR => ?_,cell:=fun r' j' c0 hc0 => ?_,own:=fun r j b hb=>(h.fp r j b hb).1,block:=(fm h (st':=st) (w':=w) rfl rfl).block }
  . rw[iw];by_cases e:r=r'
    . rw[if_pos e,hR]; exact⟨_,rfl,rfl,fun _=>rfl⟩
    . rw[if_neg e]; exact⟨R,hR,rfl,fun _=>rfl⟩
  . rw[da];by_cases e:r=r'/\j=j'
    . obtain⟨rfl,rfl⟩:=e;rw[hc0]at hc;simp only[aem]at hc;subst hc;rw[if_pos ⟨rfl,rfl⟩,hc0];refine⟨_,rfl,hs,agD hm,fun e => ?_,hsl,fun _ e=>absurd e (Nat.ne_of_gt hm)⟩;simp only[Gh.lX,and_self,if_true];exact hcv e
    . rw[if_neg e];have e':¬ (r'=r/\j'=j):=fun x=>e ⟨x.1.symm,x.2.symm⟩
      refine⟨c0,hc0,oR _,oR _,fun _=>by simp only[Gh.lX]; rw[if_neg e'],fun _ e ks xs hh=>⟨xs,hh,rfl⟩,fun _ _=>⟨rfl,fun b hb _=>⟨?_,hfpo r' j' b hb e'⟩⟩⟩;simp only[Gh.lX];rw[if_neg e'];exact hb
 refine⟨?_,⟨k,eO,rfl,fun r' R' hR=>by obtain⟨R,h1,h2,_⟩:=lh hR; exact⟨R,h1,h2⟩⟩⟩;refine { os:=h1.trans h.os,tape:=h2.trans h.tape,output:=h3.trans h.output,size:=aeu h.size hsz,block := ?_,bV:=fun b hb=>⟨aeJ (h.bV b hb).1 hsz,(h.bV b hb).2⟩,z0:=h.z0,fp := ?_,disj := ?_,box := ?_,cell := ?_,tm := ?_,defers:=h.defers,pin:=h.pin }
 . intro b hb hf;refine(hblk b (aeJ hb h.size) (fun hh => ?_) fun R hR hbx he => ?_).trans (h.block b hb hf)
   . rcases(h.fp r j b hh).2.1 with h4 | h4
     . exact hf h4
     . omega
   . rcases(h.box r R hR hbx).1 with h4 | h4
     . exact hf (he ▸ h4)
     . omega
 . intro r' j' b hb;rcases hfpi r' j' b hb with ⟨e1,e2,hb'⟩ | ⟨hne,hb⟩
   . obtain⟨k1,k2,k3,_,_,kk,x,k4⟩:=hF b hb';exact⟨k1,k2,k3,c',kk,x,by rw[da,if_pos ⟨e1.symm,e2.symm⟩,e1,e2,hc]; rfl,k4⟩
   . obtain⟨k1,k2,k3,c0,kk,x,k4,k5⟩:=h.fp r' j' b hb;exact⟨aeJ k1 hsz,k2,k3,c0,kk,x,by rw[da,if_neg (fun e=>hne ⟨e.1.symm,e.2.symm⟩)]; exact k4,k5⟩
 . intro r1 j1 r2 j2 b hb1 hb2;rcases hfpi _ _ _ hb1 with ⟨e1,e2,k1⟩ | ⟨hne1,k1⟩
   . rcases hfpi _ _ _ hb2 with ⟨e3,e4,k2⟩ | ⟨hne2,k2⟩
     . exact⟨e1.trans e3.symm,e2.trans e4.symm⟩
     . exact absurd ((hF b k1).2.2.2.1 r2 j2 k2) hne2
   . rcases hfpi _ _ _ hb2 with ⟨e3,e4,k2⟩ | ⟨hne2,k2⟩
     . exact absurd ((hF b k2).2.2.2.1 r1 j1 k1) hne1
     . exact h.disj _ _ _ _ _ k1 k2
 . intro r' R' hR hbx;obtain⟨R,e1,e2,e3⟩:=lh hR;obtain⟨b1,b2,b3,b4,cs,el,fr,b5,b6,b7,b8⟩:=h.box r' R e1 (by rw[<- e2]; exact hbx);have hnf:∀ r0 j0,¬ (g.lX r j v' F').fp r0 j0 (g.be r'):=fun r0 j0 hh=>by
    rcases hfpi _ _ _ hh with ⟨_,_,hh⟩ | ⟨_,hh⟩
    . exact(hF _ hh).2.2.2.2.1 r' R e1 (by rw[<- e2]; exact hbx) rfl
    . exact b3 _ _ hh
   refine⟨b1,b2,hnf,fun r'' R'' hR'' hb'' he => ?_,?_⟩
   . obtain⟨R2,f1,f2,_⟩:=lh hR'';exact b4 r'' R2 f1 (by rw[<- f2]; exact hb'') he
   . by_cases e:r'=r
     . subst e;obtain⟨cs0,el0,fr0,cs',f1,f2,f3,f4⟩:=hbox R e1 (by rw[<- e2]; exact hbx);rw[b5]at f1;simp only[aem,Obj.cells.injEq]at f1;obtain⟨rfl,rfl,rfl⟩:=f1;refine⟨cs',el,fr,f2,fun q hq=>b6 q (by omega),by rw[f3,b7,e3],fun i hi => ?_⟩;rw[f4 i (by omega)];simp only[Gh.lX,true_and]
     . refine⟨cs,el,fr,?_,b6,by rw[b7,e3],fun i hi => ?_⟩
       . have hlt:g.be r'<w.heap.size:=by
          rcases aeB (g.be r') w.heap.size with hh | hh
          . exact hh
          . simp[aeG hh]at b5
         show w'.heap[g.be r']? = _;rw[hblk _ hlt (b3 r j) fun R0 hR0 hb0 he=>e (b4 r R0 hR0 hb0 he).symm];exact b5
       . rw[b8 i hi];simp only[Gh.lX];rw[if_neg (fun x=>e x.1)]
 . intro r' j' c0 hc0;rw[da]at hc0;split at hc0
   . rename_i e;obtain⟨rfl,rfl⟩:=e;rw[hc]at hc0;simp only[aeM,aem]at hc0;subst hc0;have e1:(g.lX r j v' F').cv r j=v':=by simp[Gh.lX]
     have e2:(g.lX r j v' F').fp r j=F':=by funext b; simp[Gh.lX]
     rw[e1,e2];exact hv k
   . rename_i e;have e':¬ (r'=r/\j'=j):=fun x=>e ⟨x.1.symm,x.2.symm⟩
     have e1:(g.lX r j v' F').cv r' j'=g.cv r' j':=by simp only[Gh.lX]; rw[if_neg e']
     have e2:(g.lX r j v' F').fp r' j'=g.fp r' j':=by funext b; simp only[Gh.lX]; rw[if_neg e']
     rw[e1,e2];exact jU.ct k _ _ _ _ (h.cell r' j' c0 hc0) (fun _ h=>h) (fun b hb _=>hfpo r' j' b hb e')
 . intro t tv ht;rw[eO]at ht;exact⟨(h.tm t tv ht).1,bL.ct k _ _ (h.tm t tv ht).2⟩
theorem Ay{b o:Nat}{v:Value}(h:w.cell? ⟨b,o,none⟩=some v):w.setCell ⟨b,o,none⟩ v=w:=by
 have:(w.setCell ⟨b,o,none⟩ v).heap=w.heap:=by
  apply af7;intro i;simp only[World.setCell,Array.getElem?_modify];by_cases e:b=i
  . subst e;rw[if_pos rfl];simp only[World.cell?]at h;split at h
    . rename_i c el fr hh;rw[hh];simp at h;simp only[aeM,afE,ae5,afB,aem,Obj.cells.injEq,afP];apply af7;intro q;rw[afj];by_cases e:o=q
      . subst e;rw[if_pos rfl];have hlt:o<c.size:=by
         rcases aeB o c.size with hh | hh
         . exact hh
         . simp[aeG hh]at h
        rw[if_pos hlt,h]
      . rw[if_neg e]
    . simp at h
  . rw[if_neg e]
 cases w;simp only[World.setCell]at this ⊢;congr 1
theorem dE(b o:Nat)(v:Value)(i:Nat):(w.setCell ⟨b,o,none⟩ v).heap[i]? = if b=i then (w.heap[i]?).map (fun | .cells c el fr=> .cells (c.setIfInBounds o v) el fr | x=>x)else w.heap[i]? := by
 simp only[World.setCell,Array.getElem?_modify];by_cases e:b=i
 . rw[if_pos e,if_pos e];cases w.heap[i]? with
   | none=>rfl
   | some x=>cases x <;> rfl
 . rw[if_neg e,if_neg e]
theorem Rel.VW(h:Rel cx Z g st a w){r j:Nat}{c:RC}(hc:st.cell r j=some c){R:Rt}(hR:look st.rt r=some R)(hb:R.box=true){rv:RV}{v:Value}{F:Nat->Prop}(hF:iz cx Z g st w F)(hrv:match rv with | .own k x=>cZ w k x v F | .av x=>bq Z g st w x v) :
 ∃ g',Rel cx Z g' (st.setCell r j ⟨c.s+1,c.m+1,rv⟩) a (w.setCell ⟨g.be r,j,none⟩ v)/\kn Z w (w.setCell ⟨g.be r,j,none⟩ v) g g' st (st.setCell r j ⟨c.s+1,c.m+1,rv⟩)/\g'.be=g.be:=by
 obtain⟨b1,b2,b3,b4,cs,el,fr,b5,b6,b7,b8⟩:=h.box r R hR hb;have hjl:j<cs.size:=by
  rw[b7];simp only[St.cell,hR]at hc;rcases aeB j R.cells.length with hh | hh
  . exact hh
  . simp[aeF hh]at hc
 have hsz:(w.setCell ⟨g.be r,j,none⟩ v).heap.size=w.heap.size:=by simp[World.setCell]
 have hother:∀ i,i≠g.be r->(w.setCell ⟨g.be r,j,none⟩ v).heap[i]? = w.heap[i]? := fun i hi=>by rw[dE,if_neg (fun e=>hi e.symm)]
 have:=h.change hc (c':=⟨c.s+1,c.m+1,rv⟩) (w':=w.setCell ⟨g.be r,j,none⟩ v) (v':=v) (F':=fun b=>F b/\∃(k:K) (x:T k),rv= .own k x) rfl rfl rfl (by rw[hsz]; exact oR _) (aga _) (afl _)
  (fun e=>absurd e (agI _)) (fun e=>absurd e (agI _)) (fun b _ _ hx=>hother b fun e=>hx R hR hb e.symm)
  (fun b hb'=>⟨by rw[hsz]; exact hF.lt b hb'.1,hF.own b hb'.1,hF.z b hb'.1,fun r' j' hh=>absurd hh (hF.fp b hb'.1 r' j'),fun r' R' hR' hx=>hF.box b hb'.1 r' R' hR' hx,hb'.2⟩)
  (fun R' hR' hx=>⟨cs,el,fr,cs.setIfInBounds j v,b5,by rw[dE,if_pos rfl,b5]; rfl,by simp,fun i hi=>by
    rw[afj];by_cases e:i=j
    . subst e; simp[hi]
    . rw[if_neg (fun x=>e x.symm),if_neg e]; exact b8 i hi⟩)
  (fun k=>by
    cases rv with
    | own kk x=>exact cZ.frame _ _ _ _ _ (fun b hb=>⟨hb,kk,x,rfl⟩) (fun b hb _=>hother b fun e=>hF.box b hb r R hR ‹_› e.symm) hrv
    | av x=>exact bq.ct k _ _ hrv)
 exact⟨_,this.1,this.2,rfl⟩
end
def shape(st:St)(r:Nat):Option (Bool×Nat):=(look st.rt r).map fun R=>(R.box,R.cells.length)
theorem jG{st:St}{r j:Nat}{c:RC}(r':Nat):shape (st.setCell r j c) r'=shape st r':=by
 unfold shape;rw[iw];split
 . rename_i e;subst e;cases look st.rt r with
   | none=>rfl
   | some R=>simp[jN]
 . rfl
theorem FE{st:St}{av:AV}{q:St×((k:K)×T k)}(h:st.take av=some q)(r':Nat):shape q.1 r'=shape st r'/\q.1.tm=st.tm:=by
 cases av with
 | ref r j s =>
   simp only[St.take]at h;split at h
   . rename_i s' m k x hc;cases hb:Nat.beq s' s with
     | false=>rw[hb]at h; simp at h
     | true=>rw[hb]at h; cases h; exact⟨jG r',eO⟩
   . simp at h
 | cut r j s n =>
   simp only[St.take]at h;split at h
   . rename_i s' m e ks x hc;cases hb:Nat.beq s' s with
     | false=>rw[hb]at h; simp at h
     | true=>rw[hb]at h; cases h; exact⟨jG r',eO⟩
   . simp at h
 | _=>simp[St.take]at h
theorem sL{st st':St}{k:K}{av:AV}{x:T k}(h:st.cD k av=some (st',x))(r':Nat):shape st' r'=shape st r'/\st'.tm=st.tm:=by
 unfold St.cD at h;split at h
 . cases h; exact⟨rfl,rfl⟩
 . split at h
   . rename_i st1 k1 x1 hq;split at h
     . cases h; exact FE hq r'
     . simp at h
   . simp at h
theorem rz{st:St}{r n:Nat}{b:Bool}(h:shape st r=some (b,n)):∃ R,look st.rt r=some R/\R.box=b/\R.cells.length=n:=by
 unfold shape at h;cases hl:look st.rt r with
 | none=>rw[hl]at h; simp at h
 | some R=>rw[hl]at h; simp only[aeM,aem,aeS]at h; exact⟨R,rfl,h.1,h.2⟩
theorem vP{st:St}{r j:Nat}{c:RC}(h:st.cell r j=some c){R:Rt}(hR:look st.rt r=some R):j<R.cells.length:=by
 simp only[St.cell,hR]at h;rcases aeB j R.cells.length with hh | hh
 . exact hh
 . simp[aeF hh]at h
section
variable{P:Program}{cx:Cx P}{Z:Nat->Prop}{a:Act}{E:En}
theorem o8{r n:Nat}:∀(ks:List K) (l:List AV) (vs:List Value) (st:St) (g:Gh) (w:World) (j:Nat) (st':St),Rel cx Z g st a w->shape st r=some (true,n)->aW Z g st w l vs->st.cT r j ks l=some st' ->
 ∃ g',Rel cx Z g' st' a (w.setCells (g.be r) j vs)/\st'.tm=st.tm/\(vs=[]∨j+vs.length<=n)
 | [],[],[],st,g,w,j,st',h,hs,hr,ht=>by simp only[St.cT,aem]at ht;subst ht;exact⟨g,h,rfl,.inl rfl⟩
 | [],[],_::_,st,g,w,j,st',h,hs,hr,ht=>hr.elim
 | k::ks,av::l,[],st,g,w,j,st',h,hs,hr,ht=>hr.elim
 | k::ks,av::l,v::vs,st,g,w,j,st',h,hs,hr,ht=>by
   obtain⟨R,hR,hb,hn⟩:=rz hs
   have put:∀(st1:St) (g1:Gh) (rv:RV) (F:Nat->Prop) (c:RC),Rel cx Z g1 st1 a w->g1.be=g.be->st1.tm=st.tm->(∀ r',shape st1 r'=shape st r')->iz cx Z g1 st1 w F->(match rv with | .own k x=>cZ w k x v F | .av x=>bq Z g1 st1 w x v)->aW Z g1 st1 w l vs->st1.cell r j=some c ->
    (st1.setCell r j ⟨c.s+1,c.m+1,rv⟩).cT r (j+1) ks l=some st'->∃ g',Rel cx Z g' st' a (w.setCells (g.be r) j (v::vs))/\st'.tm=st.tm/\(v::vs=[]∨j+(v::vs).length<=n):=by
    intro st1 g1 rv F c h1 hbe htm hsh hF hrv hl hc hst;obtain⟨R1,hR1,hb1,hn1⟩:=rz (show shape st1 r=some (true,n)by rw[hsh]; exact hs);obtain⟨g2,k1,k2,k3⟩:=h1.VW hc hR1 hb1 hF hrv;rw[hbe]at k1 k2;obtain⟨g',m1,m2,m3⟩:=o8 ks l vs _ g2 _ (j+1) st' k1 (by rw[jG,hsh]; exact hs) (aW.ct k2.ct _ _ hl) hst;rw[k3,hbe]at m1;refine⟨g',m1,m2.trans (eO.trans htm),.inr ?_⟩;have:=vP hc hR1;rcases m3 with m3 | m3
    . subst m3; simp; omega
    . simp; omega
   have bump:∀(st1:St) (rv:RV) (q:Option St),(match st1.bump r j rv with | some st'=>st'.cT r (j+1) ks l | none=>none)=some st'->∃ c,st1.cell r j=some c/\(st1.setCell r j ⟨c.s+1,c.m+1,rv⟩).cT r (j+1) ks l=some st':=by
    intro st1 rv _ hh;unfold St.bump at hh;cases hc:st1.cell r j with
    | none=>rw[hc]at hh; simp at hh
    | some c=>rw[hc]at hh; exact⟨c,rfl,hh⟩
   have take:(match st.cD k av with | some (st',x)=>(match st'.bump r j (.own k x)with | some st'=>st'.cT r (j+1) ks l | none=>none) | none=>none)=some st'->∃ g',Rel cx Z g' st' a (w.setCells (g.be r) j (v::vs))/\st'.tm=st.tm/\(v::vs=[]∨j+(v::vs).length<=n):=by
    intro hh;cases htk:st.cD k av with
    | none=>rw[htk]at hh; simp at hh
    | some q => obtain⟨st1,x⟩:=q;rw[htk]at hh;simp only at hh;obtain⟨c,hc,hst⟩:=bump st1 (.own k x) none hh;obtain⟨g1,F,k1,k2,k3,k4,k5,k6,k7⟩:=gm h hr.1 htk;exact put st1 g1 (.own k x) F c k1 k2.be k2.tm (fun r'=>(sL htk r').1) k4 k3 (aW.ct k2.ct _ _ hr.2) hc hst
   have viaRC:(match st.jz av with | some c=>(match st.bump r j c.v with | some st'=>st'.cT r (j+1) ks l | none=>none) | none=>none)=some st'->∃ g',Rel cx Z g' st' a (w.setCells (g.be r) j (v::vs))/\st'.tm=st.tm/\(v::vs=[]∨j+(v::vs).length<=n):=by
    intro hh;cases htk:st.jz av with
    | none=>rw[htk]at hh; simp at hh
    | some c1 => rw[htk]at hh;simp only at hh;obtain⟨c,hc,hst⟩:=bump st c1.v none hh;have h1:aW Z g st w [av] [v]:=⟨hr.1,trivial⟩;obtain⟨e1,e2,e3⟩:=uj h [av] [v] [c1] h1 (by simp[St.kI,htk]);obtain⟨x,hx,hxr⟩:=e3 0 c1 v rfl rfl;rw[hx]at hst;exact put st g (.av x) (fun _=>False) c h rfl rfl (fun _=>rfl) (iz.none _ _ _ _ _) hxr hr.2 hc hst
   cases av with
   | ref r2 j2 s2 =>
     simp only[St.cT]at ht;cases hb2:Nat.beq r r2&&Nat.beq j j2 with
     | true =>
       rw[hb2]at ht;simp only[oT]at ht;simp only[aen]at hb2;have e1:=beq_eq hb2.1;have e2:=beq_eq hb2.2;subst e1; subst e2;cases hc:st.cell r j with
       | none=>rw[hc]at ht; simp at ht
       | some c =>
         rw[hc]at ht;simp only at ht;cases hcs:Nat.beq c.s s2 with
         | false=>rw[hcs]at ht; simp at ht
         | true =>
           rw[hcs]at ht;simp only[oT]at ht;obtain⟨c',k1,k2,k3⟩:=hr.1;rw[hc]at k1;simp only[aem]at k1;subst k1;have hv:=k3 (beq_eq hcs);have hlt:=vP hc hR;obtain⟨b1,b2,b3,b4,cs,el,fr,b5,b6,b7,b8⟩:=h.box r R hR hb;have hcell:w.cell? ⟨g.be r,j,none⟩=some v:=by simp only[World.cell?,b5,afE,ae5,afB];rw[b8 j (by omega),hv]
           obtain⟨g',m1,m2,m3⟩:=o8 ks l vs st g w (j+1) st' h hs hr.2 ht;refine⟨g',?_,m2,.inr ?_⟩
           . show Rel cx Z g' st' a ((w.setCell ⟨g.be r,j,none⟩ v).setCells (g.be r) (j+1) vs);rw[Ay hcell];exact m1
           . rcases m3 with m3 | m3
             . subst m3; simp; omega
             . simp; omega
     | false => rw[hb2]at ht;exact take ht
   | cut r2 j2 s2 n2=>exact take ht
   | nil =>
     cases k with
     | sl e ks' => simp only[St.cT]at ht;obtain⟨c,hc,hst⟩:=bump st _ none ht;have hv:v= .slice none 0 0:=hr.1;exact put st g (.own (.sl e ks') ([]:List (Tl ks'))) (fun _=>False) c h rfl rfl (fun _=>rfl) (iz.none _ _ _ _ _) (by rw[hv]; exact jI e ks') hr.2 hc hst
     | _=>simp[St.cT]at ht
   | _=>exact viaRC ht
 | [],_::_,_,st,g,w,j,st',h,hs,hr,ht=>by simp[St.cT]at ht
 | _::_,[],_,st,g,w,j,st',h,hs,hr,ht=>by simp[St.cT]at ht
theorem Dc{t:TypeId}{ti:TI}(hT:pH P t ti){w:World}{b o:Nat}{v:Value}{vs:List Value}(hv:v.cells.toList=vs)(hl:vs.length=ti.ks.length)(h1:∀ u∈vs,u.oneCell'=true)(hc:∀ j,j<vs.length->∃ cs el fr,w.heap[b]? = some (.cells cs el fr)/\o+j<cs.size/\¬ (fr.1<=o+j/\o+j<fr.2)) :
 (Instr.storeAt t (.pointer (some ⟨b,o,none⟩)) v).run P w= .ok () (w.setCells b o vs):=by
 have hsz:v.cells.size=ti.ks.length:=by rw[<- aeX,hv,hl]
 have hst:=run_storeCells_cells (P:=P) b o vs 0 w (fun j hj=>by
  obtain⟨cs,el,fr,e1,e2,_⟩:=hc j hj;simp[World.cell?,e1,e2]) (fun j hj=>by
  obtain⟨cs,el,fr,e1,e2,e3⟩:=hc j hj;simp only[World.frozen?,aeR,e1];simp only[agE,agf];by_cases h:fr.1<=o+j
  . exact .inr fun h'=>e3 ⟨h,h'⟩
  . exact .inl h) h1
 rw[aeR]at hst;simp only[Instr.storeAt,Instr.sureAddr,aeN,aeW,aez,storeVar,cS hT,hsz,hv,ne_eq,not_true_eq_false,afB];simpa using hst
end
section
variable{w w':World}
theorem vj:∀(ks:List K) (x:Tl ks) (j:Nat) (G G':Nat->Nat->Prop) (cs cs':Array Value) (o:Nat),(∀ q,q<ks.length->cs'[o+q]? = cs[o+q]?)->(∀ j b,G j b->G' j b)->(∀ j b,G j b->b<w.heap.size->w'.heap[b]? = w.heap[b]?)->fH w ks x j G cs o->fH w' ks x j G' cs' o
 | [],_,_,_,_,_,_,_,_,_,_,_=>trivial
 | k::ks,x,j,G,G',cs,cs',o,hc,hG,hw,⟨⟨v,h1,h2⟩,h3⟩ =>
   ⟨⟨v,by rw[<- h1]; exact hc 0 (by simp),cZ.frame k _ v (G j) (G' j) (hG j) (hw j) h2⟩,vj ks _ (j+1) G G' cs cs' (o+1) (fun q hq=>by rw[show o+1+q=o+(q+1)by omega]; exact hc (q+1) (by simp; omega)) hG hw h3⟩
theorem x9:∀(ks:List K) (x:Tl ks) (c:Nat) (k:K) (y:T k) (z:Tl ks),setAt ks x c k y=some z->c<ks.length
 | [],_,_,_,_,_,h=>by simp[setAt]at h
 | _::_,_,0,_,_,_,_=>by simp
 | k0::ks,x,c+1,k,y,z,h=>by
   simp only[setAt]at h;split at h
   . rename_i z' hz;have:=x9 ks x.2 c k y z' hz;simp; omega
   . simp at h
theorem xA:∀(ks:List K) (x:Tl ks) (c:Nat) (k:K) (y:T k) (z:Tl ks) (j:Nat) (G G':Nat->Nat->Prop) (F:Nat->Prop) (cs cs':Array Value) (o:Nat) (v:Value),setAt ks x c k y=some z->cZ w' k y v F->cs'[o+c]? = some v->(∀ q,q<ks.length->q≠c->cs'[o+q]? = cs[o+q]?) ->
 (∀ q b,q≠j+c->G q b->G' q b)->(∀ b,F b->G' (j+c) b)->(∀ q b,q≠j+c->G q b->b<w.heap.size->w'.heap[b]? = w.heap[b]?)->fH w ks x j G cs o->fH w' ks z j G' cs' o
 | [],_,_,_,_,_,_,_,_,_,_,_,_,_,h,_,_,_,_,_,_,_=>by simp[setAt]at h
 | k0::ks,x,0,k,y,z,j,G,G',F,cs,cs',o,v,h,hv,hc,hcs,hG,hF,hw,⟨⟨u,h1,h2⟩,h3⟩=>by
   simp only[setAt]at h;split at h
   . rename_i y' hy;cases h;obtain⟨e,hy⟩:=cA hy;subst e;subst hy;refine⟨⟨v,hc,cZ.frame _ _ _ _ _ hF (fun _ _ _=>rfl) hv⟩,?_⟩;have key:∀(ks:List K) (x:Tl ks) (q0:Nat) (o:Nat),j<q0->(∀ q,q<ks.length->cs'[o+q]? = cs[o+q]?)->fH w ks x q0 G cs o->fH w' ks x q0 G' cs' o:=by
      intro ks;induction ks with
      | nil=>intro x q0 o _ _ _; trivial
      | cons k1 ks ih => intro x q0 o hq hcs ⟨⟨u,g1,g2⟩,g3⟩;exact⟨⟨u,by rw[<- g1]; exact hcs 0 (by simp),cZ.frame _ _ _ _ _ (fun b hb=>hG q0 b (by omega) hb) (fun b hb=>hw q0 b (by omega) hb) g2⟩,ih x.2 (q0+1) (o+1) (by omega) (fun q hq=>by rw[show o+1+q=o+(q+1)by omega]; exact hcs (q+1) (by simp; omega)) g3⟩
     exact key ks x.2 (j+1) (o+1) (by omega) (fun q hq=>by rw[show o+1+q=o+(q+1)by omega]; exact hcs (q+1) (by simp; omega) (by omega)) h3
   . simp at h
 | k0::ks,x,c+1,k,y,z,j,G,G',F,cs,cs',o,v,h,hv,hc,hcs,hG,hF,hw,⟨⟨u,h1,h2⟩,h3⟩=>by
   simp only[setAt]at h;split at h
   . rename_i z' hz;cases h;refine⟨⟨u,by rw[<- h1]; exact hcs 0 (by simp) (by omega),cZ.frame _ _ _ _ _ (fun b hb=>hG j b (by omega) hb) (fun b hb=>hw j b (by omega) hb) h2⟩,?_⟩
     exact xA ks x.2 c k y z' (j+1) G G' F cs cs' (o+1) v hz hv (by rw[show o+1+c=o+(c+1)by omega]; exact hc) (fun q hq hne=>by rw[show o+1+q=o+(q+1)by omega]; exact hcs (q+1) (by simp; omega) (by omega))
      (fun q b hne hb=>hG q b (by omega) hb) (fun b hb=>by rw[show j+1+c=j+(c+1)by omega]; exact hF b hb) (fun q b hne hb=>hw q b (by omega) hb) h3
   . simp at h
end
section
variable{P:Program}{cx:Cx P}{Z:Nat->Prop}{g:Gh}{st:St}{a:Act}{w:World}{E:En}
theorem Jm{i i' n q c:Nat}(hq:q<n)(hc:c<n)(h:¬ (i'=i/\q=c)):i' * n+q≠i * n+c:=by
 intro e;rcases agV i' i with hi | hi | hi
 . have:=aeT n (show i'+1<=i from hi);rw[ae0,agX]at this;omega
 . subst hi;exact h ⟨rfl,by omega⟩
 . have:=aeT n (show i+1<=i' from hi);rw[ae0,agX]at this;omega
theorem Rel.aaM(h:Rel cx Z g st a w){r j s m:Nat}{e:TypeId}{ks:List K}{xs:T (.sl e ks)}(hc:st.cell r j=some ⟨s,m,.own (.sl e ks) xs⟩){i:Nat}(hi:i<(aR xs).length){b o l cap:Nat}(hcv:g.cv r j= .slice (some ⟨b,o,none⟩) l cap)
 {F:Nat->Prop}(hF:iz cx Z g st w F){k:K}{y:T k}{v:Value}(hv:cZ w k y v F){c:Nat}{z:Tl ks}(hz:setAt ks (gr xs i) c k y=some z) :
 ∃ g',Rel cx Z g' (st.setCell r j ⟨s,m+1,.own (.sl e ks) (List.set (aR xs) i z)⟩) a (w.setCell ⟨b,o+i * ks.length+c,none⟩ v)/\kn Z w (w.setCell ⟨b,o+i * ks.length+c,none⟩ v) g g' st (st.setCell r j ⟨s,m+1,.own (.sl e ks) (List.set (aR xs) i z)⟩)/\g'.be=g.be /\
  ∃ cs el fr,w.heap[b]? = some (.cells cs el fr)/\o+i * ks.length+c<cs.size/\(∀ q,q<cs.size->¬ (fr.1<=q/\q<fr.2)):=by
 have hcl:=x9 _ _ _ _ _ _ hz;have hown:=eL h hc rfl;rw[hcv]at hown;obtain⟨a',c0,h1,h2,h3,h4,h5⟩:=hown;simp only[afm]at h1;obtain⟨rfl,rfl,rfl⟩:=h1;obtain⟨b',o',cs,el,fr,g1,g2,g3,g4,g5,G,g6,g7,g8⟩:=h5 _ rfl;simp only[afK,afP]at g1;obtain⟨rfl,rfl⟩:=g1;have hsz:(w.setCell ⟨b,o+i * ks.length+c,none⟩ v).heap.size=w.heap.size:=by simp[World.setCell]
 have hother:∀ q,q≠b->(w.setCell ⟨b,o+i * ks.length+c,none⟩ v).heap[q]? = w.heap[q]? := fun q hq=>by rw[dE,if_neg (fun e=>hq e.symm)]
 have hlt:o+i * ks.length+c<cs.size:=by have:=aeT ks.length (show i+1<=cap by omega);rw[ae0,agX]at this;omega
 have hlen:(aR (e:=e) (ks:=ks) (List.set (aR xs) i z)).length=(aR xs).length:=afz ..
 have hFb:∀ q,F q->q≠b:=fun q hq e=>hF.fp q hq r j (by rw[e]; exact g2)
 have:=h.change hc (c':=⟨s,m+1,.own (.sl e ks) (List.set (aR xs) i z)⟩) (w':=w.setCell ⟨b,o+i * ks.length+c,none⟩ v) (v':=g.cv r j) (F':=fun q=>g.fp r j q∨F q) rfl rfl rfl (by rw[hsz]; exact oR _) (oR _) (afl _)
  (fun _=>rfl) (fun _ e' ks' xs' hx=>by simp only[RV.own.injEq,K.sl.injEq]at hx;obtain⟨⟨rfl,rfl⟩,hx⟩:=hx;have hx:=agy hx;subst hx;exact⟨_,rfl,hlen⟩)
  (fun q _ hq _=>hother q fun e=>hq (by rw[e]; exact g2))
  (fun q hq=>by
    rcases hq with hq | hq
    . obtain⟨k1,k2,k3,_⟩:=h.fp r j q hq;exact⟨by rw[hsz]; exact k1,k2,k3,fun r' j' hh=>h.disj _ _ _ _ _ hh hq,fun r' R' hR' hx he=>(h.box r' R' hR' hx).2.2.1 r j (by rw[he]; exact hq),_,_,rfl⟩
    . exact⟨by rw[hsz]; exact hF.lt q hq,hF.own q hq,hF.z q hq,fun r' j' hh=>absurd hh (hF.fp q hq r' j'),fun r' R' hR' hx=>hF.box q hq r' R' hR' hx,_,_,rfl⟩)
  (fun R' hR' hx=>by
    obtain⟨_,_,b3,_,cs1,el1,fr1,b5,_,_,b8⟩:=h.box r R' hR' hx;refine⟨cs1,el1,fr1,cs1,b5,?_,rfl,fun q hq => ?_⟩
    . rw[hother _ fun e=>b3 r j (by rw[e]; exact g2)]; exact b5
    . rw[b8 q hq];by_cases e:q=j
      . subst e; rw[if_pos rfl]
      . rw[if_neg e])
  (fun kp=>by
    show cZ _ (.sl e ks) (List.set (aR xs) i z) (g.cv r j) _;rw[hcv];refine⟨_,cap,by rw[hlen],by rw[hlen]; exact h2,by rw[hlen]; exact h3,h4,fun a'' ha'' => ?_⟩;simp only[aem]at ha'';subst ha'';refine⟨b,o,cs.setIfInBounds (o+i * ks.length+c) v,el,fr,rfl,.inl g2,by rw[dE,if_pos rfl,g3]; rfl,fun q hq=>g4 q (by simpa using hq),by simpa using g5,fun i' j' q=>if i'=i/\j'=c then F q else G i' j' q,fun i' j' q hq => ?_,fun i1 j1 i2 j2 q hq1 hq2 => ?_,fun i' x hx => ?_⟩
    . dsimp only at hq;by_cases e:i'=i/\j'=c
      . rw[if_pos e]at hq; exact⟨.inr hq,hFb q hq⟩
      . rw[if_neg e]at hq; exact⟨.inl (g6 i' j' q hq).1,(g6 i' j' q hq).2⟩
    . dsimp only at hq1 hq2;by_cases e1:i1=i/\j1=c
      . rw[if_pos e1]at hq1;by_cases e2:i2=i/\j2=c
        . exact⟨e1.1.trans e2.1.symm,e1.2.trans e2.2.symm⟩
        . rw[if_neg e2]at hq2;exact absurd (g6 i2 j2 q hq2).1 (hF.fp q hq1 r j)
      . rw[if_neg e1]at hq1;by_cases e2:i2=i/\j2=c
        . rw[if_pos e2]at hq2;exact absurd (g6 i1 j1 q hq1).1 (hF.fp q hq2 r j)
        . rw[if_neg e2]at hq2;exact g7 i1 j1 i2 j2 q hq1 hq2
    . have hx':(List.set (aR xs) i z)[i']? = some x:=hx;rw[agW]at hx';have hwf:∀(i' q p:Nat),G i' q p->p<w.heap.size->(w.setCell ⟨b,o+i * ks.length+c,none⟩ v).heap[p]? = w.heap[p]? := fun i' q p hp _=>hother p (g6 i' q p hp).2
      by_cases ei:i=i'
      . subst ei;rw[if_pos rfl,if_pos hi]at hx';simp only[aem]at hx';subst hx';refine xA ks (gr xs i) c k y z 0 (G i) _ F cs _ _ v hz (cZ.frame _ _ _ _ _ (fun _ h=>h) (fun p hp _=>hother p (hFb p hp)) hv) ?_ (fun q hq hne => ?_) (fun q p hne hp => ?_) (fun p hp => ?_) (fun q p _ hp=>hwf i q p hp) (g8 i _ (mL xs hi))
        . rw[afj,if_pos rfl,if_pos hlt]
        . rw[afj,if_neg (by omega)]
        . show(if i=i/\q=c then F p else G i q p);rw[if_neg (fun e=>hne (by omega))];exact hp
        . show(if i=i/\0+c=c then F p else G i (0+c) p);rw[if_pos ⟨rfl,by omega⟩];exact hp
      . rw[if_neg ei]at hx';refine vj ks x 0 (G i') _ cs _ _ (fun q hq => ?_) (fun q p hp => ?_) (hwf i') (g8 i' x hx')
        . have:=Jm (i:=i) (i':=i') hq hcl (fun e=>ei e.1.symm);rw[afj,if_neg (by omega)]
        . show(if i'=i/\q=c then F p else G i' q p);rw[if_neg (fun e=>ei e.1.symm)];exact hp)
 exact⟨_,this.1,this.2,rfl,cs,el,fr,g3,hlt,fun q hq=>g4 q (Nat.lt_add_right _ hq)⟩
theorem jC{k:K}{x:T k}{v:Value}{F:Nat->Prop}(hk:qF k=false)(h:RO Z w k x v):cZ w k x v F:=by
 cases k with
 | sl e ks=>simp[qF]at hk
 | _=>exact h
theorem FG{w:World}{b o:Nat}{v:Value}(h:w.cell? ⟨b,o,none⟩=some v):w.setCell ⟨b,o,none⟩ v=w:=by
 have e:(w.setCell ⟨b,o,none⟩ v).heap=w.heap:=by
  apply af7;intro i;rw[dE];split
  . rename_i e;subst e;simp only[World.cell?,afE,ae5,afB]at h;cases ho:w.heap[b]? with
    | none=>rfl
    | some x =>
      rw[ho]at h;cases x with
      | cells cs el fr =>
        simp only[aeM,aem,Obj.cells.injEq,afP];have h:cs[o]? = some v:=h;have ho:=(aeP.1 h);apply af7;intro k;rw[afj];split
        . rename_i e; subst e; rw[if_pos ho.1,h]
        . rfl
      | _=>rfl
  . rfl
 show({ w with heap:=(w.setCell ⟨b,o,none⟩ v).heap }:World)=w;rw[e]
def oz(w:World)(r j s m0 b p:Nat)(c:Nat)(l:List AV)(vs:List Value):Prop:=∀(q:Nat) (a:AV) (v:Value),l[q]? = some a->vs[q]? = some v->qJ r j s m0 (c+q) a=true->w.cell? ⟨b,p+c+q,none⟩=some v
theorem oz.tail{w:World}{r j s m0 b p c:Nat}{a:AV}{l:List AV}{v:Value}{vs:List Value}(h:oz w r j s m0 b p c (a::l) (v::vs)):oz w r j s m0 b p (c+1) l vs:=fun q a' v' h1 h2 h3=>by have:=h (q+1) a' v' (by simpa using h1) (by simpa using h2) (by rw[show c+(q+1)=c+1+q by omega]; exact h3);rw[show p+(c+1)+q=p+c+(q+1)by omega];exact this
theorem oz.put{w:World}{r j s m0 b p c:Nat}{l:List AV}{vs:List Value}{v:Value}(h:oz w r j s m0 b p (c+1) l vs):oz (w.setCell ⟨b,p+c,none⟩ v) r j s m0 b p (c+1) l vs:=fun q a' v' h1 h2 h3=>by rw[World.cell?_setCell_other _ _ _ _ (by intro e; simp at e; omega)];exact h q a' v' h1 h2 h3
theorem xM{r j s i m0:Nat}{b p:Nat}:∀(ks':List K) (l:List AV) (vs:List Value) (st:St) (g:Gh) (w:World) (c:Nat) (st':St),Rel cx Z g st a w->bq Z g st w (.pel r j s i c) (.pointer (some ⟨b,p+c,none⟩))->aW Z g st w l vs->oz w r j s m0 b p c l vs->st.jy r j s i m0 c ks' l=some st' ->
 ∃ g',Rel cx Z g' st' a (w.setCells b (p+c) vs)/\st'.tm=st.tm/\(∀ q,q<vs.length->∃ cs el fr,w.heap[b]? = some (.cells cs el fr)/\p+c+q<cs.size/\¬ (fr.1<=p+c+q/\p+c+q<fr.2))
 | [],[],[],st,g,w,c,st',h,hp,hr,hso,ht=>by simp only[St.jy,aem]at ht;subst ht;exact⟨g,h,rfl,fun q hq=>by simp at hq⟩
 | [],[],_::_,st,g,w,c,st',h,hp,hr,_,ht=>hr.elim
 | k::ks',av::l,[],st,g,w,c,st',h,hp,hr,_,ht=>hr.elim
 | k::ks',av::l,v::vs,st,g,w,c,st',h,hp,hr,hso,ht=>by
   have put:∀(st1:St) (g1:Gh) (x:T k) (F:Nat->Prop),Rel cx Z g1 st1 a w->st1.tm=st.tm->iz cx Z g1 st1 w F->cZ w k x v F->bq Z g1 st1 w (.pel r j s i c) (.pointer (some ⟨b,p+c,none⟩))->aW Z g1 st1 w l vs ->
    (match st1.cell r j with
      | some ⟨s',m,.own (.sl e ks) xs⟩=>bif Nat.beq s' s then (match setAt ks (gr xs i) c k x with
        | some y=>(st1.setCell r j ⟨s',m+1,.own (.sl e ks) (List.set (aR xs) i y)⟩).jy r j s i m0 (c+1) ks' l
        | none=>none)else none
      | _=>none)=some st' ->
    ∃ g',Rel cx Z g' st' a (w.setCells b (p+c) (v::vs))/\st'.tm=st.tm/\(∀ q,q<(v::vs).length->∃ cs el fr,w.heap[b]? = some (.cells cs el fr)/\p+c+q<cs.size/\¬ (fr.1<=p+c+q/\p+c+q<fr.2)):=by
    intro st1 g1 x F h1 htm hF hv hp hl hst;split at hst
    . rename_i s' m e ks xs hc;cases hs:Nat.beq s' s with
      | false=>rw[hs]at hst; simp at hst
      | true =>
        rw[hs]at hst;simp only[oT]at hst;have es:=beq_eq hs;subst es;split at hst
        . rename_i y hy;obtain⟨c0,k1,k2,k3⟩:=hp;rw[hc]at k1;simp only[aem]at k1;subst k1;obtain⟨e',ks2,xs2,f1,f2,b2,o2,l2,cap2,f3,f4⟩:=k3 rfl;simp only[RV.own.injEq,K.sl.injEq]at f1;obtain⟨⟨rfl,rfl⟩,f1⟩:=f1;have f1:=agy f1;subst f1;simp only[Value.pointer.injEq,aem,afK,afP]at f4;obtain⟨rfl,f4⟩:=f4;obtain⟨g2,m1,m2,m3,cs,el,fr,n1,n2,n3⟩:=h1.aaM hc f2 f3 hF hv hy;rw[<- f4]at m1 m2 n2;have hpel:bq Z g1 st1 w (.pel r j s' i (c+1)) (.pointer (some ⟨b,p+(c+1),none⟩)) :=
           ⟨_,hc,oR _,fun _=>⟨e,ks,xs,rfl,f2,b,o2,l2,cap2,f3,by rw[show p+(c+1)=o2+i * ks.length+(c+1)by omega]⟩⟩
          obtain⟨g',q1,q2,q3⟩:=xM ks' l vs _ g2 _ (c+1) st' m1 (bq.ct m2.ct _ _ hpel) (aW.ct m2.ct _ _ hl) hso.tail.put hst;refine⟨g',?_,q2.trans (eO.trans htm),fun q hq => ?_⟩
          . rw[show p+(c+1)=p+c+1 by omega]at q1;exact q1
          . cases q with
            | zero=>exact⟨cs,el,fr,n1,n2,n3 _ n2⟩
            | succ q =>
              obtain⟨cs',el',fr',t1,t2,t3⟩:=q3 q (by simpa using hq);rw[dE,if_pos rfl,n1]at t1;simp only[aeM,aem,Obj.cells.injEq]at t1;obtain⟨rfl,rfl,rfl⟩:=t1;refine⟨cs,el,fr,n1,?_,?_⟩
              . have:=t2; simp at this; omega
              . rw[show p+c+(q+1)=p+(c+1)+q by omega]; exact t3
        . simp at hst
    . simp at hst
   have scalar:qF k=false->(match (match st.bz k av with | some x=>bif av.bK then some (st,x)else none | none=>none)with
    | some (st1,x)=>(match st1.cell r j with
      | some ⟨s',m,.own (.sl e ks) xs⟩=>bif Nat.beq s' s then (match setAt ks (gr xs i) c k x with
        | some y=>(st1.setCell r j ⟨s',m+1,.own (.sl e ks) (List.set (aR xs) i y)⟩).jy r j s i m0 (c+1) ks' l
        | none=>none)else none
      | _=>none)
    | none=>none)=some st'->∃ g',Rel cx Z g' st' a (w.setCells b (p+c) (v::vs))/\st'.tm=st.tm/\(∀ q,q<(v::vs).length->∃ cs el fr,w.heap[b]? = some (.cells cs el fr)/\p+c+q<cs.size/\¬ (fr.1<=p+c+q/\p+c+q<fr.2)):=by
    intro hk hh;cases hra:st.bz k av with
    | none=>rw[hra]at hh; simp at hh
    | some x =>
      rw[hra]at hh;cases hf:av.bK with
      | false=>rw[hf]at hh; simp at hh
      | true => rw[hf]at hh;simp only[oT]at hh;exact put st g x (fun _=>False) h rfl (iz.none _ _ _ _ _) (jC hk (ch h hr.1 hf hra)) hp hr.2 hh
   unfold St.jy at ht;cases hsf:st.mc r j s m0 c av with
   | true =>
     rw[hsf]at ht;simp only[oT]at ht;unfold St.mc at hsf;simp only[aen]at hsf;obtain⟨hsf1,hsf2⟩:=hsf;have hv:=hso 0 av v rfl rfl hsf1;rw[aeR]at hv;obtain⟨c0,k1,k2,k3⟩:=hp;have es:c0.s=s:=by
      rw[k1]at hsf2;split at hsf2
      . rename_i s' m' e' ks2 x2 hc0;cases hc0;exact beq_eq hsf2
      . simp at hsf2
     obtain⟨e,ks,xs,f1,f2,b2,o2,l2,cap2,f3,f4⟩:=k3 es;simp only[Value.pointer.injEq,aem,afK,afP]at f4;obtain⟨rfl,f4⟩:=f4;have hp':bq Z g st w (.pel r j s i (c+1)) (.pointer (some ⟨b,p+(c+1),none⟩)) :=
      ⟨c0,k1,k2,fun _=>⟨e,ks,xs,f1,f2,b,o2,l2,cap2,f3,by rw[show p+(c+1)=o2+i * ks.length+(c+1)by omega]⟩⟩
     obtain⟨g',q1,q2,q3⟩:=xM ks' l vs st g w (c+1) st' h hp' hr.2 hso.tail ht;refine⟨g',?_,q2,fun q hq => ?_⟩
     . show Rel cx Z g' st' a ((w.setCell ⟨b,p+c,none⟩ v).setCells b (p+c+1) vs);rw[FG hv];exact q1
     . cases q with
       | zero => have hown:=h.cell r j c0 k1;rw[f1]at hown;obtain⟨a0,cp,g1,_,_,_,g2⟩:=(show cZ w (.sl e ks) xs (g.cv r j) (g.fp r j)from hown);rw[f3]at g1;simp only[afm]at g1;obtain⟨b3,o3,cs,el,fr,n1,_,n2,n3,_⟩:=g2 _ g1.1.symm;simp only[afK,afP]at n1;obtain⟨rfl,_⟩:=n1;simp only[World.cell?,afE,ae5,afB,n2]at hv;have hlt:=(aeP.1 hv).1;exact⟨cs,el,fr,n2,hlt,n3 _ (by omega)⟩
       | succ q => obtain⟨cs',el',fr',t1,t2,t3⟩:=q3 q (by simpa using hq);exact⟨cs',el',fr',t1,by omega,by rw[show p+c+(q+1)=p+(c+1)+q by omega]; exact t3⟩
   | false =>
   rw[hsf]at ht;simp only[oF]at ht;cases k with
   | sl e ks1 =>
     simp only at ht;cases htk:st.cD (.sl e ks1) av with
     | none=>rw[htk]at ht; simp at ht
     | some q => obtain⟨st1,x⟩:=q;rw[htk]at ht;simp only at ht;obtain⟨g1,F,k1,k2,k3,k4,k5,k6,k7⟩:=gm h hr.1 htk;exact put st1 g1 x F k1 k2.tm k4 k3 (bq.ct k2.ct _ _ hp) (aW.ct k2.ct _ _ hr.2) ht
   | int _=>exact scalar rfl ht
   | bool=>exact scalar rfl ht
   | str=>exact scalar rfl ht
 | [],_::_,_,st,g,w,c,st',h,hp,hr,_,ht=>by simp[St.jy]at ht
 | _::_,[],_,st,g,w,c,st',h,hp,hr,_,ht=>by simp[St.jy]at ht
end
def cj(st st':St):Prop:=∀ r j c,st.cell r j=some c->∃ c',st'.cell r j=some c'/\c.s<=c'.s/\c.m<=c'.m/\(c'.s=c.s->c'.m=c.m->c'=c)
theorem cj.refl(st:St):cj st st:=fun r j c h=>⟨c,h,oR _,oR _,fun _ _=>rfl⟩
theorem cj.trans{a b c:St}(h1:cj a b)(h2:cj b c):cj a c:=fun r j x hx=>by obtain⟨y,hy,s1,m1,e1⟩:=h1 r j x hx;obtain⟨z,hz,s2,m2,e2⟩:=h2 r j y hy;exact⟨z,hz,aeu s1 s2,aeu m1 m2,fun es em=>by have ey:=e1 (by omega) (by omega);subst ey;exact e2 es em⟩
theorem cj.set{st:St}{r j:Nat}{c c0:RC}(h0:st.cell r j=some c0)(hs:c0.s<=c.s)(hm:c0.m<c.m):cj st (st.setCell r j c):=fun r' j' x hx=>by
 rw[da];by_cases h:r=r'/\j=j'
 . obtain⟨rfl,rfl⟩:=h;rw[if_pos ⟨rfl,rfl⟩,hx];rw[h0]at hx;cases hx;exact⟨c,rfl,hs,agD hm,fun _ e=>by omega⟩
 . rw[if_neg h];exact⟨x,hx,oR _,oR _,fun _ _=>rfl⟩
theorem kb{α:Type}{c:Bool}{x:Option α}{y:α}(h:(bif c then x else none)=some y):c=true/\x=some y:=by cases c <;> simp_all
theorem KQ{st st':St}{a:AV}{p:(k:K)×T k}(h:st.take a=some (st',p)):cj st st':=by
 unfold St.take at h;split at h
 . split at h
   . rename_i hc;obtain⟨_,h⟩:=kb h;simp only[aem,aeS]at h;obtain⟨rfl,_⟩:=h;exact cj.set hc (aga _) (afl _)
   . simp at h
 . split at h
   . rename_i hc;obtain⟨_,h⟩:=kb h;simp only[aem,aeS]at h;obtain⟨rfl,_⟩:=h;exact cj.set hc (aga _) (afl _)
   . simp at h
 . simp at h
theorem gu{st st':St}{k:K}{a:AV}{x:T k}(h:st.cD k a=some (st',x)):cj st st':=by
 unfold St.cD at h;split at h
 . simp only[aem,aeS]at h;obtain⟨rfl,_⟩:=h;exact cj.refl _
 . split at h
   . rename_i st1 k' y hy;split at h
     . simp only[aem,aeS]at h;obtain⟨rfl,_⟩:=h;exact KQ hy
     . simp at h
   . simp at h
mutual
theorem zF:∀ k:K,K.same k k=true
 | .int a=>by simp[K.same]
 | .bool=>rfl
 | .str=>rfl
 | .sl e ks=>by simp[K.same,xV ks]
theorem xV:∀ ks:List K,K.lk ks ks=true
 | []=>rfl
 | k::ks=>by simp[K.lk,zF k,xV ks]
end
theorem DD(k:K)(x:T k):fK k k x=some x:=by
 unfold fK;split
 . rfl
 . rename_i h; rw[zF]at h; simp at h
theorem wU:∀(ks:List K) (z:Tl ks) (c:Nat) (k:K) (x:T k),cellAt ks z c=some ⟨k,x⟩->setAt ks z c k x=some z
 | [],_,_,_,_,h=>by simp[cellAt]at h
 | k::ks,z,0,k',x,h=>by simp only[cellAt,aem,Sigma.mk.injEq]at h;obtain⟨rfl,h⟩:=h;have h:=agy h;subst h;simp only[setAt,DD];rfl
 | k::ks,z,c+1,k',x,h=>by simp only[setAt,wU ks z.2 c k' x h];rfl
theorem wW:∀(ks:List K) (z y:Tl ks) (c q:Nat) (k:K) (x:T k),setAt ks z c k x=some y->q≠c->cellAt ks y q=cellAt ks z q
 | [],_,_,_,_,_,_,h,_=>by simp[setAt]at h
 | k0::ks,z,y,0,q,k,x,h,hq=>by
   simp only[setAt]at h;split at h
   . cases h;cases q with
     | zero=>exact absurd rfl hq
     | succ q=>rfl
   . simp at h
 | k0::ks,z,y,c+1,q,k,x,h,hq=>by
   simp only[setAt]at h;split at h
   . rename_i z' hz;cases h;cases q with
     | zero=>rfl
     | succ q=>exact wW ks z.2 z' c q k x hz (by omega)
   . simp at h
def OF(ks0:List K):Tl ks0->Nat->(ks:List K)->Tl ks->Option (Tl ks0)
 | z,_,[],_=>some z
 | z,c,k::ks,y=>match setAt ks0 z c k y.1 with | some z'=>OF ks0 z' (c+1) ks y.2 | none=>none
theorem CC{k0:K}{ks0:List K}:∀(ks:List K) (z z':Tl (k0::ks0)) (c:Nat) (y:Tl ks),OF (k0::ks0) z (c+1) ks y=some z'->∃ u,z'=(z.1,u)/\OF ks0 z.2 c ks y=some u
 | [],z,z',c,y,h=>by simp only[OF,aem]at h;subst h;exact⟨z.2,rfl,rfl⟩
 | k::ks,z,z',c,y,h=>by
   simp only[OF,setAt]at h ⊢;cases hs:setAt ks0 z.2 c k y.1 with
   | none=>rw[hs]at h; simp at h
   | some u => rw[hs]at h;exact CC ks (z.1,u) z' (c+1) y.2 h
theorem DX:∀(ks:List K) (z y z':Tl ks),OF ks z 0 ks y=some z'->z'=y
 | [],_,_,_,_=>rfl
 | k::ks,z,y,z',h=>by simp only[OF,setAt,DD]at h;obtain⟨u,e1,e2⟩:=CC ks (y.1,z.2) z' 0 y.2 h;have:=DX ks z.2 y.2 u e2;subst this;exact e1
theorem D5{e:TypeId}{ks:List K}(xs:T (.sl e ks))(i:Nat)(y:Tl ks):(aR (e:=e) (List.set (aR xs) i y)).length=(aR xs).length:=afz
theorem BV{e:TypeId}{ks:List K}(xs:T (.sl e ks)){i:Nat}(y:Tl ks)(h:i<(aR xs).length):gr (e:=e) (List.set (aR xs) i y) i=y:=by show(List.set (aR xs) i y).getD i _=y;simp[List.getD,h]
theorem Kc{st:St}{r j:Nat}{c c':RC}(h:st.cell r j=some c):(st.setCell r j c').cell r j=some c':=by rw[da,if_pos ⟨rfl,rfl⟩,h]; rfl
section
variable{r j s i m0:Nat}{e:TypeId}{ks0:List K}{z0:Tl ks0}
theorem qc:∀(ks:List K) (l:List AV) (c:Nat) (st stf:St) (y:Tl ks) (xc:T (.sl e ks0)) (m:Nat),st.cell r j=some ⟨s,m,.own (.sl e ks0) xc⟩->i<(aR xc).length->(∀ q,c<=q->cellAt ks0 (gr xc i) q=cellAt ks0 z0 q) ->
 st.gb r j s i m0 ks0 z0 c ks l=some (stf,y)->st.jy r j s i m0 c ks l=some stf/\∃(mf:Nat) (z:Tl ks0),OF ks0 (gr xc i) c ks y=some z/\stf.cell r j=some ⟨s,mf,.own (.sl e ks0) (List.set (aR xc) i z)⟩
 | [],[],c,st,stf,y,xc,m,hc,hi,hq,h=>by
   simp only[St.gb,aem,aeS]at h;obtain⟨rfl,_⟩:=h;refine⟨rfl,m,gr xc i,rfl,?_⟩;rw[hc];have:List.set (aR xc) i (gr xc i)=aR xc:=by
    apply agU;intro n;rw[agW];split
    . rename_i e; subst e;simp[gr,List.getD,hi]
    . rfl
   rw[this];rfl
 | [],_::_,_,_,_,_,_,_,_,_,_,h=>by simp[St.gb]at h
 | _::_,[],_,_,_,_,_,_,_,_,_,h=>by simp[St.gb]at h
 | k::ks,a::l,c,st,stf,y,xc,m,hc,hi,hq,h=>by
   unfold St.gb at h;unfold St.jy;cases hsf:st.mc r j s m0 c a with
   | true =>
     rw[hsf]at h;simp only[oT]at h ⊢;split at h
     . rename_i z hz;split at h
       . rename_i x q hx hrec;simp only[aem,aeS]at h;obtain⟨rfl,rfl⟩:=h;obtain⟨h1,mf,z1,h2,h3⟩:=qc ks l (c+1) st q.1 q.2 xc m hc hi (fun q hq'=>hq q (by omega)) hrec;refine⟨h1,mf,z1,?_,h3⟩;obtain⟨ek,hx⟩:=cA hx;obtain⟨k',z⟩:=z;simp only at ek hx;subst ek;subst hx;have:=hq c (oR _);rw[hz]at this;simp only[OF,wU ks0 (gr xc i) c k' z this];exact h2
       . simp at h
     . simp at h
   | false =>
     rw[hsf]at h;simp only[oF]at h ⊢;split at h;rotate_left
     . simp at h
     . rename_i st1 x hx;have hver:cj st st1:=by
        split at hx
        . exact gu hx
        . split at hx
          . obtain⟨_,hx⟩:=kb hx;simp only[aem,aeS]at hx;obtain⟨rfl,_⟩:=hx;exact cj.refl _
          . simp at hx
       obtain⟨c1,hc1,v1,v2,v3⟩:=hver r j _ hc;split at h
       . rename_i s' m' e' ks' xs hcc;rw[hc1]at hcc;cases hcc;obtain⟨hb,h⟩:=kb h;simp only[aen]at hb;have es:=beq_eq hb.1;have em:=beq_eq hb.2;have em':st.DZ r j=m:=by unfold St.DZ; rw[hc]
         have:=v3 es (em.trans em');simp only[RC.mk.injEq,RV.own.injEq,K.sl.injEq]at this;obtain⟨_,_,⟨he,hk⟩,hx⟩:=this;have he:=he.symm;have hk:=hk.symm;subst he;subst hk;have hx:=agy hx;subst hx;split at h
         . rename_i y1 hy1;split at h
           . rename_i q hrec;simp only[aem,aeS]at h;obtain⟨rfl,rfl⟩:=h;have es2:=es.symm;subst es2;obtain⟨h1,mf,z1,h2,h3⟩:=qc ks l (c+1) _ q.1 q.2 (List.set (aR xs) i y1) _ (Kc hc1) (by rw[D5]; exact hi) (fun q hq'=>by
              rw[BV xs y1 hi,wW ks0 _ _ c q k x hy1 (by omega)];exact hq q (by omega)) hrec
             refine⟨?_,mf,z1,?_,?_⟩
             . rw[hb.1];exact h1
             . rw[BV xs y1 hi]at h2;simp only[OF,hy1];exact h2
             . rw[h3];have:List.set (aR (e:=e) (List.set (aR xs) i y1)) i z1=List.set (aR xs) i z1:=List.set_set ..
               rw[this]
           . simp at h
         . simp at h
       . simp at h
end
theorem Dm{α:Type}:∀(l:List (Nat×α)) (n:Nat) (x:α),look l n=some x->Wg l n x=l
 | [],n,x,h=>by simp[look]at h
 | (k,y)::r,n,x,h=>by
   unfold Wg;rw[aJ]at h;cases hb:Nat.beq k n with
   | true => have e:=beq_eq hb;subst e;rw[if_pos rfl]at h;cases h;rfl
   | false =>
     have hne:k≠n:=fun e=>by subst e; simp at hb
     rw[if_neg hne]at h;simp only[oF];rw[Dm r n x h]
theorem uQ{α:Type}:∀(l:List α) (j:Nat) (x:α),l[j]? = some x->ll l j x=l
 | [],j,x,h=>by simp at h
 | y::r,0,x,h=>by simp at h; subst h; rfl
 | y::r,j+1,x,h=>by simp only[ll]; rw[uQ r j x (by simpa using h)]
theorem DO{st:St}{r j:Nat}{c:RC}(h:st.cell r j=some c):st.setCell r j c=st:=by
 unfold St.setCell;unfold St.cell at h;cases hl:look st.rt r with
 | none=>rfl
 | some R => rw[hl]at h;simp only at h ⊢;rw[uQ _ _ _ h,Dm _ _ _ hl]
theorem Ld{st st':St}{r j s i m:Nat}{e:TypeId}{ks0 ks:List K}{xs:T (.sl e ks0)}{l:List AV}(hc:st.cell r j=some ⟨s,m,.own (.sl e ks0) xs⟩)(hi:i<(aR xs).length)(h:st.uU r j s i ks l=some st'):st.jy r j s i (st.DZ r j) 0 ks l=some st':=by
 unfold St.uU at h;rw[hc]at h;simp only at h;have em:st.DZ r j=m:=by unfold St.DZ; rw[hc]
 rw[em];split at h
 . rename_i q hq;obtain⟨h1,mf,z,h2,h3⟩:=qc ks l 0 st q.1 q.2 xs m hc hi (fun _ _=>rfl) hq;split at h
   . rename_i y c1 hy hc1;obtain⟨_,h⟩:=kb h;simp only[aem]at h;obtain⟨ek,hy⟩:=vp hy;subst ek;subst hy;rw[h3]at hc1;cases hc1;rw[DX _ _ _ _ h2]at h3;rw[DO h3]at h;rw[<- h];exact h1
   . simp at h
 . simp at h
def nU(P:Program)(cx:Cx P)(E:En)(st':St)(a:Act)(w:World)(o:Oper):Prop :=
 cu st'/\∀(next:Act->World->Prop) (Q:Exit->Act->World->Prop),(∀ Z' g' a' w',Rel cx Z' g' st' a' w'->Fit cx E a'->next a' w')->o.wp P a w next Q
section
variable{P:Program}{cx:Cx P}{Z:Nat->Prop}{g:Gh}{st:St}{a:Act}{w:World}{E:En}
theorem Z6(h:Rel cx Z g st a w):∀(l:List AV) (vs:List Value),aW Z g st w l vs->l.all st.live=true->∀ u∈vs,u.oneCell'=true
 | [],[],_,_=>by simp
 | x::l,v::vs,hr,hl=>by
   simp only[afh,aen]at hl;intro u hu;rcases aew.1 hu with hu | hu
   . subst hu; exact(uN h hr.1 hl.1).2
   . exact Z6 h l vs hr.2 hl.2 u hu
 | [],_::_,hr,_=>hr.elim
 | _::_,[],hr,_=>hr.elim
theorem vu{r j s m i:Nat}:∀(l:List AV) (c:Nat),mO r j s m i c l=true->∀ q a,l[q]? = some a->qJ r j s m (c+q) a=true->∃ i' q',a= .pref r j s m i' q'/\q'=c+q/\i'=i
 | [],_,_,q,a,h,_=>by simp at h
 | x::l,c,h,q,a,hq,hs=>by
   have self:∀ a,qJ r j s m c a=true->∃ i' ,a= .pref r j s m i' c:=fun a ha=>by
    unfold qJ at ha;split at ha
    . rename_i r' j' s' m' i' q';simp only[aen]at ha;obtain⟨h1,h2,h3,h4,h5⟩:=ha;exact⟨i',by rw[beq_eq h1,beq_eq h2,beq_eq h3,beq_eq h4,beq_eq h5]⟩
    . simp at ha
   unfold mO at h;cases q with
   | zero => simp only[aes,aem]at hq;subst hq;rw[aeR]at hs;rw[hs]at h;obtain⟨i',rfl⟩:=self _ hs;simp only[oT,aen]at h;exact⟨i',c,rfl,rfl,beq_eq h.1⟩
   | succ q =>
     rw[afb]at hq;have hr:mO r j s m i (c+1) l=true:=by
      cases hx:qJ r j s m c x with
      | false=>rw[hx]at h; exact h
      | true => rw[hx]at h;obtain⟨i',rfl⟩:=self _ hx;simp only[oT,aen]at h;exact h.2
     obtain⟨i',q',e1,e2,e3⟩:=vu l (c+1) hr q a hq (by rw[show c+1+q=c+(q+1)by omega]; exact hs);exact⟨i',q',e1,by omega,e3⟩
theorem Iy{r j s i c:Nat}{c0:RC}{e:TypeId}{ks:List K}{xs:T (.sl e ks)}{b of l cap:Nat}{av:List AV}{vs:List Value}(h1:st.cell r j=some c0)(h2:c0.s=s)(h3:c0.v= .own (.sl e ks) xs)(h4:g.cv r j= .slice (some ⟨b,of,none⟩) l cap)
 (hr:aW Z g st w av vs)(hs:st.G9 (.pel r j s i c) av=true):oz w r j s (st.DZ r j) b (of+i * ks.length) c av vs:=fun q a v ha hv hself=>by
 obtain⟨i',q',rfl,rfl,rfl⟩:=vu _ _ hs q a ha hself;have hrel:∀(l:List AV) (vs:List Value),aW Z g st w l vs->∀(q:Nat) (a:AV) (v:Value),l[q]? = some a->vs[q]? = some v->bq Z g st w a v:=by
  intro l;induction l with
  | nil=>intro vs _ q a v h; simp at h
  | cons x l ih =>
    intro vs hr q a v h1 h2;cases vs with
    | nil=>simp at h2
    | cons u vs =>
      cases q with
      | zero=>simp only[aes,aem]at h1 h2; subst h1 h2; exact hr.1
      | succ q=>exact ih vs hr.2 q a v (by simpa using h1) (by simpa using h2)
 obtain⟨c1,k1,k2,k3,k4⟩:=hrel _ _ hr q _ v ha hv;rw[h1]at k1;simp only[aem]at k1;subst k1;have hm:c0.m=st.DZ r j:=by unfold St.DZ; rw[h1]
 obtain⟨e',ks',xs',f1,f2,f3,b',o',l',cap',f4,f5⟩:=k4 h2 hm;rw[h3]at f1;simp only[RV.own.injEq,K.sl.injEq]at f1;obtain⟨⟨rfl,rfl⟩,_⟩:=f1;rw[h4]at f4;simp only[afm,aem,afK,afP]at f4;obtain⟨⟨rfl,rfl⟩,_⟩:=f4;rw[show of+i' * ks.length+c+q=of+i' * ks.length+(c+q)by omega];exact f5
theorem Pz(hT:cr P E)(h:Rel cx Z g st a w)(hn:cu st)(hsz:Fit cx E a){o:Oper}(hd:o.dst=none){t:TypeId}{pa x:Operand}(ho:o.op= .store t pa x){ti:TI}{ta tx:TV}{av:AV}{p:Bool×List AV}{st':St}
 (hti:E.ti t=some ti)(hpa:st.get pa=some ta)(hav:ta.Eg = some av)(hx:st.get x=some tx)(hp:tx.cP = some p)(hlive:p.2.all st.live=true)(hlen:p.2.length=ti.ks.length)(hself:st.G9 av p.2=true)(hs:st.store ti.ks p.2 av=some st'):nU P cx E st' a w o:=by
 have hc:=hn.cons.cons;have ra:=sg (bb h hc hpa) hav;obtain⟨rv,rl⟩:=ly h (bb h hc hx) hp hlive;have hlen':(a.eval x).cells.toList.length=ti.ks.length:=by rw[<- ej rv]; exact hlen
 have h1:=Z6 h _ _ rv hlive;have go:∀(b of:Nat) (g':Gh),a.eval pa= .pointer (some ⟨b,of,none⟩)->Rel cx Z g' st' a (w.setCells b of (a.eval x).cells.toList)->st'.tm=st.tm->(∀ j,j<(a.eval x).cells.toList.length->∃ cs el fr,w.heap[b]? = some (.cells cs el fr)/\of+j<cs.size/\¬ (fr.1<=of+j/\of+j<fr.2))->nU P cx E st' a w o:=by
  intro b of g' e1 e2 e3 e4;refine⟨fun t tv ht=>hn t tv (by rw[<- e3]; exact ht),fun next Q hk => ?_⟩;have hrun:=Dc (P:=P) (hT t ti hti) (w:=w) (b:=b) (o:=of) (v:=a.eval x) rfl hlen' h1 e4;unfold Oper.wp;have:(execOp a.eval o).run P w= .ok .skip (w.setCells b of (a.eval x).cells.toList):=by simp only[execOp,ho,aeN,e1,hrun,aez];rfl
  rw[this,Oper.upon_skip,hd];exact hk Z g' a _ e2 hsz
 cases av with
 | ptr r j =>
   obtain⟨R,f1,f2,f3⟩:=ra;have hsh:shape st r=some (true,R.cells.length):=by simp[shape,f1,f2]
   obtain⟨g',m1,m2,m3⟩:=o8 (a:=a) (r:=r) (n:=R.cells.length) ti.ks p.2 _ st g w j st' h hsh rv hs;obtain⟨b1,b2,b3,b4,cs,el,fr,b5,b6,b7,b8⟩:=h.box r R f1 f2;refine go (g.be r) j g' f3 m1 m2 fun q hq=>⟨cs,el,fr,b5,?_,?_⟩
   . rcases m3 with m3 | m3
     . rw[m3]at hq; simp at hq
     . omega
   . apply b6;rcases m3 with m3 | m3
     . rw[m3]at hq; simp at hq
     . omega
 | pel r j s i c =>
   simp only[St.store]at hs;cases hl:st.live (.pel r j s i c)with
   | false=>rw[hl]at hs; simp at hs
   | true =>
     rw[hl]at hs;simp only[oT]at hs;have ra':=ra;obtain⟨c0,f1,f2,f3⟩:=ra;simp only[St.live,f1]at hl;obtain⟨e,ks,xs,f4,f5,b,of,l,cap,f6,f7⟩:=f3 (beq_eq hl);rw[f7]at ra';have hs:st.jy r j s i (st.DZ r j) c ti.ks p.2=some st':=by
      cases hrow:Nat.beq c 0&&Nat.ble 8 p.2.length with
      | false=>rw[hrow]at hs; exact hs
      | true => rw[hrow]at hs;simp only[aen]at hrow;have e0:=beq_eq hrow.1;subst e0;obtain⟨c0s,c0m,c0v⟩:=c0;simp only at f4 hl;subst f4;have es:=beq_eq hl;subst es;exact Ld f1 f5 hs
     obtain⟨g',m1,m2,m3⟩:=xM (a:=a) (b:=b) (p:=of+i * ks.length) ti.ks p.2 _ st g w c st' h ra' rv (Iy f1 (beq_eq hl) f4 f6 rv hself) hs;exact go b (of+i * ks.length+c) g' f7 m1 m2 m3
 | _=>simp[St.store]at hs
theorem od(h:Rel cx Z g st a w)(hn:cu st)(hsz:Fit cx E a){o:Oper}{d:Nat}(hd:o.dst=some d)(hdn:jL cx a d){x:Operand}(ho:o.op= .move x∨o.op= .assign x){tv:TV}(hx:st.get x=some tv):nU P cx E (st.aV d (tv,none)) a w o:=by
 refine⟨fun t tv' ht => ?_,fun next Q hk=>Ff h hn.cons.cons hd hdn ho hx next Q fun Z' g' v w' hr=>hk Z' g' _ w' hr (hsz.put _ _)⟩;rw[ck]at ht;split at ht
 . simp only[aem]at ht;subst ht;intro hm;obtain⟨d',hd'⟩:=zG hx hm;exact hn d' _ hd' hm
 . exact hn t tv' ht
def setFrom(cs:Array Value):Nat->List Value->Array Value
 | _,[]=>cs
 | o,v::r=>setFrom (cs.setIfInBounds o v) (o+1) r
theorem oe(w:World)(t:TypeId)(fr:Nat×Nat):∀(vs:List Value) (o:Nat) (cs:Array Value),(w.alloc (.cells cs t fr)).setCells w.heap.size o vs=w.alloc (.cells (setFrom cs o vs) t fr)
 | [],_,_=>rfl
 | v::r,o,cs=>by
   have:(w.alloc (.cells cs t fr)).setCell ⟨w.heap.size,o,none⟩ v=w.alloc (.cells (cs.setIfInBounds o v) t fr):=by
    have hh:((w.alloc (.cells cs t fr)).setCell ⟨w.heap.size,o,none⟩ v).heap=(w.alloc (.cells (cs.setIfInBounds o v) t fr)).heap:=by
     apply af7;intro i;rw[dE];show(if w.heap.size=i then ((w.heap.push (.cells cs t fr))[i]?).map _ else (w.heap.push (.cells cs t fr))[i]?)=(w.heap.push (.cells (cs.setIfInBounds o v) t fr))[i]?;rw[ae1,ae1];by_cases e:w.heap.size=i
     . subst e; simp
     . rw[if_neg e,if_neg (fun x=>e x.symm),if_neg (fun x=>e x.symm)]
    cases w;simp only[World.setCell,World.alloc]at hh ⊢;congr 1
   rw[World.setCells,this];exact oe w t fr r (o+1) _
theorem cQ:∀(vs:List Value) (o:Nat) (cs:Array Value) (i:Nat),o+vs.length<=cs.size->(setFrom cs o vs)[i]? = if o<=i/\i<o+vs.length then vs[i-o]? else cs[i]?
 | [],o,cs,i,h=>by
   have:¬ (o<=i/\i<o+([]:List Value).length):=by intro hh;have:=hh.2;simp only[ae7]at this;omega
   rw[if_neg this];rfl
 | v::r,o,cs,i,h=>by
   have hl:(v::r).length=r.length+1:=rfl;rw[setFrom,cQ r (o+1) _ i (by simp; omega)];by_cases e:o=i
   . subst e;rw[if_neg (by omega),if_pos (by omega),afj,if_pos rfl,if_pos (by omega),agb];rfl
   . by_cases e2:o+1<=i/\i<o+1+r.length
     . rw[if_pos e2,if_pos (by omega),show i-o=(i-(o+1))+1 by omega];rfl
     . rw[if_neg e2,if_neg (by omega),afj,if_neg e]
theorem Dt(cs:Array Value)(vs:List Value)(h:vs.length=cs.size):setFrom cs 0 vs=vs.toArray:=by
 apply af7;intro i;rw[cQ vs 0 cs i (by omega)];by_cases e:i<vs.length
 . rw[if_pos (by omega)]; simp
 . rw[if_neg (by omega)];rw[aeG (by omega),aeG (by simp; omega)]
theorem Ru(h:Rel cx Z g st a w){tv:TV}{v:Value}{p:Bool×List AV}(hr:bL Z g st w tv v)(hp:tv.cP = some p)(hl:p.2.all st.live=true):Jw p.1 v v.cells.toList:=by
 cases tv with
 | v x => simp only[TV.cP,aem]at hp;subst hp;simp only[afh,List.all_nil,agZ]at hl;show v.cells.toList=[v];rw[(uN h hr hl).1]
 | bc r j s m e ks x => simp only[TV.cP,aem]at hp;subst hp;simp only[afh,List.all_nil,agZ]at hl;show v.cells.toList=[v];rw[(uN h (Nt hr) hl).1]
 | agg l => simp only[TV.cP,aem]at hp;subst hp;obtain⟨vs,e,_⟩:=hr;subst e;simp[Jw,Value.cells]
 | _=>simp[TV.cP]at hp
theorem DK(w:World)(cs:Array Value)(t:TypeId)(i:Nat):cs.toList[i]? = (w.alloc (.cells cs t (0,0))).cell? ⟨w.heap.size,i,none⟩:=by
 have:(w.alloc (.cells cs t (0,0))).heap[w.heap.size]? = some (.cells cs t (0,0)):=by show(w.heap.push (.cells cs t (0,0)))[w.heap.size]? = _;simp
 simp only[World.cell?,this];simp
theorem FO{w0 w':World}{g':Gh}{st':St}{a':Act}{x:Operand}{d n:Nat}{g:Bool}{v:Value}{t:TypeId}(h:Rel cx Z g' st' a' w')(hn:cu st')(hd:look st'.tm d=some (.v (.ptr d 0)))(hdv:a'.tmps.getD d undef= .pointer (some ⟨w0.heap.size,0,none⟩))
 (hx:∀ t,x= .tmp t->t≠d->a'.tmps.getD t undef=v)(hlt:∀ t,x= .tmp t->t<a'.tmps.size)(hC:Jw g v v.cells.toList)(hlen:n=v.cells.size)(hw:w'=w0.alloc (.cells v.cells t (0,0))):cu (st'.rebind x d g n)/\Rel cx Z g' (st'.rebind x d g n) a' w':=by
 unfold St.rebind;cases x with
 | tmp t0 =>
   simp only;cases hb:Nat.beq t0 d with
   | true=>exact⟨hn,h⟩
   | false =>
     simp only[oF];have hne:t0≠d:=afv hb;cases hl:st'.dq d 0 n with
     | none=>exact⟨hn,h⟩
     | some l =>
       simp only;obtain⟨b,o,vs,e1,e2,e3,e4⟩:=wi h (p:= .ptr d 0) (n:=n) (l:=l) (h.tm d _ hd).2 hl;rw[hdv]at e1;simp only[Value.pointer.injEq,aem,afK,afP]at e1;obtain⟨rfl,rfl⟩:=e1;have hvs:vs=v.cells.toList:=by
        apply agU;intro i;rcases aeB i vs.length with hi | hi
        . have:=e3 i _ (aer hi);rw[aey,hw]at this;rw[aer hi,<- this];exact(DK w0 v.cells t i).symm
        . rw[aeF hi,aeF (by simp; omega)]
       rw[hvs]at e4;refine⟨fun t tv ht => ?_,?_⟩
       . have ht:look ((t0,eV g l)::st'.tm) t=some tv:=ht;rw[aJ]at ht;split at ht
         . simp only[aem]at ht;subst ht;intro hm;cases ho:eV g l with
           | may q w y g' l'=>exact kF ho
           | _=>rw[ho]at hm; exact hm
         . exact hn t tv ht
       . refine h.tell (tm:=st'.tm) (rt:=st'.rt) (hlt t0 rfl) ?_;rw[hx t0 rfl hne];exact wB hC e4
 | _=>exact⟨hn,h⟩
theorem Xs(h:Rel cx Z g st a w)(hn:cu st)(hsz:Fit cx E a){o:Oper}{d:Nat}(hd:o.dst=some d)(hdn:jL cx a d){t:TypeId}{x:Operand}(ho:o.op= .box t x){ti:TI}{tx:TV}{p:Bool×List AV}{st':St}
 (hx:st.get x=some tx)(hp:tx.cP = some p)(hf:st.free d=true)(hlive:p.2.all st.live=true)(hlen:p.2.length=ti.ks.length)(hs:(st.aV d (.v (.ptr d 0),some ⟨true,ti.ks.map nB⟩)).cT d 0 ti.ks p.2=some st'):nU P cx E (st'.rebind x d p.1 ti.ks.length) a w o:=by
 have hc:=hn.cons.cons;obtain⟨rv,rl⟩:=ly h (bb h hc hx) hp hlive;obtain⟨g1,h1,hk,hbe⟩:=h.Bj (d:=d) hdn hf (cs:=(ti.ks.map zV).toArray) (e:=t) (l:=ti.ks.map nB) (by simp) (fun j c v hj hv=>by
  have hj':(ti.ks[j]?).map nB=some c:=by rw[<- ae2]; exact hj
  have hv':(ti.ks[j]?).map zV=some v:=by rw[<- ae2]; simpa using hv
  cases hk:ti.ks[j]? with
  | none=>rw[hk]at hj'; simp at hj'
  | some k0 => rw[hk]at hj' hv';simp only[aeM,aem]at hj' hv';exact .inl ⟨k0,hj'.symm,hv'.symm⟩) (tv:= .v (.ptr d 0)) (v:= .pointer (some ⟨w.heap.size,0,none⟩)) (.inl ⟨rfl,rfl⟩)
 have hsh:shape (st.aV d (.v (.ptr d 0),some ⟨true,ti.ks.map nB⟩)) d=some (true,ti.ks.length):=by unfold shape;rw[wI];simp
 obtain⟨g',m1,m2,m3⟩:=o8 (r:=d) (n:=ti.ks.length) ti.ks p.2 _ _ g1 _ 0 st' h1 hsh (aW.ct hk _ _ rv) hs;rw[hbe,oe,Dt _ _ (by rw[<- ej rv,hlen]; simp),afk]at m1;have hnm':cu st':=fun t tv ht=>by
  rw[m2,ck]at ht;split at ht
  . simp only[aem]at ht; subst ht; exact fun h=>h
  . exact hn t tv ht
 obtain⟨hnm2,m1⟩:=FO (x:=x) (g:=p.1) m1 hnm' (d:=d) (v:=a.eval x) (by rw[m2,ck,if_pos rfl]) (by simp[Act.put,hdn.1]) (fun t ht hne=>by subst ht; simp[Act.put,Act.eval,aev,agx (Ne.symm hne)]) (fun t ht=>by
  subst ht;have ht2:(a.put (some d) (.pointer (some ⟨w.heap.size,0,none⟩))).tmps.size=a.tmps.size:=by simp[Act.put]
  rw[ht2];have hx:st.tv t=some tx:=hx;obtain⟨tq,h1,_⟩:=An hn.cons hx;exact(h.tm t tq h1).1) (Ru h (bb h hc hx) hp hlive) (hlen.symm.trans rl.symm) rfl
 refine⟨hnm2,fun next Q hk => ?_⟩
 . have hrun:(execOp a.eval o).run P w= .ok (.value (.pointer (some ⟨w.heap.size,0,none⟩))) (w.alloc (.cells (a.eval x).cells t (0,0))):=by
    simp[execOp,ho,Instr.box,newVar,newRow]
   unfold Oper.wp;rw[hrun,afo,hd];exact hk Z g' _ _ m1 (hsz.put _ _)
end
section
variable{w w':World}
theorem jx:∀(ks:List K) (x:Tl ks) (j:Nat) (G G':Nat->Nat->Prop) (cs cs':Array Value) (o o':Nat),(∀ q,q<ks.length->cs'[o'+q]? = cs[o+q]?)->(∀ j b,G j b->G' j b)->(∀ j b,G j b->b<w.heap.size->w'.heap[b]? = w.heap[b]?)->fH w ks x j G cs o->fH w' ks x j G' cs' o'
 | [],_,_,_,_,_,_,_,_,_,_,_,_=>trivial
 | k::ks,x,j,G,G',cs,cs',o,o',hc,hG,hw,⟨⟨v,h1,h2⟩,h3⟩ =>
   ⟨⟨v,by rw[<- h1]; exact hc 0 (by simp),cZ.frame k _ v (G j) (G' j) (hG j) (hw j) h2⟩,jx ks _ (j+1) G G' cs cs' (o+1) (o'+1) (fun q hq=>by rw[show o'+1+q=o'+(q+1)by omega,show o+1+q=o+(q+1)by omega]; exact hc (q+1) (by simp; omega)) hG hw h3⟩
structure GL (w:World) (ks:List K) (ys:List (Tl ks)) (news:List Value) (H:Nat->Nat->Nat->Prop) (F:Nat->Prop):Prop where
 len:news.length=ys.length * ks.length
 one:∀ v∈news,v.oneCell'=true
 sub:∀ i j b,H i j b->F b
 disj:∀ i j i' j' b,H i j b->H i' j' b->i=i'/\j=j'
 row:∀(i:Nat) (y:Tl ks),ys[i]? = some y->fH w ks y 0 (H i) news.toArray (i * ks.length)
theorem lY{i m n q:Nat}(hi:i<m)(hq:q<n):i * n+q<m * n:=by have:=aeT n (show i+1<=m from hi);rw[ae0,agX]at this;omega
theorem HF{e:TypeId}{ks:List K}{xs:T (.sl e ks)}{ys:List (Tl ks)}{G:Nat->Nat->Nat->Prop}{cs:Array Value}{o:Nat}{news:List Value}{H:Nat->Nat->Nat->Prop}{FH:Nat->Prop}{F:Nat->Prop}{b0:Nat}{cap:Nat}
 (hG1:∀ i j b,G i j b->F b/\b≠b0)(hG2:∀ i j i' j' b,G i j b->G i' j' b->i=i'/\j=j')(hx:∀ i x,(aR xs)[i]? = some x->fH w ks x 0 (G i) cs (o+i * ks.length))(hn:GL w ks ys news H FH)(hFH:∀ b,FH b->¬ F b/\b≠b0)
 {b o':Nat}{cs':Array Value}{el:TypeId}{fr:Nat×Nat}{F':Nat->Prop}(hb:w'.heap[b]? = some (.cells cs' el fr))(hfr:∀ q,q<cs'.size+S0 ks->¬ (fr.1<=q/\q<fr.2))(hF'b:F' b)(hF':∀ q,F q->q≠b0->F' q)(hF'':∀ q,FH q->F' q)(hGb:∀ i j q,G i j q->q≠b)(hHb:∀ q,FH q->q≠b)
 (hsame:∀ q,q<w.heap.size->q≠b0->q≠b->w'.heap[q]? = w.heap[q]?)
 (hold:∀ q,q<(aR xs).length * ks.length->cs'[o'+q]? = cs[o+q]?)(hnew:∀ q,q<news.length->cs'[o'+(aR xs).length * ks.length+q]? = news[q]?)(hcap:(aR xs).length+ys.length<=cap)(hsz:o'+cap * ks.length<=cs'.size)(hbig:(aR xs).length+ys.length<=bN) :
 cZ w' (.sl e ks) (cat ks (aR xs) ys) (.slice (some ⟨b,o',none⟩) ((aR xs).length+ys.length) cap) F':=by
 have hlen:(aR (e:=e) (ks:=ks) (cat ks (aR xs) ys)).length=(aR xs).length+ys.length:=aeo ..
 refine⟨_,cap,by rw[hlen],by rw[hlen]; exact hcap,by rw[hlen]; exact hbig,by simp,fun a' ha' => ?_⟩;simp only[aem]at ha';subst ha';refine⟨b,o',cs',el,fr,rfl,hF'b,hb,hfr,hsz,fun i j q=>if i<(aR xs).length then G i j q else H (i-(aR xs).length) j q,fun i j q hq => ?_,fun i j i' j' q h1 h2 => ?_,fun i x hi => ?_⟩
 . dsimp only at hq;split at hq
   . exact⟨hF' q (hG1 i j q hq).1 (hG1 i j q hq).2,hGb i j q hq⟩
   . exact⟨hF'' q (hn.sub _ _ _ hq),hHb q (hn.sub _ _ _ hq)⟩
 . dsimp only at h1 h2;split at h1
   . split at h2
     . exact hG2 _ _ _ _ _ h1 h2
     . exact absurd (hG1 _ _ _ h1).1 (hFH q (hn.sub _ _ _ h2)).1
   . split at h2
     . exact absurd (hG1 _ _ _ h2).1 (hFH q (hn.sub _ _ _ h1)).1
     . obtain⟨e1,e2⟩:=hn.disj _ _ _ _ _ h1 h2;exact⟨by omega,e2⟩
 . have hi':(aR xs++ys)[i]? = some x:=hi;by_cases hl:i<(aR xs).length
   . rw[ae4 hl]at hi';refine jx ks x 0 (G i) _ cs cs' _ _ (fun q hq => ?_) (fun j q hq => ?_) (fun j q hq hlt=>hsame q hlt (hG1 i j q hq).2 (hGb i j q hq)) (hx i x hi')
     . have:=hold (i * ks.length+q) (lY hl hq);rw[show o'+i * ks.length+q=o'+(i * ks.length+q)by omega,show o+i * ks.length+q=o+(i * ks.length+q)by omega];exact this
     . show(if i<(aR xs).length then G i j q else H (i-(aR xs).length) j q);rw[if_pos hl]; exact hq
   . rw[ae3 (by omega)]at hi';have hlt:i-(aR xs).length<ys.length:=by
      rcases aeB (i-(aR xs).length) ys.length with h | h
      . exact h
      . simp[aeF h]at hi'
     refine jx ks x 0 (H (i-(aR xs).length)) _ news.toArray cs' _ _ (fun q hq => ?_) (fun j q hq => ?_) (fun j q hq hlt'=>hsame q hlt' (hFH q (hn.sub _ _ _ hq)).2 (hHb q (hn.sub _ _ _ hq))) (hn.row _ x hi')
     . have hq':(i-(aR xs).length) * ks.length+q<news.length:=by rw[hn.len]; exact lY hlt hq
       have:=hnew _ hq';have hmul:i * ks.length=(aR xs).length * ks.length+(i-(aR xs).length) * ks.length:=by rw[<- ae0]; congr 1; omega
       rw[show o'+i * ks.length+q=o'+(aR xs).length * ks.length+((i-(aR xs).length) * ks.length+q)by omega,this];simp
     . show(if i<(aR xs).length then G i j q else H (i-(aR xs).length) j q);rw[if_neg hl]; exact hq
end
section
variable{P:Program}{cx:Cx P}{Z:Nat->Prop}{g:Gh}{st:St}{a:Act}{w:World}{E:En}
theorem Rel.wr(h:Rel cx Z g st a w){w':World}{F:Nat->Prop}(hF:iz cx Z g st w F)(h1:w'.os=w.os)(h2:w'.tape=w.tape)(h3:w'.output=w.output)(hs:w.heap.size<=w'.heap.size)(hb:∀ b,b<w.heap.size->¬ F b->w'.heap[b]? = w.heap[b]?):Rel cx Z g st a w':=by
 have hz:∀ b,Z b->b<w.heap.size->w'.heap[b]? = w.heap[b]? := fun b hz hlt=>hb b hlt fun hf=>hF.z b hf hz
 have hfp:∀ r j b,g.fp r j b->w'.heap[b]? = w.heap[b]? := fun r j b hf=>hb b (h.fp r j b hf).1 fun hf'=>hF.fp b hf' r j hf
 have k:mF Z Z w w' g g st st :=
  { size:=hs,z:=fun b hz' hlt=>⟨hz',hz b hz' hlt⟩,root:=fun r R hR=>⟨R,hR,rfl,fun _=>rfl⟩
    cell:=fun r j c hc=>⟨c,hc,oR _,oR _,fun _=>rfl,fun _ e ks xs hh=>⟨xs,hh,rfl⟩,fun _ _=>⟨rfl,fun b hb' _=>⟨hb',hfp r j b hb'⟩⟩⟩
    own:=fun r j b hb'=>(h.fp r j b hb').1
    block:=(fm h (st':=st) (w':=w) rfl rfl).block }
 refine { os:=h1.trans h.os,tape:=h2.trans h.tape,output:=h3.trans h.output,size:=aeu h.size hs,block := ?_,bV:=fun b hb'=>⟨aeJ (h.bV b hb').1 hs,(h.bV b hb').2⟩,z0:=h.z0,fp := ?_,disj:=h.disj,box := ?_,cell := ?_,tm := ?_,defers:=h.defers,pin:=h.pin }
 . intro b hlt hf;refine(hb b (aeJ hlt h.size) fun hf' => ?_).trans (h.block b hlt hf);rcases hF.own b hf' with h4 | h4
   . exact hf h4
   . omega
 . intro r j b hb';obtain⟨h1,h2,h3,h4⟩:=h.fp r j b hb';exact⟨aeJ h1 hs,h2,h3,h4⟩
 . intro r R hR hbx;obtain⟨b1,b2,b3,b4,cs,e,fr,b5,b6⟩:=h.box r R hR hbx;have hlt:g.be r<w.heap.size:=by
    rcases aeB (g.be r) w.heap.size with hh | hh
    . exact hh
    . simp[aeG hh]at b5
   exact⟨b1,b2,b3,b4,cs,e,fr,by rw[hb _ hlt fun hf=>hF.box _ hf r R hR hbx rfl]; exact b5,b6⟩
 . intro r j c hc;exact jU.ct k _ _ _ _ (h.cell r j c hc) (fun _ h=>h) (fun b hb' _=>hfp r j b hb')
 . exact fun t tv ht=>⟨(h.tm t tv ht).1,bL.ct k _ _ (h.tm t tv ht).2⟩
theorem Rel.Gm(h:Rel cx Z g st a w){d:Nat}(hd:jL cx a d)(hf:st.free d=true){k:K}{x:T k}{v:Value}{F:Nat->Prop}(hF:∀ b,F b->b<w.heap.size/\(cx.F0 b∨cx.w0.heap.size<=b)/\¬ Z b/\(∀ r j,¬ g.fp r j b)/\(∀ r' R',look st.rt r'=some R'->R'.box=true->g.be r'≠b))(ho:cZ w k x v F) :
 ∃ g',Rel cx Z g' (st.aV d (.v (.ref d 0 0),some ⟨false,[⟨0,0,.own k x⟩]⟩)) (a.put (some d) v) w:=by
 have h6:=Rel.lK h (r:=d) (be:=0) (R:=⟨false,[⟨0,0,.own k x⟩]⟩) (cv:=fun _=>v) (fp:=fun j b=>j=0/\F b) (jw hf)
  (fun j b hb=>⟨(hF b hb.2).1,(hF b hb.2).2.1,(hF b hb.2).2.2.1,(hF b hb.2).2.2.2.1,(hF b hb.2).2.2.2.2,⟨0,0,.own k x⟩,k,x,by rw[hb.1]; rfl,rfl⟩)
  (fun j j' b h1 h2=>h1.1.trans h2.1.symm) (fun hb=>by simp at hb)
  (fun j c hj=>by
    cases j with
    | zero => simp only[aes,aem]at hj;subst hj;exact cZ.frame _ _ _ _ _ (fun b hb=>⟨rfl,hb⟩) (fun _ _ _=>rfl) ho
    | succ j=>simp at hj)
 refine⟨_,h6.mJ hd (tv:= .v (.ref d 0 0)) ⟨⟨0,0,.own k x⟩,?_,oR _,fun _=>by simp[Gh.at]⟩⟩;show(match look ((d,(⟨false,[⟨0,0,.own k x⟩]⟩:Rt))::st.rt) d with | some R=>R.cells[0]? | none=>none)=_;rw[aJ,if_pos rfl];rfl
end
section
variable{P:Program}{w:World}{E:En}
theorem oU{t t2 ty:TypeId}{e:TypeId}{te:TI}(ht:P.underlying t=some (.slice e))(hTe:pH P e te){d2:TypeDesc}(h2:P.underlying t2=some d2)(h2':∀ k,d2≠ .int k){b o sLen sCap n:Nat}{vx:Value}{news:List Value}{ats:Array TypeId}(hat:ats[0]? = some t)(hat2:ats[1]? = some t2)
 (hl:(Builtin.lenOf vx).run P w= .ok n w)(hf:(Builtin.firstCells te.ks.length n vx).run P w= .ok news.toArray w)(hc:sLen+n<=sCap)(h1:∀ u∈news,u.oneCell'=true)
 (hcell:∀ j,j<news.length->∃ cs el fr,w.heap[b]? = some (.cells cs el fr)/\o+sLen * te.ks.length+j<cs.size/\¬ (fr.1<=o+sLen * te.ks.length+j/\o+sLen * te.ks.length+j<fr.2)) :
 (Builtin.append_ ats ty #[.slice (some ⟨b,o,none⟩) sLen sCap,vx]).run P w= .ok (.slice (some ⟨b,o,none⟩) (sLen+n) sCap) (w.setCells b (o+sLen * te.ks.length) news):=by
 have hst:=run_storeCells_cells (P:=P) b (o+sLen * te.ks.length) news 0 w (fun j hj=>by
  obtain⟨cs,el,fr,e1,e2,_⟩:=hcell j hj;simp[World.cell?,e1,e2]) (fun j hj=>by
  obtain⟨cs,el,fr,e1,e2,e3⟩:=hcell j hj;simp only[World.frozen?,aeR,e1];simp only[agE,agf];by_cases h:fr.1<=o+sLen * te.ks.length+j
  . exact .inr fun h'=>e3 ⟨h,h'⟩
  . exact .inl h) h1
 rw[aeR]at hst;have hz:(match d2 with | .int _=>true | _=>false)=false:=by cases d2 <;> first | rfl | exact absurd rfl (h2' _)
 simp only[Builtin.append_,hat,hat2,aeY,aes,afb,aeN,aeQ ht,aez,cS hTe,aeQ h2,aeW,hz,ae5,afB,hl,hc,if_true,oM,hf,fQ,hst]
theorem append_nil{t t2 ty:TypeId}{e:TypeId}{te:TI}(ht:P.underlying t=some (.slice e))(hTe:pH P e te){d2:TypeDesc}(h2:P.underlying t2=some d2)(h2':∀ k,d2≠ .int k){vx:Value}{news:List Value}{ats:Array TypeId}(hat:ats[0]? = some t)(hat2:ats[1]? = some t2)
 (hl:(Builtin.lenOf vx).run P w= .ok 0 w)(hf:(Builtin.firstCells te.ks.length 0 vx).run P w= .ok news.toArray w) :
 (Builtin.append_ ats ty #[.slice none 0 0,vx]).run P w= .ok (.slice none 0 0) w:=by
 have hz:(match d2 with | .int _=>true | _=>false)=false:=by cases d2 <;> first | rfl | exact absurd rfl (h2' _)
 simp only[Builtin.append_,hat,hat2,aeY,aes,afb,aeN,aeQ ht,aez,cS hTe,aeQ h2,aeW,hz,ae5,afB,hl,oR,aeR,if_true,oM,hf]
theorem mS{t t2 ty:TypeId}{e:TypeId}{te:TI}(ht:P.underlying t=some (.slice e))(hTe:pH P e te){d2:TypeDesc}(h2:P.underlying t2=some d2)(h2':∀ k,d2≠ .int k){base:Option Addr}{sLen sCap n:Nat}{vx:Value}{olds news:List Value}{ats:Array TypeId}(hat:ats[0]? = some t)(hat2:ats[1]? = some t2)
 (hl:(Builtin.lenOf vx).run P w= .ok n w)(hfo:(Builtin.firstCells te.ks.length sLen (.slice base sLen sCap)).run P w.drew= .ok olds.toArray w.drew)(hf:(Builtin.firstCells te.ks.length n vx).run P w.drew= .ok news.toArray w.drew)(hc:sCap<sLen+n)(hby:0<te.bytes)(hb:(sLen+n) * te.bytes<=bN) :
 ∃ zs:Array Value,zs.size=(grownCap w (sLen+n) sCap e-(sLen+n)) * te.ks.length/\(Builtin.append_ ats ty #[.slice base sLen sCap,vx]).run P w= .ok (.slice (some ⟨w.heap.size,0,none⟩) (sLen+n) (grownCap w (sLen+n) sCap e)) (w.drew.alloc (.cells (olds.toArray++news.toArray++zs) e (0,0))):=by
 have hz:(match d2 with | .int _=>true | _=>false)=false:=by cases d2 <;> first | rfl | exact absurd rfl (h2' _)
 obtain⟨i,e1,e2,e3,z,e4,e5⟩:=hTe.info;have hzs:z.cells.size=te.ks.length:=by rw[<- aeX,e5]; simp
 refine⟨Builtin.zeroCells z.cells (grownCap w (sLen+n) sCap e-(sLen+n)),by rw[size_zeroCells,hzs],?_⟩;have hn:¬ (sLen+n<=sCap):=by omega
 have hbb:(sLen+n) * te.bytes<=140737488355328:=hb;have hle:sLen+n<=(sLen+n) * te.bytes:=afO _ hby;have h63:¬ (9223372036854775807<((sLen:Int)+(n:Int))):=by omega
 have h48:¬ (281474976710656<Builtin.nextslicecap (sLen+n) sCap * i.bytes):=by have:=growslice_fits (need:=sLen+n) (old:=sCap) (bytes:=i.bytes) hc (by rw[e3]; exact hbb);omega
 have hfo':(Builtin.firstCells i.size sLen (.slice base sLen sCap)).run P w.drew= .ok olds.toArray w.drew:=by rw[e2]; exact hfo
 have hf':(Builtin.firstCells i.size n vx).run P w.drew= .ok news.toArray w.drew:=by rw[e2]; exact hf
 simp[Builtin.append_,hat,hat2,aeQ ht,aeQ h2,sizeOf,typeInfo,zeroValue,e1,e4,hl,hn,h63,h48,Question.forced,hf',hfo',newRow,grownCap,hz];congr 2;rw[<- af0];congr 1;simp
end
section
variable{P:Program}{cx:Cx P}{Z:Nat->Prop}{g:Gh}{st:St}{a:Act}{w:World}{E:En}
theorem jc{fresh:Bool}{H:Nat->Nat->Prop}:∀(ks:List K) (x:Tl ks) (cs:List Value) (j:Nat),aY fresh Z w H ks x cs j->cs.length=ks.length
 | [],_,[],_,_=>rfl
 | .sl e ks'::ks,x,v::vs,j,h=>aeU (· + 1) (jc ks x.2 vs _ h.2)
 | .int _::ks,x,v::vs,j,h=>aeU (· + 1) (jc ks x.2 vs _ h.2)
 | .bool::ks,x,v::vs,j,h=>aeU (· + 1) (jc ks x.2 vs _ h.2)
 | .str::ks,x,v::vs,j,h=>aeU (· + 1) (jc ks x.2 vs _ h.2)
 | [],_,_::_,_,h=>h.elim
 | .sl _ _::_,_,[],_,h=>h.elim
 | .int _::_,_,[],_,h=>h.elim
 | .bool::_,_,[],_,h=>h.elim
 | .str::_,_,[],_,h=>h.elim
theorem gX{H:Nat->Nat->Prop}:∀(ks:List K) (x:Tl ks) (cs:List Value) (j:Nat),aY true Z w H ks x cs j->∀ u∈cs,u.oneCell'=true
 | [],_,[],_,_=>by simp
 | .sl e ks'::ks,x,v::vs,j,h=>fun u hu=>by
   rcases aew.1 hu with hu | hu
   . subst hu; exact(Bi h.1).2
   . exact gX ks x.2 vs _ h.2 u hu
 | .int _::ks,x,v::vs,j,h=>fun u hu=>by
   rcases aew.1 hu with hu | hu
   . subst hu; exact(oX h.1).2
   . exact gX ks x.2 vs _ h.2 u hu
 | .bool::ks,x,v::vs,j,h=>fun u hu=>by
   rcases aew.1 hu with hu | hu
   . subst hu; exact(oX (k:= .bool) h.1).2
   . exact gX ks x.2 vs _ h.2 u hu
 | .str::ks,x,v::vs,j,h=>fun u hu=>by
   rcases aew.1 hu with hu | hu
   . subst hu; exact(oX (k:= .str) h.1).2
   . exact gX ks x.2 vs _ h.2 u hu
 | [],_,_::_,_,h=>h.elim
 | .sl _ _::_,_,[],_,h=>h.elim
 | .int _::_,_,[],_,h=>h.elim
 | .bool::_,_,[],_,h=>h.elim
 | .str::_,_,[],_,h=>h.elim
theorem oS{H:Nat->Nat->Prop}(hd:∀ n m b,H n b->H m b->n=m){cs:Array Value}:∀(ks:List K) (x:Tl ks) (vs:List Value) (j j0 o:Nat),aY true Z w H ks x vs j->(∀ q,q<vs.length->cs[o+q]? = vs[q]?) ->
 ∃ G:Nat->Nat->Prop,fH w ks x j0 G cs o/\(∀ q b,G q b->j0<=q/\∃ n,j<=n/\H n b)/\(∀ q q' b,G q b->G q' b->q=q')
 | [],_,[],j,j0,o,_,_=>⟨fun _ _=>False,trivial,fun _ _ h=>h.elim,fun _ _ _ h=>h.elim⟩
 | .sl e ks'::ks,x,v::vs,j,j0,o,h,hc=>by
   obtain⟨G,g1,g2,g3⟩:=oS hd ks x.2 vs (j+1) (j0+1) (o+1) h.2 fun q hq=>by rw[show o+1+q=o+(q+1)by omega]; exact hc (q+1) (by simp; omega)
   refine⟨fun q b=>if q=j0 then H j b else G q b,⟨⟨v,by have:=hc 0 (by simp); simpa using this,cZ.frame _ _ _ _ _ (fun b hb=>by dsimp only; rw[if_pos rfl]; exact hb) (fun _ _ _=>rfl) h.1⟩,?_⟩,fun q b hb => ?_,fun q q' b hb hb' => ?_⟩
   . refine fH.frame ks x.2 (j0+1) G _ cs (o+1) (fun q b hb => ?_) (fun _ _ _ _=>rfl) g1;have:=(g2 q b hb).1;rw[if_neg (by omega)];exact hb
   . dsimp only at hb;split at hb
     . exact⟨by omega,j,oR _,hb⟩
     . obtain⟨k1,n,k2,k3⟩:=g2 q b hb;exact⟨by omega,n,by omega,k3⟩
   . dsimp only at hb hb';split at hb
     . split at hb'
       . omega
       . obtain⟨_,n,k2,k3⟩:=g2 q' b hb';have:=hd j n b hb k3;omega
     . split at hb'
       . obtain⟨_,n,k2,k3⟩:=g2 q b hb;have:=hd j n b hb' k3;omega
       . exact g3 q q' b hb hb'
 | .int k::ks,x,v::vs,j,j0,o,h,hc=>by
   obtain⟨G,g1,g2,g3⟩:=oS hd ks x.2 vs j (j0+1) (o+1) h.2 fun q hq=>by rw[show o+1+q=o+(q+1)by omega]; exact hc (q+1) (by simp; omega)
   exact⟨G,⟨⟨v,by have:=hc 0 (by simp); simpa using this,jC rfl h.1⟩,g1⟩,fun q b hb=>⟨by have:=(g2 q b hb).1; omega,(g2 q b hb).2⟩,g3⟩
 | .bool::ks,x,v::vs,j,j0,o,h,hc=>by
   obtain⟨G,g1,g2,g3⟩:=oS hd ks x.2 vs j (j0+1) (o+1) h.2 fun q hq=>by rw[show o+1+q=o+(q+1)by omega]; exact hc (q+1) (by simp; omega)
   exact⟨G,⟨⟨v,by have:=hc 0 (by simp); simpa using this,jC (k:= .bool) rfl h.1⟩,g1⟩,fun q b hb=>⟨by have:=(g2 q b hb).1; omega,(g2 q b hb).2⟩,g3⟩
 | .str::ks,x,v::vs,j,j0,o,h,hc=>by
   obtain⟨G,g1,g2,g3⟩:=oS hd ks x.2 vs j (j0+1) (o+1) h.2 fun q hq=>by rw[show o+1+q=o+(q+1)by omega]; exact hc (q+1) (by simp; omega)
   exact⟨G,⟨⟨v,by have:=hc 0 (by simp); simpa using this,jC (k:= .str) rfl h.1⟩,g1⟩,fun q b hb=>⟨by have:=(g2 q b hb).1; omega,(g2 q b hb).2⟩,g3⟩
 | [],_,_::_,_,_,_,h,_=>h.elim
 | .sl _ _::_,_,[],_,_,_,h,_=>h.elim
 | .int _::_,_,[],_,_,_,h,_=>h.elim
 | .bool::_,_,[],_,_,_,h,_=>h.elim
 | .str::_,_,[],_,_,_,h,_=>h.elim
theorem pE{Z':Nat->Prop}{G:Nat->Nat->Prop}{cs:Array Value}:∀(ks:List K) (x:Tl ks) (j b o o':Nat),flat ks=true->pT Z' w ks x b o->(∀ q,q<ks.length->cs[o'+q]? = w.cell? ⟨b,o+q,none⟩)->fH w ks x j G cs o'
 | [],_,_,_,_,_,_,_,_=>trivial
 | .int k::ks,x,j,b,o,o',hf,⟨⟨v,h1,h2⟩,h3⟩,hc=>⟨⟨v,by rw[<- h1]; exact hc 0 (by simp),jC rfl h2⟩,pE ks x.2 (j+1) b (o+1) (o'+1) hf h3 fun q hq=>by rw[show o'+1+q=o'+(q+1)by omega,show o+1+q=o+(q+1)by omega]; exact hc (q+1) (by simp; omega)⟩
 | .bool::ks,x,j,b,o,o',hf,⟨⟨v,h1,h2⟩,h3⟩,hc=>⟨⟨v,by rw[<- h1]; exact hc 0 (by simp),jC (k:= .bool) rfl h2⟩,pE ks x.2 (j+1) b (o+1) (o'+1) hf h3 fun q hq=>by rw[show o'+1+q=o'+(q+1)by omega,show o+1+q=o+(q+1)by omega]; exact hc (q+1) (by simp; omega)⟩
 | .str::ks,x,j,b,o,o',hf,⟨⟨v,h1,h2⟩,h3⟩,hc=>⟨⟨v,by rw[<- h1]; exact hc 0 (by simp),jC (k:= .str) rfl h2⟩,pE ks x.2 (j+1) b (o+1) (o'+1) hf h3 fun q hq=>by rw[show o'+1+q=o'+(q+1)by omega,show o+1+q=o+(q+1)by omega]; exact hc (q+1) (by simp; omega)⟩
 | .sl _ _::_,_,_,_,_,_,hf,_,_=>by simp[flat]at hf
theorem AR{Z':Nat->Prop}:∀(ks:List K) (x:Tl ks) (b o q:Nat),pT Z' w ks x b o->q<ks.length->∃ v,w.cell? ⟨b,o+q,none⟩=some v/\v.oneCell'=true
 | [],_,_,_,_,_,hq=>by simp at hq
 | k::ks,x,b,o,0,⟨⟨v,h1,h2⟩,_⟩,_=>⟨v,h1,(oX h2).2⟩
 | k::ks,x,b,o,q+1,⟨_,h3⟩,hq=>by obtain⟨v,h1,h2⟩:=AR ks x.2 b (o+1) q h3 (by simpa using hq);exact⟨v,by rw[show o+(q+1)=o+1+q by omega]; exact h1,h2⟩
theorem xS{G:Nat->Nat->Prop}{cs:Array Value}:∀(ks:List K) (x:Tl ks) (j o q:Nat),fH w ks x j G cs o->q<ks.length->∃ v,cs[o+q]? = some v/\v.oneCell'=true
 | [],_,_,_,_,_,hq=>by simp at hq
 | k::ks,x,j,o,0,⟨⟨v,h1,h2⟩,_⟩,_=>⟨v,h1,(Bi h2).2⟩
 | k::ks,x,j,o,q+1,⟨_,h3⟩,hq=>by obtain⟨v,h1,h2⟩:=xS ks x.2 (j+1) (o+1) q h3 (by simpa using hq);exact⟨v,by rw[show o+(q+1)=o+1+q by omega]; exact h1,h2⟩
theorem pB{m n q:Nat}(h:q<m * n):q / n<m/\q % n<n/\q=q / n * n+q % n:=by
 have hn:0<n:=by
  rcases af6 n with h0 | h0
  . subst h0; simp at h
  . exact h0
 exact⟨Nat.div_lt_of_lt_mul (by rw[agN]; exact h),Nat.mod_lt _ hn,by rw[agN]; exact(Nat.div_add_mod q n).symm⟩
structure wX (P:Program) (cx:Cx P) (Z:Nat->Prop) (g g':Gh) (st st':St) (w:World) (ks:List K) (ys:List (Tl ks)) (v:Value) (news:List Value) (H:Nat->Nat->Nat->Prop) (FH:Nat->Prop):Prop where
 rows:GL w ks ys news H FH
 len:(Builtin.lenOf v).run P w= .ok ys.length w
 cells:∀ w1:World,w1.heap=w.heap->(Builtin.firstCells ks.length ys.length v).run P w1= .ok news.toArray w1
 free:iz cx Z g' st' w FH
 other:∀ F,iz cx Z g st w F->iz cx Z g' st' w F/\∀ b,FH b->¬ F b
 tm:st'.tm=st.tm
theorem wX.Bl{ks:List K}{ys:List (Tl ks)}{v:Value}{news:List Value}(h1:news.length=ys.length * ks.length)(h2:∀ u∈news,u.oneCell'=true)(h3:∀(i:Nat) (y:Tl ks),ys[i]? = some y->fH w ks y 0 (fun _ _=>False) news.toArray (i * ks.length))
 (h4:(Builtin.lenOf v).run P w= .ok ys.length w)(h5:∀ w1:World,w1.heap=w.heap->(Builtin.firstCells ks.length ys.length v).run P w1= .ok news.toArray w1):wX P cx Z g g st st w ks ys v news (fun _ _ _=>False) (fun _=>False) :=
 ⟨⟨h1,h2,fun _ _ _ h=>h,fun _ _ _ _ _ h=>h.elim,h3⟩,h4,h5,iz.none _ _ _ _ _,fun F hF=>⟨hF,fun _ h=>h.elim⟩,rfl⟩
theorem I4(h:Rel cx Z g st a w){e:TypeId}{ks:List K}{z:T (.sl e ks)}{v:Value}(hro:RO (gO w) w (.sl e ks) z v)(hf:flat ks=true):∃ news,wX P cx Z g g st st w ks (aR z) v news (fun _ _ _=>False) (fun _=>False):=by
 obtain⟨aa,c,rfl,h2,h3,h4,h5⟩:=hro;by_cases hne:aR z=[]
 . refine⟨[],wX.Bl (by rw[hne]; simp) (by simp) (fun i y hi=>by rw[hne]at hi; simp at hi) rfl fun w1 _ => ?_⟩;rw[hne];cases aa with
   | none=>exact run_firstCells_none (P:=P) w1 _ _ _ _
   | some b=>exact run_firstCells_some (P:=P) w1 _ _ b _ _ [] (by simp) (fun j v hj=>by simp at hj)
 . obtain⟨b,o,rfl,_,_,hrow⟩:=h5 hne;have hcell:∀ q,q<(aR z).length * ks.length->∃ v,w.cell? ⟨b,o+q,none⟩=some v/\v.oneCell'=true:=fun q hq=>by
    obtain⟨q1,q2,q3⟩:=pB hq;obtain⟨v,k1,k2⟩:=AR ks _ b _ (q % ks.length) (hrow _ _ (aer q1)) q2;exact⟨v,by rw[q3,<- afp]; exact k1,k2⟩
   have hnl:∀ q,q<(aR z).length * ks.length->((List.range ((aR z).length * ks.length)).map fun q=>(w.cell? ⟨b,o+q,none⟩).getD undef)[q]? = w.cell? ⟨b,o+q,none⟩:=fun q hq=>by obtain⟨v,k1,_⟩:=hcell q hq;simp[hq,k1]
   refine⟨(List.range ((aR z).length * ks.length)).map fun q=>(w.cell? ⟨b,o+q,none⟩).getD undef,wX.Bl (by simp) (fun u hu => ?_) (fun i y hi => ?_) rfl fun w1 hw1 => ?_⟩
   . obtain⟨q,hq,rfl⟩:=agc.1 hu;obtain⟨v,k1,k2⟩:=hcell q (afw.1 hq);rw[k1];exact k2
   . have hil:i<(aR z).length:=by
      rcases aeB i (aR z).length with hh | hh
      . exact hh
      . simp[aeF hh]at hi
     refine pE ks y 0 b _ _ hf (hrow i y hi) fun q hq => ?_
     have:=hnl (i * ks.length+q) (lY hil hq);rw[aeY,this,afp]
   . refine run_firstCells_some (P:=P) w1 _ _ ⟨b,o,none⟩ _ _ _ (by simp) fun j v hj => ?_
     have hjl:j<(aR z).length * ks.length:=by
      rcases aeB j ((aR z).length * ks.length)with hh | hh
      . exact hh
      . rw[aeF (by simpa using hh)]at hj; simp at hj
     rw[hnl j hjl]at hj;rw[fQ];simp only[World.cell?,hw1]at hj ⊢;exact hj
def mu:S8->List Value
 | []=>[]
 | c::s=> .int .u8 c.toNat::mu s
theorem nE:∀ s,(mu s).length=s.length
 | []=>rfl
 | _::s=>aeU (· + 1) (nE s)
theorem np:∀ s:S8,mu s=s.map fun b=>Value.int .u8 b.toNat
 | []=>rfl
 | c::s=>aeU (Value.int .u8 c.toNat :: ·) (np s)
theorem sA:∀(s:S8) (i:Nat),i<s.length->(mu s)[i]? = some (.int .u8 (s.getD i 0).toNat)
 | [],i,h=>by simp at h
 | c::s,0,_=>rfl
 | c::s,i+1,h=>sA s i (by simpa using h)
theorem NZ(e:TypeId)(s:S8):∃ news,wX P cx Z g g st st w [.int .u8] (aR (e:=e) (bytesOf s)) (.string (eY s)) news (fun _ _ _=>False) (fun _=>False):=by
 have hl:(aR (e:=e) (bytesOf s)).length=s.length:=bytesOf_length s;refine⟨mu s,wX.Bl (by rw[nE,hl]; simp) (fun u hu => ?_) (fun i y hi => ?_) ?_ fun w1 _ => ?_⟩
 . rw[np]at hu;obtain⟨c,_,rfl⟩:=agc.1 hu;rfl
 . obtain⟨hi1,rfl⟩:=nT s i y hi;refine⟨⟨_,by rw[aeY]; simpa using sA s i hi1,rfl,?_⟩,trivial⟩;have:=(s.getD i 0).toNat_lt;have e1:IntKind.u8.min=0:=rfl;have e2:IntKind.u8.max=255:=rfl;unfold nK;rw[e1,e2];show 0<=((s.getD i 0).toNat:Int)/\((s.getD i 0).toNat:Int)<=255;omega
 . rw[hl];show Result.ok (eY s).size w=_;rw[jZ]
 . rw[hl];have:((eY s).extract 0 s.length).data.map (fun b=>Value.int .u8 b.toNat)=(mu s).toArray:=by
    rw[np];have h2:(eY s).extract 0 s.length=eY s:=by have:s.length=(eY s).size:=(jZ s).symm;rw[this];apply ahe;simp[ByteArray.data_extract]
    rw[h2];simp[eY]
   show Result.ok (((eY s).extract 0 s.length).data.map (fun b=>Value.int .u8 b.toNat)) w1=_;rw[this]
theorem LB{g':Gh}{st':St}{e:TypeId}{ks:List K}{z:T (.sl e ks)}{v:Value}{F:Nat->Prop}(ho:cZ w (.sl e ks) z v F)(hF:iz cx Z g' st' w F)(hfp:∀ r j b,g'.fp r j b->g.fp r j b)(hsub:∀ b,F b->∃ r j,g.fp r j b)(hbe:g'.be=g.be)(hbx:∀ r R',look st'.rt r=some R'->∃ R,look st.rt r=some R/\R'.box=R.box)(htm:st'.tm=st.tm) :
 ∃ news H,wX P cx Z g g' st st' w ks (aR z) v news H F:=by
 have oth:∀ F',iz cx Z g st w F'->iz cx Z g' st' w F'/\∀ b,F b->¬ F' b:=fun F' h'=>⟨h'.mono hfp hbe hbx,fun b hb hb'=>by obtain⟨r,j,hh⟩:=hsub b hb;exact h'.fp b hb' r j hh⟩
 obtain⟨aa,c,rfl,h2,h3,h4,h5⟩:=ho;cases aa with
 | none => have hz:aR z=[]:=ae6.1 (by have:=h4 rfl; omega);refine⟨[],fun _ _ _=>False,⟨by rw[hz]; simp,by simp,fun _ _ _ h=>h.elim,fun _ _ _ _ _ h=>h.elim,fun i y hi=>by rw[hz]at hi; simp at hi⟩,rfl,fun w1 _=>by rw[hz]; exact run_firstCells_none (P:=P) w1 _ _ _ _,hF,oth,htm⟩
 | some aa =>
   obtain⟨b,o,cs,el,fr,rfl,k2,k3,k4,k5,G,k6,k7,k8⟩:=h5 _ rfl;have hbound:∀ q,q<(aR z).length * ks.length->o+q<cs.size:=fun q hq=>by have:=aeT ks.length h2;omega
   have hnl:∀ q,q<(aR z).length * ks.length->((List.range ((aR z).length * ks.length)).map fun q=>cs.getD (o+q) undef)[q]? = cs[o+q]? := fun q hq=>by have:=hbound q hq;simp[hq,this]
   refine⟨(List.range ((aR z).length * ks.length)).map fun q=>cs.getD (o+q) undef,G,⟨by simp,fun u hu => ?_,fun i j b' hb'=>(k6 i j b' hb').1,k7,fun i y hi => ?_⟩,rfl,fun w1 hw1 => ?_,hF,oth,htm⟩
   . obtain⟨q,hq,rfl⟩:=agc.1 hu;obtain⟨q1,q2,q3⟩:=pB (afw.1 hq);obtain⟨v,f1,f2⟩:=xS ks _ 0 _ (q % ks.length) (k8 _ _ (aer q1)) q2;rw[afp,<- q3]at f1;rw[aev,f1];exact f2
   . have hil:i<(aR z).length:=by
      rcases aeB i (aR z).length with hh | hh
      . exact hh
      . simp[aeF hh]at hi
     refine jx ks y 0 (G i) (G i) cs _ _ _ (fun q hq => ?_) (fun _ _ h=>h) (fun _ _ _ _=>rfl) (k8 i y hi);rw[aeY,hnl _ (lY hil hq),afp]
   . refine run_firstCells_some (P:=P) w1 _ _ ⟨b,o,none⟩ _ _ _ (by simp) fun j v hj => ?_
     have hjl:j<(aR z).length * ks.length:=by
      rcases aeB j ((aR z).length * ks.length)with hh | hh
      . exact hh
      . rw[aeF (by simpa using hh)]at hj; simp at hj
     rw[hnl j hjl]at hj;rw[fQ];simp only[World.cell?,hw1,k3];exact hj
theorem Ix(h:Rel cx Z g st a w){r:Nat}{l:List RC}{v:Value}{ks:List K}{x:Tl ks}{st':St}(hl:look st.rt r=some ⟨true,l⟩)(hv:v= .slice (some ⟨g.be r,0,none⟩) 1 1)(ht:iW st true ks (l.map tG)=some (st',x)) :
 ∃ g' news H FH,Rel cx Z g' st' a w/\wX P cx Z g g' st st' w ks [x] v news H FH:=by
 obtain⟨b1,b2,b3,b4,cs,el,fr,b5,b6,b7,b8⟩:=h.box r _ hl rfl;have hrel:aW Z g st w (l.map tG) cs.toList:=by
  refine kE (by simp[b7]) fun j y u hj hu => ?_
  rw[ae2]at hj;cases hc:l[j]? with
  | none=>rw[hc]at hj; simp at hj
  | some c =>
    rw[hc]at hj;simp only[aeM,aem]at hj;have hcell:st.cell r j=some c:=by simp only[St.cell,hl]; exact hc
    have hjl:j<cs.size:=by rw[b7];exact vP hcell hl
    rw[aep,b8 j hjl]at hu;simp only[aem]at hu;subst hj;subst hu;unfold tG;cases hcv:c.v with
    | own k y=>trivial
    | av y=>exact vG h hcell hcv
 obtain⟨g',H0,m1,m2,m3⟩:=kP true ks (l.map tG) cs.toList st g st' x 0 h hrel ht;have htm:st'.tm=st.tm:=by
  have:∀(ks:List K) (l:List AV) (st st':St) (x:Tl ks),iW st true ks l=some (st',x)->st'.tm=st.tm:=by
   intro ks;induction ks with
   | nil=>intro l st st' x hh; cases l with | nil=>cases hh; rfl | cons _ _=>simp[iW]at hh
   | cons k ks ih =>
     intro l st st' x hh;cases l with
     | nil=>cases k <;> simp[iW]at hh
     | cons av l =>
       cases k with
       | sl e ks' =>
         unfold iW at hh;simp only[oT]at hh;split at hh
         . rename_i st1 y hy;split at hh
           . rename_i q hq;cases hh;exact(ih l st1 q.1 q.2 hq).trans (sL hy 0).2
           . simp at hh
         . simp at hh
       | _ =>
         unfold iW at hh;split at hh
         . rename_i y q hy hf hq;cases hh;exact ih l st q.1 q.2 hq
         . simp at hh
  exact this ks _ st st' x ht
 obtain⟨G,n1,n2,n3⟩:=oS (H:=H0) m2.disj (cs:=cs) ks x cs.toList 0 0 0 m3 fun q hq=>by rw[aey,aep]
 have hlen:=jc ks x _ 0 m3;have hfree:iz cx Z g' st' w (fun b=>∃ n,H0 n b):=⟨fun b ⟨n,hb⟩=>(m2.free n).lt b hb,fun b ⟨n,hb⟩=>(m2.free n).own b hb,fun b ⟨n,hb⟩=>(m2.free n).z b hb,fun b ⟨n,hb⟩=>(m2.free n).fp b hb,fun b ⟨n,hb⟩=>(m2.free n).box b hb⟩;refine⟨g',cs.toList,fun i j b=>i=0/\G j b,fun b=>∃ n,H0 n b,m1,⟨by simpa using hlen,gX ks x _ 0 m3,fun i j b hb=>by
  obtain⟨_,n,_,hh⟩:=n2 j b hb.2;exact⟨n,hh⟩,fun i j i' j' b hb hb'=>⟨hb.1.trans hb'.1.symm,n3 j j' b hb.2 hb'.2⟩,fun i y hi => ?_⟩,by rw[hv]; rfl,fun w1 hw1 => ?_,hfree,fun F hF=>⟨hF.mono m2.fp m2.be m2.box,fun b ⟨n,hb⟩ hb'=>by
  obtain⟨r0,j0,hh⟩:=m2.sub n b hb;exact hF.fp b hb' r0 j0 hh⟩,htm⟩
 . cases i with
   | zero => simp only[aes,aem]at hi;subst hi;rw[Nat.zero_mul,afk];exact fH.frame ks x 0 G _ cs 0 (fun j b hb=>⟨rfl,hb⟩) (fun _ _ _ _=>rfl) n1
   | succ i=>simp at hi
 . rw[hv];refine run_firstCells_some (P:=P) w1 _ _ ⟨g.be r,0,none⟩ _ _ _ (by simpa using hlen) fun j u hj => ?_
   rw[fQ,aey];simp only[World.cell?,hw1,b5];rw[aep]at hj;exact hj
theorem NH(h:Rel cx Z g st a w){e:TypeId}{ks:List K}{y:TV}{v:Value}(hr:bL Z g st w y v){st':St}{ys:List (Tl ks)}(hn:st.news e ks y=some (st',ys)):∃ g' news H FH,Rel cx Z g' st' a w/\wX P cx Z g g' st st' w ks ys v news H FH:=by
 have src:∀ av,bL Z g st w (.v av) v->(match st.source (.sl e ks) ks av with | some (st',z)=>some (st',aR z) | none=>none)=some (st',ys)->∃ g' news H FH,Rel cx Z g' st' a w/\wX P cx Z g g' st st' w ks ys v news H FH:=by
  intro av hra hh;unfold St.source at hh;cases hf:flat ks with
  | true =>
    rw[hf]at hh;simp only[oT]at hh;cases hra':st.bz (.sl e ks) av with
    | none=>rw[hra']at hh; simp at hh
    | some z => rw[hra']at hh;cases hh;obtain⟨news,hnews⟩:=I4 (P:=P) h (me h hra hra') hf;exact⟨g,news,_,_,h,hnews⟩
  | false =>
    rw[hf]at hh;simp only[oF]at hh;cases htk:st.cD (.sl e ks) av with
    | none=>rw[htk]at hh; simp at hh
    | some q => obtain⟨st1,z⟩:=q;rw[htk]at hh;cases hh;obtain⟨g1,F,k1,k2,k3,k4,k5,k6,k7⟩:=gm h hra htk;obtain⟨news,H,hnews⟩:=LB (P:=P) (g:=g) (st:=st) k3 k4 k5 k6 k2.be k2.box k2.tm;exact⟨g1,news,H,F,k1,hnews⟩
 cases y with
 | v av =>
   cases av with
   | d k s =>
     cases k with
     | str =>
       simp only[St.news]at hn;split at hn
       . rename_i z hz;cases hn;obtain⟨eq,hz⟩:=cA hz;cases eq;subst hz;obtain⟨hv,_⟩:=(hr:RO Z w .str s v);subst hv;obtain⟨news,hnews⟩:=NZ (P:=P) (cx:=cx) (Z:=Z) (g:=g) (st:=st) (w:=w) e s;exact⟨g,news,_,_,h,hnews⟩
       . simp at hn
     | _=>exact src _ hr hn
   | brow r n =>
     simp only[St.news]at hn;cases hb:Nat.beq n 1 with
     | false=>rw[hb]at hn; simp at hn
     | true =>
       rw[hb]at hn;simp only[oT]at hn;have hn1:=beq_eq hb;subst hn1;split at hn
       . rename_i l hl;split at hn
         . rename_i st1 x hx;cases hn;obtain⟨R,_,_,hv⟩:=(hr:bq Z g st w (.brow r 1) v);exact Ix h hl hv hx
         . simp at hn
       . simp at hn
   | _=>exact src _ hr hn
 | _=>simp[St.news]at hn
end
theorem cG:∀(vs:List Value) (o:Nat) (cs:Array Value),(setFrom cs o vs).size=cs.size
 | [],_,_=>rfl
 | v::r,o,cs=>by rw[setFrom,cG r]; simp
theorem dQ(b:Nat):∀(vs:List Value) (o:Nat) (w:World) (cs:Array Value) (el:TypeId) (fr:Nat×Nat),w.heap[b]? = some (.cells cs el fr) ->
 (w.setCells b o vs).heap[b]? = some (.cells (setFrom cs o vs) el fr)/\(∀ i,i≠b->(w.setCells b o vs).heap[i]? = w.heap[i]?)/\(w.setCells b o vs).heap.size=w.heap.size/\(w.setCells b o vs).os=w.os/\(w.setCells b o vs).tape=w.tape/\(w.setCells b o vs).output=w.output
 | [],o,w,cs,el,fr,h=>⟨h,fun _ _=>rfl,rfl,rfl,rfl,rfl⟩
 | v::r,o,w,cs,el,fr,h=>by
   have h1:(w.setCell ⟨b,o,none⟩ v).heap[b]? = some (.cells (cs.setIfInBounds o v) el fr):=by rw[dE,if_pos rfl,h]; rfl
   obtain⟨g1,g2,g3,g4,g5,g6⟩:=dQ b r (o+1) _ _ el fr h1;refine⟨g1,fun i hi => ?_,?_,g4,g5,g6⟩
   . rw[World.setCells,g2 i hi,dE,if_neg (fun e=>hi e.symm)]
   . rw[World.setCells,g3]; simp[World.setCell]
section
variable{P:Program}{cx:Cx P}{Z:Nat->Prop}{g:Gh}{st:St}{a:Act}{w:World}{E:En}
theorem Kl(hT:cr P E)(h:Rel cx Z g st a w)(hn:cu st)(hsz:Fit cx E a){o:Oper}{d:Nat}(hd:o.dst=some d)(hdn:jL cx a d){c:Call}(ho:o.op= .call c)(hcal:c.callee= .builtin .append){x y:Operand}(hargs:c.args.toList=[x,y]){t t2:Nat}{ts:List Nat}(hts:c.argTypes.toList=t::t2::ts)
 {ti te:TI}(hti:E.ti t=some ti)(hte:E.sl t=some te){tx ty:TV}(hx:st.get x=some tx)(hy:st.get y=some ty)(h2:E.str t2=true∨∃ te2,E.sl t2=some te2){st':St}(hrun:(st.append d ti.elem te tx ty).run=some st'):nU P cx E st' a w o:=by
 have hc:=hn.cons.cons;obtain⟨ks0,q1,q2,q3,q4⟩:=vo hT hte hti;have hTe:=hT _ _ q4;obtain⟨tt,ks1,t1,_,_,_,hu⟩:=ji hT hte;rw[hti]at t1;simp only[aem]at t1;subst t1;obtain⟨d2,hu2,hd2⟩:∃ d2,P.underlying t2=some d2/\∀ k,d2≠ .int k:=by
  rcases h2 with h2 | ⟨te2,h2⟩
  . exact⟨_,nX hT h2,fun _ h=>by simp at h⟩
  . obtain⟨_,_,_,_,_,_,hu2⟩:=ji hT h2;exact⟨_,hu2,fun _ h=>by simp at h⟩
 unfold St.append at hrun;obtain⟨av,hav,hrun⟩:=Tr.af hrun;obtain⟨⟨st1,xs⟩,htk,hrun⟩:=Tr.af hrun;obtain⟨⟨st2,ys⟩,hnw,hrun⟩:=Tr.af hrun;simp only at hnw hrun;cases hcond:st2.free d&&Nat.blt 0 te.bytes with
 | false=>rw[hcond]at hrun; simp[Tr.run]at hrun
 | true =>
   rw[hcond]at hrun;simp only[oT]at hrun;simp only[aen]at hcond;obtain⟨hfree,hby⟩:=hcond;have hby:0<te.bytes:=afq (aeI hby);obtain⟨hble,hrun⟩:=Tr.bI hrun;simp only[Tr.run,aem]at hrun;subst hrun;have hbytes:((aR xs).length+ys.length) * te.bytes<=bN:=aeI hble;have hbig:(aR xs).length+ys.length<=bN:=aeu (afO _ hby) hbytes;obtain⟨g1,F,k1,k2,k3,k4,k5,k6,k7⟩:=gm h (sg (bb h hc hx) hav) htk;obtain⟨g2,news,H,FH,m1,m2⟩:=NH (P:=P) k1 (bL.ct k2.ct _ _ (bb h hc hy)) hnw;obtain⟨f1,f2⟩:=m2.other F k4;have hnm:cu (st2.aV d (.v (.ref d 0 0),some ⟨false,[⟨0,0,.own (.sl ti.elem te.ks) (cat te.ks (aR xs) ys)⟩]⟩)):=fun t tv ht=>by
    rw[ck]at ht;split at ht
    . simp only[aem]at ht; subst ht; exact fun h=>h
    . exact hn t tv (by rw[<- k2.tm,<- m2.tm]; exact ht)
   refine⟨hnm,fun next Q hk => ?_⟩
   have fin:∀(v':Value) (w':World) (F':Nat->Prop),(Builtin.append_ c.argTypes o.type #[a.eval x,a.eval y]).run P w= .ok v' w'->Rel cx Z g2 st2 a w'->(∀ b,F' b->b<w'.heap.size/\(cx.F0 b∨cx.w0.heap.size<=b)/\¬ Z b/\(∀ r j,¬ g2.fp r j b)/\(∀ r' R',look st2.rt r'=some R'->R'.box=true->g2.be r'≠b)) ->
    cZ w' (.sl ti.elem te.ks) (cat te.ks (aR xs) ys) v' F'->o.wp P a w next Q:=by
    intro v' w' F' hr hrel hF' hown;have hargs':c.args = #[x,y]:=by rw[<- afk (xs:=c.args),hargs]
    have:(execOp a.eval o).run P w= .ok (.value v') w':=by simp only[execOp,ho,resolve,hcal,hargs',aeN,aeW,aez,invoke,builtin,afZ,aeZ,agk,hr]
    unfold Oper.wp;rw[this,afo,hd];obtain⟨g3,hg⟩:=hrel.Gm hdn hfree hF' hown;exact hk Z g3 _ _ hg (hsz.put _ _)
   have hat:c.argTypes[0]? = some t:=by rw[<- aep,hts]; rfl
   have hat2:c.argTypes[1]? = some t2:=by rw[<- aep,hts]; rfl
   have hFs:∀(w':World),w.heap.size<=w'.heap.size->∀ b,F b∨FH b->b<w'.heap.size/\(cx.F0 b∨cx.w0.heap.size<=b)/\¬ Z b/\(∀ r j,¬ g2.fp r j b)/\(∀ r' R',look st2.rt r'=some R'->R'.box=true->g2.be r'≠b):=fun w' hs b hb=>by
    rcases hb with hb | hb
    . exact⟨aeJ (f1.lt b hb) hs,f1.own b hb,f1.z b hb,f1.fp b hb,f1.box b hb⟩
    . exact⟨aeJ (m2.free.lt b hb) hs,m2.free.own b hb,m2.free.z b hb,m2.free.fp b hb,m2.free.box b hb⟩
   obtain⟨base,cap,ev,c1,c2,c3,c4⟩:=k3;have hnl:=m2.rows.len;by_cases hfit:(aR xs).length+ys.length<=cap
   . cases base with
     | none =>
       have hcap:=c3 rfl;have hx0:aR xs=[]:=ae6.1 (by omega);have hy0:ys=[]:=ae6.1 (by omega);have e1:a.eval x= .slice none 0 0:=by rw[ev,hx0,hcap]; rfl
       refine fin (.slice none 0 0) w (fun _=>False) ?_ m1 (fun b hb=>hb.elim) ?_
       . rw[e1];refine append_nil (news:=news) hu hTe hu2 hd2 hat hat2 ?_ ?_
         . have:=m2.len; rw[hy0]at this; exact this
         . have:=m2.cells w rfl; rw[hy0]at this; exact this
       . rw[hx0,hy0];exact jI _ _
     | some aa =>
       obtain⟨b,of,cs,el,fr,rfl,n2,n3,n4,n5,G,n6,n7,n8⟩:=c4 _ rfl;obtain⟨s1,s2,s3,s4,s5,s6⟩:=dQ b news (of+(aR xs).length * te.ks.length) w cs el fr n3;have hroom:of+(aR xs).length * te.ks.length+news.length<=cs.size:=by have:=aeT te.ks.length hfit;rw[ae0]at this;omega
       refine fin (.slice (some ⟨b,of,none⟩) ((aR xs).length+ys.length) cap) (w.setCells b (of+(aR xs).length * te.ks.length) news) (fun q=>F q∨FH q) ?_ (m1.wr f1 s4 s5 s6 (by rw[s3]; exact oR _) fun q _ hq=>s2 q fun e=>hq (by rw[e]; exact n2)) (hFs _ (by rw[s3]; exact oR _)) ?_
       . rw[ev];exact oU hu hTe hu2 hd2 hat hat2 m2.len (m2.cells w rfl) hfit m2.rows.one fun j hj=>⟨cs,el,fr,n3,by omega,n4 _ (by omega)⟩
       . refine HF (w:=w) (b0:=b) (F:=F) n6 n7 n8 m2.rows (fun q hq=>⟨f2 q hq,fun e=>f2 q hq (by rw[e]; exact n2)⟩) s1 (fun q hq=>n4 q (by rw[cG]at hq; exact hq)) (.inl n2) (fun q hq _=> .inl hq) (fun q hq=> .inr hq) (fun i j q hq=>(n6 i j q hq).2) (fun q hq e=>f2 q hq (by rw[e]; exact n2)) (fun q _ hq _=>s2 q hq) (fun q hq => ?_) (fun q hq => ?_) hfit (by rw[cG]; exact n5) hbig
         . rw[cQ _ _ _ _ hroom,if_neg (by omega)]
         . rw[cQ _ _ _ _ hroom,if_pos (by omega)];congr 1;omega
   . have hgrow:cap<(aR xs).length+ys.length:=by omega
     have hge:=grownCap_ge w ((aR xs).length+ys.length) cap ti.elem;have hnot:∀ q,F q∨FH q->q≠w.heap.size:=fun q hq e=>by have:=(hFs w (oR _) q hq).1;omega
     have olds:∃(olds:List Value) (b0:Nat) (cs:Array Value) (of:Nat) (G:Nat->Nat->Nat->Prop),(Builtin.firstCells te.ks.length (aR xs).length (.slice base (aR xs).length cap)).run P w.drew= .ok olds.toArray w.drew/\olds.length=(aR xs).length * te.ks.length/\(∀ q,q<(aR xs).length * te.ks.length->olds[q]? = cs[of+q]?) /\
      (∀ i j b,G i j b->F b/\b≠b0)/\(∀ i j i' j' b,G i j b->G i' j' b->i=i'/\j=j')/\(∀ i x,(aR xs)[i]? = some x->fH w te.ks x 0 (G i) cs (of+i * te.ks.length))/\(∀ q,FH q->q≠b0):=by
      cases base with
      | none => have hcap:=c3 rfl;have hx0:aR xs=[]:=ae6.1 (by omega);refine⟨[],w.heap.size,#[],0,fun _ _ _=>False,?_,by rw[hx0]; simp,fun q hq=>by rw[hx0]at hq; simp at hq,fun _ _ _ h=>h.elim,fun _ _ _ _ _ h=>h.elim,fun i x hi=>by rw[hx0]at hi; simp at hi,fun q hq=>hnot q (.inr hq)⟩;exact run_firstCells_none (P:=P) w.drew _ _ _ _
      | some aa =>
        obtain⟨b,of,cs,el,fr,rfl,n2,n3,n4,n5,G,n6,n7,n8⟩:=c4 _ rfl;have hbound:∀ q,q<(aR xs).length * te.ks.length->of+q<cs.size:=fun q hq=>by have:=aeT te.ks.length c1;omega
        have hnl':∀ q,q<(aR xs).length * te.ks.length->((List.range ((aR xs).length * te.ks.length)).map fun q=>cs.getD (of+q) undef)[q]? = cs[of+q]? := fun q hq=>by have:=hbound q hq;simp[hq,this]
        refine⟨(List.range ((aR xs).length * te.ks.length)).map fun q=>cs.getD (of+q) undef,b,cs,of,G,?_,by simp,hnl',n6,n7,n8,fun q hq e=>f2 q hq (by rw[e]; exact n2)⟩;refine run_firstCells_some (P:=P) w.drew _ _ ⟨b,of,none⟩ _ _ _ (by simp) fun j v hj => ?_
        have hjl:j<(aR xs).length * te.ks.length:=by
         rcases aeB j ((aR xs).length * te.ks.length)with hh | hh
         . exact hh
         . rw[aeF (by simpa using hh)]at hj; simp at hj
        rw[hnl' j hjl]at hj;rw[fQ];have n3':w.drew.heap[b]? = some (.cells cs el fr):=n3;simp only[World.cell?,n3'];exact hj
     obtain⟨olds,b0,cs,of,G,r1,r2,r3,r4,r5,r6,r7⟩:=olds;obtain⟨zs,z1,z2⟩:=mS (ty:=o.type) (vx:=a.eval y) hu hTe hu2 hd2 hat hat2 m2.len r1 (m2.cells w.drew rfl) hgrow hby hbytes;have hheap:(w.drew.alloc (.cells (olds.toArray++news.toArray++zs) ti.elem (0,0))).heap=w.heap.push (.cells (olds.toArray++news.toArray++zs) ti.elem (0,0)):=rfl;have hsize:(w.drew.alloc (.cells (olds.toArray++news.toArray++zs) ti.elem (0,0))).heap.size=w.heap.size+1:=by rw[hheap,afM]
     have hold:∀ q,q<w.heap.size->(w.drew.alloc (.cells (olds.toArray++news.toArray++zs) ti.elem (0,0))).heap[q]? = w.heap[q]? := fun q hq=>by rw[hheap,ae1,if_neg (by omega)]
     refine fin (.slice (some ⟨w.heap.size,0,none⟩) ((aR xs).length+ys.length) (grownCap w ((aR xs).length+ys.length) cap ti.elem)) (w.drew.alloc (.cells (olds.toArray++news.toArray++zs) ti.elem (0,0))) (fun q=>(F q∨FH q)∨q=w.heap.size) (by rw[ev]; exact z2) (m1.wr f1 rfl rfl rfl (by rw[hsize]; omega) fun q hq _=>hold q hq) (fun b hb => ?_) ?_
     . rcases hb with hb | rfl
       . exact hFs _ (by rw[hsize]; omega) b hb
       . refine⟨by rw[hsize]; omega,.inr m1.size,fun hz=>by have:=(m1.bV _ hz).1; omega,fun r j hh=>by have:=(m1.fp r j _ hh).1; omega,fun r' R' hR' hb' he => ?_⟩;obtain⟨_,_,_,_,cs1,el1,fr1,b5,_⟩:=m1.box r' R' hR' hb';rw[he,aeG (oR _)]at b5;simp at b5
     . refine HF (w:=w) (b0:=b0) (F:=F) r4 r5 r6 m2.rows (fun q hq=>⟨f2 q hq,r7 q hq⟩) (el:=ti.elem) (fr:=(0,0)) (cs':=olds.toArray++news.toArray++zs) (by rw[hheap,ae1,if_pos rfl]) (by simp) (.inr rfl) (fun q hq _=> .inl (.inl hq)) (fun q hq=> .inl (.inr hq)) (fun i j q hq=>hnot q (.inl (r4 i j q hq).1)) (fun q hq=>hnot q (.inr hq)) (fun q hq _ _=>hold q hq) (fun q hq => ?_) (fun q hq => ?_) hge ?_ hbig
       . rw[<- r3 q hq,aey,af0,afi (by simp; omega)];simp
       . rw[aey,af0,agF (by simp; omega),afi (by simp; omega)];simp only[ahg,r2,afa,aeY]
       . have e1:(olds.toArray++news.toArray++zs).size=olds.length+news.length+zs.size:=by simp
         rw[e1,r2,hnl,z1,aey,<- ae0,<- ae0];exact aeT _ (by omega)
end
section
variable{P:Program}{w:World}{E:En}{P:Program}{cx:Cx P}{Z:Nat->Prop}{g:Gh}{st:St}{a:Act}
theorem yT{z:Array Value}{ks:List K}(hz:z.toList=ks.map zV)(n j:Nat)(hj:j<n * ks.length):(Builtin.zeroCells z n)[j]? = (ks.map zV)[j % ks.length]? := by
 have hl:z.size=ks.length:=by rw[<- aeX,hz]; simp
 have hpos:0<ks.length:=by
  rcases af6 ks.length with h | h
  . rw[h]at hj; simp at hj
  . exact h
 unfold Builtin.zeroCells;simp only[Array.getElem?_map,hl];have:(Array.range (n * ks.length))[j]? = some j:=by simp[hj]
 rw[this];have hm:j % ks.length<ks.length:=Nat.mod_lt _ hpos;simp only[aeM];rw[<- hz,aep];rw[Array.getElem!_eq_getD];simp[aev,hl,hm]
theorem C5{t t2 ty:TypeId}{e:TypeId}{te:TI}(ht:P.underlying t=some (.slice e))(hTe:pH P e te){k2:IntKind}(h2:P.underlying t2=some (.int k2)){ats:Array TypeId}(hat:ats[0]? = some t)(hat2:ats[1]? = some t2){k:IntKind} :
 (Builtin.append_ ats ty #[.slice none 0 0,.int k 0]).run P w= .ok (.slice none 0 0) w:=by
 obtain⟨i,e1,e2,e3,z,e4,e5⟩:=hTe.info;have hw:IntKind.i64.wrap 0=0:=by decide
 have ha:∀ w,(asInt (.int k 0)).run P w= .ok 0 w:=fun w=>by simp[asInt,asIntOf]
 simp[Builtin.append_,hat,hat2,aeQ ht,aeQ h2,sizeOf,typeInfo,zeroValue,e1,e4,ha,hw]
theorem yW{t t2 ty:TypeId}{e:TypeId}{te:TI}(ht:P.underlying t=some (.slice e))(hTe:pH P e te){k2:IntKind}(h2:P.underlying t2=some (.int k2)){ats:Array TypeId}(hat:ats[0]? = some t)(hat2:ats[1]? = some t2){k:IntKind}{n:Nat}(hn:0<n)(hby:0<te.bytes)(hb:n * te.bytes<=bN) :
 ∃ zs:Array Value,zs.size=(grownCap w n 0 e) * te.ks.length/\(∀ j,j<n * te.ks.length->zs[j]? = (te.ks.map zV)[j % te.ks.length]?)/\(Builtin.append_ ats ty #[.slice none 0 0,.int k (n:Int)]).run P w= .ok (.slice (some ⟨w.heap.size,0,none⟩) n (grownCap w n 0 e)) (w.drew.alloc (.cells zs e (0,0))):=by
 obtain⟨i,e1,e2,e3,z,e4,e5⟩:=hTe.info;have hzs:z.cells.size=te.ks.length:=by rw[<- aeX,e5]; simp
 have hge:=grownCap_ge w n 0 e;have hbb:n * te.bytes<=140737488355328:=hb;have hle:n<=n * te.bytes:=afO _ hby;have h63:¬ (9223372036854775807<(n:Int)):=by omega
 have h48:¬ (281474976710656<Builtin.nextslicecap n 0 * i.bytes):=by have:=growslice_fits (need:=n) (old:=0) (bytes:=i.bytes) hn (by rw[e3]; exact hbb);omega
 have hmin:IntKind.i64.min = -9223372036854775808:=by decide
 have hmax:IntKind.i64.max=9223372036854775807:=by decide
 have hw:IntKind.i64.wrap (n:Int)=n:=G0 ⟨by rw[hmin]; omega,by rw[hmax]; omega⟩;have h48':¬ (281474976710656<(n:Int) * (i.bytes:Int)):=by rw[e3];have:((n * te.bytes:Nat):Int)<=((140737488355328:Nat):Int):=Int.ofNat_le.2 hbb;rw[Int.natCast_mul]at this;omega
 have hneg:¬ ((n:Int)<0):=by omega
 have hn0:¬ (n=0):=by omega
 have ha:∀ w,(asInt (.int k (n:Int))).run P w= .ok (n:Int) w:=fun w=>by simp[asInt,asIntOf]
 have hfo:∀ w,(Builtin.firstCells i.size 0 (.slice none 0 0)).run P w= .ok #[] w:=fun w=>by simp[Builtin.firstCells]
 refine⟨(if n * i.size=0 then #[]else Builtin.zeroCells z.cells n)++Builtin.zeroCells z.cells (grownCap w n 0 e-n),?_,?_,?_⟩
 . rw[ags,size_zeroCells,hzs,e2];split
   . rename_i h0;rcases Nat.mul_eq_zero.1 h0 with h | h
     . omega
     . rw[h]; simp
   . rw[size_zeroCells,hzs,<- ae0];congr 1;omega
 . intro j hj;have hne:¬ (n * i.size=0):=by rw[e2]; omega
   rw[if_neg hne,afi (by rw[size_zeroCells,hzs]; exact hj)];exact yT e5 n j hj
 . simp only[Builtin.append_,hat,hat2,aeY,aes,afb,aeN,aeQ ht,aez,cS hTe,aeQ h2,aeW,if_true,ha,hw,hneg,afB,typeInfo];simp[e1,h48',hw,hneg,hn0,h63,h48,Question.forced,hfo,newRow,grownCap,zeroValue,e4,ha,sizeOf,typeInfo];have hfo':∀ w,(Builtin.firstCells te.ks.length 0 (.slice none 0 0)).run P w= .ok #[] w:=fun w=>by simp[Builtin.firstCells]
   rw[hfo',<- e2];simp only[aez,Array.empty_append];by_cases h0:n * i.size=0
   . rw[if_pos h0,if_pos h0]; simp
   . rw[if_neg h0,if_neg h0]; rfl
theorem JQ(hT:cr P E)(h:Rel cx Z g st a w)(hn:cu st)(hsz:Fit cx E a){o:Oper}{d:Nat}(hd:o.dst=some d)(hdn:jL cx a d){c:Call}(ho:o.op= .call c)(hcal:c.callee= .builtin .append){x y:Operand}(hargs:c.args.toList=[x,y]){t t2:Nat}{ts:List Nat}(hts:c.argTypes.toList=t::t2::ts)
 {ti te:TI}(hti:E.ti t=some ti)(hte:E.sl t=some te){tx ty:TV}(hx:st.get x=some tx)(hy:st.get y=some ty)(h2:E.i64 t2=true)(hnil:fb tx=true){k:IntKind}{n:Int}(hint:ty.int? = some (k,n)){st':St}(hrun:(st.nD d ti.elem te n).run=some st'):nU P cx E st' a w o:=by
 have hc:=hn.cons.cons;obtain⟨ks0,q1,q2,q3,q4⟩:=vo hT hte hti;have hTe:=hT _ _ q4;obtain⟨tt,ks1,t1,_,_,_,hu⟩:=ji hT hte;rw[hti]at t1;simp only[aem]at t1;subst t1;have hu2:∃ k2,P.underlying t2=some (.int k2):=by
  unfold En.i64 at h2;split at h2
  . rename_i e0 by0 fl0 hti2;obtain⟨dd,u1,u2⟩:=(hT t2 _ hti2).desc;cases dd <;> simp[iD]at u2;exact⟨_,u1⟩
  . simp at h2
 obtain⟨k2,hu2⟩:=hu2;unfold St.nD at hrun;cases hcond:st.free d&&Nat.blt 0 te.bytes with
 | false=>rw[hcond]at hrun; simp[Tr.run]at hrun
 | true =>
   rw[hcond]at hrun;simp only[oT]at hrun;simp only[aen]at hcond;obtain⟨hfree,hby⟩:=hcond;have hby:0<te.bytes:=afq (aeI hby);obtain⟨hble,hrun⟩:=Tr.bI hrun;simp only[Tr.run,aem]at hrun;subst hrun;simp only[aen,bT,afH]at hble;obtain⟨n0,n1⟩:=hble;obtain⟨m,rfl⟩:=Int.eq_ofNat_of_zero_le n0;have hmb:m * te.bytes<=bN:=by
    have:((m * te.bytes:Nat):Int)<=(bN:Int):=by rw[Int.natCast_mul]; exact n1
    exact_mod_cast this
   have hnm:cu (st.aV d (.v (.ref d 0 0),some ⟨false,[⟨0,0,.own (.sl ti.elem te.ks) (List.replicate (m:Int).toNat (iy te.ks))⟩]⟩)):=fun t tv ht=>by
    rw[ck]at ht;split at ht
    . simp only[aem]at ht; subst ht; exact fun h=>h
    . exact hn t tv ht
   refine⟨hnm,fun next Q hk => ?_⟩;have ex:a.eval x= .slice none 0 0:=ur (bb h hc hx) hnil;have ey:a.eval y= .int k (m:Int):=(fM (bb h hc hy) hint).1;have hat:c.argTypes[0]? = some t:=by rw[<- aep,hts]; rfl
   have hat2:c.argTypes[1]? = some t2:=by rw[<- aep,hts]; rfl
   have hargs':c.args = #[x,y]:=by rw[<- afk (xs:=c.args),hargs]
   have fin:∀(v':Value) (w':World) (F':Nat->Prop),(Builtin.append_ c.argTypes o.type #[a.eval x,a.eval y]).run P w= .ok v' w'->Rel cx Z g st a w'->(∀ b,F' b->b<w'.heap.size/\(cx.F0 b∨cx.w0.heap.size<=b)/\¬ Z b/\(∀ r j,¬ g.fp r j b)/\(∀ r' R',look st.rt r'=some R'->R'.box=true->g.be r'≠b)) ->
    cZ w' (.sl ti.elem te.ks) (List.replicate (m:Int).toNat (iy te.ks)) v' F'->o.wp P a w next Q:=by
    intro v' w' F' hr hrel hF' hown;have:(execOp a.eval o).run P w= .ok (.value v') w':=by simp only[execOp,ho,resolve,hcal,hargs',aeN,aeW,aez,invoke,builtin,afZ,aeZ,agk,hr]
    unfold Oper.wp;rw[this,afo,hd];obtain⟨g3,hg⟩:=hrel.Gm hdn hfree hF' hown;exact hk Z g3 _ _ hg (hsz.put _ _)
   rcases af6 m with hm | hm
   . subst hm;refine fin (.slice none 0 0) w (fun _=>False) (by rw[ex,ey]; exact C5 hu hTe hu2 hat hat2) h (fun b hb=>hb.elim) ?_;exact jI _ _
   . obtain⟨zs,z1,z2,z3⟩:=yW (P:=P) (w:=w) (ty:=o.type) hu hTe hu2 hat hat2 (k:=k) hm hby hmb;have hge:=grownCap_ge w m 0 ti.elem;have hheap:(w.drew.alloc (.cells zs ti.elem (0,0))).heap=w.heap.push (.cells zs ti.elem (0,0)):=rfl;have hsize:(w.drew.alloc (.cells zs ti.elem (0,0))).heap.size=w.heap.size+1:=by rw[hheap,afM]
     have hold:∀ q,q<w.heap.size->(w.drew.alloc (.cells zs ti.elem (0,0))).heap[q]? = w.heap[q]? := fun q hq=>by rw[hheap,ae1,if_neg (by omega)]
     have hrel:Rel cx Z g st a (w.drew.alloc (.cells zs ti.elem (0,0))):=h.wr (iz.none _ _ _ _ _) rfl rfl rfl (by rw[hsize]; omega) fun q hq _=>hold q hq
     refine fin _ _ (fun q=>q=w.heap.size) (by rw[ex,ey]; exact z3) hrel (fun b hb => ?_) ?_
     . subst hb;refine⟨by rw[hsize]; omega,.inr h.size,fun hz=>by have:=(h.bV _ hz).1; omega,fun r j hh=>by have:=(h.fp r j _ hh).1; omega,fun r' R' hR' hb' he => ?_⟩;obtain⟨_,_,_,_,cs1,el1,fr1,b5,_⟩:=h.box r' R' hR' hb';rw[he,aeG (oR _)]at b5;simp at b5
     . have hlen:(aR (e:=ti.elem) (ks:=te.ks) (List.replicate (m:Int).toNat (iy te.ks))).length=m:=by simp[aR]
       have hbig:m<=bN:=aeu (afO _ hby) hmb;refine⟨_,_,by rw[hlen],by rw[hlen]; omega,by rw[hlen]; exact hbig,fun h=>by simp at h,fun a' ha' => ?_⟩;simp only[aem]at ha';subst ha';refine⟨_,_,zs,ti.elem,(0,0),rfl,rfl,by rw[hheap,ae1,if_pos rfl],fun q _ hh=>by simp at hh,by rw[z1]; omega,fun _ _ _=>False,fun _ _ _ h=>h.elim,fun _ _ _ _ _ h=>h.elim,fun i y hi => ?_⟩;have hil:i<m:=by
        rcases aeB i m with hh | hh
        . exact hh
        . rw[aeF (by rw[hlen]; exact hh)]at hi; simp at hi
       have hy:y=iy te.ks:=by
        have:(List.replicate (m:Int).toNat (iy te.ks))[i]? = some y:=hi;rw[agS]at this;split at this
        . simp only[aem]at this; exact this.symm
        . simp at this
       subst hy;refine pD te.ks 0 zs _ fun c v hc => ?_
       have hcl:c<te.ks.length:=by
        rcases aeB c te.ks.length with hh | hh
        . exact hh
        . rw[aeF (by simpa using hh)]at hc; simp at hc
       have hidx:i * te.ks.length+c<m * te.ks.length:=by have:(i+1) * te.ks.length<=m * te.ks.length:=aeT _ (by omega);rw[ae0]at this;omega
       rw[aey,z2 _ hidx,agN,Nat.mul_add_mod,agG hcl];exact hc
end
def Ny(Z:Nat->Prop)(w:World):(ks:List K)->Tl ks->(Nat->Option Value)->Nat->Prop
 | [],_,_,_=>True
 | k::ks,x,f,o=>(∃ v,f o=some v/\RO Z w k x.1 v)/\Ny Z w ks x.2 f (o+1)
theorem pT.n{Z:Nat->Prop}{w:World}{b:Nat}:∀ {ks:List K} {x:Tl ks} {o:Nat},pT Z w ks x b o->Ny Z w ks x (fun q=>w.cell? ⟨b,q,none⟩) o
 | [],_,_,_=>trivial
 | k::ks,x,o,h=>⟨h.1,pT.n h.2⟩
theorem rq.n{Z:Nat->Prop}{w:World}{l:List Value}:∀ {ks:List K} {x:Tl ks} {vs:List Value} {o:Nat},rq Z w ks x vs->(∀ q,q<ks.length->l[o+q]? = vs[q]?)->Ny Z w ks x (fun q=>l[q]?) o
 | [],_,_,_,_,_=>trivial
 | k::ks,x,v::vs,o,h,hl=>⟨⟨v,by simpa using hl 0 (by simp),h.1⟩,rq.n h.2 fun q hq=>by rw[show o+1+q=o+(q+1)by omega]; simpa using hl (q+1) (by simp; omega)⟩
 | _::_,_,[],_,h,_=>h.elim
theorem Kg{Z:Nat->Prop}{w:World}:∀ {ks:List K} {x:Tl ks} {vs:List Value},rq Z w ks x vs->vs.length=ks.length
 | [],_,[],_=>rfl
 | _::_,_,_::_,h=>aeU (· + 1) (Kg h.2)
 | [],_,_::_,h=>h.elim
 | _::_,_,[],h=>h.elim
theorem Oo{Z:Nat->Prop}{w:World}:∀ {ks:List K} {x:Tl ks} {vs:List Value},rq Z w ks x vs->∀ u∈vs,u.oneCell'=true
 | [],_,[],_,u,hu=>by simp at hu
 | _::_,_,v::vs,h,u,hu=>by
   rcases aew.1 hu with hu | hu
   . subst hu; exact(oX h.1).2
   . exact Oo h.2 u hu
 | [],_,_::_,h,_,_=>h.elim
 | _::_,_,[],h,_,_=>h.elim
theorem Ny.l{Z Z':Nat->Prop}{w w':World}(hs:w.heap.size<=w'.heap.size)(hZ:∀ b,Z b->b<w.heap.size->Z' b/\w'.heap[b]? = w.heap[b]?){f:Nat->Option Value}{b:Nat}:∀ {ks:List K} {x:Tl ks} {o o':Nat},Ny Z w ks x f o->(∀ q,q<ks.length->w'.cell? ⟨b,o'+q,none⟩=f (o+q))->pT Z' w' ks x b o'
 | [],_,_,_,_,_=>trivial
 | k::ks,x,o,o',⟨⟨v,h1,h2⟩,h3⟩,hc=>⟨⟨v,by rw[<- h1]; exact hc 0 (by simp),RO.mono hs hZ k _ v h2⟩,Ny.l hs hZ h3 fun q hq=>by rw[show o'+1+q=o'+(q+1)by omega,show o+1+q=o+(q+1)by omega]; exact hc (q+1) (by simp; omega)⟩
section
variable{P:Program}{cx:Cx P}{Z:Nat->Prop}{g:Gh}{st:St}{a:Act}{w:World}{E:En}
theorem cZ.sh{w:World}{e:TypeId}{ks:List K}{xs:T (.sl e ks)}{v:Value}{F:Nat->Prop}(h:cZ w (.sl e ks) xs v F):Sh Z F w ks (aR xs) v:=by obtain⟨a,c,h1,h2,h3,h4,h5⟩:=h;refine⟨a,c,h1,h2,h3,h4,fun a' ha => ?_⟩;obtain⟨b,o,cs,e,fr,g1,g2,g3,g4,g5,G,g6,g7,g8⟩:=h5 a' ha;exact⟨b,o,cs,e,fr,g1,g2,g3,g4,g5,fun i x hx=>fH.ro ks x 0 (G i) cs _ b e fr g3 (fun j b' hb'=> .inr (g6 i j b' hb')) (g8 i x hx)⟩
theorem Jl(h:Rel cx Z g st a w){e:TypeId}{ks:List K}{tv:TV}{v:Value}(hr:bL Z g st w tv v){st':St}{x:T (.sl e ks)}(ht:st.CI e ks tv=some (st',x)) :
 ∃ g' F,Rel cx Z g' st' a w/\kn Z w w g g' st st'/\Sh Z F w ks (aR x) v/\iz cx Z g' st' w F:=by
 unfold St.CI at ht;split at ht
 . rename_i r j s m e' ks' x';split at ht
   . rename_i c hc;cases hb:Nat.beq c.s s&&Nat.beq c.m m with
     | false=>rw[hb]at ht; simp at ht
     | true =>
       rw[hb]at ht;simp only[oT]at ht;simp only[aen]at hb;split at ht
       . rename_i y hy;cases ht;obtain⟨e1,hy⟩:=cA hy;cases e1;subst hy;obtain⟨c',h1,_,_,h4⟩:=hr;rw[hc]at h1;cases h1;obtain⟨k1,k2,k3⟩:=h.kill hc;exact⟨_,_,k1,k2,h4 (beq_eq hb.1) (beq_eq hb.2),k3⟩
       . simp at ht
   . simp at ht
 . obtain⟨g1,F,k1,k2,k3,k4,_⟩:=gm h hr ht;exact⟨g1,F,k1,k2,k3.sh,k4⟩
 . simp at ht
structure Te (P:Program) (Z:Nat->Prop) (w:World) (ks:List K) (ys:List (Tl ks)) (v:Value) (news:List Value):Prop where
 len:news.length=ys.length * ks.length
 one:∀ u∈news,u.oneCell'=true
 row:∀ i y,ys[i]? = some y->Ny Z w ks y (fun q=>news[q]?) (i * ks.length)
 lenOf:(Builtin.lenOf v).run P w= .ok ys.length w
 cells:∀ w1:World,w1.heap=w.heap->(Builtin.firstCells ks.length ys.length v).run P w1= .ok news.toArray w1
theorem I0(h:Rel cx Z g st a w){e:TypeId}{ks:List K}{tv:TV}{v:Value}(hr:bL Z g st w tv v){ys:List (Tl ks)}(hn:st.BU e ks tv=some ys):∃ news,Te P Z w ks ys v news:=by
 unfold St.BU at hn;split at hn
 . rename_i r n;cases hb:Nat.beq n 1 with
   | false=>rw[hb]at hn; simp at hn
   | true =>
     rw[hb]at hn;simp only[oT]at hn;have:=beq_eq hb;subst this;split at hn
     . rename_i l hl;cases hf:l.all mX with
       | false=>rw[hf]at hn; simp at hn
       | true =>
         rw[hf]at hn;simp only[oT]at hn;split at hn
         . rename_i x hx;cases hn;obtain⟨R,_,_,hv⟩:=(hr:bq Z g st w (.brow r 1) v);obtain⟨b1,b2,b3,b4,cs,el,fr,b5,b6,b7,b8⟩:=h.box r _ hl rfl;have hrel:aW Z g st w (l.map tG) cs.toList:=by
            refine kE (by simp[b7]) fun j y u hj hu => ?_
            rw[ae2]at hj;cases hc:l[j]? with
            | none=>rw[hc]at hj; simp at hj
            | some c =>
              rw[hc]at hj;simp only[aeM,aem]at hj;have hcell:st.cell r j=some c:=by simp only[St.cell,hl]; exact hc
              have hjl:j<cs.size:=by rw[b7];exact vP hcell hl
              rw[aep,b8 j hjl]at hu;simp only[aem]at hu;subst hj;subst hu;unfold tG;cases hcv:c.v with
              | own k y=>trivial
              | av y=>exact vG h hcell hcv
           have hfast:(l.map tG).all AV.bK=true:=by
            rw[aeE]at hf ⊢;intro x hx;obtain⟨c,hc,rfl⟩:=agc.1 hx;have:=hf c hc;unfold mX at this;unfold tG;split at this
            . exact this
            . simp at this
           have hro:=df h ks _ _ x hrel hfast hx;have hlen:=Kg hro;refine⟨cs.toList,by simpa using hlen,Oo hro,fun i y hi => ?_,by rw[hv]; rfl,fun w1 hw1 => ?_⟩
           . cases i with
             | zero => simp only[aes,aem]at hi;subst hi;exact hro.n fun q _=>by simp
             | succ i=>simp at hi
           . rw[hv];refine run_firstCells_some (P:=P) w1 _ _ ⟨g.be r,0,none⟩ _ _ _ (by simpa using hlen) fun j u hj => ?_
             rw[fQ,aey];simp only[World.cell?,hw1,b5];rw[aep]at hj;exact hj
         . simp at hn
     . simp at hn
 . rename_i k x;split at hn
   . rename_i z hz;cases hn;obtain⟨e1,hz⟩:=cA hz;subst e1;subst hz;obtain⟨aa,c,rfl,h2,h3,h4,h5⟩:=(hr:RO Z w (.sl e ks) x v);by_cases hne:aR x=[]
     . refine⟨[],by rw[hne]; simp,by simp,fun i y hi=>by rw[hne]at hi; simp at hi,rfl,fun w1 _ => ?_⟩;rw[hne];cases aa with
       | none=>exact run_firstCells_none (P:=P) w1 _ _ _ _
       | some b=>exact run_firstCells_some (P:=P) w1 _ _ b _ _ [] (by simp) (fun j v hj=>by simp at hj)
     . obtain⟨b,o,rfl,_,_,hrow⟩:=h5 hne;have hcell:∀ q,q<(aR x).length * ks.length->∃ v,w.cell? ⟨b,o+q,none⟩=some v/\v.oneCell'=true:=fun q hq=>by
        obtain⟨q1,q2,q3⟩:=pB hq;obtain⟨v,k1,k2⟩:=AR ks _ b _ (q % ks.length) (hrow _ _ (aer q1)) q2;exact⟨v,by rw[q3,<- afp]; exact k1,k2⟩
       have hnl:∀ q,q<(aR x).length * ks.length->((List.range ((aR x).length * ks.length)).map fun q=>(w.cell? ⟨b,o+q,none⟩).getD undef)[q]? = w.cell? ⟨b,o+q,none⟩:=fun q hq=>by obtain⟨v,k1,_⟩:=hcell q hq;simp[hq,k1]
       refine⟨(List.range ((aR x).length * ks.length)).map fun q=>(w.cell? ⟨b,o+q,none⟩).getD undef,by simp,fun u hu => ?_,fun i y hi => ?_,rfl,fun w1 hw1 => ?_⟩
       . obtain⟨q,hq,rfl⟩:=agc.1 hu;obtain⟨v,k1,k2⟩:=hcell q (afw.1 hq);rw[k1];exact k2
       . have hil:i<(aR x).length:=(aeV.1 hi).1;have:=(hrow i y hi).n;have mv:∀(ks':List K) (y:Tl ks') (o1 o2:Nat) (f f':Nat->Option Value),(∀ q,q<ks'.length->f' (o2+q)=f (o1+q))->Ny Z w ks' y f o1->Ny Z w ks' y f' o2:=by
          intro ks';induction ks' with
          | nil=>intros; trivial
          | cons k ks' ih => intro y o1 o2 f f' hf ⟨⟨v,h1,h2⟩,h3⟩;exact⟨⟨v,by rw[<- h1]; exact hf 0 (by simp),h2⟩,ih _ _ _ _ _ (fun q hq=>by rw[show o2+1+q=o2+(q+1)by omega,show o1+1+q=o1+(q+1)by omega]; exact hf (q+1) (by simp; omega)) h3⟩
         refine mv ks y _ _ _ _ (fun q hq => ?_) this;rw[hnl _ (lY hil hq),afp]
       . refine run_firstCells_some (P:=P) w1 _ _ ⟨b,o,none⟩ _ _ _ (by simp) fun j v hj => ?_
         have hjl:j<(aR x).length * ks.length:=by have:=(aeV.1 hj).1;simpa using this
         rw[hnl j hjl]at hj;rw[fQ];simp only[World.cell?,hw1]at hj ⊢;exact hj
   . simp at hn
 . simp at hn
theorem Om{ks:List K}{xs ys:List (Tl ks)}{b0 o b o':Nat}{F F':Nat->Prop}{w w':World}{news:List Value}{v:Value}{cs':Array Value}{el:TypeId}{fr:Nat×Nat}{cap:Nat}
 (hx:∀ i x,xs[i]? = some x->pT (fun q=>Z q∨F q/\q≠b0) w ks x b0 (o+i * ks.length))(hn:Te P Z w ks ys v news)(hb:w'.heap[b]? = some (.cells cs' el fr))(hfr:∀ q,q<cs'.size+S0 ks->¬ (fr.1<=q/\q<fr.2))(hF'b:F' b)(hs:w.heap.size<=w'.heap.size)
 (hZ:∀ q,Z q->q<w.heap.size->w'.heap[q]? = w.heap[q]?)(hF:∀ q,F q->q≠b0->q<w.heap.size->F' q/\q≠b/\w'.heap[q]? = w.heap[q]?)
 (hold:∀ q,q<xs.length * ks.length->cs'[o'+q]? = w.cell? ⟨b0,o+q,none⟩)(hnew:∀ q,q<news.length->cs'[o'+xs.length * ks.length+q]? = news[q]?)(hcap:xs.length+ys.length<=cap)(hsz:o'+cap * ks.length<=cs'.size)(hbig:xs.length+ys.length<=bN) :
 Sh Z F' w' ks (xs++ys) (.slice (some ⟨b,o',none⟩) (xs.length+ys.length) cap):=by
 refine⟨_,cap,by rw[aeo],by rw[aeo]; exact hcap,by rw[aeo]; exact hbig,by simp,fun a' ha' => ?_⟩;simp only[aem]at ha';subst ha';refine⟨b,o',cs',el,fr,rfl,hF'b,hb,hfr,hsz,fun i x hi => ?_⟩;have hcell:∀ q,w'.cell? ⟨b,q,none⟩=cs'[q]? := fun q=>by simp[World.cell?,hb]
 by_cases hl:i<xs.length
 . rw[ae4 hl]at hi;refine Ny.l hs (fun q hq hlt => ?_) (hx i x hi).n fun q hq => ?_
   . rcases hq with hq | hq
     . exact⟨.inl hq,hZ q hq hlt⟩
     . obtain⟨f1,f2,f3⟩:=hF q hq.1 hq.2 hlt;exact⟨.inr ⟨f1,f2⟩,f3⟩
   . have:=hold (i * ks.length+q) (lY hl hq);show _=w.cell? ⟨b0,o+i * ks.length+q,none⟩;rw[hcell,afp,this,afp]
 . rw[ae3 (by omega)]at hi;have hlt:i-xs.length<ys.length:=(aeV.1 hi).1;refine Ny.l hs (fun q hq hlt=>⟨.inl hq,hZ q hq hlt⟩) (hn.row _ x hi) fun q hq => ?_
   have hq':(i-xs.length) * ks.length+q<news.length:=by rw[hn.len]; exact lY hlt hq
   have:=hnew _ hq';have hmul:i * ks.length=xs.length * ks.length+(i-xs.length) * ks.length:=by rw[<- ae0]; congr 1; omega
   rw[hcell,show o'+i * ks.length+q=o'+xs.length * ks.length+((i-xs.length) * ks.length+q)by omega,this]
theorem Rel.Va(h:Rel cx Z g st a w){d:Nat}(hd:jL cx a d)(hf:st.free d=true){e:TypeId}{ks:List K}{x:List (Tl ks)}{v:Value}{F:Nat->Prop}(hF:∀ b,F b->b<w.heap.size/\(cx.F0 b∨cx.w0.heap.size<=b)/\¬ Z b/\(∀ r j,¬ g.fp r j b)/\(∀ r' R',look st.rt r'=some R'->R'.box=true->g.be r'≠b))(ho:Sh Z F w ks x v) :
 ∃ g',Rel cx Z g' (st.aV d (.bc d 0 0 0 e ks x,some ⟨false,[⟨0,0,.own (.sl e ks) ([]:List (Tl ks))⟩]⟩)) (a.put (some d) v) w:=by
 have h6:=Rel.lK h (r:=d) (be:=0) (R:=⟨false,[⟨0,0,.own (.sl e ks) ([]:List (Tl ks))⟩]⟩) (cv:=fun _=> .slice none 0 0) (fp:=fun j b=>j=0/\F b) (jw hf)
  (fun j b hb=>⟨(hF b hb.2).1,(hF b hb.2).2.1,(hF b hb.2).2.2.1,(hF b hb.2).2.2.2.1,(hF b hb.2).2.2.2.2,⟨0,0,.own (.sl e ks) ([]:List (Tl ks))⟩,.sl e ks,([]:List (Tl ks)),by rw[hb.1]; rfl,rfl⟩)
  (fun j j' b h1 h2=>h1.1.trans h2.1.symm) (fun hb=>by simp at hb)
  (fun j c hj=>by
    cases j with
    | zero => simp only[aes,aem]at hj;subst hj;exact jI e ks
    | succ j=>simp at hj)
 refine⟨_,h6.mJ hd (tv:= .bc d 0 0 0 e ks x) ⟨⟨0,0,.own (.sl e ks) ([]:List (Tl ks))⟩,?_,oR _,oR _,fun _ _=>Sh.mono (oR _) (fun b hb _=>⟨hb,rfl⟩) (fun b hb _=>⟨by simp[Gh.at]; exact hb,rfl⟩) ho⟩⟩;show(match look ((d,(⟨false,[⟨0,0,.own (.sl e ks) ([]:List (Tl ks))⟩]⟩:Rt))::st.rt) d with | some R=>R.cells[0]? | none=>none)=_;rw[aJ,if_pos rfl];rfl
theorem IA(hT:cr P E)(h:Rel cx Z g st a w)(hn:cu st)(hsz:Fit cx E a){o:Oper}{d:Nat}(hd:o.dst=some d)(hdn:jL cx a d){c:Call}(ho:o.op= .call c)(hcal:c.callee= .builtin .append){x y:Operand}(hargs:c.args.toList=[x,y]){t t2:Nat}{ts:List Nat}(hts:c.argTypes.toList=t::t2::ts)
 {ti te:TI}(hti:E.ti t=some ti)(hte:E.sl t=some te){tx ty:TV}(hx:st.get x=some tx)(hy:st.get y=some ty)(h2:E.str t2=true∨∃ te2,E.sl t2=some te2){st':St}(hrun:(st.mP d ti.elem te tx ty).run=some st'):nU P cx E st' a w o:=by
 have hc:=hn.cons.cons;obtain⟨ks0,q1,q2,q3,q4⟩:=vo hT hte hti;have hTe:=hT _ _ q4;obtain⟨tt,ks1,t1,_,_,_,hu⟩:=ji hT hte;rw[hti]at t1;simp only[aem]at t1;subst t1;obtain⟨d2,hu2,hd2⟩:∃ d2,P.underlying t2=some d2/\∀ k,d2≠ .int k:=by
  rcases h2 with h2 | ⟨te2,h2⟩
  . exact⟨_,nX hT h2,fun _ h=>by simp at h⟩
  . obtain⟨_,_,_,_,_,_,hu2⟩:=ji hT h2;exact⟨_,hu2,fun _ h=>by simp at h⟩
 unfold St.mP at hrun;obtain⟨⟨st1,xs⟩,htk,hrun⟩:=Tr.af hrun;obtain⟨ys,hnw,hrun⟩:=Tr.af hrun;simp only at hnw hrun;cases hcond:st1.free d&&Nat.blt 0 te.bytes with
 | false=>rw[hcond]at hrun; simp[Tr.run]at hrun
 | true =>
   rw[hcond]at hrun;simp only[oT]at hrun;simp only[aen]at hcond;obtain⟨hfree,hby⟩:=hcond;have hby:0<te.bytes:=afq (aeI hby);obtain⟨hble,hrun⟩:=Tr.bI hrun;simp only[Tr.run,aem]at hrun;subst hrun;have hbytes:((aR xs).length+ys.length) * te.bytes<=bN:=aeI hble;have hbig:(aR xs).length+ys.length<=bN:=aeu (afO _ hby) hbytes;obtain⟨g1,F,k1,k2,k3,k4⟩:=Jl h (bb h hc hx) htk;obtain⟨news,m2⟩:=I0 (P:=P) k1 (bL.ct k2.ct _ _ (bb h hc hy)) hnw;refine⟨fun t tv ht => ?_,fun next Q hk => ?_⟩
   . rw[ck]at ht;split at ht
     . simp only[aem]at ht; subst ht; exact fun h=>h
     . exact hn t tv (by rw[<- k2.tm]; exact ht)
   have fin:∀(v':Value) (w':World) (F':Nat->Prop),(Builtin.append_ c.argTypes o.type #[a.eval x,a.eval y]).run P w= .ok v' w'->Rel cx Z g1 st1 a w'->(∀ b,F' b->b<w'.heap.size/\(cx.F0 b∨cx.w0.heap.size<=b)/\¬ Z b/\(∀ r j,¬ g1.fp r j b)/\(∀ r' R',look st1.rt r'=some R'->R'.box=true->g1.be r'≠b)) ->
    Sh Z F' w' te.ks (aR xs++ys) v'->o.wp P a w next Q:=by
    intro v' w' F' hr hrel hF' hown;have hargs':c.args = #[x,y]:=by rw[<- afk (xs:=c.args),hargs]
    have:(execOp a.eval o).run P w= .ok (.value v') w':=by simp only[execOp,ho,resolve,hcal,hargs',aeN,aeW,aez,invoke,builtin,afZ,aeZ,agk,hr]
    unfold Oper.wp;rw[this,afo,hd];obtain⟨g3,hg⟩:=hrel.Va (e:=ti.elem) hdn hfree hF' hown;exact hk Z g3 _ _ hg (hsz.put _ _)
   have hat:c.argTypes[0]? = some t:=by rw[<- aep,hts]; rfl
   have hat2:c.argTypes[1]? = some t2:=by rw[<- aep,hts]; rfl
   have hFs:∀(w':World),w.heap.size<=w'.heap.size->∀ b,F b->b<w'.heap.size/\(cx.F0 b∨cx.w0.heap.size<=b)/\¬ Z b/\(∀ r j,¬ g1.fp r j b)/\(∀ r' R',look st1.rt r'=some R'->R'.box=true->g1.be r'≠b):=fun w' hs b hb =>
    ⟨aeJ (k4.lt b hb) hs,k4.own b hb,k4.z b hb,k4.fp b hb,k4.box b hb⟩
   obtain⟨base,cap,ev,c1,c2,c3,c4⟩:=k3;have hnl:=m2.len;by_cases hfit:(aR xs).length+ys.length<=cap
   . cases base with
     | none =>
       have hcap:=c3 rfl;have hx0:aR xs=[]:=ae6.1 (by omega);have hy0:ys=[]:=ae6.1 (by omega);have e1:a.eval x= .slice none 0 0:=by rw[ev,hx0,hcap]; rfl
       refine fin (.slice none 0 0) w (fun _=>False) ?_ k1 (fun b hb=>hb.elim) ?_
       . rw[e1];refine append_nil (news:=news) hu hTe hu2 hd2 hat hat2 ?_ ?_
         . have:=m2.lenOf; rw[hy0]at this; exact this
         . have:=m2.cells w rfl; rw[hy0]at this; exact this
       . rw[hx0,hy0];exact(jI ti.elem te.ks).sh
     | some aa =>
       obtain⟨b,of,cs,el,fr,rfl,n2,n3,n4,n5,n6⟩:=c4 _ rfl;obtain⟨s1,s2,s3,s4,s5,s6⟩:=dQ b news (of+(aR xs).length * te.ks.length) w cs el fr n3;have hroom:of+(aR xs).length * te.ks.length+news.length<=cs.size:=by have:=aeT te.ks.length hfit;rw[ae0]at this;omega
       refine fin (.slice (some ⟨b,of,none⟩) ((aR xs).length+ys.length) cap) (w.setCells b (of+(aR xs).length * te.ks.length) news) F ?_ (k1.wr k4 s4 s5 s6 (by rw[s3]; exact oR _) fun q _ hq=>s2 q fun e=>hq (by rw[e]; exact n2)) (hFs _ (by rw[s3]; exact oR _)) ?_
       . rw[ev];exact oU hu hTe hu2 hd2 hat hat2 m2.lenOf (m2.cells w rfl) hfit m2.one fun j hj=>⟨cs,el,fr,n3,by omega,n4 _ (by omega)⟩
       . refine Om (b0:=b) (F:=F) n6 m2 s1 (fun q hq=>n4 q (by rw[cG]at hq; exact hq)) n2 (by rw[s3]; exact oR _) (fun q hq _=>s2 q fun e=>k4.z b n2 (by rw[<- e]; exact hq)) (fun q hq hne _=>⟨hq,hne,s2 q hne⟩) (fun q hq => ?_) (fun q hq => ?_) hfit (by rw[cG]; exact n5) hbig
         . rw[cQ _ _ _ _ hroom,if_neg (by omega)];exact(show w.cell? ⟨b,of+q,none⟩=cs[of+q]? by simp[World.cell?,n3]).symm
         . rw[cQ _ _ _ _ hroom,if_pos (by omega)];congr 1;omega
   . have hgrow:cap<(aR xs).length+ys.length:=by omega
     have hge:=grownCap_ge w ((aR xs).length+ys.length) cap ti.elem;have hnot:∀ q,F q->q≠w.heap.size:=fun q hq e=>by have:=(hFs w (oR _) q hq).1;omega
     have olds:∃(olds:List Value) (b0 of:Nat),(Builtin.firstCells te.ks.length (aR xs).length (.slice base (aR xs).length cap)).run P w.drew= .ok olds.toArray w.drew/\olds.length=(aR xs).length * te.ks.length/\(∀ q,q<(aR xs).length * te.ks.length->olds[q]? = w.cell? ⟨b0,of+q,none⟩) /\
      (∀ i x,(aR xs)[i]? = some x->pT (fun q=>Z q∨F q/\q≠b0) w te.ks x b0 (of+i * te.ks.length)):=by
      cases base with
      | none => have hcap:=c3 rfl;have hx0:aR xs=[]:=ae6.1 (by omega);exact⟨[],0,0,run_firstCells_none (P:=P) w.drew _ _ _ _,by rw[hx0]; simp,fun q hq=>by rw[hx0]at hq; simp at hq,fun i x hi=>by rw[hx0]at hi; simp at hi⟩
      | some aa =>
        obtain⟨b,of,cs,el,fr,rfl,n2,n3,n4,n5,n6⟩:=c4 _ rfl;have hbound:∀ q,q<(aR xs).length * te.ks.length->of+q<cs.size:=fun q hq=>by have:=aeT te.ks.length c1;omega
        have hcl:∀ q,w.cell? ⟨b,q,none⟩=cs[q]? := fun q=>by simp[World.cell?,n3]
        have hnl':∀ q,q<(aR xs).length * te.ks.length->((List.range ((aR xs).length * te.ks.length)).map fun q=>cs.getD (of+q) undef)[q]? = cs[of+q]? := fun q hq=>by have:=hbound q hq;simp[hq,this]
        refine⟨(List.range ((aR xs).length * te.ks.length)).map fun q=>cs.getD (of+q) undef,b,of,?_,by simp,fun q hq=>by rw[hcl]; exact hnl' q hq,n6⟩;refine run_firstCells_some (P:=P) w.drew _ _ ⟨b,of,none⟩ _ _ _ (by simp) fun j v hj => ?_
        have hjl:j<(aR xs).length * te.ks.length:=by have:=(aeV.1 hj).1;simpa using this
        rw[hnl' j hjl]at hj;rw[fQ];exact(hcl _).trans hj
     obtain⟨olds,b0,of,r1,r2,r3,r4⟩:=olds;obtain⟨zs,z1,z2⟩:=mS (ty:=o.type) (vx:=a.eval y) hu hTe hu2 hd2 hat hat2 m2.lenOf r1 (m2.cells w.drew rfl) hgrow hby hbytes;have hheap:(w.drew.alloc (.cells (olds.toArray++news.toArray++zs) ti.elem (0,0))).heap=w.heap.push (.cells (olds.toArray++news.toArray++zs) ti.elem (0,0)):=rfl;have hsize:(w.drew.alloc (.cells (olds.toArray++news.toArray++zs) ti.elem (0,0))).heap.size=w.heap.size+1:=by rw[hheap,afM]
     have hold:∀ q,q<w.heap.size->(w.drew.alloc (.cells (olds.toArray++news.toArray++zs) ti.elem (0,0))).heap[q]? = w.heap[q]? := fun q hq=>by rw[hheap,ae1,if_neg (by omega)]
     refine fin (.slice (some ⟨w.heap.size,0,none⟩) ((aR xs).length+ys.length) (grownCap w ((aR xs).length+ys.length) cap ti.elem)) (w.drew.alloc (.cells (olds.toArray++news.toArray++zs) ti.elem (0,0))) (fun q=>F q∨q=w.heap.size) (by rw[ev]; exact z2) (k1.wr k4 rfl rfl rfl (by rw[hsize]; omega) fun q hq _=>hold q hq) (fun b hb => ?_) ?_
     . rcases hb with hb | rfl
       . exact hFs _ (by rw[hsize]; omega) b hb
       . refine⟨by rw[hsize]; omega,.inr k1.size,fun hz=>by have:=(k1.bV _ hz).1; omega,fun r j hh=>by have:=(k1.fp r j _ hh).1; omega,fun r' R' hR' hb' he => ?_⟩;obtain⟨_,_,_,_,cs1,el1,fr1,b5,_⟩:=k1.box r' R' hR' hb';rw[he,aeG (oR _)]at b5;simp at b5
     . refine Om (b0:=b0) (F:=F) r4 m2 (el:=ti.elem) (fr:=(0,0)) (cs':=olds.toArray++news.toArray++zs) (by rw[hheap,ae1,if_pos rfl]) (by simp) (.inr rfl) (by rw[hsize]; omega) (fun q hq hlt=>hold q hlt) (fun q hq _ hlt=>⟨.inl hq,hnot q hq,hold q hlt⟩) (fun q hq => ?_) (fun q hq => ?_) hge ?_ hbig
       . rw[<- r3 q hq,aey,af0,afi (by simp; omega)];simp
       . rw[aey,af0,agF (by simp; omega),afi (by simp; omega)];simp only[ahg,r2,afa,aeY]
       . have e1:(olds.toArray++news.toArray++zs).size=olds.length+news.length+zs.size:=by simp
         rw[e1,r2,hnl,z1,aey,<- ae0,<- ae0];exact aeT _ (by omega)
end
abbrev PC:=Nat->Nat->Option (RC×(Nat->Prop))
def Gh.su(g:Gh)(L:PC):Gh:=⟨g.be,g.cv,fun r j b=>match L r j with | some p=>p.2 b | none=>g.fp r j b⟩
structure Lf (st st':St) (L:PC):Prop where
 tm:st'.tm=st.tm
 shape:∀ r,shape st' r=shape st r
 cell:∀ r j,st'.cell r j=match L r j with | some p=>(st.cell r j).map (fun _=>p.1) | none=>st.cell r j
 rt:∀ r,(∀ j,L r j=none)->look st'.rt r=look st.rt r
section
variable{P:Program}{cx:Cx P}{Z:Nat->Prop}{g:Gh}{st st':St}{a:Act}{w w':World}{E:En}{L:PC}
theorem sE{st st':St}{r:Nat}{R':Rt}(hs:shape st' r=shape st r)(h:look st'.rt r=some R'):∃ R,look st.rt r=some R/\R'.box=R.box/\R'.cells.length=R.cells.length:=by
 have h1:shape st r=some (R'.box,R'.cells.length):=by rw[<- hs]; simp[shape,h]
 obtain⟨R,k1,k2,k3⟩:=rz h1;exact⟨R,k1,k2.symm,k3.symm⟩
theorem Rel.su(h:Rel cx Z g st a w)(hl:Lf st st' L)(h1:w'.os=w.os)(h2:w'.tape=w.tape)(h3:w'.output=w.output)(hsz:w.heap.size<=w'.heap.size)
 (hL:∀ r j p,L r j=some p->∃ c,st.cell r j=some c/\p.1.s=c.s/\c.m<p.1.m/\∃ e ks xs xs',c.v= .own (.sl e ks) xs/\p.1.v= .own (.sl e ks) xs'/\(aR xs').length=(aR xs).length/\cZ w' (.sl e ks) xs' (g.cv r j) p.2)
 (hF:∀ r j p,L r j=some p->∀ b,p.2 b->b<w'.heap.size/\((∃ r0 j0 p0,L r0 j0=some p0/\g.fp r0 j0 b)∨w.heap.size<=b)/\¬ Z b)
 (hd:∀ r j p r' j' p' b,L r j=some p->L r' j'=some p'->p.2 b->p'.2 b->r=r'/\j=j')
 (hblk:∀ b,b<w.heap.size->(∀ r j p,L r j=some p->¬ g.fp r j b)->w'.heap[b]? = w.heap[b]?) :
 Rel cx Z (g.su L) st' a w'/\kn Z w w' g (g.su L) st st':=by
 have hfpo:∀ r j b,L r j=none->g.fp r j b->w'.heap[b]? = w.heap[b]? := fun r j b hn hb=>hblk b (h.fp r j b hb).1 fun r0 j0 p0 hp0 hh=>by obtain⟨e1,e2⟩:=h.disj _ _ _ _ _ hb hh;subst e1; subst e2;rw[hn]at hp0; simp at hp0
 have hz:∀ b,Z b->b<w.heap.size->w'.heap[b]? = w.heap[b]? := fun b hb hlt=>hblk b hlt fun r j p hp hh=>(h.fp r j b hh).2.2.1 hb
 have hfpi:∀ r j b,(g.su L).fp r j b->(∃ p,L r j=some p/\p.2 b)∨(L r j=none/\g.fp r j b):=fun r j b hb=>by
  simp only[Gh.su]at hb;cases hp:L r j with
  | none=>rw[hp]at hb; exact .inr ⟨rfl,hb⟩
  | some p=>rw[hp]at hb; exact .inl ⟨p,rfl,hb⟩
 have k:mF Z Z w w' g (g.su L) st st':=by
  refine { size:=hsz,z:=fun b hb hlt=>⟨hb,hz b hb hlt⟩,root:=fun r R hR => ?_,cell:=fun r j c hc => ?_,own:=fun r j b hb=>(h.fp r j b hb).1,block:=(fm h (st':=st) (w':=w) rfl rfl).block }
  . obtain⟨R',e1,e2,_⟩:=sE (st:=st') (st':=st) (hl.shape r).symm hR;exact⟨R',e1,e2.symm,fun _=>rfl⟩
  . rw[hl.cell];cases hp:L r j with
    | none=>exact⟨c,hc,oR _,oR _,fun _=>rfl,fun _ e ks xs hh=>⟨xs,hh,rfl⟩,fun _ _=>⟨rfl,fun b hb _=>⟨by simp only[Gh.su,hp]; exact hb,hfpo r j b hp hb⟩⟩⟩
    | some p => obtain⟨c0,f1,f2,f3,e,ks,xs,xs',f4,f5,f6,f7⟩:=hL r j p hp;rw[hc]at f1;simp only[aem]at f1;subst f1;rw[hc];refine⟨p.1,rfl,by omega,by omega,fun _=>rfl,fun _ e' ks' xs0 hh => ?_,fun _ e=>absurd e (by omega)⟩;rw[f4]at hh;simp only[RV.own.injEq,K.sl.injEq]at hh;obtain⟨⟨rfl,rfl⟩,hh⟩:=hh;have hh:=agy hh;subst hh;exact⟨xs',f5,f6⟩
 have hbn:∀ r R,look st.rt r=some R->R.box=true->∀ r' j',¬ (g.su L).fp r' j' (g.be r):=fun r R hR hb r' j' hh=>by
  obtain⟨_,_,b3,_,cs,el,fr,b5,_⟩:=h.box r R hR hb;have hlt:g.be r<w.heap.size:=by
   rcases aeB (g.be r) w.heap.size with hh | hh
   . exact hh
   . simp[aeG hh]at b5
  rcases hfpi _ _ _ hh with ⟨p,hp,hh⟩ | ⟨_,hh⟩
  . rcases(hF _ _ _ hp _ hh).2.1 with ⟨r0,j0,p0,_,k2⟩ | k2
    . exact b3 r0 j0 k2
    . omega
  . exact b3 _ _ hh
 refine⟨?_,⟨k,hl.tm,rfl,fun r R' hR=>by obtain⟨R,e1,e2,_⟩:=sE (hl.shape r) hR; exact⟨R,e1,e2⟩⟩⟩;refine { os:=h1.trans h.os,tape:=h2.trans h.tape,output:=h3.trans h.output,size:=aeu h.size hsz,block := ?_,bV:=fun b hb=>⟨aeJ (h.bV b hb).1 hsz,(h.bV b hb).2⟩,z0:=h.z0,fp := ?_,disj := ?_,box := ?_,cell := ?_,tm := ?_,defers:=h.defers,pin:=h.pin }
 . intro b hb hf;refine(hblk b (aeJ hb h.size) fun r j p hp hh => ?_).trans (h.block b hb hf);rcases(h.fp r j b hh).2.1 with h4 | h4
   . exact hf h4
   . omega
 . intro r j b hb;rcases hfpi r j b hb with ⟨p,hp,hb⟩ | ⟨hp,hb⟩
   . obtain⟨k1,k2,k3⟩:=hF r j p hp b hb;obtain⟨c,f1,_,_,e,ks,xs,xs',_,f5,_⟩:=hL r j p hp;refine⟨k1,?_,k3,p.1,_,xs',by rw[hl.cell,hp,f1]; rfl,f5⟩;rcases k2 with ⟨r0,j0,p0,_,k2⟩ | k2
     . exact(h.fp _ _ _ k2).2.1
     . exact .inr (aeu h.size k2)
   . obtain⟨k1,k2,k3,c,kk,x,k4,k5⟩:=h.fp r j b hb;exact⟨aeJ k1 hsz,k2,k3,c,kk,x,by rw[hl.cell,hp]; exact k4,k5⟩
 . intro r1 j1 r2 j2 b hb1 hb2;rcases hfpi _ _ _ hb1 with ⟨p1,hp1,k1⟩ | ⟨hp1,k1⟩
   . rcases hfpi _ _ _ hb2 with ⟨p2,hp2,k2⟩ | ⟨hp2,k2⟩
     . exact hd _ _ _ _ _ _ b hp1 hp2 k1 k2
     . exfalso;rcases(hF _ _ _ hp1 b k1).2.1 with ⟨r0,j0,p0,hp0,hh⟩ | hh
       . obtain⟨e1,e2⟩:=h.disj _ _ _ _ _ hh k2;subst e1; subst e2;rw[hp2]at hp0; simp at hp0
       . have:=(h.fp _ _ _ k2).1; omega
   . rcases hfpi _ _ _ hb2 with ⟨p2,hp2,k2⟩ | ⟨hp2,k2⟩
     . exfalso;rcases(hF _ _ _ hp2 b k2).2.1 with ⟨r0,j0,p0,hp0,hh⟩ | hh
       . obtain⟨e1,e2⟩:=h.disj _ _ _ _ _ hh k1;subst e1; subst e2;rw[hp1]at hp0; simp at hp0
       . have:=(h.fp _ _ _ k1).1; omega
     . exact h.disj _ _ _ _ _ k1 k2
 . intro r R' hR hbx;obtain⟨R,e1,e2,e3⟩:=sE (hl.shape r) hR;have hbx':R.box=true:=by rw[<- e2]; exact hbx
   obtain⟨b1,b2,b3,b4,cs,el,fr,b5,b6,b7,b8⟩:=h.box r R e1 hbx';have hlt:g.be r<w.heap.size:=by
    rcases aeB (g.be r) w.heap.size with hh | hh
    . exact hh
    . simp[aeG hh]at b5
   refine⟨b1,b2,hbn r R e1 hbx',fun r' R'' hR'' hb'' he => ?_,cs,el,fr,?_,b6,by rw[b7,e3],b8⟩
   . obtain⟨R2,f1,f2,_⟩:=sE (hl.shape r') hR'';exact b4 r' R2 f1 (by rw[<- f2]; exact hb'') he
   . show w'.heap[g.be r]? = _;rw[hblk _ hlt fun r0 j0 p0 _ hh=>b3 r0 j0 hh];exact b5
 . intro r j c hc;rw[hl.cell]at hc;cases hp:L r j with
   | none =>
     rw[hp]at hc;have e2:(g.su L).fp r j=g.fp r j:=by funext b; simp only[Gh.su,hp]
     rw[e2];exact jU.ct k _ _ _ _ (h.cell r j c hc) (fun _ h=>h) (fun b hb _=>hfpo r j b hp hb)
   | some p =>
     rw[hp]at hc;obtain⟨c0,f1,_,_,e,ks,xs,xs',_,f5,_,f7⟩:=hL r j p hp;rw[f1]at hc;simp only[aeM,aem]at hc;subst hc;have e2:(g.su L).fp r j=p.2:=by funext b; simp only[Gh.su,hp]
     rw[e2,f5];exact f7
 . intro t tv ht;rw[hl.tm]at ht;exact⟨(h.tm t tv ht).1,bL.ct k _ _ (h.tm t tv ht).2⟩
end
section
variable{w w':World}
theorem Al:∀(ks:List K) (x:Tl ks) (j:Nat) (G:Nat->Nat->Prop) (cs:Array Value) (o c:Nat) (k:K) (y:T k),fH w ks x j G cs o->cellAt ks x c=some ⟨k,y⟩->∃ v,cs[o+c]? = some v/\cZ w k y v (G (j+c))
 | [],_,_,_,_,_,_,_,_,_,h=>by simp[cellAt]at h
 | k0::ks,x,j,G,cs,o,0,k,y,⟨⟨v,h1,h2⟩,_⟩,h=>by simp only[cellAt,aem,Sigma.mk.injEq]at h;obtain⟨rfl,h⟩:=h;have h:=agy h;subst h;exact⟨v,h1,h2⟩
 | k0::ks,x,j,G,cs,o,c+1,k,y,⟨_,h3⟩,h=>by obtain⟨v,h1,h2⟩:=Al ks x.2 (j+1) G cs (o+1) c k y h3 h;exact⟨v,by rw[show o+(c+1)=o+1+c by omega]; exact h1,by rw[show j+(c+1)=j+1+c by omega]; exact h2⟩
theorem MD{e:TypeId}{ks:List K}{xs:T (.sl e ks)}{b o l cap:Nat}{F:Nat->Prop}(h:cZ w (.sl e ks) xs (.slice (some ⟨b,o,none⟩) l cap) F){i c:Nat}(hi:i<(aR xs).length){k:K}{y:T k}(hc:cellAt ks (gr xs i) c=some ⟨k,y⟩) :
 ∃ v Fi,w.cell? ⟨b,o+i * ks.length+c,none⟩=some v/\cZ w k y v Fi/\(∀ q,Fi q->F q/\q≠b)/\F b /\
  ∀(w':World) (y':T k) (z:Tl ks) (F':Nat->Prop),setAt ks (gr xs i) c k y'=some z->cZ w' k y' v F'->(∀ q,F' q->F q->Fi q)->(∀ q,q<w.heap.size->F q->¬ Fi q->w'.heap[q]? = w.heap[q]?)->(∀ q,F q->q<w.heap.size) ->
   cZ w' (.sl e ks) (List.set (aR xs) i z) (.slice (some ⟨b,o,none⟩) l cap) (fun q=>(F q/\¬ Fi q)∨F' q):=by
 obtain⟨a',c0,h1,h2,h3,h4,h5⟩:=h;simp only[afm]at h1;obtain⟨rfl,rfl,rfl⟩:=h1;obtain⟨b',o',cs,el,fr,g1,g2,g3,g4,g5,G,g6,g7,g8⟩:=h5 _ rfl;simp only[afK,afP]at g1;obtain⟨rfl,rfl⟩:=g1;obtain⟨v,hv1,hv2⟩:=Al ks _ 0 (G i) cs _ c k y (g8 i _ (mL xs hi)) hc;rw[aey]at hv2;refine⟨v,G i c,?_,hv2,fun q hq=>g6 i c q hq,g2,fun w' y' z F' hz ho hF' hw hlt => ?_⟩
 . simp only[World.cell?,g3,afE,ae5,afB];exact hv1
 . have hlen:(aR (e:=e) (ks:=ks) (List.set (aR xs) i z)).length=(aR xs).length:=afz ..
   have hbG:¬ G i c b:=fun hh=>(g6 i c b hh).2 rfl
   have hcl:=x9 _ _ _ _ _ _ hz;have hblt:=hlt b g2;refine⟨_,cap,by rw[hlen],by rw[hlen]; exact h2,by rw[hlen]; exact h3,h4,fun a'' ha'' => ?_⟩;simp only[aem]at ha'';subst ha'';refine⟨b,o,cs,el,fr,rfl,.inl ⟨g2,hbG⟩,by rw[hw b hblt g2 hbG]; exact g3,g4,g5,fun i' j' q=>if i'=i/\j'=c then F' q else G i' j' q,fun i' j' q hq => ?_,fun i1 j1 i2 j2 q hq1 hq2 => ?_,fun i' x hx => ?_⟩
   . dsimp only at hq;split at hq
     . refine⟨.inr hq,fun e => ?_⟩;subst e;exact hbG (hF' q hq g2)
     . rename_i hne;refine⟨.inl ⟨(g6 i' j' q hq).1,fun hh=>hne ?_⟩,(g6 i' j' q hq).2⟩;exact g7 i' j' i c q hq hh
   . dsimp only at hq1 hq2;have cross:∀ i1 j1,¬ (i1=i/\j1=c)->G i1 j1 q->F' q->False:=fun i1 j1 hne hG hF=>by
      exact hne (g7 i1 j1 i c q hG (hF' q hF (g6 i1 j1 q hG).1))
     by_cases e1:i1=i/\j1=c
     . rw[if_pos e1]at hq1;by_cases e2:i2=i/\j2=c
       . exact⟨e1.1.trans e2.1.symm,e1.2.trans e2.2.symm⟩
       . rw[if_neg e2]at hq2; exact(cross i2 j2 e2 hq2 hq1).elim
     . rw[if_neg e1]at hq1;by_cases e2:i2=i/\j2=c
       . rw[if_pos e2]at hq2; exact(cross i1 j1 e1 hq1 hq2).elim
       . rw[if_neg e2]at hq2; exact g7 _ _ _ _ q hq1 hq2
   . have hx':(List.set (aR xs) i z)[i']? = some x:=hx;rw[agW]at hx';by_cases ei:i=i'
     . subst ei;rw[if_pos rfl,if_pos hi]at hx';simp only[aem]at hx';subst hx';refine xA ks (gr xs i) c k y' z 0 (G i) _ F' cs cs _ v hz ho hv1 (fun _ _ _=>rfl) (fun q p hne hp => ?_) (fun p hp => ?_) (fun q p hne hp _ => ?_) (g8 i _ (mL xs hi))
       . show(if i=i/\q=c then F' p else G i q p);rw[if_neg (fun e=>hne (by omega))]; exact hp
       . show(if i=i/\0+c=c then F' p else G i (0+c) p);rw[if_pos ⟨rfl,by omega⟩]; exact hp
       . exact hw p (hlt p (g6 i q p hp).1) (g6 i q p hp).1 fun hh=>hne (by have:=(g7 i q i c p hp hh).2; omega)
     . rw[if_neg ei]at hx';refine fH.frame ks x 0 (G i') _ cs _ (fun j q hq => ?_) (fun j q hq _ => ?_) (g8 i' x hx')
       . show(if i'=i/\j=c then F' q else G i' j q);rw[if_neg (fun e=>ei e.1.symm)]; exact hq
       . exact hw q (hlt q (g6 i' j q hq).1) (g6 i' j q hq).1 fun hh=>ei (g7 i' j i c q hq hh).1.symm
end
section
variable{P:Program}{cx:Cx P}{Z:Nat->Prop}{a:Act}{w:World}{E:En}
theorem dH.mono{F F':Nat->Nat->Prop}(hF:∀ i b,F i b->F' i b):∀(ps:List PK) (x:PT ps) (vs:List Value) (i:Nat),dH Z w F ps x vs i->dH Z w F' ps x vs i
 | [],_,[],_,_=>trivial
 | .c _ _::ps,x,v::vs,i,h=>⟨h.1,dH.mono hF ps x.2 vs _ h.2⟩
 | .pt _::ps,x,v::vs,i,h=>⟨h.1,dH.mono hF ps x.2 vs _ h.2⟩
 | .nil::ps,x,v::vs,i,h=>⟨h.1,dH.mono hF ps x vs _ h.2⟩
 | .fn _ _::ps,x,v::vs,i,h=>⟨h.1,dH.mono hF ps x.2 vs _ h.2⟩
 | .io _ ks::ps,x,v::vs,i,⟨⟨cs,e,h⟩,h'⟩=>⟨⟨cs,e,aY.mono hF ks x.1 cs i h⟩,dH.mono hF ps x.2 vs _ h'⟩
 | .mv _::ps,x,v::vs,i,h=>⟨cZ.frame _ _ _ _ _ (hF i) (fun _ _ _=>rfl) h.1,dH.mono hF ps x.2 vs _ h.2⟩
 | .pw _::ps,x,v::vs,i,h=>⟨h.1.mono hF,dH.mono hF ps x.2 vs _ h.2⟩
 | .pw _::_,_,[],_,h=>h.elim
 | [],_,_::_,_,h=>h.elim
 | .c _ _::_,_,[],_,h=>h.elim
 | .fn _ _::_,_,[],_,h=>h.elim
 | .io _ _::_,_,[],_,h=>h.elim
 | .pt _::_,_,[],_,h=>h.elim
 | .nil::_,_,[],_,h=>h.elim
 | .mv _::_,_,[],_,h=>h.elim
theorem aY.bV{Z':Nat->Prop}{H:Nat->Nat->Prop}(hz:∀ b,Z b->b<w.heap.size->Z' b):∀(ks:List K) (x:Tl ks) (cs:List Value) (j:Nat),aY true Z w H ks x cs j->aY true Z' w H ks x cs j
 | [],_,[],_,_=>trivial
 | .sl e ks'::ks,x,v::vs,j,h=>⟨h.1,aY.bV hz ks x.2 vs _ h.2⟩
 | .int _::ks,x,v::vs,j,h=>⟨h.1.bV hz,aY.bV hz ks x.2 vs j h.2⟩
 | .bool::ks,x,v::vs,j,h=>⟨h.1.bV hz,aY.bV hz ks x.2 vs j h.2⟩
 | .str::ks,x,v::vs,j,h=>⟨h.1.bV hz,aY.bV hz ks x.2 vs j h.2⟩
 | [],_,_::_,_,h=>h.elim
 | .sl _ _::_,_,[],_,h=>h.elim
 | .int _::_,_,[],_,h=>h.elim
 | .bool::_,_,[],_,h=>h.elim
 | .str::_,_,[],_,h=>h.elim
def Zb(Z:Nat->Prop)(g:Gh)(st:St):Nat->Prop:=fun b=>Z b∨∃ r R,look st.rt r=some R/\R.box=true/\g.be r=b
theorem TD{g:Gh}{st:St}(h:Rel cx Z g st a w):∀ b,Zb Z g st b->b<w.heap.size:=fun b hb=>by
 rcases hb with hb | ⟨r,R,hR,hx,e⟩
 . exact(h.bV b hb).1
 . obtain⟨_,_,_,_,cs,el,fr,b5,_⟩:=h.box r R hR hx;rw[e]at b5;rcases aeB b w.heap.size with hh | hh
   . exact hh
   . simp[aeG hh]at b5
theorem RX{g:Gh}{st:St}(h:Rel cx Z g st a w){r j b:Nat}(hb:g.fp r j b):¬ Zb Z g st b:=fun hz=>by
 rcases hz with hz | ⟨r',R,hR,hx,e⟩
 . exact(h.fp _ _ _ hb).2.2.1 hz
 . exact(h.box r' R hR hx).2.2.1 r j (e ▸ hb)
def E3(g:Gh)(st:St)(w w':World)(r j:Nat)(c':RC)(F F':Nat->Prop):Prop :=
 ∃ c e ks xs xs',st.cell r j=some c/\c'.s=c.s/\c.m<c'.m/\c.v= .own (.sl e ks) xs/\c'.v= .own (.sl e ks) xs'/\(aR xs').length=(aR xs).length/\cZ w' (.sl e ks) xs' (g.cv r j) (fun q=>(g.fp r j q/\¬ F q)∨F' q)
structure Og (g:Gh) (st:St) (w:World) (n:Ln) (k:K) (F:Nat->Prop) (v:Value):Prop where
 sub:∀ b,F b->g.fp n.r n.j b
 back:∀(w':World) (y':T k) (F':Nat->Prop) (c':RC),st.Bc n ⟨k,y'⟩=some c'->cZ w' k y' v F'->(∀ q,F' q->g.fp n.r n.j q->F q)->(∀ q,q<w.heap.size->g.fp n.r n.j q->¬ F q->w'.heap[q]? = w.heap[q]?)->E3 g st w w' n.r n.j c' F F'
theorem Qo{w w':World}{e:TypeId}{ks:List K}{xs xs':T (.sl e ks)}{v:Value}{F F':Nat->Prop}(h:cZ w (.sl e ks) xs v F)(h':cZ w' (.sl e ks) xs' v F'):(aR xs').length=(aR xs).length:=by obtain⟨a,c,h1,_⟩:=h;obtain⟨a',c',h1',_⟩:=h';rw[h1]at h1';simp only[afm]at h1';exact h1'.2.1.symm
theorem JW{g:Gh}{st:St}(h:Rel cx Z g st a w){av:AV}{v:Value}{e0:TypeId}{ks0:List K}{n:Ln}{y:T (.sl e0 ks0)}(hr:bq Z g st w av v)(hl:st.Cd (.sl e0 ks0) av=some (n,y)) :
 ∃ F,cZ w (.sl e0 ks0) y v F/\Og g st w n (.sl e0 ks0) F v:=by
 cases av with
 | ref r j s =>
   simp only[St.Cd]at hl;split at hl
   . rename_i s' m k' x hc;cases hb:Nat.beq s' s with
     | false=>rw[hb]at hl; simp at hl
     | true =>
       rw[hb]at hl;simp only[oT]at hl;split at hl
       . rename_i y' hy;cases hl;obtain⟨rfl,hy⟩:=cA hy;have hy:x=y:=hy;subst hy;have:=beq_eq hb;subst this;obtain⟨c,q1,q2,q3⟩:=hr;rw[hc]at q1;cases q1;have q3:=q3 rfl;subst q3;have ho:cZ w (.sl e0 ks0) x (g.cv r j) (g.fp r j):=h.cell r j _ hc;refine⟨g.fp r j,ho,fun b hb=>hb,fun w' y' F' c' hbk ho' hF' hw' => ?_⟩;simp only[St.Bc,hc,aem]at hbk;subst hbk;refine⟨_,e0,ks0,x,y',hc,rfl,afl _,rfl,rfl,Qo ho ho',?_⟩;exact cZ.frame _ _ _ _ _ (fun b hb=> .inr hb) (fun _ _ _=>rfl) ho'
       . simp at hl
   . simp at hl
 | pref r j s m i c =>
   simp only[St.Cd]at hl;split at hl
   . rename_i s' m' e ks x hc;cases hb:Nat.beq s' s&&Nat.beq m' m with
     | false=>rw[hb]at hl; simp at hl
     | true =>
       rw[hb]at hl;simp only[oT]at hl;simp only[aen]at hb;split at hl
       . rename_i k' y1 hcell;split at hl
         . rename_i y' hy;cases hl;obtain⟨rfl,hy⟩:=cA hy;have hy:y1=y:=hy;subst hy;have e1:=beq_eq hb.1;have e2:=beq_eq hb.2;subst e1; subst e2;obtain⟨c0,q1,q2,q3,q4⟩:=hr;rw[hc]at q1;cases q1;obtain⟨e',ks',xs',p1,p2,p3,b,o,l,cap,p4,p5⟩:=q4 rfl rfl;simp only[RV.own.injEq,K.sl.injEq]at p1;obtain⟨⟨rfl,rfl⟩,p1⟩:=p1;have p1:=agy p1;subst p1;have ho:cZ w (.sl e ks) x (g.cv r j) (g.fp r j):=h.cell r j _ hc;rw[p4]at ho;obtain⟨v',Fi,u1,u2,u3,u4,u5⟩:=MD ho p2 hcell;rw[p5]at u1;simp only[aem]at u1;subst u1;refine⟨Fi,u2,fun b hb=>(u3 b hb).1,fun w' y' F' c' hbk ho' hF' hw' => ?_⟩;simp only[St.Bc,hc]at hbk;split at hbk
           . rename_i z hz;simp only[aem]at hbk;subst hbk;refine⟨_,e,ks,x,_,hc,rfl,afl _,rfl,rfl,afz ..,?_⟩;show cZ w' (.sl e ks) _ (g.cv r j) _;rw[p4];exact u5 w' y' z F' hz ho' hF' hw' fun q hq=>(h.fp r j q hq).1
           . simp at hbk
         . simp at hl
       . simp at hl
   . simp at hl
 | _=>simp[St.Cd]at hl
def E2:List K->List Value->List (K×Value)
 | .sl e ks'::ks,v::vs=>(.sl e ks',v)::E2 ks vs
 | .int _::ks,_::vs=>E2 ks vs
 | .bool::ks,_::vs=>E2 ks vs
 | .str::ks,_::vs=>E2 ks vs
 | _,_=>[]
def za:List PK->List Value->List (K×Value)
 | .io gg ks::ps,v::vs=>E2 ks (cellsOf gg v)++za ps vs
 | .c _ _::ps,_::vs=>za ps vs
 | .pt _::ps,_::vs=>za ps vs
 | .nil::ps,_::vs=>za ps vs
 | .fn _ _::ps,_::vs=>za ps vs
 | .mv _::ps,_::vs=>za ps vs
 | _,_=>[]
def fS(g:Gh)(st:St)(w:World)(F:Nat->Nat->Prop):List Ln->List (K×Value)->Nat->Prop
 | [],[],_=>True
 | n::l,p::r,i=>Og g st w n p.1 (F i) p.2/\fS g st w F l r (i+1)
 | _,_,_=>False
theorem Og.eq{g:Gh}{st:St}{n:Ln}{k:K}{F F':Nat->Prop}{v:Value}(h:Og g st w n k F v)(e:∀ b,F b↔F' b):Og g st w n k F' v:=by
 have:F=F':=funext fun b=>propext (e b)
 rw[<- this]; exact h
theorem fS.eq{g:Gh}{st:St}{F F':Nat->Nat->Prop}:∀(l:List Ln) (r:List (K×Value)) (i:Nat),(∀ m b,i<=m->m<i+l.length->(F m b↔F' m b))->fS g st w F l r i->fS g st w F' l r i
 | [],[],_,_,_=>trivial
 | n::l,p::r,i,e,h=>⟨h.1.eq fun b=>e i b (oR _) (by simp),fS.eq l r (i+1) (fun m b h1 h2=>e m b (by omega) (by simp only[aeC]; omega)) h.2⟩
 | [],_::_,_,_,h=>h.elim
 | _::_,[],_,_,h=>h.elim
theorem fS.len{g:Gh}{st:St}{F:Nat->Nat->Prop}:∀(l:List Ln) (r:List (K×Value)) (i:Nat),fS g st w F l r i->l.length=r.length
 | [],[],_,_=>rfl
 | n::l,p::r,i,h=>aeU (· + 1) (fS.len l r (i+1) h.2)
 | [],_::_,_,h=>h.elim
 | _::_,[],_,h=>h.elim
theorem fS.app{g:Gh}{st:St}{F:Nat->Nat->Prop}:∀(l l':List Ln) (r r':List (K×Value)) (i:Nat),fS g st w F l r i->fS g st w F l' r' (i+l.length)->fS g st w F (l++l') (r++r') i
 | [],_,[],_,_,_,h=>h
 | n::l,l',p::r,r',i,h,h'=>⟨h.1,fS.app l l' r r' (i+1) h.2 (by rw[show i+1+l.length=i+(n::l).length by simp; omega]; exact h')⟩
 | [],_,_::_,_,_,h,_=>h.elim
 | _::_,_,[],_,_,h,_=>h.elim
theorem mo{g:Gh}{st:St}(h:Rel cx Z g st a w):∀(ks:List K) (l:List AV) (cs:List Value) (i:Nat) (ns:List Ln) (y:Tl ks),aW Z g st w l cs->st.oJ ks l=some (ns,y) ->
 ns.length=bJ ks/\∃ F:Nat->Nat->Prop,aY true Z w F ks y cs i/\fS g st w F ns (E2 ks cs) i/\∀ m b,F m b->i<=m/\m<i+bJ ks
 | [],[],[],i,ns,y,_,hl=>by simp only[St.oJ,aem,aeS]at hl;obtain⟨rfl,_⟩:=hl;exact⟨rfl,fun _ _=>False,trivial,trivial,fun _ _ h=>h.elim⟩
 | [],[],_::_,_,_,_,h1,_=>h1.elim
 | [],_::_,_,_,_,_,_,hl=>by simp[St.oJ]at hl
 | _::_,[],_,_,_,_,_,hl=>by simp[St.oJ]at hl
 | _::_,_::_,[],_,_,_,h1,_=>h1.elim
 | .sl e ks'::ks,av::l,v::vs,i,ns,y,h1,hl=>by
   simp only[St.oJ]at hl;split at hl
   . rename_i p q hp hq;cases hl;obtain⟨F1,k1,k2⟩:=JW h h1.1 hp;obtain⟨hlen,F,m1,m2,m3⟩:=mo h ks l vs (i+1) q.1 q.2 h1.2 hq;have hs:∀ m b,(i+1<=m)->(((m=i/\F1 b)∨F m b)↔F m b):=fun m b hm=>⟨fun hh=>hh.elim (fun h=>by omega) id,.inr⟩
     refine⟨by simp[bJ,hlen],fun m b=>(m=i/\F1 b)∨F m b,⟨cZ.frame _ _ _ _ _ (fun b hb=> .inl ⟨rfl,hb⟩) (fun _ _ _=>rfl) k1,aY.mono (fun m b hb=> .inr hb) _ _ _ _ m1⟩,⟨k2.eq fun b=>⟨fun hb=> .inl ⟨rfl,hb⟩,fun hb=>hb.elim (fun h=>h.2) fun hb=>by have:=(m3 i b hb).1; omega⟩,?_⟩,fun m b hb => ?_⟩
     . exact fS.eq _ _ _ (fun m b h1 _=>(hs m b h1).symm) m2
     . simp only[bJ];rcases hb with hb | hb
       . omega
       . have:=m3 m b hb; omega
   . simp at hl
 | .int k::ks,av::l,v::vs,i,ns,y,h1,hl=>by
   simp only[St.oJ]at hl;split at hl
   . rename_i x q hx hf hq;cases hl;obtain⟨hlen,F,m1,m2,m3⟩:=mo h ks l vs i q.1 q.2 h1.2 hq;exact⟨hlen,F,⟨ch h h1.1 hf hx,m1⟩,m2,m3⟩
   . simp at hl
 | .bool::ks,av::l,v::vs,i,ns,y,h1,hl=>by
   simp only[St.oJ]at hl;split at hl
   . rename_i x q hx hf hq;cases hl;obtain⟨hlen,F,m1,m2,m3⟩:=mo h ks l vs i q.1 q.2 h1.2 hq;exact⟨hlen,F,⟨ch h h1.1 hf hx,m1⟩,m2,m3⟩
   . simp at hl
 | .str::ks,av::l,v::vs,i,ns,y,h1,hl=>by
   simp only[St.oJ]at hl;split at hl
   . rename_i x q hx hf hq;cases hl;obtain⟨hlen,F,m1,m2,m3⟩:=mo h ks l vs i q.1 q.2 h1.2 hq;exact⟨hlen,F,⟨ch h h1.1 hf hx,m1⟩,m2,m3⟩
   . simp at hl
theorem nv{g:Gh}{st:St}(h:Rel cx Z g st a w){Z':Nat->Prop}(hz0:∀ b,Z b->b<w.heap.size->Z' b)(hb0:∀ r R,look st.rt r=some R->R.box=true->Z' (g.be r)):∀(ps:List PK) (l:List TV) (vs:List Value) (i:Nat) (ns:List Ln) (x:PT ps),fG Z g st w l vs->st.cf ps l=some (ns,x) ->
 ∃ F:Nat->Nat->Prop,dH Z' w F ps x vs i/\fS g st w F ns (za ps vs) i/\∀ m b,F m b->i<=m/\m<i+ns.length
 | [],[],[],i,ns,x,_,hl=>by simp only[St.cf,aem,aeS]at hl;obtain⟨rfl,_⟩:=hl;exact⟨fun _ _=>False,trivial,trivial,fun _ _ h=>h.elim⟩
 | [],[],_::_,_,_,_,h1,_=>h1.elim
 | [],_::_,_,_,_,_,_,hl=>by simp[St.cf]at hl
 | .c _ _::_,[],_,_,_,_,_,hl=>by simp[St.cf]at hl
 | .fn _ _::_,[],_,_,_,_,_,hl=>by simp[St.cf]at hl
 | .io _ _::_,[],_,_,_,_,_,hl=>by simp[St.cf]at hl
 | .mv _::_,[],_,_,_,_,_,hl=>by simp[St.cf]at hl
 | .mv _::_,_::_,_,_,_,_,_,hl=>by simp[St.cf]at hl
 | .pt _::_,[],_,_,_,_,_,hl=>by simp[St.cf]at hl
 | .nil::_,[],_,_,_,_,_,hl=>by simp[St.cf]at hl
 | .nil::_,_::_,_,_,_,_,_,hl=>by simp[St.cf]at hl
 | .pt _::_,_::_,_,_,_,_,_,hl=>by simp[St.cf]at hl
 | .c _ _::_,_::_,[],_,_,_,h1,_=>h1.elim
 | .fn _ _::_,_::_,[],_,_,_,h1,_=>h1.elim
 | .io _ _::_,_::_,[],_,_,_,h1,_=>h1.elim
 | .c gg ks::ps,tv::r,v::vs,i,ns,x,h1,hl=>by
   unfold St.cf at hl;cases hl2:tv.cP with
   | none=>rw[hl2]at hl; simp at hl
   | some p =>
     obtain⟨gg',l⟩:=p;rw[hl2]at hl;simp only at hl;cases hb:ca gg gg'&&l.all AV.bK with
     | false=>rw[hb]at hl; simp at hl
     | true =>
       rw[hb]at hl;simp only[oT]at hl;simp only[aen]at hb;have hg:=dW hb.1;subst hg;split at hl
       . rename_i z q hz hq;cases hl;obtain⟨us,e1,e2⟩:=gI (ky h1.1 hl2);obtain⟨F,k1,k2,k3⟩:=nv h hz0 hb0 ps r vs i q.1 q.2 h1.2 hq;exact⟨F,⟨⟨us,e1,rq.bV hz0 ks z us (df h ks l us z e2 hb.2 hz)⟩,k1⟩,k2,k3⟩
       . simp at hl
 | .fn f cs::ps,tv::r,v::vs,i,ns,x,h1,hl=>by
   cases tv with
   | fn f' caps =>
     unfold St.cf at hl;cases hb:Nat.beq f f' with
     | false=>rw[hb]at hl; simp at hl
     | true =>
       rw[hb]at hl;simp only[oT]at hl;have hf:=beq_eq hb;subst hf;split at hl
       . rename_i z q hz hq;cases hl;obtain⟨us,e1,e2⟩:=h1.1;obtain⟨F,k1,k2,k3⟩:=nv h hz0 hb0 ps r vs i q.1 q.2 h1.2 hq;exact⟨F,⟨⟨us,e1,lR h hz0 (fun _=>hb0) cs caps us.toList z e2 hz⟩,k1⟩,k2,k3⟩
       . simp at hl
   | _=>simp[St.cf]at hl
 | .io gg ks::ps,tv::r,v::vs,i,ns,x,h1,hl=>by
   unfold St.cf at hl;cases hl2:tv.cP with
   | none=>rw[hl2]at hl; simp at hl
   | some p =>
     obtain⟨gg',l⟩:=p;rw[hl2]at hl;simp only at hl;cases hb:ca gg gg' with
     | false=>rw[hb]at hl; simp at hl
     | true =>
       rw[hb]at hl;simp only[oT]at hl;have hg:=dW hb;subst hg;split at hl
       . rename_i p q hp hq;cases hl;obtain⟨us,e1,e2⟩:=gI (ky h1.1 hl2);obtain⟨hlen,F1,m1,m2,m3⟩:=mo h ks l us i p.1 p.2 e2 hp;obtain⟨F,k1,k2,k3⟩:=nv h hz0 hb0 ps r vs (i+bJ ks) q.1 q.2 h1.2 hq;refine⟨fun m b=>F1 m b∨F m b,⟨⟨us,e1,aY.mono (fun m b hb=> .inl hb) _ _ _ _ (aY.bV hz0 _ _ _ _ m1)⟩,dH.mono (fun m b hb=> .inr hb) _ _ _ _ k1⟩,?_,fun m b hb => ?_⟩
         . simp only[za,e1.eq];refine fS.app _ _ _ _ _ (fS.eq _ _ _ (fun m b hm1 hm2=>⟨.inl,fun hh=>hh.elim id fun hh=>by have:=(k3 m b hh).1; omega⟩) m2) ?_;rw[hlen];exact fS.eq _ _ _ (fun m b hm1 hm2=>⟨.inr,fun hh=>hh.elim (fun hh=>by have:=(m3 m b hh).2; omega) id⟩) k2
         . simp only[aeo,hlen];rcases hb with hb | hb
           . have:=m3 m b hb; omega
           . have:=k3 m b hb; omega
       . simp at hl
def jH(w':World)(G:Nat->Nat->Prop):List ((k:K)×T k)->List (K×Value)->Nat->Prop
 | [],[],_=>True
 | y::l,p::r,i=>(y.1=p.1/\cZ w' y.1 y.2 p.2 (G i))/\jH w' G l r (i+1)
 | _,_,_=>False
theorem jH.app{w':World}{G:Nat->Nat->Prop}:∀(l l':List ((k:K)×T k)) (r r':List (K×Value)) (i:Nat),jH w' G l r i->jH w' G l' r' (i+l.length)->jH w' G (l++l') (r++r') i
 | [],_,[],_,_,_,h=>h
 | n::l,l',p::r,r',i,h,h'=>⟨h.1,jH.app l l' r r' (i+1) h.2 (by rw[show i+1+l.length=i+(n::l).length by simp; omega]; exact h')⟩
 | [],_,_::_,_,_,h,_=>h.elim
 | _::_,_,[],_,_,h,_=>h.elim
theorem lj:∀(ks:List K) (y:Tl ks),(yx ks y).length=bJ ks
 | [],_=>rfl
 | .sl _ _::ks,x=>aeU (· + 1) (lj ks x.2)
 | .int _::ks,x=>lj ks x.2
 | .bool::ks,x=>lj ks x.2
 | .str::ks,x=>lj ks x.2
theorem kQ{Z':Nat->Prop}{w':World}{G:Nat->Nat->Prop}:∀(ks:List K) (y:Tl ks) (cs:List Value) (i:Nat),aY true Z' w' G ks y cs i->jH w' G (yx ks y) (E2 ks cs) i
 | [],_,[],_,_=>trivial
 | .sl e ks'::ks,y,v::vs,i,h=>⟨⟨rfl,h.1⟩,kQ ks y.2 vs (i+1) h.2⟩
 | .int _::ks,y,v::vs,i,h=>kQ ks y.2 vs i h.2
 | .bool::ks,y,v::vs,i,h=>kQ ks y.2 vs i h.2
 | .str::ks,y,v::vs,i,h=>kQ ks y.2 vs i h.2
 | [],_,_::_,_,h=>h.elim
 | .sl _ _::_,_,[],_,h=>h.elim
 | .int _::_,_,[],_,h=>h.elim
 | .bool::_,_,[],_,h=>h.elim
 | .str::_,_,[],_,h=>h.elim
def BP:List PK->Bool
 | []=>true
 | .mv _::_=>false
 | .pw _::_=>false
 | .c _ _::ps=>BP ps
 | .pt _::ps=>BP ps
 | .nil::ps=>BP ps
 | .fn _ _::ps=>BP ps
 | .io _ _::ps=>BP ps
theorem pb{Z':Nat->Prop}{w':World}{G:Nat->Nat->Prop}:∀(ps:List PK) (y:rO ps) (vs:List Value) (i:Nat),BP ps=true->vs.length=ps.length->tY Z' w' G ps y vs i->jH w' G (ke ps y) (za ps vs) i
 | [],_,[],_,_,_,_=>trivial
 | .c _ _::ps,y,v::vs,i,hn,hl,h=>pb ps y vs i hn (by simpa using hl) h
 | .pt _::ps,y,v::vs,i,hn,hl,h=>pb ps y vs i hn (by simpa using hl) h
 | .nil::ps,y,v::vs,i,hn,hl,h=>pb ps y vs i hn (by simpa using hl) h
 | .fn _ _::ps,y,v::vs,i,hn,hl,h=>pb ps y vs i hn (by simpa using hl) h
 | .mv _::ps,y,v::vs,i,hn,hl,h=>by simp[BP]at hn
 | .pw _::ps,y,v::vs,i,hn,hl,h=>by simp[BP]at hn
 | .pw _::ps,y,[],i,hn,hl,h=>h.elim
 | .io gg ks::ps,y,v::vs,i,hn,hl,⟨⟨cs,e,h⟩,h'⟩=>by simp only[za,ke,e.eq];exact jH.app _ _ _ _ _ (kQ ks y.1 cs i h) (by rw[lj]; exact pb ps y.2 vs _ hn (by simpa using hl) h')
 | [],_,_::_,_,_,hl,_=>by simp at hl
 | .c _ _::ps,y,[],i,hn,hl,h=>h.elim
 | .pt _::ps,y,[],i,hn,hl,h=>h.elim
 | .nil::ps,y,[],i,hn,hl,h=>h.elim
 | .fn _ _::ps,y,[],i,hn,hl,h=>h.elim
 | .io _ _::ps,y,[],i,hn,hl,h=>h.elim
 | .mv _::ps,y,[],i,hn,hl,h=>h.elim
theorem lG{st:St}:∀(ps:List PK) (l:List TV) (q:List Ln×PT ps),st.cf ps l=some q->BP ps=true
 | [],_,_,_=>rfl
 | .c gg ks::ps,[],q,h=>by simp[St.cf]at h
 | .fn _ _::ps,[],q,h=>by simp[St.cf]at h
 | .io _ _::ps,[],q,h=>by simp[St.cf]at h
 | .mv _::ps,[],q,h=>by simp[St.cf]at h
 | .mv _::ps,_::_,q,h=>by simp[St.cf]at h
 | .pw _::ps,[],q,h=>by simp[St.cf]at h
 | .pw _::ps,_::_,q,h=>by simp[St.cf]at h
 | .pt _::ps,[],q,h=>by simp[St.cf]at h
 | .nil::ps,[],q,h=>by simp[St.cf]at h
 | .nil::ps,_::_,q,h=>by simp[St.cf]at h
 | .pt _::ps,_::_,q,h=>by simp[St.cf]at h
 | .c gg ks::ps,tv::r,q,h=>by
   unfold St.cf at h;split at h
   . rename_i g' l hl;cases hb:ca gg g'&&l.all AV.bK with
     | false=>rw[hb]at h; simp at h
     | true =>
       rw[hb]at h;simp only[oT]at h;split at h
       . rename_i y hx hy; exact lG ps r _ hy
       . simp at h
   . simp at h
 | .fn f cs::ps,tv::r,q,h=>by
   cases tv with
   | fn f' caps =>
     unfold St.cf at h;cases hb:Nat.beq f f' with
     | false=>rw[hb]at h; simp at h
     | true =>
       rw[hb]at h;simp only[oT]at h;split at h
       . rename_i y hx hy; exact lG ps r _ hy
       . simp at h
   | _=>simp[St.cf]at h
 | .io gg ks::ps,tv::r,q,h=>by
   unfold St.cf at h;split at h
   . rename_i g' l hl;cases hb:ca gg g' with
     | false=>rw[hb]at h; simp at h
     | true =>
       rw[hb]at h;simp only[oT]at h;split at h
       . rename_i y hx hy; exact lG ps r _ hy
       . simp at h
   . simp at h
def JO(g:Gh)(st:St)(w w':World)(F G:Nat->Nat->Prop):List (Nat×Nat×RC)->Nat->Prop
 | [],_=>True
 | (r,j,c)::l,i=>(E3 g st w w' r j c (F i) (G i)/\∀ b,F i b->g.fp r j b)/\JO g st w w' F G l (i+1)
theorem zA{g:Gh}{st:St}{w':World}{F G:Nat->Nat->Prop} :
 ∀(ns:List Ln) (ys:List ((k:K)×T k)) (kv:List (K×Value)) (i:Nat) (qs:List (Nat×Nat×RC)),st.sZ ns ys=some qs->fS g st w F ns kv i->jH w' G ys kv i ->
  (∀ m n,ns[m]? = some n->(∀ q,G (i+m) q->g.fp n.r n.j q->F (i+m) q)/\∀ q,q<w.heap.size->g.fp n.r n.j q->¬ F (i+m) q->w'.heap[q]? = w.heap[q]?) ->
  JO g st w w' F G qs i/\qs.map (fun q=>(q.1,q.2.1))=ns.map fun n=>(n.r,n.j)
 | [],[],[],i,qs,hb,_,_,_=>by simp only[St.sZ,aem]at hb;subst hb;exact⟨trivial,rfl⟩
 | n::ns,y::ys,p::kv,i,qs,hb,hL,hP,hh=>by
   simp only[St.sZ]at hb;split at hb
   . rename_i c q hc hq;simp only[aem]at hb;subst hb;obtain⟨k1,k2⟩:=zA ns ys kv (i+1) q hq hL.2 hP.2 fun m n' hm=>by
      have:=hh (m+1) n' (by simpa using hm);rw[show i+(m+1)=i+1+m by omega]at this;exact this
     obtain⟨h1,h2⟩:=hh 0 n rfl;obtain⟨k0,y0⟩:=y;obtain⟨kp,v⟩:=p;obtain⟨⟨e1,e2⟩,_⟩:=hP;simp only at e1 e2;subst e1;exact⟨⟨⟨hL.1.back w' y0 (G i) c hc e2 h1 h2,hL.1.sub⟩,k1⟩,by simp[k2]⟩
   . simp at hb
 | [],[],_::_,_,_,_,h,_,_=>h.elim
 | [],_::_,_,_,_,hb,_,_,_=>by simp[St.sZ]at hb
 | _::_,[],_,_,_,hb,_,_,_=>by simp[St.sZ]at hb
 | _::_,_::_,[],_,_,_,h,_,_=>h.elim
def kM(g:Gh)(F G:Nat->Nat->Prop):List (Nat×Nat×RC)->Nat->PC
 | [],_=>fun _ _=>none
 | (r,j,c)::l,i=>fun r' j'=>if r=r'/\j=j' then some (c,fun b=>(g.fp r j b/\¬ F i b)∨G i b)else kM g F G l (i+1) r' j'
theorem eH{g:Gh}{F G:Nat->Nat->Prop}:∀(q:List (Nat×Nat×RC)) (i:Nat) (r j:Nat) (p:RC×(Nat->Prop)),kM g F G q i r j=some p->∃ m,q[m]? = some (r,j,p.1)/\p.2=fun b=>(g.fp r j b/\¬ F (i+m) b)∨G (i+m) b
 | [],_,_,_,_,h=>by simp[kM]at h
 | (r0,j0,c)::l,i,r,j,p,h=>by
   simp only[kM]at h;split at h
   . rename_i e;obtain⟨rfl,rfl⟩:=e;simp only[aem]at h;subst h;exact⟨0,rfl,rfl⟩
   . obtain⟨m,h1,h2⟩:=eH l (i+1) r j p h;exact⟨m+1,h1,by rw[h2,show i+1+m=i+(m+1)by omega]⟩
theorem uv{g:Gh}{F G:Nat->Nat->Prop}:∀(q:List (Nat×Nat×RC)) (i m:Nat) (r j:Nat) (c:RC),q[m]? = some (r,j,c)->∃ p,kM g F G q i r j=some p
 | [],_,_,_,_,_,h=>by simp at h
 | (r0,j0,c0)::l,i,m,r,j,c,h=>by
   simp only[kM];split
   . exact⟨_,rfl⟩
   . rename_i hne;cases m with
     | zero=>simp only[aes,aem,aeS]at h; exact absurd ⟨h.1,h.2.1⟩ hne
     | succ m=>exact uv l (i+1) m r j c (by simpa using h)
theorem gV{g:Gh}{F G:Nat->Nat->Prop}{st:St}:∀(q:List (Nat×Nat×RC)) (i:Nat),Lf st (st.setCells q) (kM g F G q i)
 | [],i=>⟨rfl,fun _=>rfl,fun _ _=>rfl,fun _ _=>rfl⟩
 | (r,j,c)::l,i=>by
   have ih:=gV (g:=g) (F:=F) (G:=G) (st:=st) l (i+1);refine⟨by simp only[St.setCells]; rw[eO]; exact ih.tm,fun r'=>by simp only[St.setCells]; rw[jG]; exact ih.shape r',fun r' j' => ?_,fun r' hr => ?_⟩
   . simp only[St.setCells];rw[da];simp only[kM];split
     . rw[ih.cell];split
       . simp[Option.map_map];rfl
       . rfl
     . exact ih.cell r' j'
   . simp only[St.setCells];rw[iw];by_cases e:r=r'
     . have:=hr j;simp[kM,e]at this
     . rw[if_neg e];refine ih.rt r' fun j' => ?_
       have:=hr j';simp only[kM]at this;rw[if_neg (fun hh=>e hh.1)]at this;exact this
theorem JO.get{g:Gh}{st:St}{w w':World}{F G:Nat->Nat->Prop}:∀(q:List (Nat×Nat×RC)) (i m:Nat) (r j:Nat) (c:RC),JO g st w w' F G q i->q[m]? = some (r,j,c)->E3 g st w w' r j c (F (i+m)) (G (i+m))/\∀ b,F (i+m) b->g.fp r j b
 | [],_,_,_,_,_,_,h=>by simp at h
 | (r0,j0,c0)::l,i,0,r,j,c,h,hq=>by simp only[aes,aem,aeS]at hq;obtain⟨rfl,rfl,rfl⟩:=hq;exact h.1
 | (r0,j0,c0)::l,i,m+1,r,j,c,h,hq=>by have:=JO.get l (i+1) m r j c h.2 (by simpa using hq);rw[show i+1+m=i+(m+1)by omega]at this;exact this
theorem w9:∀(l:List Ln) (r j m:Nat) (n:Ln),GD r j l=false->l[m]? = some n->¬ (n.r=r/\n.j=j)
 | [],_,_,_,_,_,h=>by simp at h
 | n0::l,r,j,m,n,h,hm=>by
   simp only[GD,af2]at h;cases m with
   | zero => simp only[aes,aem]at hm;subst hm;rintro⟨rfl,rfl⟩;simp at h
   | succ m=>exact w9 l r j m n h.2 (by simpa using hm)
theorem uy:∀(l:List Ln) (m m':Nat) (n n':Ln),noTwo l=true->l[m]? = some n->l[m']? = some n'->n.r=n'.r->n.j=n'.j->m=m'
 | [],_,_,_,_,_,h,_,_,_=>by simp at h
 | n0::l,m,m',n,n',h,h1,h2,e1,e2=>by
   simp only[noTwo,aen,ae8]at h;cases m with
   | zero =>
     cases m' with
     | zero=>rfl
     | succ m' => simp only[aes,aem]at h1;subst h1;exact(w9 l n0.r n0.j m' n' h.1 (by simpa using h2) ⟨e1.symm,e2.symm⟩).elim
   | succ m =>
     cases m' with
     | zero => simp only[aes,aem]at h2;subst h2;exact(w9 l n0.r n0.j m n h.1 (by simpa using h1) ⟨e1,e2⟩).elim
     | succ m'=>exact aeU (· + 1) (uy l m m' n n' h.2 (by simpa using h1) (by simpa using h2) e1 e2)
theorem fS.get{g:Gh}{st:St}{F:Nat->Nat->Prop}:∀(l:List Ln) (r:List (K×Value)) (i m:Nat) (n:Ln),fS g st w F l r i->l[m]? = some n->∀ b,F (i+m) b->g.fp n.r n.j b
 | [],_,_,_,_,_,h=>by simp at h
 | n0::l,p::r,i,0,n,h,hm=>by simp only[aes,aem]at hm;subst hm;exact h.1.sub
 | n0::l,p::r,i,m+1,n,h,hm=>by have:=fS.get l r (i+1) m n h.2 (by simpa using hm);rw[show i+1+m=i+(m+1)by omega]at this;exact this
 | _::_,[],_,_,_,h,_=>h.elim
theorem uP{st:St}{dst:Option Nat}{tvs:List TV}:∀ {l:List Su} {st':St},(st.oK dst l tvs).run=some st'->∃ s ns x z y tv q,s∈l/\(ko s.rs=false/\s.fresh=true)/\noTwo ns=true/\st.cf s.ps tvs=some (ns,x)/\s.tB x=some (z,y)/\ij (qk 0 true s.rs y 0)=some tv/\st.sZ ns (ke s.ps z)=some q/\st'=(st.setCells q).Ee dst tv
 | [],st',h=>by simp[St.oK,Tr.run]at h
 | s::r,st',h=>by
   have again:(st.oK dst r tvs).run=some st'->∃ s' ns x z y tv q,s'∈s::r/\(ko s'.rs=false/\s'.fresh=true)/\noTwo ns=true/\st.cf s'.ps tvs=some (ns,x)/\s'.tB x=some (z,y)/\ij (qk 0 true s'.rs y 0)=some tv/\st.sZ ns (ke s'.ps z)=some q/\st'=(st.setCells q).Ee dst tv:=fun h=>by obtain⟨s',ns,x,z,y,tv,q,h1,h2⟩:=uP h;exact⟨s',ns,x,z,y,tv,q,aeD _ h1,h2⟩
   unfold St.oK at h;cases hq:ko s.rs|| !s.fresh with
   | true=>rw[hq]at h; exact again h
   | false =>
     rw[hq]at h;simp only[oF]at h;simp only[af2,ahb]at hq;split at h
     . rename_i ns x hx;split at h
       . rename_i f hf;cases hn:noTwo ns with
         | false=>rw[hn]at h; simp[Tr.run]at h
         | true => rw[hn]at h;simp only[oT,Tr.run,afC]at h;obtain⟨⟨z,y⟩,h0,h⟩:=h;obtain⟨tv,h1,h⟩:=Tr.af h;obtain⟨q,h2,h⟩:=Tr.af h;simp only[Tr.run,aem]at h;exact⟨s,ns,x,z,y,tv,q,aeH ..,hq,hn,hx,by simp[Su.tB,hf,h0],h1,h2,h.symm⟩
       . simp[Tr.run]at h
     . exact again h
theorem Kt(hga:dw P E){g:Gh}{st:St}(h:Rel cx Z g st a w)(hn:cu st)(hsz:Fit cx E a){o:Oper}{dst:Option Nat}(hdn:∀ d,dst=some d->jL cx a d)(hd:o.dst=dst){c:Call}{f:Operand}{gid:Nat}{caps:List (Bool×List AV)}{l:List TV}
 (ho:o.op= .call c)(hcal:c.callee= .value f)(hg:st.get f=some (.fn gid caps))(hl:st.getAll c.args.toList=some l){st':St}
 (hrun:(st.oK dst (E.ga gid) (l++caps.map fun p=>bif p.1 then .agg p.2 else (match p.2 with | [a]=> .v a | _=> .agg p.2))).run=some st'):nU P cx E st' a w o:=by
 have hc:=hn.cons.cons;obtain⟨s,ns,x,z,y,tv,q,hs,⟨hsl,hfr⟩,hnt,hx,hy,hw,hq,rfl⟩:=uP hrun;obtain⟨cv,ef,ec⟩:=bb h hc hg;have hrel:=fG.app (iQ h hc _ _ hl) (kD _ _ ec);have hvs:c.args.toList.map a.eval++cv.toList=(c.args.map a.eval++cv).toList:=by simp
 rw[hvs]at hrel;obtain⟨F,k1,k2,k3⟩:=nv h (Z':=Zb Z g st) (fun _ h _=> .inl h) (fun r R hR hb=> .inr ⟨r,R,hR,hb,rfl⟩) s.ps _ _ 0 ns x hrel hx;have hin:∀ i b,F i b->∃ n,ns[i]? = some n/\g.fp n.r n.j b:=fun i b hb=>by
  have hlt:i<ns.length:=by have:=(k3 i b hb).2; omega
  have:=fS.get ns _ 0 i _ k2 (aer hlt) b (by rw[aey]; exact hb);exact⟨_,aer hlt,this⟩
 have hdis:∀ i j b,F i b->F j b->i=j:=fun i j b h1 h2=>by obtain⟨n1,q1,q2⟩:=hin i b h1;obtain⟨n2,q3,q4⟩:=hin j b h2;obtain⟨e1,e2⟩:=h.disj _ _ _ _ b q2 q4;exact uy ns i j n1 n2 hnt q1 q3 e1 e2
 have hsu:=hga.1 gid s hs w (Zb Z g st) F _ x (z,y) (h.gl.mono (oR _) fun b hb _=>⟨.inl hb,rfl⟩) k1 (TD h) (fun i b hb=>by obtain⟨n,_,q2⟩:=hin i b hb; exact⟨(h.fp _ _ _ q2).1,RX h q2⟩) hdis hy;have htv:¬ tv.gJ:=lz hw;have hnm:cu ((st.setCells q).Ee dst tv):=fun t tv' ht=>by
  cases dst with
  | none => have e:(st.setCells q).tm=st.tm:=(gV (g:=g) (F:=F) (G:=F) q 0).tm;exact hn t tv' (by rw[<- e]; exact ht)
  | some d =>
    have e:(st.setCells q).tm=st.tm:=(gV (g:=g) (F:=F) (G:=F) q 0).tm;simp only[St.Ee]at ht;rw[ck]at ht;split at ht
    . simp only[aem]at ht; subst ht; exact htv
    . exact hn t tv' (by rw[<- e]; exact ht)
 refine⟨hnm,fun next Q hk => ?_⟩;unfold Oper.wp;rw[oC ho hcal ef];refine th hsu ?_;rintro v w' ⟨Z',H,vs,rfl,ha,hio,hr⟩;have hlen:(c.args.map a.eval++cv).toList.length=s.ps.length:=gC _ _ _ _ k1;have hpost:=pb s.ps z _ 0 (lG s.ps _ _ hx) hlen hio;have hgsub:∀ i b,H (2 * i) b->(∃ m,F m b)∨w.heap.size<=b:=fun i b hb=>(ha.fp _ b hb).2.2
 have hsame:∀(m:Nat) (n:Ln),ns[m]? = some n->∀ b i,F i b->g.fp n.r n.j b->i=m:=fun m n hm b i hi hb=>by obtain⟨n1,q1,q2⟩:=hin i b hi;obtain⟨e1,e2⟩:=h.disj _ _ _ _ b q2 hb;exact uy ns i m n1 n hnt q1 hm e1 e2
 rw[hfr]at hr;obtain⟨hQ,hnames⟩:=zA (w:=w) (w':=w') (F:=F) (G:=fun i=>H (2 * i)) ns _ _ 0 q hq k2 hpost fun m n hm=>by
  rw[aey];refine⟨fun b hb hfb => ?_,fun b hlt hfb hnF=>ha.block b hlt fun i hi => ?_⟩
  . rcases hgsub m b hb with ⟨i,hi⟩ | hnew
    . have:=hsame m n hm b i hi hfb;rw[<- this]; exact hi
    . have:=(h.fp _ _ _ hfb).1;omega
  . have:=hsame m n hm b i hi hfb;exact hnF (this ▸ hi)
 have hname:∀(m r j:Nat) (c':RC),q[m]? = some (r,j,c')->∃ n:Ln,ns[m]? = some n/\n.r=r/\n.j=j:=fun m r j c' hm=>by
  have h1:(q.map (fun q=>(q.1,q.2.1)))[m]? = some (r,j):=by rw[ae2,hm]; rfl
  rw[hnames,ae2]at h1;cases hm2:ns[m]? with
  | none=>rw[hm2]at h1; simp at h1
  | some n => rw[hm2]at h1;simp only[aeM,aem,aeS]at h1;exact⟨n,rfl,h1.1,h1.2⟩
 have hnameB:∀(m:Nat) (n:Ln),ns[m]? = some n->∃ p,kM g F (fun i=>H (2 * i)) q 0 n.r n.j=some p:=fun m n hm=>by
  have h1:(ns.map fun n=>(n.r,n.j))[m]? = some (n.r,n.j):=by rw[ae2,hm]; rfl
  rw[<- hnames,ae2]at h1;cases hm2:q[m]? with
  | none=>rw[hm2]at h1; simp at h1
  | some c' => obtain⟨r1,j1,c1⟩:=c';rw[hm2]at h1;simp only[aeM,aem,aeS]at h1;obtain⟨rfl,rfl⟩:=h1;exact uv q 0 m _ _ c1 hm2
 have hlent:=gV (g:=g) (F:=F) (G:=fun i=>H (2 * i)) (st:=st) q 0
 obtain⟨hR,hM⟩:=h.su hlent ha.os ha.tape ha.output ha.size
  (fun r j p hp=>by obtain⟨m,e1,e2⟩:=eH q 0 r j p hp;obtain⟨⟨c0,e,ks,xs,xs',f1,f2,f3,f4,f5,f6,f7⟩,_⟩:=JO.get q 0 m r j p.1 hQ e1;exact⟨c0,f1,f2,f3,e,ks,xs,xs',f4,f5,f6,by rw[e2]; exact f7⟩)
  (fun r j p hp b hb=>by
    obtain⟨m,e1,e2⟩:=eH q 0 r j p hp;rw[e2]at hb;rcases hb with ⟨hb,_⟩ | hb
    . obtain⟨t1,t2,t3,_⟩:=h.fp r j b hb;exact⟨aeJ t1 ha.size,.inl ⟨r,j,p,hp,hb⟩,t3⟩
    . obtain⟨t1,t2,t3⟩:=ha.fp _ b hb;refine⟨t1,?_,fun hz=>t2 (ha.z b (.inl hz))⟩;rcases t3 with ⟨i,hi⟩ | hnew
      . obtain⟨n,q1,q2⟩:=hin i b hi;obtain⟨p0,hp0⟩:=hnameB i n q1;exact .inl ⟨n.r,n.j,p0,hp0,q2⟩
      . exact .inr hnew)
  (fun r j p r' j' p' b hp hp' hb hb'=>by
    obtain⟨m,e1,e2⟩:=eH q 0 r j p hp;obtain⟨m',e1',e2'⟩:=eH q 0 r' j' p' hp';rw[e2]at hb;rw[e2']at hb';rw[aey]at hb hb';have cross:∀ m r j c1 i,q[m]? = some (r,j,c1)->g.fp r j b->¬ F m b->H (2 * i) b->False:=fun m r j c1 i e1 k1 k2 k3=>by
     obtain⟨n,t1,t2,t3⟩:=hname m r j c1 e1;rcases hgsub i b k3 with ⟨i',hi'⟩ | hnew
     . have:=hsame m n t1 b i' hi' (by rw[t2,t3]; exact k1);exact k2 (this ▸ hi')
     . have:=(h.fp _ _ _ k1).1; omega
    rcases hb with ⟨hb,hb2⟩ | hb
    . rcases hb' with ⟨hb',_⟩ | hb'
      . exact h.disj _ _ _ _ b hb hb'
      . exact(cross m r j _ m' e1 hb hb2 hb').elim
    . rcases hb' with ⟨hb',hb2'⟩ | hb'
      . exact(cross m' r' j' _ m e1' hb' hb2' hb).elim
      . have:=ha.disj _ _ b hb hb';have hmm:m=m':=by omega
        subst hmm;rw[e1]at e1';simp only[aem,aeS]at e1';exact⟨e1'.1,e1'.2.1⟩)
  (fun b hlt hnl=>ha.block b hlt fun i hi=>by obtain⟨n,q1,q2⟩:=hin i b hi;obtain⟨p0,hp0⟩:=hnameB i n q1;exact hnl _ _ p0 hp0 q2)
 rw[hd];cases dst with
 | none=>exact hk _ _ _ _ hR hsz
 | some d=>exact hk _ _ _ _ (hR.mJ (hdn d rfl) (fx (kH _ _ _ _ hr (fun hh=>by simp at hh) (fun _=>hsl)) hw)) (hsz.put _ _)
end
section
variable{P:Program}{cx:Cx P}{Z Z2:Nat->Prop}{g:Gh}{st st':St}{a:Act}{w w':World}{E:En}
def Gh.CD(g:Gh)(r:Nat)(cv:Nat->Value)(fp:Nat->Nat->Prop):Gh:=⟨g.be,fun r' j=>if r'=r then cv j else g.cv r' j,fun r' j b=>if r'=r then fp j b else g.fp r' j b⟩
theorem Rel.yG(h:Rel cx Z g st a w){r:Nat}{R:Rt}(hR:look st.rt r=some R)(hb:R.box=true):g.be r<w.heap.size:=by obtain⟨_,_,_,_,cs,el,fr,b5,_⟩:=h.box r R hR hb;exact(aeP.1 b5).1
theorem Rel.XE(h:Rel cx Z g st a w){r:Nat}{R R':Rt}{cv:Nat->Value}{fp:Nat->Nat->Prop}(hR:look st.rt r=some R)(hb:R.box=true)(hb':R'.box=true)(hlen:R'.cells.length=R.cells.length)(htm:st'.tm=st.tm)
 (hrt:∀ r',look st'.rt r'=if r'=r then some R' else look st.rt r')(h1:w'.os=w.os)(h2:w'.tape=w.tape)(h3:w'.output=w.output)(hsz:w.heap.size<=w'.heap.size)
 (hver:∀(j:Nat) (c c':RC),R.cells[j]? = some c->R'.cells[j]? = some c'->c.s<c'.s/\c.m<c'.m)
 (hz:∀ b,Z b->Z2 b)(hz2:∀ b,Z2 b->b<w'.heap.size/\(Z b∨w.heap.size<=b))
 (hcells:∃ vs e fr,w'.heap[g.be r]? = some (.cells vs e fr)/\(∀ q,q<vs.size->¬ (fr.1<=q/\q<fr.2))/\vs.size=R'.cells.length/\∀ j,j<vs.size->vs[j]? = some (cv j))
 (hcell:∀(j:Nat) (c':RC),R'.cells[j]? = some c'->match c'.v with | RV.own k x=>cZ w' k x (cv j) (fp j) | .av (.d k x)=>RO Z2 w' k x (cv j) | .av _=>False)
 (hF:∀ j b,fp j b->b<w'.heap.size/\((∃ j0,g.fp r j0 b)∨w.heap.size<=b)/\¬ Z2 b/\b≠g.be r/\∃(c':RC) (k:K) (x:T k),R'.cells[j]? = some c'/\c'.v=RV.own k x)
 (hd:∀ j j' b,fp j b->fp j' b->j=j')
 (hblk:∀ b,b<w.heap.size->b≠g.be r->(∀ j,¬ g.fp r j b)->w'.heap[b]? = w.heap[b]?):Rel cx Z2 (g.CD r cv fp) st' a w':=by
 have hbe:=h.yG hR hb;obtain⟨c1,c2,c3,c4,_⟩:=h.box r R hR hb;have hzn:∀ b,b<w.heap.size->Z2 b->Z b:=fun b hlt hh=>(hz2 b hh).2.elim id fun hh=>by omega
 have hzw:∀ b,Z b->b<w.heap.size->w'.heap[b]? = w.heap[b]? := fun b hb hlt=>hblk b hlt (fun e=>c2 (e ▸ hb)) fun j hh=>(h.fp _ _ _ hh).2.2.1 hb
 have hfpo:∀ r' j b,r'≠r->g.fp r' j b->w'.heap[b]? = w.heap[b]? := fun r' j b hn hb'=>hblk b (h.fp r' j b hb').1 (fun e=>c3 r' j (e ▸ hb')) fun j0 hh=>hn (h.disj _ _ _ _ _ hb' hh).1
 have hcellr:∀ r' j,st'.cell r' j=if r'=r then R'.cells[j]? else st.cell r' j:=fun r' j=>by simp only[St.cell,hrt];by_cases e:r'=r <;> simp[e]
 have hcr:∀ j,st.cell r j=R.cells[j]? := fun j=>by simp only[St.cell,hR]
 have k:mF Z Z2 w w' g (g.CD r cv fp) st st':=by
  refine { size:=hsz,z:=fun b hb hlt=>⟨hz b hb,hzw b hb hlt⟩,root:=fun r' R0 hR0 => ?_,cell:=fun r' j c hc => ?_,own:=fun r' j b hb=>(h.fp r' j b hb).1,block:=(fm h (st':=st) (w':=w) rfl rfl).block }
  . rw[hrt];by_cases e:r'=r
    . subst e;rw[if_pos rfl];rw[hR]at hR0;cases hR0;exact⟨R',rfl,hb'.trans hb.symm,fun _=>rfl⟩
    . rw[if_neg e];exact⟨R0,hR0,rfl,fun _=>rfl⟩
  . rw[hcellr];by_cases e:r'=r
    . subst e;rw[if_pos rfl];rw[hcr]at hc;have hlt:j<R'.cells.length:=by rw[hlen]; exact(aeV.1 hc).1
      obtain⟨v1,v2⟩:=hver j c _ hc (aer hlt);exact⟨_,aer hlt,by omega,by omega,fun e=>absurd e (by omega),fun e=>absurd e (by omega),fun e=>absurd e (by omega)⟩
    . rw[if_neg e];exact⟨c,hc,oR _,oR _,fun _=>by simp only[Gh.CD]; rw[if_neg e],fun _ e ks xs hh=>⟨xs,hh,rfl⟩,fun _ _=>⟨rfl,fun b hb _=>⟨by simp only[Gh.CD]; rw[if_neg e]; exact hb,hfpo r' j b e hb⟩⟩⟩
 have hfpi:∀ r' j b,(g.CD r cv fp).fp r' j b->(r'=r/\fp j b)∨(r'≠r/\g.fp r' j b):=fun r' j b hh=>by
  have hh':(if r'=r then fp j b else g.fp r' j b):=hh;by_cases e:r'=r
  . rw[if_pos e]at hh'; exact .inl ⟨e,hh'⟩
  . rw[if_neg e]at hh'; exact .inr ⟨e,hh'⟩
 have hnb:∀ r' R0,look st.rt r'=some R0->R0.box=true->∀ r1 j1,¬ (g.CD r cv fp).fp r1 j1 (g.be r'):=fun r' R0 hR0 hx r1 j1 hh=>by
  obtain⟨d1,d2,d3,d4,_⟩:=h.box r' R0 hR0 hx;have hlt:=h.yG hR0 hx;rcases hfpi _ _ _ hh with ⟨_,hh⟩ | ⟨_,hh⟩
  . obtain⟨f1,f2,f3,f4,_⟩:=hF _ _ hh;rcases f2 with ⟨j0,f2⟩ | f2
    . exact d3 _ _ f2
    . omega
  . exact d3 _ _ hh
 refine { os:=h1.trans h.os,tape:=h2.trans h.tape,output:=h3.trans h.output,size:=aeu h.size hsz,block := ?_,bV:=fun b hb=>⟨(hz2 b hb).1,(hz2 b hb).2.elim (fun hh=>(h.bV b hh).2) fun hh=> .inr (aeu h.size hh)⟩,z0:=fun b hb hlt=>hz b (h.z0 b hb hlt),fp := ?_,disj := ?_,box := ?_,cell := ?_,tm := ?_,defers:=h.defers,pin:=h.pin }
 . intro b hlt hf;refine(hblk b (aeJ hlt h.size) (fun e => ?_) fun j hh => ?_).trans (h.block b hlt hf)
   . rcases c1 with c1 | c1
     . exact hf (e ▸ c1)
     . omega
   . rcases(h.fp _ _ _ hh).2.1 with h4 | h4
     . exact hf h4
     . omega
 . intro r' j b hh;rcases hfpi _ _ _ hh with ⟨e,hk⟩ | ⟨e,hh⟩
   . subst e;obtain⟨f1,f2,f3,f4,c',kk,x,f5,f6⟩:=hF _ _ hk;refine⟨f1,?_,f3,c',kk,x,by rw[hcellr,if_pos rfl]; exact f5,f6⟩;rcases f2 with ⟨j0,f2⟩ | f2
     . exact(h.fp _ _ _ f2).2.1
     . exact .inr (aeu h.size f2)
   . obtain⟨k1,k2,k3,c,kk,x,k4,k5⟩:=h.fp _ _ _ hh;exact⟨aeJ k1 hsz,k2,fun hh=>k3 (hzn b k1 hh),c,kk,x,by rw[hcellr,if_neg e]; exact k4,k5⟩
 . intro r1 j1 r2 j2 b hb1 hb2;rcases hfpi _ _ _ hb1 with ⟨e1,k1⟩ | ⟨e1,k1⟩
   . rcases hfpi _ _ _ hb2 with ⟨e2,k2⟩ | ⟨e2,k2⟩
     . exact⟨e1.trans e2.symm,hd _ _ b k1 k2⟩
     . exfalso;rcases(hF _ _ k1).2.1 with ⟨j0,hh⟩ | hh
       . exact e2 (h.disj _ _ _ _ _ k2 hh).1
       . have:=(h.fp _ _ _ k2).1; omega
   . rcases hfpi _ _ _ hb2 with ⟨e2,k2⟩ | ⟨e2,k2⟩
     . exfalso;rcases(hF _ _ k2).2.1 with ⟨j0,hh⟩ | hh
       . exact e1 (h.disj _ _ _ _ _ k1 hh).1
       . have:=(h.fp _ _ _ k1).1; omega
     . exact h.disj _ _ _ _ _ k1 k2
 . intro r' R0 hR0 hx;rw[hrt]at hR0;by_cases e:r'=r
   . subst e;rw[if_pos rfl]at hR0;cases hR0;obtain⟨vs,el,fr,w1,w2,w3,w4⟩:=hcells;refine⟨c1,fun hh=>c2 (hzn _ hbe hh),hnb _ R hR hb,fun r1 R1 hR1 hx1 he => ?_,vs,el,fr,w1,w2,w3,fun j hj=>by rw[w4 j hj]; simp[Gh.CD]⟩;rw[hrt]at hR1;by_cases e1:r1=r'
     . exact e1
     . rw[if_neg e1]at hR1;exact c4 r1 R1 hR1 hx1 he
   . rw[if_neg e]at hR0;obtain⟨d1,d2,d3,d4,cs,el,fr,b5,b6,b7,b8⟩:=h.box r' R0 hR0 hx;have hlt:=h.yG hR0 hx;refine⟨d1,fun hh=>d2 (hzn _ hlt hh),hnb _ R0 hR0 hx,fun r1 R1 hR1 hx1 he => ?_,cs,el,fr,?_,b6,b7,fun j hj=>by rw[b8 j hj]; simp only[Gh.CD]; rw[if_neg e]⟩
     . rw[hrt]at hR1;by_cases e1:r1=r
       . subst e1;exact d4 r1 R hR hb he
       . rw[if_neg e1]at hR1;exact d4 r1 R1 hR1 hx1 he
     . show w'.heap[g.be r']? = _;rw[hblk _ hlt (fun he=>e (c4 r' R0 hR0 hx he)) fun j hh=>d3 _ _ hh];exact b5
 . intro r' j c hc;rw[hcellr]at hc;by_cases e:r'=r
   . subst e;rw[if_pos rfl]at hc;have h5:=hcell j c hc;have e1:(g.CD r' cv fp).cv r' j=cv j:=by simp[Gh.CD]
     have e2:(g.CD r' cv fp).fp r' j=fp j:=by funext b; simp[Gh.CD]
     rw[e1,e2];cases hv:c.v with
     | own kk x=>rw[hv]at h5; exact h5
     | av av0 => rw[hv]at h5;cases av0 <;> first | exact h5 | exact h5.elim
   . rw[if_neg e]at hc;have e1:(g.CD r cv fp).cv r' j=g.cv r' j:=by simp[Gh.CD,e]
     have e2:(g.CD r cv fp).fp r' j=g.fp r' j:=by funext b; simp[Gh.CD,e]
     rw[e1,e2];exact jU.ct k _ _ _ _ (h.cell r' j c hc) (fun _ h=>h) (fun b hb _=>hfpo r' j b e hb)
 . intro t tv ht;rw[htm]at ht;exact⟨(h.tm t tv ht).1,bL.ct k _ _ (h.tm t tv ht).2⟩
end
section
variable{P:Program}{cx:Cx P}{Z:Nat->Prop}{g:Gh}{st:St}{a:Act}{w:World}{E:En}
theorem z7{cs:List (Bool×K)}{ps:List PK}{tv:TV}{r:List TV}{p:Option (Nat×List RC)×PT (.pw cs::ps)}(h:st.cl (.pw cs::ps) (tv::r)=some p) :
 ∃ q l0 z y,tv= .v (.ptr q 0)/\look st.rt q=some ⟨true,l0⟩/\l0.length<=200000/\ed st cs l0=some z/\st.cl ps r=some (none,y)/\p.1=some (q,l0)/\p.2=(z,y):=by
 cases tv with
 | v av =>
   cases av with
   | ptr q j =>
     cases j with
     | zero =>
       simp only[St.cl]at h;split at h
       . rename_i l0 hl;cases hb:Nat.ble l0.length 200000 with
         | false=>rw[hb]at h; simp at h
         | true =>
           rw[hb]at h;simp only[oT]at h;split at h
           . rename_i z y hz hy;cases h;exact⟨q,l0,z,y,rfl,hl,aeI hb,hz,hy,rfl,rfl⟩
           . simp at h
       . simp at h
     | succ j=>simp[St.cl]at h
   | _=>simp[St.cl]at h
 | _=>simp[St.cl]at h
theorem oo(h:Rel cx Z g st a w):∀(ps:List PK) (l:List TV) (vs:List Value) (x:PT ps) (F:Nat->Nat->Prop) (i:Nat),fG Z g st w l vs->st.cl ps l=some (none,x)->dH Z w F ps x vs i
 | [],[],[],_,_,_,_,_=>trivial
 | [],[],_::_,_,_,_,h1,_=>h1.elim
 | [],_::_,_,_,_,_,_,h2=>by simp[St.cl]at h2
 | .c gg ks::ps,[],_,x,F,i,h1,h2=>by simp[St.cl]at h2
 | .c gg ks::ps,tv::r,[],x,F,i,h1,h2=>h1.elim
 | .c gg ks::ps,tv::r,v::vs,x,F,i,h1,h2=>by
   unfold St.cl at h2;cases hl:tv.cP with
   | none=>rw[hl]at h2; simp at h2
   | some p =>
     obtain⟨gg',l⟩:=p;rw[hl]at h2;simp only at h2;cases hb:ca gg gg'&&l.all AV.bK with
     | false=>rw[hb]at h2; simp at h2
     | true =>
       rw[hb]at h2;simp only[oT]at h2;simp only[aen]at hb;have hg:=dW hb.1;subst hg;split at h2
       . rename_i z q hz hq;obtain⟨q1,q2⟩:=q;cases h2;obtain⟨us,e1,e2⟩:=gI (ky h1.1 hl);exact⟨⟨us,e1,df h ks l us z e2 hb.2 hz⟩,oo h ps r vs _ F i h1.2 hq⟩
       . simp at h2
 | .fn f cs::ps,[],_,x,F,i,h1,h2=>by simp[St.cl]at h2
 | .fn f cs::ps,tv::r,[],x,F,i,h1,h2=>h1.elim
 | .fn f cs::ps,tv::r,v::vs,x,F,i,h1,h2=>by
   cases tv with
   | fn f' caps =>
     unfold St.cl at h2;cases hb:Nat.beq f f' with
     | false=>rw[hb]at h2; simp at h2
     | true =>
       rw[hb]at h2;simp only[oT]at h2;have hf:=beq_eq hb;subst hf;split at h2
       . rename_i z q hz hq;obtain⟨q1,q2⟩:=q;cases h2;obtain⟨us,e1,e2⟩:=h1.1;exact⟨⟨us,e1,lR h (fun _ h _=>h) (fun hh=>by simp at hh) cs caps us.toList z e2 hz⟩,oo h ps r vs _ F i h1.2 hq⟩
       . simp at h2
   | _=>simp[St.cl]at h2
 | .pw cs::ps,[],_,x,F,i,h1,h2=>by simp[St.cl]at h2
 | .pw cs::ps,tv::r,_,x,F,i,h1,h2=>by obtain⟨q,l0,z,y,_,_,_,_,_,hh,_⟩:=z7 h2;cases hh
 | .pt _::_,_,_,x,F,i,h1,h2=>by simp[St.cl]at h2
 | .nil::_,_,_,x,F,i,h1,h2=>by simp[St.cl]at h2
 | .io _ _::_,_,_,x,F,i,h1,h2=>by simp[St.cl]at h2
 | .mv _::_,_,_,x,F,i,h1,h2=>by simp[St.cl]at h2
theorem Wk(h:Rel cx Z g st a w){q:Nat}{cs:List (Bool×K)}{l0:List RC}{z:BT cs}(e2:look st.rt q=some ⟨true,l0⟩)(e4:ed st cs l0=some z):Rb Z w (Sw g st ((q,200000)::dv q cs 0)) cs z (.pointer (some ⟨g.be q,0,none⟩)) 0:=by
 obtain⟨b1,b2,b3,b4,us,el,fr,b5,b6,b7,b8⟩:=h.box q _ e2 rfl;have hcell:∀ j c,l0[j]? = some c->st.cell q j=some c:=fun j c hj=>by simp only[St.cell,e2]; exact hj
 have hback:=lP h (r:=q) ((q,200000)::dv q cs 0) cs l0 z 0 us.toList [(q,200000)] [] (fun j c hj=>by rw[aey]; exact hcell j c hj) (by rw[aeX]; exact b7) (fun j u hj=>by
  rw[aey];have hj':j<us.size:=by have:=(aeV.1 hj).1;simpa using this
  have:=b8 j hj';rw[<- aep,hj]at this;exact ae9 this) e4 (by simp)
 exact⟨g.be q,us,el,fr,rfl,b5,b6,⟨_,rfl,.inr ⟨rfl,⟨_,e2,rfl⟩,rfl⟩⟩,hback⟩
theorem oa(h:Rel cx Z g st a w):∀(ps:List PK) (l:List TV) (vs:List Value) (x:PT ps) (q:Nat) (l0:List RC),fG Z g st w l vs->st.cl ps l=some (some (q,l0),x) ->
 ∃(cs:List (Bool×K)) (z0:BT cs),look st.rt q=some ⟨true,l0⟩/\l0.length<=200000/\ed st cs l0=some z0/\dH Z w (Sw g st ((q,200000)::dv q cs 0)) ps x vs 0 /\
  ∀(Z':Nat->Prop) (w':World) (G:Nat->Nat->Prop) (y:rO ps),tY Z' w' G ps y vs 0->∃ z:BT cs,iK ps y=bP cs z/\Rb Z' w' G cs z (.pointer (some ⟨g.be q,0,none⟩)) 0
 | [],[],_,_,_,_,_,h2=>by simp only[St.cl]at h2; cases h2
 | [],_::_,_,_,_,_,_,h2=>by simp[St.cl]at h2
 | .c gg ks::ps,[],_,x,q,l0,h1,h2=>by simp[St.cl]at h2
 | .c gg ks::ps,tv::r,[],x,q,l0,h1,h2=>h1.elim
 | .c gg ks::ps,tv::r,v::vs,x,q,l0,h1,h2=>by
   unfold St.cl at h2;cases hl:tv.cP with
   | none=>rw[hl]at h2; simp at h2
   | some p =>
     obtain⟨gg',l⟩:=p;rw[hl]at h2;simp only at h2;cases hb:ca gg gg'&&l.all AV.bK with
     | false=>rw[hb]at h2; simp at h2
     | true =>
       rw[hb]at h2;simp only[oT]at h2;simp only[aen]at hb;have hg:=dW hb.1;subst hg;split at h2
       . rename_i z p hz hq;obtain⟨q1,q2⟩:=p;cases h2;obtain⟨us,e1,e2⟩:=gI (ky h1.1 hl);obtain⟨cs,z0,k1,k2,k3,k4,k5⟩:=oa h ps r vs _ q l0 h1.2 hq;exact⟨cs,z0,k1,k2,k3,⟨⟨us,e1,df h ks l us z e2 hb.2 hz⟩,k4⟩,fun Z' w' G y hy=>k5 Z' w' G y hy⟩
       . simp at h2
 | .fn f cs::ps,[],_,x,q,l0,h1,h2=>by simp[St.cl]at h2
 | .fn f cs::ps,tv::r,[],x,q,l0,h1,h2=>h1.elim
 | .fn f cs::ps,tv::r,v::vs,x,q,l0,h1,h2=>by
   cases tv with
   | fn f' caps =>
     unfold St.cl at h2;cases hb:Nat.beq f f' with
     | false=>rw[hb]at h2; simp at h2
     | true =>
       rw[hb]at h2;simp only[oT]at h2;have hf:=beq_eq hb;subst hf;split at h2
       . rename_i z p hz hq;obtain⟨q1,q2⟩:=p;cases h2;obtain⟨us,e1,e2⟩:=h1.1;obtain⟨cs',z0,k1,k2,k3,k4,k5⟩:=oa h ps r vs _ q l0 h1.2 hq;exact⟨cs',z0,k1,k2,k3,⟨⟨us,e1,lR h (fun _ h _=>h) (fun hh=>by simp at hh) cs caps us.toList z e2 hz⟩,k4⟩,fun Z' w' G y hy=>k5 Z' w' G y hy⟩
       . simp at h2
   | _=>simp[St.cl]at h2
 | .pw cs::ps,[],_,x,q,l0,h1,h2=>by simp[St.cl]at h2
 | .pw cs::ps,tv::r,[],x,q,l0,h1,h2=>h1.elim
 | .pw cs::ps,tv::r,v::vs,x,q,l0,h1,h2=>by obtain⟨q',l0',z,y,e1,e2,e3,e4,e5,e6,e7⟩:=z7 h2;simp only[aem,aeS]at e6;obtain⟨rfl,rfl⟩:=e6;have e7:x=(z,y):=e7;subst e7;subst e1;obtain⟨R,r1,r2,rfl⟩:=h1.1;exact⟨cs,z,e2,e3,e4,⟨Wk h e2 e4,oo h ps r vs y _ _ h1.2 e5⟩,fun Z' w' G y hy=>⟨y.1,rfl,hy.1⟩⟩
 | .pt _::_,_,_,x,q,l0,h1,h2=>by simp[St.cl]at h2
 | .nil::_,_,_,x,q,l0,h1,h2=>by simp[St.cl]at h2
 | .io _ _::_,_,_,x,q,l0,h1,h2=>by simp[St.cl]at h2
 | .mv _::_,_,_,x,q,l0,h1,h2=>by simp[St.cl]at h2
def Et(st:St)(q:Nat)(l0:List RC)(ps:List PK)(z:rO ps):St:=⟨st.tm,(q,⟨true,jv l0 (iK ps z)⟩)::st.rt⟩
theorem uX{st:St}{dst:Option Nat}{tvs:List TV}:∀ {l:List Su} {st':St},(st.uf dst l tvs).run=some st'->∃ s q l0 x z y,s∈l/\st.cl s.ps tvs=some (some (q,l0),x)/\s.tB x=some (z,y)/\((dst=none/\st'=Et st q l0 s.ps z)∨∃ d p,dst=some d/\ep d s y=some p/\((s.fresh&&ko s.rs)=true->(Et st q l0 s.ps z).free d=true)/\st'=(Et st q l0 s.ps z).aV d p)
 | [],st',h=>by simp[St.uf,Tr.run]at h
 | s::r,st',h=>by
   unfold St.uf at h;split at h
   . rename_i q l0 x hx;split at h
     . rename_i f hf;simp only[Tr.run,afC]at h;obtain⟨⟨z,y⟩,h0,h⟩:=h;refine⟨s,q,l0,x,z,y,aeH ..,hx,by simp[Su.tB,hf,h0],?_⟩;cases dst with
       | none=>simp only[Tr.run,aem]at h; exact .inl ⟨rfl,h.symm⟩
       | some d =>
         obtain⟨p,h1,h⟩:=Tr.af h;refine .inr ⟨d,p,rfl,h1,?_⟩;cases hq: !(s.fresh&&ko s.rs)||St.free ⟨st.tm,(q,⟨true,jv l0 (iK s.ps z)⟩)::st.rt⟩ d with
         | false=>rw[hq]at h; simp[Tr.run]at h
         | true => rw[hq]at h;simp only[oT,Tr.run,aem]at h;refine⟨fun hh => ?_,h.symm⟩;rw[hh]at hq;exact hq
     . simp[Tr.run]at h
   . obtain⟨s',q,l0,x,z,y,h1,h2⟩:=uX h;exact⟨s',q,l0,x,z,y,aeD _ h1,h2⟩
theorem tg(r:Nat):∀(cs:List (Bool×K)) (j m:Nat) (nm:Nat×Nat),(dv r cs j)[m]? = some nm->nm=(r,j+m)/\m<cs.length
 | [],_,_,_,h=>by simp[dv]at h
 | _::cs,j,0,nm,h=>by simp only[dv,aes,aem]at h;exact⟨h.symm,by simp⟩
 | _::cs,j,m+1,nm,h=>by obtain⟨h1,h2⟩:=tg r cs (j+1) m nm (by simpa[dv]using h);exact⟨by rw[h1,show j+1+m=j+(m+1)by omega],by simpa using h2⟩
theorem Pr(h:Rel cx Z g st a w){q:Nat}{cs:List (Bool×K)}{l0:List RC}(e1:look st.rt q=some ⟨true,l0⟩)(e2:l0.length<=200000)(hl0:l0.length=cs.length){F:Nat->Nat->Prop}(hF:Sw g st ((q,200000)::dv q cs 0)=F) :
 (∀ i b,F i b->(i=0/\b=g.be q)∨(∃ j,i=1+j/\j<l0.length/\g.fp q j b))/\∀ i j b,F i b->F j b->i=j:=by
 obtain⟨b1,b2,b3,b4,_⟩:=h.box q _ e1 rfl;have hin:∀ i b,F i b->(i=0/\b=g.be q)∨(∃ j,i=1+j/\j<l0.length/\g.fp q j b):=fun i b hb=>by
  rw[<- hF]at hb;obtain⟨nm,n1,n2⟩:=hb;cases i with
  | zero =>
    simp only[aes,aem]at n1;subst n1;rcases n2 with n2 | ⟨_,_,n2⟩
    . exfalso;obtain⟨_,_,_,c0,_,_,n3,_⟩:=h.fp _ _ _ n2;simp only[St.cell,e1]at n3;have:=(aeV.1 n3).1;omega
    . exact .inl ⟨rfl,n2⟩
  | succ j =>
    rw[afb]at n1;obtain⟨rfl,n3⟩:=tg q cs 0 j nm n1;rw[aey]at n2;rcases n2 with n2 | ⟨n4,_,_⟩
    . exact .inr ⟨j,by omega,by omega,n2⟩
    . simp only at n4; omega
 refine⟨hin,fun i j b h1 h2 => ?_⟩;rcases hin i b h1 with ⟨i1,i2⟩ | ⟨i1,i2,_,i3⟩
 . rcases hin j b h2 with ⟨j1,j2⟩ | ⟨j1,j2,_,j3⟩
   . omega
   . exact(b3 _ _ (i2 ▸ j3)).elim
 . rcases hin j b h2 with ⟨j1,j2⟩ | ⟨j1,j2,_,j3⟩
   . exact(b3 _ _ (j2 ▸ i3)).elim
   . have:=(h.disj _ _ _ _ b i3 j3).2;omega
theorem zU:∀(l r:List RC),l.length=r.length->(jv l r).length=l.length
 | [],[],_=>rfl
 | _::l,_::r,h=>aeU (· + 1) (zU l r (by simpa using h))
 | [],_::_,h=>by simp at h
 | _::_,[],h=>by simp at h
theorem pk:∀(l r:List RC) (j:Nat) (c':RC),(jv l r)[j]? = some c'->∃ c d,l[j]? = some c/\r[j]? = some d/\c'=⟨c.s+1,c.m+1,d.v⟩
 | [],_,_,_,h=>by simp[jv]at h
 | _::_,[],_,_,h=>by simp[jv]at h
 | c::l,d::r,0,c',h=>by simp only[jv,aes,aem]at h;exact⟨c,d,rfl,rfl,h.symm⟩
 | c::l,d::r,j+1,c',h=>by obtain⟨c0,d0,h1,h2,h3⟩:=pk l r j c' (by simpa[jv]using h);exact⟨c0,d0,by simpa using h1,by simpa using h2,h3⟩
theorem Ky(hga:dw P E){g:Gh}{st:St}(h:Rel cx Z g st a w)(hn:cu st)(hsz:Fit cx E a){o:Oper}{dst:Option Nat}(hdn:∀ d,dst=some d->jL cx a d)(hd:o.dst=dst){c:Call}{f:Operand}{gid:Nat}{caps:List (Bool×List AV)}{l:List TV}
 (ho:o.op= .call c)(hcal:c.callee= .value f)(hg:st.get f=some (.fn gid caps))(hl:st.getAll c.args.toList=some l){st':St}
 (hrun:(st.uf dst (E.ga gid) (l++caps.map fun p=>bif p.1 then .agg p.2 else (match p.2 with | [a]=> .v a | _=> .agg p.2))).run=some st'):nU P cx E st' a w o:=by
 have hc:=hn.cons.cons;obtain⟨s,q,l0,x,z,y,hs,hx,hy,hw⟩:=uX hrun;obtain⟨cv,ef,ec⟩:=bb h hc hg;have hrel:=fG.app (iQ h hc _ _ hl) (kD _ _ ec);have hvs:c.args.toList.map a.eval++cv.toList=(c.args.map a.eval++cv).toList:=by simp
 rw[hvs]at hrel;obtain⟨cs,z0,e1,e2,e3,k1,k2⟩:=oa h s.ps _ _ x q l0 hrel hx;obtain⟨b1,b2,b3,b4,us0,el0,fr0,b5,b6,b7,b8⟩:=h.box q _ e1 rfl;have hbe:g.be q<w.heap.size:=h.yG e1 rfl;have hl0:l0.length=cs.length:=by rw[(lH cs l0 z0 e3).1,kU]
 generalize hF:Sw g st ((q,200000)::dv q cs 0)=F at k1;obtain⟨hin,hdis⟩:=Pr h e1 e2 hl0 hF;have hlow:∀ i b,F i b->b<w.heap.size/\¬ Z b:=fun i b hb=>by
  rcases hin i b hb with ⟨_,i2⟩ | ⟨_,_,_,i3⟩
  . rw[i2]; exact⟨hbe,b2⟩
  . exact⟨(h.fp _ _ _ i3).1,(h.fp _ _ _ i3).2.2.1⟩
 have hsu:=hga.1 gid s hs w Z F _ x (z,y) h.gl k1 (fun b hb=>(h.bV b hb).1) hlow hdis hy;have hmay:∀ d p,ep d s y=some p->¬ p.1.gJ:=fun d p hp=>by
  unfold ep at hp;split at hp
  . rename_i tv hw;simp only[aem]at hp;subst hp;exact lz hw
  . simp at hp
 refine⟨fun t tv' ht => ?_,fun next Q hk => ?_⟩
 . rcases hw with ⟨_,rfl⟩ | ⟨d,p,_,hp,_,rfl⟩
   . exact hn t tv' ht
   . rw[ck]at ht;split at ht
     . simp only[aem]at ht; subst ht; exact hmay _ _ hp
     . exact hn t tv' ht
 unfold Oper.wp;rw[oC ho hcal ef];refine th hsu ?_;rintro v w' ⟨Z',H,vs,rfl,ha,hio,hr⟩;obtain⟨z1,q1,b,us,el,fr,q2,q3,q4,q5,q6⟩:=k2 Z' w' _ _ hio;simp only[Value.pointer.injEq,aem,afK,afP]at q2;subst q2;have hel:=kU cs z1;have hcl:=rP cs z1 us.toList (0+1) q6;rw[aeX]at hcl;have hbl:(jv l0 (bP cs z1)).length=l0.length:=zU _ _ (by rw[hel]; exact hl0);have q1:iK s.ps z=bP cs z1:=q1
 have hR:=h.XE (Z2:=Z') (st':=Et st q l0 s.ps z) (w':=w') (r:=q) (R':=⟨true,jv l0 (bP cs z1)⟩) (cv:=fun j=>us.toList.getD j undef) (fp:=fun j b=>(∃ k y,(bP cs z1)[j]? = some ⟨0,0,.own k y⟩)/\H (2 * (0+1+j)) b) e1 rfl rfl hbl rfl
  (fun r'=>by
    show look ((q,(⟨true,jv l0 (iK s.ps z)⟩:Rt))::st.rt) r'=_;rw[q1,aJ];by_cases e:q=r'
    . rw[if_pos e,if_pos e.symm]
    . rw[if_neg e,if_neg (fun hh=>e hh.symm)]) ha.os ha.tape ha.output ha.size
  (fun j c c' h1 h2=>by obtain⟨c0,d0,m1,m2,rfl⟩:=pk _ _ _ _ h2;have h1:l0[j]? = some c:=h1;rw[h1]at m1;cases m1;exact⟨afl _,afl _⟩) ha.z ha.bV
  ⟨us,el,fr,q3,q4,by show us.size=(jv _ _).length; rw[hbl,hcl,hl0],fun j hj=>by
    rw[<- aep];have hj':j<us.toList.length:=by simpa using hj
    rw[List.getD,aer hj']; rfl⟩
  (fun j c' hj=>by
    obtain⟨c0,d0,m1,m2,rfl⟩:=pk _ _ _ _ hj;obtain⟨u,p1,p2⟩:=mN cs z1 us.toList (0+1) j d0 q6 m2;have hu:us.toList.getD j undef=u:=by rw[List.getD,p1]; rfl
    rcases p2 with ⟨k,y,rfl,q3⟩ | ⟨k,y,rfl,q3⟩
    . show cZ w' k y _ _;rw[hu];exact cZ.frame _ _ _ _ _ (fun b hb=>⟨⟨k,y,m2⟩,hb⟩) (fun _ _ _=>rfl) q3
    . show RO Z' w' k y _;rw[hu];exact q3)
  (fun j b hb=>by
    obtain⟨⟨k,y,m1⟩,m2⟩:=hb;obtain⟨t1,t2,t3⟩:=ha.fp _ b m2;refine⟨t1,?_,t2,fun e => ?_,?_⟩
    . rcases t3 with ⟨i,t3⟩ | t3
      . rcases hin i b t3 with ⟨_,i2⟩ | ⟨_,_,_,i3⟩
        . exfalso;have:=ha.disj _ _ b m2 (by rw[i2]; exact q5);omega
        . exact .inl ⟨_,i3⟩
      . exact .inr t3
    . have:=ha.disj _ _ b m2 (by rw[e]; exact q5);omega
    . have hj:j<(jv l0 (bP cs z1)).length:=by
       have:=(aeV.1 m1).1;rw[hbl,hl0]; omega
      obtain⟨c0,d0,n1,n2,n3⟩:=pk _ _ j _ (aer hj);rw[m1]at n2;cases n2;exact⟨_,k,y,aer hj,by rw[n3]⟩)
  (fun j j' b h1 h2=>by have:=ha.disj _ _ b h1.2 h2.2;omega)
  (fun b hlt hne hf=>ha.block b hlt fun i hi=>by
    rcases hin i b hi with ⟨_,i2⟩ | ⟨_,_,_,i3⟩
    . exact hne i2
    . exact hf _ i3)
 rw[hd];rcases hw with ⟨rfl,rfl⟩ | ⟨d,p,rfl,hp,hfree,rfl⟩
 . exact hk _ _ _ _ hR hsz
 unfold ep at hp;split at hp
 . rename_i tv hw;simp only[aem]at hp;cases hb:s.fresh&&ko s.rs with
   | false => rw[hb]at hp;subst hp;exact hk _ _ _ _ (hR.mJ (hdn d rfl) (fx (kH _ _ _ _ hr (fun _=>rfl) (fun hh=>by rw[hh]at hb; simpa using hb)) hw)) (hsz.put _ _)
   | true =>
     rw[hb]at hp;subst hp;have hfr:s.fresh=true:=by rw[aen]at hb; exact hb.1
     rw[hfr]at hr hw;have hHb:∀ j b,H (2 * j+1) b->b<w'.heap.size/\(cx.F0 b∨cx.w0.heap.size<=b)/\¬ Z' b/\(∀ r j,¬ (g.CD q (fun j=>us.toList.getD j undef) (fun j b=>(∃ k y,(bP cs z1)[j]? = some ⟨0,0,.own k y⟩)/\H (2 * (0+1+j)) b)).fp r j b)/\(∀ r' R',look (Et st q l0 s.ps z).rt r'=some R'->R'.box=true->g.be r'≠b):=fun j b hbb=>by
      obtain⟨t1,t2,t3⟩:=ha.fp _ b hbb;have hq:b≠g.be q:=fun e=>by have:=ha.disj _ _ b hbb (by rw[e]; exact q5);omega
      refine⟨t1,?_,t2,fun r' j' hh => ?_,fun r' R' hR' hb' he => ?_⟩
      . rcases t3 with ⟨i,t3⟩ | t3
        . rcases hin i b t3 with ⟨_,i2⟩ | ⟨_,_,_,i3⟩
          . exact(hq i2).elim
          . exact(h.fp _ _ _ i3).2.1
        . exact .inr (aeu h.size t3)
      . have hh':(if r'=q then _ else g.fp r' j' b):=hh;by_cases e:r'=q
        . rw[if_pos e]at hh';have:=ha.disj _ _ b hbb hh'.2;omega
        . rw[if_neg e]at hh';rcases t3 with ⟨i,t3⟩ | t3
          . rcases hin i b t3 with ⟨_,i2⟩ | ⟨_,_,_,i3⟩
            . exact hq i2
            . exact e (h.disj _ _ _ _ _ hh' i3).1
          . have:=(h.fp _ _ _ hh').1; omega
      . have hl:look (Et st q l0 s.ps z).rt r'=(if q=r' then some ⟨true,jv l0 (iK s.ps z)⟩else look st.rt r'):=aJ _ _ _ _;rw[hl]at hR';by_cases e:q=r'
        . subst e; exact hq he.symm
        . rw[if_neg e]at hR';rcases t3 with ⟨i,t3⟩ | t3
          . rcases hin i b t3 with ⟨_,i2⟩ | ⟨_,_,_,i3⟩
            . exact hq i2
            . exact(h.box r' R' hR' hb').2.2.1 _ _ (he ▸ i3)
          . have:=h.yG hR' hb'; omega
     have h6:=Rel.lK hR (r:=d) (be:=0) (R:=⟨false,cB s.rs y⟩) (cv:=fun j=>(so s.rs vs).getD j undef) (fp:=fun j b=>j<(cB s.rs y).length/\H (2 * j+1) b) (jw (hfree hb))
      (fun j b hb=>by obtain⟨t1,t2,t3,t4,t5⟩:=hHb _ b hb.2;obtain⟨e,ks',x',v',g1',g2',g3'⟩:=kS _ _ _ _ hr j _ (aer hb.1);exact⟨t1,t2,t3,t4,t5,_,_,x',aer hb.1,by rw[g1']⟩)
      (fun j j' b h1 h2=>by have:=ha.disj _ _ b h1.2 h2.2; omega) (fun hb=>by simp at hb)
      (fun j c hj=>by
        obtain⟨e,ks',x',v',g1',g2',g3'⟩:=kS _ _ _ _ hr j c hj;subst g1';have hjl:j<(cB s.rs y).length:=by
         rcases aeB j (cB s.rs y).length with hh | hh
         . exact hh
         . simp[aeF hh]at hj
        show cZ w' (.sl e ks') x' _ _;simp only[List.getD,g2',afF];rw[aey]at g3';exact cZ.frame _ _ _ _ _ (fun b hb=>⟨hjl,hb⟩) (fun _ _ _=>rfl) g3')
     refine hk _ _ _ _ (h6.mJ (hdn d rfl) (tv:=tv) (fx (sS _ _ _ _ hr (fun i c hi => ?_) fun i v hi => ?_) hw)) (hsz.put _ _)
     . show(match look ((d,(⟨false,cB s.rs y⟩:Rt))::(Et st q l0 s.ps z).rt) d with | some R=>R.cells[0+i]? | none=>none)=_;rw[aJ,if_pos rfl,aey];exact hi
     . simp[Gh.at,List.getD,hi]
 . simp at hp
end
section
variable{P:Program}{cx:Cx P}{Z:Nat->Prop}{a:Act}{w:World}{E:En}
theorem pf{Z':Nat->Prop}(hz0:∀ b,Z b->b<w.heap.size->Z' b):∀(ps:List PK) (l:List TV) (vs:List Value) (st:St) (g:Gh) (st':St) (x:PT ps) (i:Nat),Rel cx Z g st a w->(∀ r R,look st.rt r=some R->R.box=true->Z' (g.be r))->fG Z g st w l vs->st.gh ps l=some (st',x) ->
 ∃ g' F n,Rel cx Z g' st' a w/\lA cx Z w g g' st st' F i n/\dH Z' w F ps x vs i/\st'.tm=st.tm
 | [],[],vs,st,g,st',x,i,h,hb0,hr,ht=>by
   simp only[St.gh,aem,aeS]at ht;obtain⟨rfl,_⟩:=ht;cases vs with
   | nil=>exact⟨g,_,0,h,lA.refl i,trivial,rfl⟩
   | cons _ _=>exact hr.elim
 | .c gg ks::ps,tv::r,[],st,g,st',x,i,h,hb0,hr,ht=>hr.elim
 | .c gg ks::ps,tv::r,v::vs,st,g,st',x,i,h,hb0,hr,ht=>by
   unfold St.gh at ht;cases hl:tv.cP with
   | none=>rw[hl]at ht; simp at ht
   | some p =>
     obtain⟨gg',l⟩:=p;rw[hl]at ht;simp only at ht;cases hb:ca gg gg'&&l.all AV.bK with
     | false=>rw[hb]at ht; simp at ht
     | true =>
       rw[hb]at ht;simp only[oT]at ht;simp only[aen]at hb;have hg:=dW hb.1;subst hg;split at ht
       . rename_i z q hz hq;cases ht;obtain⟨us,e1,e2⟩:=gI (ky hr.1 hl);obtain⟨g',F,n,k1,k2,k3,k4⟩:=pf hz0 ps r vs st g q.1 q.2 i h hb0 hr.2 hq;refine⟨g',F,n,k1,k2,⟨⟨us,e1,rq.bV hz0 ks z us (df h ks l us z e2 hb.2 hz)⟩,k3⟩,k4⟩
       . simp at ht
 | .fn f cs::ps,tv::r,[],st,g,st',x,i,h,hb0,hr,ht=>hr.elim
 | .fn f cs::ps,tv::r,v::vs,st,g,st',x,i,h,hb0,hr,ht=>by
   cases tv with
   | fn f' caps =>
     unfold St.gh at ht;cases hb:Nat.beq f f' with
     | false=>rw[hb]at ht; simp at ht
     | true =>
       rw[hb]at ht;simp only[oT]at ht;have hf:=beq_eq hb;subst hf;split at ht
       . rename_i z q hz hq;cases ht;obtain⟨us,e1,e2⟩:=hr.1;obtain⟨g',F,n,k1,k2,k3,k4⟩:=pf hz0 ps r vs st g q.1 q.2 i h hb0 hr.2 hq;exact⟨g',F,n,k1,k2,⟨⟨us,e1,lR h hz0 (fun _=>hb0) cs caps us.toList z e2 hz⟩,k3⟩,k4⟩
       . simp at ht
   | _=>simp[St.gh]at ht
 | .mv k::ps,tv::r,[],st,g,st',x,i,h,hb0,hr,ht=>hr.elim
 | .mv k::ps,tv::r,v::vs,st,g,st',x,i,h,hb0,hr,ht=>by
   cases tv with
   | v av =>
     unfold St.gh at ht;split at ht
     . rename_i st1 y hy;split at ht
       . rename_i q hq;cases ht;obtain⟨g1,F1,k1,k2,k3,k4,k5,k6,k7⟩:=gm h hr.1 hy;have t1:lA cx Z w g g1 st st1 (fun n b=>n=i/\F1 b) i 1 :=
          ⟨fun p v=>sv.ct k2.ct p v,fun x v=>bq.ct k2.ct x v,k5,fun n=>⟨fun b hb=>k4.lt b hb.2,fun b hb=>k4.own b hb.2,fun b hb=>k4.z b hb.2,fun b hb=>k4.fp b hb.2,fun b hb=>k4.box b hb.2⟩,fun n b hb=>k6 b hb.2,fun n m b h1 h2=>h1.1.trans h2.1.symm,fun i b hb=>⟨by omega,by omega⟩,k2.be,k2.box⟩
         have hr2:∀(l:List TV) (vs:List Value),fG Z g st w l vs->fG Z g1 st1 w l vs:=by
          intro l;induction l with
          | nil=>intro vs h; cases vs with | nil=>trivial | cons _ _=>exact h.elim
          | cons p r ih=>intro vs h; cases vs with | nil=>exact h.elim | cons v vs=>exact⟨bL.ct k2.ct _ _ h.1,ih vs h.2⟩
         obtain⟨g',F,n,m1,m2,m3,m4⟩:=pf hz0 ps r vs st1 g1 q.1 q.2 (i+1) k1 (fun r R hR hbx=>by obtain⟨R0,e1,e2⟩:=k2.box r R hR; rw[k2.be]; exact hb0 r R0 e1 (by rw[<- e2]; exact hbx)) (hr2 _ _ hr.2) hq;exact⟨g',fun n b=>(n=i/\F1 b)∨F n b,1+n,m1,t1.trans m2,⟨cZ.frame _ _ _ _ _ (fun b hb=> .inl ⟨rfl,hb⟩) (fun _ _ _=>rfl) k3,dH.mono (fun i b hb=> .inr hb) _ _ _ _ m3⟩,m4.trans k2.tm⟩
       . simp at ht
     . simp at ht
   | _=>simp[St.gh]at ht
 | .pt _::_,_::_,_,st,g,st',x,i,h,hb0,hr,ht=>by simp[St.gh]at ht
 | .nil::_,_::_,_,st,g,st',x,i,h,hb0,hr,ht=>by simp[St.gh]at ht
 | .nil::_,[],_,st,g,st',x,i,h,hb0,hr,ht=>by simp[St.gh]at ht
 | .pt _::_,[],_,st,g,st',x,i,h,hb0,hr,ht=>by simp[St.gh]at ht
 | .io _ _::_,_::_,_,st,g,st',x,i,h,hb0,hr,ht=>by simp[St.gh]at ht
 | [],_::_,_,st,g,st',x,i,h,hb0,hr,ht=>by simp[St.gh]at ht
 | .c _ _::_,[],_,st,g,st',x,i,h,hb0,hr,ht=>by simp[St.gh]at ht
 | .fn _ _::_,[],_,st,g,st',x,i,h,hb0,hr,ht=>by simp[St.gh]at ht
 | .io _ _::_,[],_,st,g,st',x,i,h,hb0,hr,ht=>by simp[St.gh]at ht
 | .mv _::_,[],_,st,g,st',x,i,h,hb0,hr,ht=>by simp[St.gh]at ht
theorem yw{st:St}{dst:Nat}{tvs:List TV}:∀ {l:List Su} {st':St},(st.ve dst l tvs).run=some st'->∃ s st1 x z y p,s∈l/\s.fresh=true/\st.gh s.ps tvs=some (st1,x)/\s.tB x=some (z,y)/\ep dst s y=some p/\st1.free dst=true/\st'=st1.aV dst p
 | [],st',h=>by simp[St.ve,Tr.run]at h
 | s::r,st',h=>by
   have again:(st.ve dst r tvs).run=some st'->∃ s' st1 x z y p,s'∈s::r/\s'.fresh=true/\st.gh s'.ps tvs=some (st1,x)/\s'.tB x=some (z,y)/\ep dst s' y=some p/\st1.free dst=true/\st'=st1.aV dst p:=fun h=>by obtain⟨s',st1,x,z,y,p,h1,h2⟩:=yw h;exact⟨s',st1,x,z,y,p,aeD _ h1,h2⟩
   have fin:∀(st1:St) (p:TV×Option Rt),(bif st1.free dst then Tr.ret (st1.aV dst p)else .fail).run=some st'->st1.free dst=true/\st'=st1.aV dst p:=fun st1 p hh=>by
    cases hf:st1.free dst with
    | false=>rw[hf]at hh; simp[Tr.run]at hh
    | true=>rw[hf]at hh; simp only[oT,Tr.run,aem]at hh; exact⟨rfl,hh.symm⟩
   unfold St.ve at h;cases hq:iB s.ps|| !s.fresh with
   | true=>rw[hq]at h; exact again h
   | false =>
     rw[hq]at h;simp only[oF]at h;simp only[af2,ahb]at hq;split at h
     . rename_i st1 x hx;split at h
       . rename_i f hf;simp only[Tr.run,afC]at h;obtain⟨⟨z,y⟩,h0,h⟩:=h;obtain⟨p,h1,h2⟩:=Tr.af h;obtain⟨h3,h4⟩:=fin st1 p h2;exact⟨s,st1,x,z,y,p,aeH ..,hq.2,hx,by simp[Su.tB,hf,h0],h1,h3,h4⟩
       . rename_i gg hg;obtain⟨p,h1,h2⟩:=Tr.af h;obtain⟨h3,h4⟩:=fin st1 p h2;exact⟨s,st1,x,OR s.ps,gg x,p,aeH ..,hq.2,hx,by simp[Su.tB,hg],h1,h3,h4⟩
     . exact again h
theorem Uc(hga:dw P E){g:Gh}{st:St}(h:Rel cx Z g st a w)(hn:cu st)(hsz:Fit cx E a){o:Oper}{d:Nat}(hd:o.dst=some d)(hdn:jL cx a d){c:Call}{f:Operand}{gid:Nat}{caps:List (Bool×List AV)}{l:List TV}
 (ho:o.op= .call c)(hcal:c.callee= .value f)(hg:st.get f=some (.fn gid caps))(hl:st.getAll c.args.toList=some l){st':St}
 (hrun:(st.ve d (E.ga gid) (l++caps.map fun p=>bif p.1 then .agg p.2 else (match p.2 with | [a]=> .v a | _=> .agg p.2))).run=some st'):nU P cx E st' a w o:=by
 have hc:=hn.cons.cons;obtain⟨s,st1,x,z,y,p,hs,hfr,hx,hy,hp,hfree,rfl⟩:=yw hrun;obtain⟨cv,ef,ec⟩:=bb h hc hg;have hrel:=fG.app (iQ h hc _ _ hl) (kD _ _ ec);have hvs:c.args.toList.map a.eval++cv.toList=(c.args.map a.eval++cv).toList:=by simp
 rw[hvs]at hrel;obtain⟨g1,F,n,k1,k2,k3,k4⟩:=pf (Z':=Zb Z g st) (fun _ h _=> .inl h) s.ps _ _ st g st1 x 0 h (fun r R hR hb=> .inr ⟨r,R,hR,hb,rfl⟩) hrel hx;have hsu:=hga.1 gid s hs w (Zb Z g st) F _ x (z,y) (h.gl.mono (oR _) fun b hb _=>⟨.inl hb,rfl⟩) k3 (TD h) (fun i b hb=>⟨(k2.free i).lt b hb,by obtain⟨r,j,hh⟩:=k2.sub i b hb; exact RX h hh⟩) (fun i j b=>k2.disj i j b) hy;have hp':¬ p.1.gJ:=by
  unfold ep at hp;split at hp
  . rename_i tv hw;simp only[aem]at hp;subst hp;exact lz hw
  . simp at hp
 refine⟨fun t tv ht => ?_,fun next Q hk => ?_⟩
 . rw[ck]at ht;split at ht
   . simp only[aem]at ht; subst ht; exact hp'
   . exact hn t tv (by rw[<- k4]; exact ht)
 unfold Oper.wp;rw[oC ho hcal ef];refine th hsu ?_;rintro v w' ⟨Z',H,vs,rfl,ha,_,hr⟩;rw[hd];have hFree:iz cx Z g1 st1 w (fun b=>∃ i,F i b):=⟨fun b ⟨i,hb⟩=>(k2.free i).lt b hb,fun b ⟨i,hb⟩=>(k2.free i).own b hb,fun b ⟨i,hb⟩=>(k2.free i).z b hb,fun b ⟨i,hb⟩=>(k2.free i).fp b hb,fun b ⟨i,hb⟩=>(k2.free i).box b hb⟩;have hw':Rel cx Z g1 st1 a w':=k1.wr hFree ha.os ha.tape ha.output ha.size fun b hb hf=>ha.block b hb fun i hi=>hf ⟨i,hi⟩
 unfold ep at hp;split at hp
 . rename_i tv hw;simp only[aem]at hp;rw[hfr,agd]at hp;rw[hfr]at hr hw;cases hb:ko s.rs with
   | false => rw[hb]at hp;subst hp;exact hk _ _ _ _ (hw'.mJ hdn (fx (kH _ _ _ _ hr (fun hh=>by simp at hh) (fun _=>hb)) hw)) (hsz.put _ _)
   | true =>
     rw[hb]at hp;subst hp;have hHb:∀ n b,H n b->b<w'.heap.size/\(cx.F0 b∨cx.w0.heap.size<=b)/\¬ Z b/\(∀ r j,¬ g1.fp r j b)/\(∀ r' R',look st1.rt r'=some R'->R'.box=true->g1.be r'≠b):=fun n b hb=>by
      obtain⟨h1,h2,h3⟩:=ha.fp n b hb;have hz:¬ Z b:=fun hz=>h2 (ha.z b (.inl hz))
      rcases h3 with hf | hnew
      . exact⟨h1,hFree.own b hf,hz,hFree.fp b hf,hFree.box b hf⟩
      . refine⟨h1,.inr (aeu k1.size hnew),hz,fun r j hh=>by have:=(k1.fp r j b hh).1; omega,fun r' R' hR' hb' he => ?_⟩;obtain⟨_,_,_,_,cs1,el1,fr1,b5,_⟩:=k1.box r' R' hR' hb';rw[he,aeG hnew]at b5;simp at b5
     have h6:=Rel.lK hw' (r:=d) (be:=0) (R:=⟨false,cB s.rs y⟩) (cv:=fun j=>(so s.rs vs).getD j undef) (fp:=fun j b=>j<(cB s.rs y).length/\H (2 * j+1) b) (jw hfree)
      (fun j b hb=>by obtain⟨t1,t2,t3,t4,t5⟩:=hHb _ b hb.2;obtain⟨e,ks',x',v',g1',g2',g3'⟩:=kS _ _ _ _ hr j _ (aer hb.1);exact⟨t1,t2,t3,t4,t5,_,_,x',aer hb.1,by rw[g1']⟩)
      (fun j j' b h1 h2=>by have:=ha.disj _ _ b h1.2 h2.2; omega) (fun hb=>by simp at hb)
      (fun j c hj=>by
        obtain⟨e,ks',x',v',g1',g2',g3'⟩:=kS _ _ _ _ hr j c hj;subst g1';have hjl:j<(cB s.rs y).length:=by
         rcases aeB j (cB s.rs y).length with hh | hh
         . exact hh
         . simp[aeF hh]at hj
        show cZ w' (.sl e ks') x' _ _;simp only[List.getD,g2',afF];rw[aey]at g3';exact cZ.frame _ _ _ _ _ (fun b hb=>⟨hjl,hb⟩) (fun _ _ _=>rfl) g3')
     refine hk _ _ _ _ (h6.mJ hdn (tv:=tv) (fx (sS _ _ _ _ hr (fun i c hi => ?_) fun i v hi => ?_) hw)) (hsz.put _ _)
     . show(match look ((d,(⟨false,cB s.rs y⟩:Rt))::st1.rt) d with | some R=>R.cells[0+i]? | none=>none)=_;rw[aJ,if_pos rfl,aey];exact hi
     . simp[Gh.at,List.getD,hi]
 . simp at hp
theorem uk(hT:cr P E)(hga:dw P E):qA P E:=by
 intro cx Z g st a w o st' h hn hsz hdo hrun;have hdn:∀ d,o.dst=some d->jL cx a d:=fun d hd=>by rw[hd]at hdo;exact hsz.dst hdo
 have key:nU P cx E st' a w o:=by
  generalize hop:o.op=op at hrun;generalize hdst:o.dst=dst at hrun;unfold zb at hrun;split at hrun
  . obtain⟨ti,h1,hrun⟩:=Tr.af hrun;obtain⟨ta,h2,hrun⟩:=Tr.af hrun;obtain⟨av,h3,hrun⟩:=Tr.af hrun;obtain⟨tx,h4,hrun⟩:=Tr.af hrun;obtain⟨p,h5,hrun⟩:=Tr.af hrun;cases hb:p.2.all st.live&&Nat.beq p.2.length ti.ks.length with
    | false=>rw[hb]at hrun; simp[Tr.run]at hrun
    | true => rw[hb]at hrun;simp only[oT]at hrun;simp only[aen]at hb;obtain⟨hself,hrun⟩:=Tr.bI hrun;obtain⟨s1,h6,hrun⟩:=Tr.af hrun;simp only[Tr.run,aem]at hrun;subst hrun;exact Pz hT h hn hsz hdst hop h1 h2 h3 h4 h5 hb.1 (beq_eq hb.2) hself h6
  . obtain⟨tv,h1,hrun⟩:=Tr.af hrun;simp only[Tr.run,aem]at hrun;subst hrun;exact od h hn hsz hdst (hdn _ hdst) (.inr hop) h1
  . obtain⟨tv,h1,hrun⟩:=Tr.af hrun;simp only[Tr.run,aem]at hrun;subst hrun;exact od h hn hsz hdst (hdn _ hdst) (.inl hop) h1
  . rename_i t x d;obtain⟨ti,h1,hrun⟩:=Tr.af hrun;obtain⟨tv,h2,hrun⟩:=Tr.af hrun;obtain⟨p,h3,hrun⟩:=Tr.af hrun;cases hb:st.free d&&p.2.all st.live&&Nat.beq p.2.length ti.ks.length with
    | false=>rw[hb]at hrun; simp[Tr.run]at hrun
    | true => rw[hb]at hrun;simp only[oT]at hrun;simp only[aen]at hb;obtain⟨s1,h6,hrun⟩:=Tr.af hrun;simp only[Tr.run,aem]at hrun;subst hrun;exact Xs h hn hsz hdst (hdn _ hdst) hop h2 h3 hb.1.1 hb.1.2 (beq_eq hb.2) h6
  . rename_i c;split at hrun
    . rename_i x y hcal hargs;split at hrun
      . rename_i d t t2 ts hts;obtain⟨ti,h1,hrun⟩:=Tr.af hrun;obtain⟨te,h2,hrun⟩:=Tr.af hrun;obtain⟨tx,h3,hrun⟩:=Tr.af hrun;obtain⟨ty,h4,hrun⟩:=Tr.af hrun;cases hb:E.str t2||(E.sl t2).isSome with
        | false =>
          rw[hb]at hrun;simp only[oF]at hrun;cases hb2:E.i64 t2&&fb tx with
          | false=>rw[hb2]at hrun; simp[Tr.run]at hrun
          | true => rw[hb2]at hrun;simp only[oT]at hrun;simp only[aen]at hb2;obtain⟨p,h5,hrun⟩:=Tr.af hrun;exact JQ hT h hn hsz hdst (hdn _ hdst) hop hcal hargs hts h1 h2 h3 h4 hb2.1 hb2.2 h5 hrun
        | true =>
          rw[hb]at hrun;simp only[oT]at hrun;have h5:E.str t2=true∨∃ te2,E.sl t2=some te2:=by
           simp only[afx]at hb;rcases hb with hb | hb
           . exact .inl hb
           . cases he:E.sl t2 with
             | none=>rw[he]at hb; simp at hb
             | some te2=>exact .inr ⟨te2,rfl⟩
          cases hsh:st.Lq te.ks tx ty with
          | true=>rw[hsh]at hrun; exact IA hT h hn hsz hdst (hdn _ hdst) hop hcal hargs hts h1 h2 h3 h4 h5 hrun
          | false=>rw[hsh]at hrun; exact Kl hT h hn hsz hdst (hdn _ hdst) hop hcal hargs hts h1 h2 h3 h4 h5 hrun
      . simp[Tr.run]at hrun
    . rename_i f hcal;obtain⟨tf,h1,hrun⟩:=Tr.af hrun;split at hrun
      . rename_i gid caps;obtain⟨l,h2,hrun⟩:=Tr.af hrun;cases hpw:MK (E.ga gid)with
        | true => rw[hpw]at hrun;exact Ky hga h hn hsz (fun d hd=>hdn d (hdst.trans hd)) hdst hop hcal h1 h2 hrun
        | false =>
        rw[hpw]at hrun;simp only[oF]at hrun;cases hio:MH (E.ga gid)with
        | true => rw[hio]at hrun;exact Kt hga h hn hsz (fun d hd=>hdn d (hdst.trans hd)) hdst hop hcal h1 h2 hrun
        | false =>
          rw[hio]at hrun;simp only[oF]at hrun;split at hrun
          . exact Uc hga h hn hsz hdst (hdn _ hdst) hop hcal h1 h2 hrun
          . simp[Tr.run]at hrun
      . simp[Tr.run]at hrun
    . simp[Tr.run]at hrun
  . simp[Tr.run]at hrun
 exact key
end
def Ew:Value->K->Bool
 | .int k n,.int k'=>k == k'&&n == 0
 | .bool b,.bool=> !b
 | .string s,.str=>Nat.beq s.size 0
 | .slice none 0 0,.sl _ _=>true
 | _,_=>false
def mq:List Value->List K->Bool
 | [],[]=>true
 | v::vs,k::ks=>Ew v k&&mq vs ks
 | _,_=>false
theorem JR{v:Value}{k:K}(h:Ew v k=true):v=zV k:=by
 unfold Ew at h;split at h
 . simp only[aen,beq_iff_eq]at h;rw[h.1,h.2]; rfl
 . rename_i b;cases b with
   | false=>rfl
   | true=>simp at h
 . rename_i s;have hs:s.size=0:=beq_eq h;show Value.string s= .string (eY []);congr 1;apply ahe;apply Array.ext';have:s.data.toList=[]:=by
    apply ae6.1;rw[aeX];exact hs
   rw[this];rfl
 . rfl
 . simp at h
theorem vd:∀ {vs:List Value} {ks:List K},mq vs ks=true->vs=ks.map zV
 | [],[],_=>rfl
 | v::vs,k::ks,h=>by simp only[mq,aen]at h;rw[JR h.1,vd h.2];rfl
 | [],_::_,h=>by simp[mq]at h
 | _::_,[],h=>by simp[mq]at h
def tW:List (Nat×Nat)->List Field->Bool
 | [],_=>true
 | (o,t)::r,f::fs=>Nat.beq f.offset o&&Nat.beq f.type t&&tW r fs
 | _::_,[]=>false
theorem xw:∀ {l:List (Nat×Nat)} {fs:List Field},tW l fs=true->∀ i o t,Iq l i=some (o,t)->∃ fi,fs[i]? = some fi/\fi.offset=o/\fi.type=t
 | [],fs,h,i,o,t,hf=>by simp[Iq]at hf
 | (o0,t0)::r,f::fs,h,0,o,t,hf=>by simp only[tW,aen]at h;simp only[Iq,aem,aeS]at hf;exact⟨f,rfl,(beq_eq h.1.1).trans hf.1,(beq_eq h.1.2).trans hf.2⟩
 | (o0,t0)::r,f::fs,h,i+1,o,t,hf=>by simp only[tW,aen]at h;exact xw h.2 i o t hf
 | _::_,[],h,_,_,_,_=>by simp[tW]at h
def KK(P:Program)(f:Field):Bool:=match P.info? f.type with | some i=>Nat.blt 0 i.size | none=>false
def nQ(P:Program)(ti:TI):TypeDesc->Bool
 | .struct fs=>ti.agg&&tW ti.flds fs.toList&&fs.toList.all (KK P)
 | .slice e=> !ti.agg&&(match ti.ks with | [.sl e' _]=>Nat.beq e' e&&Nat.beq ti.elem e | _=>false)
 | .int k=> !ti.agg&&(match ti.ks with | [.int k']=>k' == k | _=>false)
 | .bool=> !ti.agg&&(match ti.ks with | [.bool]=>true | _=>false)
 | .string=> !ti.agg&&(match ti.ks with | [.str]=>true | _=>false)
 | _=>false
def WO(P:Program)(t:Nat)(ti:TI):Bool:=match P.info? t,P.underlying t with
 | some i,some d=>Nat.beq i.size ti.ks.length&&Nat.beq i.bytes ti.bytes&&(match i.zero with | some z=>mq z.cells.toList ti.ks | none=>false)&&nQ P ti d
 | _,_=>false
theorem Iu{P:Program}{ti:TI}{d:TypeDesc}(h:nQ P ti d=true):iD P ti d:=by
 cases d with
 | struct fs =>
   simp only[nQ,aen]at h;refine⟨h.1.1,fun f o u hf => ?_,fun fi hfi => ?_⟩
   . obtain⟨fi,h1,h2⟩:=xw h.1.2 f o u hf;exact⟨fi,by rw[<- aep]; exact h1,h2⟩
   . have:=aeE.1 h.2 fi hfi;unfold KK at this;cases hi:P.info? fi.type with
     | none=>rw[hi]at this; simp at this
     | some i=>rw[hi]at this; exact⟨i,rfl,Nat.ne_of_gt (afq (aeI this))⟩
 | slice e =>
   simp only[nQ,aen,ae8]at h;obtain⟨h1,h2⟩:=h;split at h2
   . rename_i e' ks hk;simp only[aen]at h2;have e1:=beq_eq h2.1;subst e1;exact⟨h1,ks,hk,beq_eq h2.2⟩
   . simp at h2
 | int k =>
   simp only[nQ,aen,ae8]at h;obtain⟨h1,h2⟩:=h;split at h2
   . rename_i k' hk;have:k'=k:=by simpa using h2
     subst this;exact⟨h1,hk⟩
   . simp at h2
 | bool =>
   simp only[nQ,aen,ae8]at h;obtain⟨h1,h2⟩:=h;split at h2
   . rename_i hk; exact⟨h1,hk⟩
   . simp at h2
 | string =>
   simp only[nQ,aen,ae8]at h;obtain⟨h1,h2⟩:=h;split at h2
   . rename_i hk; exact⟨h1,hk⟩
   . simp at h2
 | _=>simp[nQ]at h
theorem O7{P:Program}{t:Nat}{ti:TI}(h:WO P t ti=true):pH P t ti:=by
 unfold WO at h;split at h
 . rename_i i d hi hd;simp only[aen]at h;obtain⟨⟨⟨h1,h2⟩,h3⟩,h4⟩:=h;refine⟨⟨i,hi,beq_eq h1,beq_eq h2,?_⟩,d,hd,Iu h4⟩;split at h3
   . rename_i z hz;exact⟨z,hz,vd h3⟩
   . simp at h3
 . simp at h
def QS(P:Program):List (Nat×TI)->Bool
 | []=>true
 | (t,ti)::r=>WO P t ti&&QS P r
theorem D6{P:Program}:∀ {l:List (Nat×TI)},QS P l=true->∀ t ti,(t,ti)∈l->pH P t ti
 | [],_,_,_,h=>by simp at h
 | (t0,ti0)::r,h,t,ti,hm=>by
   simp only[QS,aen]at h;rcases aew.1 hm with hm | hm
   . cases hm; exact O7 h.1
   . exact D6 h.2 t ti hm
theorem O9{P:Program}{E:En}(h:QS P E.tt=true):cr P E:=fun t ti ht=>D6 h t ti (gU _ _ _ ht)
def l6(lo:Nat->Bool):Code->Bool
 | .seq a b=>l6 lo a&&l6 lo b
 | .cond _ a b=>l6 lo a&&l6 lo b
 | .block id c=> !lo id&&l6 lo c
 | .loop c=>l6 lo c
 | _=>true
theorem bG{P:Program}{E:En}(hrg:∀ id,E.rg id=none:=by intro _; rfl):∀(c:Code),l6 (fun id=>(E.lo id).isSome) c=true->dp P E c
 | .seq a b,h=>by simp only[l6,aen]at h;exact⟨bG hrg a h.1,bG hrg b h.2⟩
 | .cond _ a b,h=>by simp only[l6,aen]at h;exact⟨bG hrg a h.1,bG hrg b h.2⟩
 | .block id c,h=>by simp only[l6,aen,ae8]at h;refine⟨fun L hL => ?_,fun _=>bG hrg c h.2⟩;rw[hL]at h;simp at h
 | .skip,_=>trivial
 | .region id _ _,_=>fun F hF=>by rw[hrg id]at hF; simp at hF
 | .loop c,h=>bG (E:=E) hrg c h
 | .rangeFunc _ _ _ _,_=>trivial
 | .exit _,_=>trivial
 | .scope _,_=>trivial
 | .label _,_=>trivial
 | .goto _,_=>trivial
 | .ret,_=>trivial
 | .refuse _,_=>trivial
def lW(rg:Nat->Bool)(lo:Nat->Bool):Code->List (Nat×Code)
 | .seq a b=>lW rg lo a++lW rg lo b
 | .cond _ a b=>lW rg lo a++lW rg lo b
 | .block id c=>bif lo id then []else lW rg lo c
 | .region id ops dr=>bif rg id then [(id,.region id ops dr)]else []
 | .loop c=>lW rg lo c
 | _=>[]
def ez(lo:Nat->Bool):Code->List (Nat×Code)
 | .seq a b=>ez lo a++ez lo b
 | .cond _ a b=>ez lo a++ez lo b
 | .block id c=>bif lo id then [(id,c)]else ez lo c
 | .loop c=>ez lo c
 | _=>[]
theorem gq{P:Program}{E:En}:∀(c:Code),(∀ id b F,(id,b)∈lW (fun id=>(E.rg id).isSome) (fun id=>(E.lo id).isSome) c->E.rg id=some F->cY P E b F)->(∀ id b L,(id,b)∈ez (fun id=>(E.lo id).isSome) c->E.lo id=some L->jM P E id b L)->dp P E c
 | .seq a b,hr,h=>⟨gq a (fun id b F hm=>hr id b F (af3 _ hm)) fun id b L hm=>h id b L (af3 _ hm),gq b (fun id b F hm=>hr id b F (ago _ hm)) fun id b L hm=>h id b L (ago _ hm)⟩
 | .cond _ a b,hr,h=>⟨gq a (fun id b F hm=>hr id b F (af3 _ hm)) fun id b L hm=>h id b L (af3 _ hm),gq b (fun id b F hm=>hr id b F (ago _ hm)) fun id b L hm=>h id b L (ago _ hm)⟩
 | .block id c,hr,h=>by
   refine⟨fun L hL=>h id c L ?_ hL,fun hn=>gq c (fun id' b F hm hF=>hr id' b F (by simp only[lW,hn,afE,oF]; exact hm) hF) fun id' b L hm hL=>h id' b L ?_ hL⟩
   . simp[ez,hL]
   . simp only[ez,hn,afE,oF];exact hm
 | .skip,_,_=>trivial
 | .region id ops dr,hr,_=>fun F hF=>hr id _ F (by simp[lW,hF]) hF
 | .loop c,hr,h=>gq (E:=E) c hr h
 | .rangeFunc _ _ _ _,_,_=>trivial
 | .exit _,_,_=>trivial
 | .scope _,_,_=>trivial
 | .label _,_,_=>trivial
 | .goto _,_,_=>trivial
 | .ret,_,_=>trivial
 | .refuse _,_,_=>trivial
section
variable{X Y:Type}(step:X->Option (Sum X Y))
theorem zX{n m:Nat}{x:X}{y:Y}(h:iter step n x=some y)(hm:n<=m):iter step m x=some y:=by
 induction n generalizing m x with
 | zero=>simp[iter]at h
 | succ n ih =>
   obtain⟨k,rfl⟩:∃ k,m=k+1:=⟨m-1,by omega⟩;unfold iter at h ⊢;split at h
   . rename_i x' hx;exact ih h (by omega)
   . rename_i z hx;exact h
   . simp at h
noncomputable def aq(x:X):Option Y:=open Classical in if h:∃ n y,iter step n x=some y then some (Classical.choose (afL h))else none
theorem x8{x:X}{y:Y}(h:aq step x=some y):∃ n,iter step n x=some y:=by
 unfold aq at h;split at h
 . rename_i hh;simp only[aem]at h;subst h;exact⟨_,afL (afL hh)⟩
 . simp at h
theorem CA{n:Nat}{x:X}{y:Y}(h:iter step n x=some y):aq step x=some y:=by have hh:∃ n y,iter step n x=some y:=⟨n,y,h⟩;unfold aq;rw[dif_pos hh];have h1:=afL (afL hh);have e1:=zX step h (Nat.le_max_left n (Classical.choose hh));have e2:=zX step h1 (Nat.le_max_right n (Classical.choose hh));rw[e1]at e2;exact e2.symm
theorem dN{x x':X}{y:Y}(h:step x=some (.inl x'))(h':aq step x'=some y):aq step x=some y:=by obtain⟨n,hn⟩:=x8 step h';refine CA step (n:=n+1) ?_;unfold iter;rw[h];exact hn
theorem dh{x:X}{y:Y}(h:step x=some (.inr y)):aq step x=some y:=by refine CA step (n:=1) ?_;unfold iter;rw[h]
end
abbrev Rd(A Q:Type):=Option (Sum A (Sum A Q))
abbrev x3{A B Z:Type}(r:A->B->Z)(x:A×B×Unit):Z:=r x.1 x.2.1
abbrev OO{A B Z:Type}(φ:A×B×Unit->Z)(a:A)(b:B):Z:=φ (a,b,())
abbrev fY{A B C Z:Type}(r:A->B->C->Z)(x:A×B×C×Unit):Z:=r x.1 x.2.1 x.2.2.1
abbrev pP{A B C Z:Type}(φ:A×B×C×Unit->Z)(a:A)(b:B)(c:C):Z:=φ (a,b,c,())
abbrev dJ{A B C D Z:Type}(r:A->B->C->D->Z)(x:A×B×C×D×Unit):Z:=r x.1 x.2.1 x.2.2.1 x.2.2.2.1
abbrev pd{A B C D Z:Type}(φ:A×B×C×D×Unit->Z)(a:A)(b:B)(c:C)(d:D):Z:=φ (a,b,c,d,())
abbrev nM{A B C D E Z:Type}(r:A->B->C->D->E->Z)(x:A×B×C×D×E×Unit):Z:=r x.1 x.2.1 x.2.2.1 x.2.2.2.1 x.2.2.2.2.1
abbrev J8{A B C D E Z:Type}(φ:A×B×C×D×E×Unit->Z)(a:A)(b:B)(c:C)(d:D)(e:E):Z:=φ (a,b,c,d,e,())
abbrev J7{A B C D E F Z:Type}(r:A->B->C->D->E->F->Z)(x:A×B×C×D×E×F×Unit):Z:=r x.1 x.2.1 x.2.2.1 x.2.2.2.1 x.2.2.2.2.1 x.2.2.2.2.2.1
abbrev cu6{A B C D E F Z:Type}(φ:A×B×C×D×E×F×Unit->Z)(a:A)(b:B)(c:C)(d:D)(e:E)(f:F):Z:=φ (a,b,c,d,e,f,())
abbrev Ft{A B C D E F G Z:Type}(r:A->B->C->D->E->F->G->Z)(x:A×B×C×D×E×F×G×Unit):Z:=r x.1 x.2.1 x.2.2.1 x.2.2.2.1 x.2.2.2.2.1 x.2.2.2.2.2.1 x.2.2.2.2.2.2.1
abbrev cu7{A B C D E F G Z:Type}(φ:A×B×C×D×E×F×G×Unit->Z)(a:A)(b:B)(c:C)(d:D)(e:E)(f:F)(g:G):Z:=φ (a,b,c,d,e,f,g,())
abbrev Rj{A B C D E F G H Z:Type}(r:A->B->C->D->E->F->G->H->Z)(x:A×B×C×D×E×F×G×H×Unit):Z:=r x.1 x.2.1 x.2.2.1 x.2.2.2.1 x.2.2.2.2.1 x.2.2.2.2.2.1 x.2.2.2.2.2.2.1 x.2.2.2.2.2.2.2.1
abbrev cu8{A B C D E F G H Z:Type}(φ:A×B×C×D×E×F×G×H×Unit->Z)(a:A)(b:B)(c:C)(d:D)(e:E)(f:F)(g:G)(h:H):Z:=φ (a,b,c,d,e,f,g,h,())
abbrev un9{A B C D E F G H I Z:Type}(r:A->B->C->D->E->F->G->H->I->Z)(x:A×B×C×D×E×F×G×H×I×Unit):Z:=r x.1 x.2.1 x.2.2.1 x.2.2.2.1 x.2.2.2.2.1 x.2.2.2.2.2.1 x.2.2.2.2.2.2.1 x.2.2.2.2.2.2.2.1 x.2.2.2.2.2.2.2.2.1
abbrev cu9{A B C D E F G H I Z:Type}(φ:A×B×C×D×E×F×G×H×I×Unit->Z)(a:A)(b:B)(c:C)(d:D)(e:E)(f:F)(g:G)(h:H)(i:I):Z:=φ (a,b,c,d,e,f,g,h,i,())
abbrev IT{A B C D E F G H I J Z:Type}(r:A->B->C->D->E->F->G->H->I->J->Z)(x:A×B×C×D×E×F×G×H×I×J×Unit):Z:=r x.1 x.2.1 x.2.2.1 x.2.2.2.1 x.2.2.2.2.1 x.2.2.2.2.2.1 x.2.2.2.2.2.2.1 x.2.2.2.2.2.2.2.1 x.2.2.2.2.2.2.2.2.1 x.2.2.2.2.2.2.2.2.2.1
abbrev aba{A B C D E F G H I J Z:Type}(φ:A×B×C×D×E×F×G×H×I×J×Unit->Z)(a:A)(b:B)(c:C)(d:D)(e:E)(f:F)(g:G)(h:H)(i:I)(j:J):Z:=φ (a,b,c,d,e,f,g,h,i,j,())
def ak(k:IntKind)(a b:Int):Int:=k.wrap (a+b)
def ba(k:IntKind)(a b:Int):Int:=k.wrap (a-b)
def vB(k:IntKind)(a b:Int):Int:=k.wrap (a * b)
def jr(k:IntKind)(a b:Int):Int:=k.wrap (a.tdiv b)
def dP(a b:Int):Int:=a.tmod b
def Jh(k:IntKind)(a b:Int):Int:=k.wrap ((BitVec.ofInt k.bits a &&& BitVec.ofInt k.bits b).toNat:Int)
def OP(k:IntKind)(a b:Int):Int:=k.wrap ((BitVec.ofInt k.bits a ||| BitVec.ofInt k.bits b).toNat:Int)
def Rx(k:IntKind)(a b:Int):Int:=k.wrap (a * 2 ^ min b.toNat k.bits)
def pI(k:IntKind)(a b:Int):Int:=a.fdiv (2 ^ min b.toNat k.bits)
def cW(k:IntKind)(a:Int):Int:=k.wrap a
def ae{α:Type}(xs:List α):Int:=(xs.length:Int)
def G4(n:Nat)(i j:Int):Bool:=Nat.rec true (fun _ r=>Nat.beq i.toNat j.toNat&&r) n
def aZ{α:Type}(i:Int)(xs:List α):Bool:=nH i xs.length
def ea{α:Type}(lo hi:Int)(xs:List α):Bool:=iP lo hi xs.length
def YX(lo hi:Int):Bool:=iP lo hi 0
def gt{α:Type}(d:α)(xs:List α)(i:Int):α:=xs.getD i.toNat d
def cO{α:Type}(xs:List α)(i:Int)(x:α):List α:=List.set xs i.toNat x
def Ps{α:Type}(xs:List α)(n:Int):List α:=List.take n.toNat xs
def fy{α:Type}(xs ys:List α):List α:=xs++ys
def rN(s t:S8):S8:=s++t
def bj{α:Type}(bytes:Nat)(xs ys:List α):Bool:=Nat.ble ((xs.length+ys.length) * bytes) bN
def XR{α:Type}(bytes:Nat)(xs:List α):Bool:=Nat.ble (xs.length * bytes) bN
def iJ(s t:S8):Bool:=Nat.ble (s.length+t.length) bN
def yK(s t:S8):Bool:=Op.bytesLess s t
def leS(s t:S8):Bool:=Op.bytesLess s t||bw s t
def et(s:S8)(i:Int):Int:=CF s i.toNat
def vE{α:Type}(d:α)(n:Int):List α:=List.replicate n.toNat d
def Tw(bytes:Nat)(n:Int):Bool:=bT 0 n&&(bT (n * bytes) bN&&Nat.blt 0 bytes)
def ar(f:Func):Code:=match f.body with | some c=>c | none=> .skip
def UU:Code->Code
 | .loop b=>b
 | _=> .skip
def nx(id:Nat):Code->Option Code
 | .seq a b=>match nx id a with | some c=>some c | none=>nx id b
 | .cond _ a b=>match nx id a with | some c=>some c | none=>nx id b
 | .block i c=>bif Nat.beq i id then some (UU c)else nx id c
 | .loop b=>nx id b
 | _=>none
def lU(id:Nat)(c:Code):Code:=(nx id c).getD .skip
abbrev SS:=Sum Su Sc
abbrev iS(s:Su):SS:= .inl s
abbrev iC(s:Sc):SS:= .inr s
def Co:List (Nat×SS)->Nat->List Su
 | [],_=>[]
 | (g,.inl s)::r,f=>bif Nat.beq g f then s::Co r f else Co r f
 | (_,.inr _)::r,f=>Co r f
def ED:List (Nat×SS)->Nat->Option Sc
 | [],_=>none
 | (g,.inr s)::r,f=>bif Nat.beq g f then some s else ED r f
 | _::r,f=>ED r f
def vN(n:Nat)(tt:List (Nat×TI))(l:List (Nat×SS))(ρ:List SE)(lo:Nat->Option (Lo ρ))(pins:List Nat)(rg:Nat->Option (St->Tr St)):En:=⟨n,tt,Co l,ρ,lo,pins,rg,ED l⟩
def YO(P:Program)(g:Nat):SS->Prop
 | .inl s=>aw P g s
 | .inr s=>Fx P g s
def nG(P:Program):List (Nat×SS)->Prop
 | []=>True
 | (g,s)::r=>YO P g s/\nG P r
theorem sN{P:Program}:∀(l:List (Nat×SS)) (f:Nat) (s:Su),nG P l->s∈Co l f->aw P f s
 | [],_,_,_,h=>by simp[Co]at h
 | (_,.inr _)::r,f,s,hl,h=>sN r f s hl.2 h
 | (g,.inl s0)::r,f,s,hl,h=>by
   unfold Co at h;cases hb:Nat.beq g f with
   | false=>rw[hb]at h; exact sN r f s hl.2 h
   | true =>
     rw[hb]at h;have:=beq_eq hb;subst this;rcases aew.1 h with h | h
     . subst h; exact hl.1
     . exact sN r g s hl.2 h
theorem wv{P:Program}:∀(l:List (Nat×SS)) (f:Nat) (s:Sc),nG P l->ED l f=some s->Fx P f s
 | [],_,_,_,h=>by simp[ED]at h
 | (_,.inl _)::r,f,s,hl,h=>wv r f s hl.2 h
 | (g,.inr s0)::r,f,s,hl,h=>by
   unfold ED at h;cases hb:Nat.beq g f with
   | false=>rw[hb]at h; exact wv r f s hl.2 h
   | true => rw[hb]at h;cases beq_eq hb;cases h;exact hl.1
theorem cF{P:Program}{E:En}{l:List (Nat×SS)}(hl:nG P l)(h:E.ga=Co l:=by rfl)(hc:E.gc=ED l:=by rfl):dw P E:=⟨fun f s hs=>sN l f s hl (h ▸ hs),fun f s hs=>wv l f s hl (hc ▸ hs)⟩
theorem qW{P:Program}{E E':En}(h:cr P E)(e:E'.tt=E.tt:=by rfl):cr P E':=fun t ti ht=>h t ti (by unfold En.ti at ht ⊢;rw[<- e]; exact ht)
def wK(P:Program)(E:En):List (Nat×Code)->Prop
 | []=>True
 | (id,b)::r=>(∀ L,E.lo id=some L->jM P E id b L)/\wK P E r
theorem rF{P:Program}{E:En}:∀(l:List (Nat×Code)) (id:Nat) (b:Code) (L:Lo E.ρ),wK P E l->(id,b)∈l->E.lo id=some L->jM P E id b L
 | [],_,_,_,_,h,_=>by simp at h
 | (i,c)::r,id,b,L,hl,h,hL=>by
   rcases aew.1 h with h | h
   . cases h; exact hl.1 L hL
   . exact rF r id b L hl.2 h hL
def EP(P:Program)(E:En):List (Nat×Code)->Prop
 | []=>True
 | (id,b)::r=>(∀ F,E.rg id=some F->cY P E b F)/\EP P E r
theorem wA{P:Program}{E:En}:∀(l:List (Nat×Code)) (id:Nat) (b:Code) (F:St->Tr St),EP P E l->(id,b)∈l->E.rg id=some F->cY P E b F
 | [],_,_,_,_,h,_=>by simp at h
 | (i,c)::r,id,b,F,hl,h,hF=>by
   rcases aew.1 h with h | h
   . cases h; exact hl.1 F hF
   . exact wA r id b F hl.2 h hF
theorem sw{P:Program}{E:En}{id:Nat}{b:Code}{F0:St->Tr St}(h:E.rg id=some F0)(hs:cY P E b F0):∀ F,E.rg id=some F->cY P E b F:=fun F hF=>by rw[h]at hF;cases hF;exact hs
theorem vr{P:Program}{E:En}{c:Code}(bs:List (Nat×Code))(h:ez (fun id=>(E.lo id).isSome) c=bs)(hs:wK P E bs)(hrg:∀ id,E.rg id=none:=by intro _; rfl):dp P E c :=
 gq c (fun id b F hm hF=>by rw[hrg id]at hF; simp at hF) fun id b L hm hL=>rF bs id b L hs (h ▸ hm) hL
theorem di{P:Program}{E:En}{c:Code}(bs:List (Nat×Code))(h:ez (fun id=>(E.lo id).isSome) c=bs)(hs:wK P E bs)(rs:List (Nat×Code))(hr:lW (fun id=>(E.rg id).isSome) (fun id=>(E.lo id).isSome) c=rs)(hrs:EP P E rs):dp P E c :=
 gq c (fun id b F hm hF=>wA rs id b F hrs (hr ▸ hm) hF) fun id b L hm hL=>rF bs id b L hs (h ▸ hm) hL
theorem VV{P:Program}{E:En}{id:Nat}{b:Code}{L0:Lo E.ρ}(h:E.lo id=some L0)(hs:jM P E id b L0):∀ L,E.lo id=some L->jM P E id b L:=fun L hL=>by rw[h]at hL;cases hL;exact hs
theorem FR{P:Program}{E:En}(hT:cr P E)(hga:dw P E)(hm:P.follows .mixedOrders=true){id:Nat}{σ:List SE}{body:Code}{step:eU σ->Option (Sum (eU σ) (Sum (eU σ) (eU E.ρ)))}
 (ht:∀ x,(mZ E id σ body x).run=step x)(hl:dp P E body):jM P E id (.loop body) ⟨σ,fun x=>aq step x⟩ :=
 Ey hT hga (uk hT hga) hm (vq E) hl fun x r h=>by obtain⟨n,hn⟩:=x8 step h;have e:(fun x=>(mZ E id σ body x).run)=step:=funext ht;exact⟨n,by rw[e]; exact hn⟩
theorem nN {P : Program} {E : En} (hT : cr P E) (hga : dw P E) (hm : P.follows .mixedOrders = true) {f : Nat} {fn : Func} {c : Code} (hf : P.funcs[f]? = some fn) (hname : (fn.name == "runtime.NumGoroutine") = false) (hb : fn.body = some c) (hnt : E.nt = fn.ntmps) (hl : dp P E c)
 {s:Su} (hs:∀ x y,s.tB x=some y->∃ z,(lL s.ps=true->z=y.1)/\(EU E c fn.results.toList s.ps s.rs s.fresh x).run=some (z,y.2)):aw P f s :=
 Ml hT hga (uk hT hga) hm hf hname hb hnt hl hs
def dC:Code->Code | .seq a _=>a | c=>c
def cJ:Code->Code | .seq _ b=>b | c=>c
def GR:Code->Nat | .region i _ _=>i | _=>0
def nJ(c:Code)(i:Nat):Oper:=match c with | .region _ ops _=>ops.getD i default | _=>default
def qe(id:Nat):Code->Option Code
 | .seq a b=>match qe id a with | some c=>some c | none=>qe id b
 | .cond _ a b=>match qe id a with | some c=>some c | none=>qe id b
 | .block _ c=>qe id c
 | .loop b=>qe id b
 | .region i ops dr=>bif Nat.beq i id then some (.region i ops dr)else none
 | _=>none
def bo(id:Nat)(c:Code):Code:=(qe id c).getD .skip
def K9(o:Oper):Call:=match o.op with | .call c=>c | _=>⟨.builtin .len,#[],#[]⟩
def mzB(bytes:Nat)(n:Int):Bool:=bT 0 n&&bT (n * bytes) bN
def ZS{ρ:List SE}:List (Nat×Lo ρ)->Nat->Option (Lo ρ)
 | [],_=>none
 | (k,L)::r,i=>bif Nat.beq k i then some L else ZS r i
def J5(n:Nat)(tt:List (Nat×TI))(l:List (Nat×SS))(ρ:List SE)(los:List (Nat×Lo ρ))(pins:List Nat):En:=vN n tt l ρ (ZS los) pins fun _=>none
theorem ac{P:Program}{f:Nat}{s:Su}{l:List (Nat×SS)}(h:aw P f s)(r:nG P l):nG P ((f,iS s)::l):=⟨h,r⟩
theorem ack{P:Program}{f:Nat}{s:Sc}{l:List (Nat×SS)}(h:Fx P f s)(r:nG P l):nG P ((f,iC s)::l):=⟨h,r⟩
theorem an{P:Program}:nG P []:=trivial
def ZH(P:Program)(E:En)(C c:Code):Prop:=cr P E->dw P E->P.follows .mixedOrders=true->dp P E c
def QX(P:Program)(E:En)(C:Code)(ks:List Nat):Prop:=cr P E->dw P E->P.follows .mixedOrders=true->wK P E (ks.map fun k=>(k,.loop (lU k C)))
theorem sn{P:Program}{E:En}{C:Code}:QX P E C []:=fun _ _ _=>trivial
theorem dM{P:Program}{n:Nat}{tt:List (Nat×TI)}{l:List (Nat×SS)}{ρ:List SE}{los:List (Nat×Lo ρ)}{pins:List Nat}{C c:Code}
 (h:ez (fun id=>((J5 n tt l ρ los pins).lo id).isSome) c=[]:=by kernel_rfl):ZH P (J5 n tt l ρ los pins) C c:=fun _ _ _ =>
 vr [] h trivial
theorem sc{P:Program}{E:En}{C:Code}{k:Nat}{ks:List Nat}{σ:List SE}{step:eU σ->Option (Sum (eU σ) (Sum (eU σ) (eU E.ρ)))}(hl:ZH P E C (lU k C))(r:QX P E C ks)(h:E.lo k=some ⟨σ,fun x=>aq step x⟩:=by exact rfl)
 (ht:∀ x,(mZ E k σ (lU k C) x).run=step x:=by intro x; kernel_rfl):QX P E C (k::ks):=fun hT hga hm =>
 ⟨VV h (FR hT hga hm ht (hl hT hga hm)),r hT hga hm⟩
theorem lp{P:Program}{n:Nat}{tt:List (Nat×TI)}{l:List (Nat×SS)}{ρ:List SE}{los:List (Nat×Lo ρ)}{pins:List Nat}{C c:Code}(ks:List Nat)(hs:QX P (J5 n tt l ρ los pins) C ks)
 (h:ez (fun id=>((J5 n tt l ρ los pins).lo id).isSome) c=ks.map fun k=>(k,.loop (lU k C)):=by kernel_rfl):ZH P (J5 n tt l ρ los pins) C c:=fun hT hga hm =>
 vr _ h (hs hT hga hm)
theorem flq{P:Program}{tt:List (Nat×TI)}{E0:En}(hT:cr P E0)(hm:P.follows .mixedOrders=true){f:Nat}{s:Su}{n:Nat}{l:List (Nat×SS)}(hl:nG P l){ρ:List SE}{los:List (Nat×Lo ρ)}{pins:List Nat}{fn:Func}
 (h : (P.funcs[f]?, (fn.name == "runtime.NumGoroutine"), fn.body.isSome, fn.ntmps) = (some fn, false, true, n)) (hlo : ZH P (J5 n tt l ρ los pins) (ar fn) (ar fn))
 (ht:∀ x,(EU (J5 n tt l ρ los pins) (ar fn) fn.results.toList s.ps s.rs s.fresh x).run=s.tB x)(e:tt=E0.tt:=by rfl):aw P f s:=by
 simp only[aeS]at h;have hb:fn.body=some (ar fn):=by
  have h:=h.2.2.1;unfold ar;cases hb:fn.body with
  | none=>rw[hb]at h; simp at h
  | some c=>rfl
 have hT':cr P (J5 n tt l ρ los pins):=qW hT e;have hga:dw P (J5 n tt l ρ los pins):=cF (l:=l) hl;exact nN hT' hga hm h.1 h.2.1 hb h.2.2.2.symm (hlo hT' hga hm) fun x y hy=>⟨y.1,fun _=>rfl,(ht x).trans hy⟩
end Go.Av
