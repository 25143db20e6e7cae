/- FnExactRun, a part. -/
import Derived.Test.YtcmhjdkpbgncfaaGreatDoorFw2
import Derived.Laws.AppendOwn
import Derived.KernelRfl
namespace Go.Av
open Go.RowKit (Below)
def Gh.nH(g:Gh)(r j:Nat)(v:Value)(F:Nat->Prop):Gh:=⟨g.be,fun r' j'=>if r'=r/\j'=j then v else g.cv r' j',fun r' j' b=>if r'=r/\j'=j then F b else g.fp r' j' b⟩
section
variable{P:Program}{cx:Cx P}{Z:Nat->Prop}{g:Gh}{st:St}{a:Act}{w:World}{E:En}
theorem l9{r j:Nat}{c:RC}{r':Nat}{R':Rt}(hR:look (st.setCell r j c).rt r'=some R'):∃ R,look st.rt r'=some R/\R'.box=R.box/\R'.cells.length=R.cells.length:=by
 rw[jC]at hR;split at hR
 . cases hl:look st.rt r' with
   | none=>rw[hl]at hR; simp at hR
   | some R => rw[hl]at hR;simp only[amE,amd]at hR;subst hR;exact⟨R,rfl,rfl,kT _ _ _⟩
 . exact⟨R',hR,rfl,rfl⟩
theorem Rel.change(h:Rel cx Z g st a w){r j:Nat}{c c':RC}(hc:st.cell r j=some c){w':World}{v':Value}{F':Nat->Prop}(h1:w'.os=w.os)(h2:w'.tape=w.tape)(h3:w'.output=w.output)(dh:w.heap.size<=w'.heap.size)
 (hs:c.s<=c'.s)(hm:c.m<c'.m)(O7:c'.s=c.s->v'=g.cv r j)(Kb:c'.s=c.s->∀ e ks xs,c.v= .own (.sl e ks) xs->∃ rU,c'.v= .own (.sl e ks) rU/\(aW rU).length=(aW xs).length)
 (lD:∀ b,b<w.heap.size->¬ g.fp r j b->(∀ R,look st.rt r=some R->R.box=true->g.be r≠b)->w'.heap[b]? = w.heap[b]?)
 (hF:∀ b,F' b->b<w'.heap.size/\(cx.F0 b∨cx.w0.heap.size<=b)/\¬ Z b/\(∀ r' j',g.fp r' j' b->r'=r/\j'=j)/\(∀ r' R,look st.rt r'=some R->R.box=true->g.be r'≠b)/\∃(k:K) (x:T k),c'.v= .own k x)
 (alp:∀ R,look st.rt r=some R->R.box=true->∃ cs e fr fT,w.heap[g.be r]? = some (.cells cs e fr)/\w'.heap[g.be r]? = some (.cells fT e fr)/\fT.size=cs.size/\∀ i,i<cs.size->fT[i]? = some (if i=j then v' else g.cv r i))
 (hv:∀(k:oe Z Z w w' g (g.nH r j v' F') st (st.setCell r j c')),lh Z (g.nH r j v' F') (st.setCell r j c') w' c'.v v' F') :
 Rel cx Z (g.nH r j v' F') (st.setCell r j c') a w'/\lM Z w w' g (g.nH r j v' F') st (st.setCell r j c'):=by
 have H4:∀ r' j' b,g.fp r' j' b->¬ (r'=r/\j'=j)->w'.heap[b]? = w.heap[b]? := fun r' j' b hb cY=>lD b (h.fp r' j' b hb).1 (fun hh=>cY (h.cS _ _ _ _ _ hb hh)) fun R hR nO he=>(h.box r R hR nO).2.2.1 r' j' (by rw[he]; exact hb)
 have hz:∀ b,Z b->b<w.heap.size->w'.heap[b]? = w.heap[b]? := fun b hb aV=>lD b aV (fun hh=>(h.fp r j b hh).2.2.1 hb) fun R hR nO he=>(h.box r R hR nO).2.1 (by rw[he]; exact hb)
 have qP:∀ r' j' b,(g.nH r j v' F').fp r' j' b->(r'=r/\j'=j/\F' b)∨(¬ (r'=r/\j'=j)/\g.fp r' j' b):=fun r' j' b hb=>by
  simp only[Gh.nH]at hb;split at hb
  . rename_i e; exact .inl ⟨e.1,e.2,hb⟩
  . rename_i e; exact .inr ⟨e,hb⟩
 have k:oe Z Z w w' g (g.nH r j v' F') st (st.setCell r j c'):=by
  refine { size:=dh,z:=fun b hb aV=>⟨hb,hz b hb aV⟩,root:=fun r' R hR => ?_,cell:=fun r' j' c0 Im => ?_,own:=fun r j b hb=>(h.fp r j b hb).1,block:=(gk h (ay:=st) (w':=w) rfl rfl).block }
  . rw[jC];by_cases e:r=r'
    . rw[if_pos e,hR]; exact⟨_,rfl,rfl,fun _=>rfl⟩
    . rw[if_neg e]; exact⟨R,hR,rfl,fun _=>rfl⟩
  . rw[dD];by_cases e:r=r'/\j=j'
    . obtain⟨rfl,rfl⟩:=e;rw[Im]at hc;simp only[amd]at hc;subst hc;rw[if_pos ⟨rfl,rfl⟩,Im];refine⟨_,rfl,hs,aox hm,fun e => ?_,Kb,fun _ e=>absurd e (Nat.ne_of_gt hm)⟩;simp only[Gh.nH,and_self,if_true];exact O7 e
    . rw[if_neg e];have e':¬ (r'=r/\j'=j):=fun x=>e ⟨x.1.symm,x.2.symm⟩
      refine⟨c0,Im,oR _,oR _,fun _=>by simp only[Gh.nH]; rw[if_neg e'],fun _ e ks xs hh=>⟨xs,hh,rfl⟩,fun _ _=>⟨rfl,fun b hb _=>⟨?_,H4 r' j' b hb e'⟩⟩⟩;simp only[Gh.nH];rw[if_neg e'];exact hb
 refine⟨?_,⟨k,fK,rfl,fun r' R' hR=>by obtain⟨R,h1,h2,_⟩:=l9 hR; exact⟨R,h1,h2⟩⟩⟩;refine { os:=h1.trans h.os,tape:=h2.trans h.tape,output:=h3.trans h.output,size:=aml h.size dh,block := ?_,cq:=fun b hb=>⟨amC (h.cq b hb).1 dh,(h.cq b hb).2⟩,z0:=h.z0,fp := ?_,cS := ?_,box := ?_,cell := ?_,tm := ?_,defers:=h.defers,nx:=h.nx }
 . intro b hb hf;refine(lD b (amC hb h.size) (fun hh => ?_) fun R hR nO he => ?_).trans (h.block b hb hf)
   . rcases(h.fp r j b hh).2.1 with h4 | h4
     . exact hf h4
     . omega
   . rcases(h.box r R hR nO).1 with h4 | h4
     . exact hf (he ▸ h4)
     . omega
 . intro r' j' b hb;rcases qP r' j' b hb with ⟨e1,e2,cz⟩ | ⟨cY,hb⟩
   . obtain⟨k1,k2,k3,_,_,kk,x,k4⟩:=hF b cz;exact⟨k1,k2,k3,c',kk,x,by rw[dD,if_pos ⟨e1.symm,e2.symm⟩,e1,e2,hc]; rfl,k4⟩
   . obtain⟨k1,k2,k3,c0,kk,x,k4,k5⟩:=h.fp r' j' b hb;exact⟨amC k1 dh,k2,k3,c0,kk,x,by rw[dD,if_neg (fun e=>cY ⟨e.1.symm,e.2.symm⟩)]; exact k4,k5⟩
 . intro r1 j1 r2 j2 b yP l6;rcases qP _ _ _ yP with ⟨e1,e2,k1⟩ | ⟨alq,k1⟩
   . rcases qP _ _ _ l6 with ⟨e3,e4,k2⟩ | ⟨ahM,k2⟩
     . exact⟨e1.trans e3.symm,e2.trans e4.symm⟩
     . exact absurd ((hF b k1).2.2.2.1 r2 j2 k2) ahM
   . rcases qP _ _ _ l6 with ⟨e3,e4,k2⟩ | ⟨ahM,k2⟩
     . exact absurd ((hF b k2).2.2.2.1 r1 j1 k1) alq
     . exact h.cS _ _ _ _ _ k1 k2
 . intro r' R' hR nO;obtain⟨R,e1,e2,e3⟩:=l9 hR;obtain⟨b1,b2,b3,b4,cs,el,fr,b5,b6,b7,b8⟩:=h.box r' R e1 (by rw[<- e2]; exact nO);have hnf:∀ r0 j0,¬ (g.nH r j v' F').fp r0 j0 (g.be r'):=fun r0 j0 hh=>by
    rcases qP _ _ _ hh with ⟨_,_,hh⟩ | ⟨_,hh⟩
    . exact(hF _ hh).2.2.2.2.1 r' R e1 (by rw[<- e2]; exact nO) rfl
    . exact b3 _ _ hh
   refine⟨b1,b2,hnf,fun OR X9 mO xr he => ?_,?_⟩
   . obtain⟨R2,f1,f2,_⟩:=l9 mO;exact b4 OR R2 f1 (by rw[<- f2]; exact xr) he
   . by_cases e:r'=r
     . subst e;obtain⟨cs0,el0,fr0,fT,f1,f2,f3,f4⟩:=alp R e1 (by rw[<- e2]; exact nO);rw[b5]at f1;simp only[amd,Obj.cells.injEq]at f1;obtain⟨rfl,rfl,rfl⟩:=f1;refine⟨fT,el,fr,f2,fun q hq=>b6 q (by omega),by rw[f3,b7,e3],fun i hi => ?_⟩;rw[f4 i (by omega)];simp only[Gh.nH,true_and]
     . refine⟨cs,el,fr,?_,b6,by rw[b7,e3],fun i hi => ?_⟩
       . have aV:g.be r'<w.heap.size:=by
          rcases amv (g.be r') w.heap.size with hh | hh
          . exact hh
          . simp[amy hh]at b5
         show w'.heap[g.be r']? = _;rw[lD _ aV (b3 r j) fun R0 H5 xx he=>e (b4 r R0 H5 xx he).symm];exact b5
       . rw[b8 i hi];simp only[Gh.nH];rw[if_neg (fun x=>e x.1)]
 . intro r' j' c0 Im;rw[dD]at Im;split at Im
   . rename_i e;obtain⟨rfl,rfl⟩:=e;rw[hc]at Im;simp only[amE,amd]at Im;subst Im;have e1:(g.nH r j v' F').cv r j=v':=by simp[Gh.nH]
     have e2:(g.nH r j v' F').fp r j=F':=by funext b; simp[Gh.nH]
     rw[e1,e2];exact hv k
   . rename_i e;have e':¬ (r'=r/\j'=j):=fun x=>e ⟨x.1.symm,x.2.symm⟩
     have e1:(g.nH r j v' F').cv r' j'=g.cv r' j':=by simp only[Gh.nH]; rw[if_neg e']
     have e2:(g.nH r j v' F').fp r' j'=g.fp r' j':=by funext b; simp only[Gh.nH]; rw[if_neg e']
     rw[e1,e2];exact lh.cI k _ _ _ _ (h.cell r' j' c0 Im) (fun _ h=>h) (fun b hb _=>H4 r' j' b hb e')
 . intro t tv ht;rw[fK]at ht;exact⟨(h.tm t tv ht).1,bW.cI k _ _ (h.tm t tv ht).2⟩
theorem DB{b o:Nat}{v:Value}(h:w.cell? ⟨b,o,none⟩=some v):w.setCell ⟨b,o,none⟩ v=w:=by
 have:(w.setCell ⟨b,o,none⟩ v).heap=w.heap:=by
  apply an8;intro i;simp only[World.setCell,Array.getElem?_modify];by_cases e:b=i
  . subst e;rw[if_pos rfl];simp only[World.cell?]at h;split at h
    . rename_i c el fr hh;rw[hh];simp at h;simp only[amE,anz,amX,anu,amd,Obj.cells.injEq,anM];apply an8;intro q;rw[anb];by_cases e:o=q
      . subst e;rw[if_pos rfl];have aV:o<c.size:=by
         rcases amv o c.size with hh | hh
         . exact hh
         . simp[amy hh]at h
        rw[if_pos aV,h]
      . rw[if_neg e]
    . simp at h
  . rw[if_neg e]
 cases w;simp only[World.setCell]at this ⊢;congr 1
theorem eb(b o:Nat)(v:Value)(i:Nat):(w.setCell ⟨b,o,none⟩ v).heap[i]? = if b=i then (w.heap[i]?).map (fun | .cells c el fr=> .cells (c.setIfInBounds o v) el fr | x=>x)else w.heap[i]? := by
 simp only[World.setCell,Array.getElem?_modify];by_cases e:b=i
 . rw[if_pos e,if_pos e];cases w.heap[i]? with
   | none=>rfl
   | some x=>cases x <;> rfl
 . rw[if_neg e,if_neg e]
theorem Rel.acp(h:Rel cx Z g st a w){r j:Nat}{c:RC}(hc:st.cell r j=some c){R:Rt}(hR:look st.rt r=some R)(hb:R.box=true){rv:RV}{v:Value}{F:Nat->Prop}(hF:jK cx Z g st w F)(hrv:match rv with | .own k x=>dI w k x v F | .av x=>bC Z g st w x v) :
 ∃ g',Rel cx Z g' (st.setCell r j ⟨c.s+1,c.m+1,rv⟩) a (w.setCell ⟨g.be r,j,none⟩ v)/\lM Z w (w.setCell ⟨g.be r,j,none⟩ v) g g' st (st.setCell r j ⟨c.s+1,c.m+1,rv⟩)/\g'.be=g.be:=by
 obtain⟨b1,b2,b3,b4,cs,el,fr,b5,b6,b7,b8⟩:=h.box r R hR hb;have nP:j<cs.size:=by
  rw[b7];simp only[St.cell,hR]at hc;rcases amv j R.cells.length with hh | hh
  . exact hh
  . simp[amw hh]at hc
 have dh:(w.setCell ⟨g.be r,j,none⟩ v).heap.size=w.heap.size:=by simp[World.setCell]
 have uv:∀ i,i≠g.be r->(w.setCell ⟨g.be r,j,none⟩ v).heap[i]? = w.heap[i]? := fun i hi=>by rw[eb,if_neg (fun e=>hi e.symm)]
 have:=h.change hc (c':=⟨c.s+1,c.m+1,rv⟩) (w':=w.setCell ⟨g.be r,j,none⟩ v) (v':=v) (F':=fun b=>F b/\∃(k:K) (x:T k),rv= .own k x) rfl rfl rfl (by rw[dh]; exact oR _) (aoc _) (ane _)
  (fun e=>absurd e (aoC _)) (fun e=>absurd e (aoC _)) (fun b _ _ hx=>uv b fun e=>hx R hR hb e.symm)
  (fun b cz=>⟨by rw[dh]; exact hF.lt b cz.1,hF.own b cz.1,hF.z b cz.1,fun r' j' hh=>absurd hh (hF.fp b cz.1 r' j'),fun r' R' lr hx=>hF.box b cz.1 r' R' lr hx,cz.2⟩)
  (fun R' lr hx=>⟨cs,el,fr,cs.setIfInBounds j v,b5,by rw[eb,if_pos rfl,b5]; rfl,by simp,fun i hi=>by
    rw[anb];by_cases e:i=j
    . subst e; simp[hi]
    . rw[if_neg (fun x=>e x.symm),if_neg e]; exact b8 i hi⟩)
  (fun k=>by
    cases rv with
    | own kk x=>exact dI.frame _ _ _ _ _ (fun b hb=>⟨hb,kk,x,rfl⟩) (fun b hb _=>uv b fun e=>hF.box b hb r R hR ‹_› e.symm) hrv
    | av x=>exact bC.cI k _ _ hrv)
 exact⟨_,this.1,this.2,rfl⟩
end
def shape(st:St)(r:Nat):Option (Bool×Nat):=(look st.rt r).map fun R=>(R.box,R.cells.length)
theorem kP{st:St}{r j:Nat}{c:RC}(r':Nat):shape (st.setCell r j c) r'=shape st r':=by
 unfold shape;rw[jC];split
 . rename_i e;subst e;cases look st.rt r with
   | none=>rfl
   | some R=>simp[kT]
 . rfl
theorem It{st:St}{av:AV}{q:St×((k:K)×T k)}(h:st.take av=some q)(r':Nat):shape q.1 r'=shape st r'/\q.1.tm=st.tm:=by
 cases av with
 | ref r j s =>
   simp only[St.take]at h;split at h
   . rename_i s' m k x hc;cases hb:Nat.beq s' s with
     | false=>rw[hb]at h; simp at h
     | true=>rw[hb]at h; cases h; exact⟨kP r',fK⟩
   . simp at h
 | cut r j s n =>
   simp only[St.take]at h;split at h
   . rename_i s' m e ks x hc;cases hb:Nat.beq s' s with
     | false=>rw[hb]at h; simp at h
     | true=>rw[hb]at h; cases h; exact⟨kP r',fK⟩
   . simp at h
 | _=>simp[St.take]at h
theorem vI{st ay:St}{k:K}{av:AV}{x:T k}(h:st.cW k av=some (ay,x))(r':Nat):shape ay r'=shape st r'/\ay.tm=st.tm:=by
 unfold St.cW at h;split at h
 . cases h; exact⟨rfl,rfl⟩
 . split at h
   . rename_i ca k1 x1 hq;split at h
     . cases h; exact It hq r'
     . simp at h
   . simp at h
theorem sA{st:St}{r n:Nat}{b:Bool}(h:shape st r=some (b,n)):∃ R,look st.rt r=some R/\R.box=b/\R.cells.length=n:=by
 unfold shape at h;cases hl:look st.rt r with
 | none=>rw[hl]at h; simp at h
 | some R=>rw[hl]at h; simp only[amE,amd,amK]at h; exact⟨R,rfl,h.1,h.2⟩
theorem yr{st:St}{r j:Nat}{c:RC}(h:st.cell r j=some c){R:Rt}(hR:look st.rt r=some R):j<R.cells.length:=by
 simp only[St.cell,hR]at h;rcases amv j R.cells.length with hh | hh
 . exact hh
 . simp[amw hh]at h
section
variable{P:Program}{cx:Cx P}{Z:Nat->Prop}{a:Act}{E:En}
theorem ru{r n:Nat}:∀(ks:List K) (l:List AV) (vs:List Value) (st:St) (g:Gh) (w:World) (j:Nat) (ay:St),Rel cx Z g st a w->shape st r=some (true,n)->ba Z g st w l vs->st.dz r j ks l=some ay ->
 ∃ g',Rel cx Z g' ay a (w.setCells (g.be r) j vs)/\ay.tm=st.tm/\(vs=[]∨j+vs.length<=n)
 | [],[],[],st,g,w,j,ay,h,hs,hr,ht=>by simp only[St.dz,amd]at ht;subst ht;exact⟨g,h,rfl,.inl rfl⟩
 | [],[],_::_,st,g,w,j,ay,h,hs,hr,ht=>hr.elim
 | k::ks,av::l,[],st,g,w,j,ay,h,hs,hr,ht=>hr.elim
 | k::ks,av::l,v::vs,st,g,w,j,ay,h,hs,hr,ht=>by
   obtain⟨R,hR,hb,hn⟩:=sA hs
   have put:∀(ca:St) (g1:Gh) (rv:RV) (F:Nat->Prop) (c:RC),Rel cx Z g1 ca a w->g1.be=g.be->ca.tm=st.tm->(∀ r',shape ca r'=shape st r')->jK cx Z g1 ca w F->(match rv with | .own k x=>dI w k x v F | .av x=>bC Z g1 ca w x v)->ba Z g1 ca w l vs->ca.cell r j=some c ->
    (ca.setCell r j ⟨c.s+1,c.m+1,rv⟩).dz r (j+1) ks l=some ay->∃ g',Rel cx Z g' ay a (w.setCells (g.be r) j (v::vs))/\ay.tm=st.tm/\(v::vs=[]∨j+(v::vs).length<=n):=by
    intro ca g1 rv F c h1 vT Fm BX hF hrv hl hc mR;obtain⟨R1,U7,yP,U8⟩:=sA (show shape ca r=some (true,n)by rw[BX]; exact hs);obtain⟨g2,k1,k2,k3⟩:=h1.acp hc U7 yP hF hrv;rw[vT]at k1 k2;obtain⟨g',m1,m2,m3⟩:=ru ks l vs _ g2 _ (j+1) ay k1 (by rw[kP,BX]; exact hs) (ba.cI k2.cI _ _ hl) mR;rw[k3,vT]at m1;refine⟨g',m1,m2.trans (fK.trans Fm),.inr ?_⟩;have:=yr hc U7;rcases m3 with m3 | m3
    . subst m3; simp; omega
    . simp; omega
   have bump:∀(ca:St) (rv:RV) (q:Option St),(match ca.bump r j rv with | some ay=>ay.dz r (j+1) ks l | none=>none)=some ay->∃ c,ca.cell r j=some c/\(ca.setCell r j ⟨c.s+1,c.m+1,rv⟩).dz r (j+1) ks l=some ay:=by
    intro ca rv _ hh;unfold St.bump at hh;cases hc:ca.cell r j with
    | none=>rw[hc]at hh; simp at hh
    | some c=>rw[hc]at hh; exact⟨c,rfl,hh⟩
   have take:(match st.cW k av with | some (ay,x)=>(match ay.bump r j (.own k x)with | some ay=>ay.dz r (j+1) ks l | none=>none) | none=>none)=some ay->∃ g',Rel cx Z g' ay a (w.setCells (g.be r) j (v::vs))/\ay.tm=st.tm/\(v::vs=[]∨j+(v::vs).length<=n):=by
    intro hh;cases Ds:st.cW k av with
    | none=>rw[Ds]at hh; simp at hh
    | some q => obtain⟨ca,x⟩:=q;rw[Ds]at hh;simp only at hh;obtain⟨c,hc,mR⟩:=bump ca (.own k x) none hh;obtain⟨g1,F,k1,k2,k3,k4,k5,k6,k7⟩:=ik h hr.1 Ds;exact put ca g1 (.own k x) F c k1 k2.be k2.tm (fun r'=>(vI Ds r').1) k4 k3 (ba.cI k2.cI _ _ hr.2) hc mR
   have viaRC:(match st.kJ av with | some c=>(match st.bump r j c.v with | some ay=>ay.dz r (j+1) ks l | none=>none) | none=>none)=some ay->∃ g',Rel cx Z g' ay a (w.setCells (g.be r) j (v::vs))/\ay.tm=st.tm/\(v::vs=[]∨j+(v::vs).length<=n):=by
    intro hh;cases Ds:st.kJ av with
    | none=>rw[Ds]at hh; simp at hh
    | some c1 => rw[Ds]at hh;simp only at hh;obtain⟨c,hc,mR⟩:=bump st c1.v none hh;have h1:ba Z g st w [av] [v]:=⟨hr.1,trivial⟩;obtain⟨e1,e2,e3⟩:=wq h [av] [v] [c1] h1 (by simp[St.mi,Ds]);obtain⟨x,hx,hxr⟩:=e3 0 c1 v rfl rfl;rw[hx]at mR;exact put st g (.av x) (fun _=>False) c h rfl rfl (fun _=>rfl) (jK.none _ _ _ _ _) hxr hr.2 hc mR
   cases av with
   | ref r2 j2 s2 =>
     simp only[St.dz]at ht;cases l6:Nat.beq r r2&&Nat.beq j j2 with
     | true =>
       rw[l6]at ht;simp only[oT]at ht;simp only[ame]at l6;have e1:=beq_eq l6.1;have e2:=beq_eq l6.2;subst e1; subst e2;cases hc:st.cell r j with
       | none=>rw[hc]at ht; simp at ht
       | some c =>
         rw[hc]at ht;simp only at ht;cases Md:Nat.beq c.s s2 with
         | false=>rw[Md]at ht; simp at ht
         | true =>
           rw[Md]at ht;simp only[oT]at ht;obtain⟨c',k1,k2,k3⟩:=hr.1;rw[hc]at k1;simp only[amd]at k1;subst k1;have hv:=k3 (beq_eq Md);have aV:=yr hc hR;obtain⟨b1,b2,b3,b4,cs,el,fr,b5,b6,b7,b8⟩:=h.box r R hR hb;have bD:w.cell? ⟨g.be r,j,none⟩=some v:=by simp only[World.cell?,b5,anz,amX,anu];rw[b8 j (by omega),hv]
           obtain⟨g',m1,m2,m3⟩:=ru ks l vs st g w (j+1) ay h hs hr.2 ht;refine⟨g',?_,m2,.inr ?_⟩
           . show Rel cx Z g' ay a ((w.setCell ⟨g.be r,j,none⟩ v).setCells (g.be r) (j+1) vs);rw[DB bD];exact m1
           . rcases m3 with m3 | m3
             . subst m3; simp; omega
             . simp; omega
     | false => rw[l6]at ht;exact take ht
   | cut r2 j2 s2 n2=>exact take ht
   | nil =>
     cases k with
     | sl e bZ => simp only[St.dz]at ht;obtain⟨c,hc,mR⟩:=bump st _ none ht;have hv:v= .slice none 0 0:=hr.1;exact put st g (.own (.sl e bZ) ([]:List (Tl bZ))) (fun _=>False) c h rfl rfl (fun _=>rfl) (jK.none _ _ _ _ _) (by rw[hv]; exact kN e bZ) hr.2 hc mR
     | _=>simp[St.dz]at ht
   | _=>exact viaRC ht
 | [],_::_,_,st,g,w,j,ay,h,hs,hr,ht=>by simp[St.dz]at ht
 | _::_,[],_,st,g,w,j,ay,h,hs,hr,ht=>by simp[St.dz]at ht
theorem Gq{t:TypeId}{ti:TI}(hT:rI P t ti){w:World}{b o:Nat}{v:Value}{vs:List Value}(hv:v.cells.toList=vs)(hl:vs.length=ti.ks.length)(h1:∀ u∈vs,u.oneCell'=true)(hc:∀ j,j<vs.length->∃ cs el fr,w.heap[b]? = some (.cells cs el fr)/\o+j<cs.size/\¬ (fr.1<=o+j/\o+j<fr.2)) :
 (Instr.storeAt t (.pointer (some ⟨b,o,none⟩)) v).run P w= .ok () (w.setCells b o vs):=by
 have dh:v.cells.size=ti.ks.length:=by rw[<- amP,hv,hl]
 have mR:=run_storeCells_cells (P:=P) b o vs 0 w (fun j hj=>by
  obtain⟨cs,el,fr,e1,e2,_⟩:=hc j hj;simp[World.cell?,e1,e2]) (fun j hj=>by
  obtain⟨cs,el,fr,e1,e2,e3⟩:=hc j hj;simp only[World.frozen?,amJ,e1];simp only[aoy,aof];by_cases h:fr.1<=o+j
  . exact .inr fun h'=>e3 ⟨h,h'⟩
  . exact .inl h) h1
 rw[amJ]at mR;simp only[Instr.storeAt,Instr.sureAddr,amF,amN,amq,storeVar,dt hT,dh,hv,ne_eq,not_true_eq_false,anu];simpa using mR
end
section
variable{w w':World}
theorem x6:∀(ks:List K) (x:Tl ks) (j:Nat) (G G':Nat->Nat->Prop) (cs fT:Array Value) (o:Nat),(∀ q,q<ks.length->fT[o+q]? = cs[o+q]?)->(∀ j b,G j b->G' j b)->(∀ j b,G j b->b<w.heap.size->w'.heap[b]? = w.heap[b]?)->gw w ks x j G cs o->gw w' ks x j G' fT o
 | [],_,_,_,_,_,_,_,_,_,_,_=>trivial
 | k::ks,x,j,G,G',cs,fT,o,hc,hG,hw,⟨⟨v,h1,h2⟩,h3⟩ =>
   ⟨⟨v,by rw[<- h1]; exact hc 0 (by simp),dI.frame k _ v (G j) (G' j) (hG j) (hw j) h2⟩,x6 ks _ (j+1) G G' cs fT (o+1) (fun q hq=>by rw[show o+1+q=o+(q+1)by omega]; exact hc (q+1) (by simp; omega)) hG hw h3⟩
theorem Bw:∀(ks:List K) (x:Tl ks) (c:Nat) (k:K) (y:T k) (z:Tl ks),setAt ks x c k y=some z->c<ks.length
 | [],_,_,_,_,_,h=>by simp[setAt]at h
 | _::_,_,0,_,_,_,_=>by simp
 | k0::ks,x,c+1,k,y,z,h=>by
   simp only[setAt]at h;split at h
   . rename_i z' hz;have:=Bw ks x.2 c k y z' hz;simp; omega
   . simp at h
theorem Am:∀(ks:List K) (x:Tl ks) (c:Nat) (k:K) (y:T k) (z:Tl ks) (j:Nat) (G G':Nat->Nat->Prop) (F:Nat->Prop) (cs fT:Array Value) (o:Nat) (v:Value),setAt ks x c k y=some z->dI w' k y v F->fT[o+c]? = some v->(∀ q,q<ks.length->q≠c->fT[o+q]? = cs[o+q]?) ->
 (∀ q b,q≠j+c->G q b->G' q b)->(∀ b,F b->G' (j+c) b)->(∀ q b,q≠j+c->G q b->b<w.heap.size->w'.heap[b]? = w.heap[b]?)->gw w ks x j G cs o->gw w' ks z j G' fT o
 | [],_,_,_,_,_,_,_,_,_,_,_,_,_,h,_,_,_,_,_,_,_=>by simp[setAt]at h
 | k0::ks,x,0,k,y,z,j,G,G',F,cs,fT,o,v,h,hv,hc,Md,hG,hF,hw,⟨⟨u,h1,h2⟩,h3⟩=>by
   simp only[setAt]at h;split at h
   . rename_i y' hy;cases h;obtain⟨e,hy⟩:=cQ hy;subst e;subst hy;refine⟨⟨v,hc,dI.frame _ _ _ _ _ hF (fun _ _ _=>rfl) hv⟩,?_⟩;have key:∀(ks:List K) (x:Tl ks) (q0:Nat) (o:Nat),j<q0->(∀ q,q<ks.length->fT[o+q]? = cs[o+q]?)->gw w ks x q0 G cs o->gw w' ks x q0 G' fT o:=by
      intro ks;induction ks with
      | nil=>intro x q0 o _ _ _; trivial
      | cons k1 ks ih => intro x q0 o hq Md ⟨⟨u,g1,g2⟩,g3⟩;exact⟨⟨u,by rw[<- g1]; exact Md 0 (by simp),dI.frame _ _ _ _ _ (fun b hb=>hG q0 b (by omega) hb) (fun b hb=>hw q0 b (by omega) hb) g2⟩,ih x.2 (q0+1) (o+1) (by omega) (fun q hq=>by rw[show o+1+q=o+(q+1)by omega]; exact Md (q+1) (by simp; omega)) g3⟩
     exact key ks x.2 (j+1) (o+1) (by omega) (fun q hq=>by rw[show o+1+q=o+(q+1)by omega]; exact Md (q+1) (by simp; omega) (by omega)) h3
   . simp at h
 | k0::ks,x,c+1,k,y,z,j,G,G',F,cs,fT,o,v,h,hv,hc,Md,hG,hF,hw,⟨⟨u,h1,h2⟩,h3⟩=>by
   simp only[setAt]at h;split at h
   . rename_i z' hz;cases h;refine⟨⟨u,by rw[<- h1]; exact Md 0 (by simp) (by omega),dI.frame _ _ _ _ _ (fun b hb=>hG j b (by omega) hb) (fun b hb=>hw j b (by omega) hb) h2⟩,?_⟩
     exact Am ks x.2 c k y z' (j+1) G G' F cs fT (o+1) v hz hv (by rw[show o+1+c=o+(c+1)by omega]; exact hc) (fun q hq cY=>by rw[show o+1+q=o+(q+1)by omega]; exact Md (q+1) (by simp; omega) (by omega))
      (fun q b cY hb=>hG q b (by omega) hb) (fun b hb=>by rw[show j+1+c=j+(c+1)by omega]; exact hF b hb) (fun q b cY hb=>hw q b (by omega) hb) h3
   . simp at h
end
section
variable{P:Program}{cx:Cx P}{Z:Nat->Prop}{g:Gh}{st:St}{a:Act}{w:World}{E:En}
theorem N8{i i' n q c:Nat}(hq:q<n)(hc:c<n)(h:¬ (i'=i/\q=c)):i' * n+q≠i * n+c:=by
 intro e;rcases aoR i' i with hi | hi | hi
 . have:=amH n (show i'+1<=i from hi);rw[amR,aoE]at this;omega
 . subst hi;exact h ⟨rfl,by omega⟩
 . have:=amH n (show i+1<=i' from hi);rw[amR,aoE]at this;omega
theorem Rel.aho(h:Rel cx Z g st a w){r j s m:Nat}{e:TypeId}{ks:List K}{xs:T (.sl e ks)}(hc:st.cell r j=some ⟨s,m,.own (.sl e ks) xs⟩){i:Nat}(hi:i<(aW xs).length){b o l cap:Nat}(O7:g.cv r j= .slice (some ⟨b,o,none⟩) l cap)
 {F:Nat->Prop}(hF:jK cx Z g st w F){k:K}{y:T k}{v:Value}(hv:dI w k y v F){c:Nat}{z:Tl ks}(hz:setAt ks (iq xs i) c k y=some z) :
 ∃ g',Rel cx Z g' (st.setCell r j ⟨s,m+1,.own (.sl e ks) (List.set (aW xs) i z)⟩) a (w.setCell ⟨b,o+i * ks.length+c,none⟩ v)/\lM Z w (w.setCell ⟨b,o+i * ks.length+c,none⟩ v) g g' st (st.setCell r j ⟨s,m+1,.own (.sl e ks) (List.set (aW xs) i z)⟩)/\g'.be=g.be /\
  ∃ cs el fr,w.heap[b]? = some (.cells cs el fr)/\o+i * ks.length+c<cs.size/\(∀ q,q<cs.size->¬ (fr.1<=q/\q<fr.2)):=by
 have xw:=Bw _ _ _ _ _ _ hz;have kl:=fy h hc rfl;rw[O7]at kl;obtain⟨a',c0,h1,h2,h3,h4,h5⟩:=kl;simp only[anf]at h1;obtain⟨rfl,rfl,rfl⟩:=h1;obtain⟨b',o',cs,el,fr,g1,g2,g3,g4,g5,G,g6,g7,g8⟩:=h5 _ rfl;simp only[anF,anM]at g1;obtain⟨rfl,rfl⟩:=g1;have dh:(w.setCell ⟨b,o+i * ks.length+c,none⟩ v).heap.size=w.heap.size:=by simp[World.setCell]
 have uv:∀ q,q≠b->(w.setCell ⟨b,o+i * ks.length+c,none⟩ v).heap[q]? = w.heap[q]? := fun q hq=>by rw[eb,if_neg (fun e=>hq e.symm)]
 have aV:o+i * ks.length+c<cs.size:=by have:=amH ks.length (show i+1<=cap by omega);rw[amR,aoE]at this;omega
 have hlen:(aW (e:=e) (ks:=ks) (List.set (aW xs) i z)).length=(aW xs).length:=ano ..
 have hFb:∀ q,F q->q≠b:=fun q hq e=>hF.fp q hq r j (by rw[e]; exact g2)
 have:=h.change hc (c':=⟨s,m+1,.own (.sl e ks) (List.set (aW xs) i z)⟩) (w':=w.setCell ⟨b,o+i * ks.length+c,none⟩ v) (v':=g.cv r j) (F':=fun q=>g.fp r j q∨F q) rfl rfl rfl (by rw[dh]; exact oR _) (oR _) (ane _)
  (fun _=>rfl) (fun _ e' bZ rU hx=>by simp only[RV.own.injEq,K.sl.injEq]at hx;obtain⟨⟨rfl,rfl⟩,hx⟩:=hx;have hx:=aot hx;subst hx;exact⟨_,rfl,hlen⟩)
  (fun q _ hq _=>uv q fun e=>hq (by rw[e]; exact g2))
  (fun q hq=>by
    rcases hq with hq | hq
    . obtain⟨k1,k2,k3,_⟩:=h.fp r j q hq;exact⟨by rw[dh]; exact k1,k2,k3,fun r' j' hh=>h.cS _ _ _ _ _ hh hq,fun r' R' lr hx he=>(h.box r' R' lr hx).2.2.1 r j (by rw[he]; exact hq),_,_,rfl⟩
    . exact⟨by rw[dh]; exact hF.lt q hq,hF.own q hq,hF.z q hq,fun r' j' hh=>absurd hh (hF.fp q hq r' j'),fun r' R' lr hx=>hF.box q hq r' R' lr hx,_,_,rfl⟩)
  (fun R' lr hx=>by
    obtain⟨_,_,b3,_,cs1,el1,fr1,b5,_,_,b8⟩:=h.box r R' lr hx;refine⟨cs1,el1,fr1,cs1,b5,?_,rfl,fun q hq => ?_⟩
    . rw[uv _ fun e=>b3 r j (by rw[e]; exact g2)]; exact b5
    . rw[b8 q hq];by_cases e:q=j
      . subst e; rw[if_pos rfl]
      . rw[if_neg e])
  (fun kp=>by
    show dI _ (.sl e ks) (List.set (aW xs) i z) (g.cv r j) _;rw[O7];refine⟨_,cap,by rw[hlen],by rw[hlen]; exact h2,by rw[hlen]; exact h3,h4,fun a'' H6 => ?_⟩;simp only[amd]at H6;subst H6;refine⟨b,o,cs.setIfInBounds (o+i * ks.length+c) v,el,fr,rfl,.inl g2,by rw[eb,if_pos rfl,g3]; rfl,fun q hq=>g4 q (by simpa using hq),by simpa using g5,fun i' j' q=>if i'=i/\j'=c then F q else G i' j' q,fun i' j' q hq => ?_,fun i1 j1 i2 j2 q OS Ci => ?_,fun i' x hx => ?_⟩
    . dsimp only at hq;by_cases e:i'=i/\j'=c
      . rw[if_pos e]at hq; exact⟨.inr hq,hFb q hq⟩
      . rw[if_neg e]at hq; exact⟨.inl (g6 i' j' q hq).1,(g6 i' j' q hq).2⟩
    . dsimp only at OS Ci;by_cases e1:i1=i/\j1=c
      . rw[if_pos e1]at OS;by_cases e2:i2=i/\j2=c
        . exact⟨e1.1.trans e2.1.symm,e1.2.trans e2.2.symm⟩
        . rw[if_neg e2]at Ci;exact absurd (g6 i2 j2 q Ci).1 (hF.fp q OS r j)
      . rw[if_neg e1]at OS;by_cases e2:i2=i/\j2=c
        . rw[if_pos e2]at Ci;exact absurd (g6 i1 j1 q OS).1 (hF.fp q Ci r j)
        . rw[if_neg e2]at Ci;exact g7 i1 j1 i2 j2 q OS Ci
    . have lQ:(List.set (aW xs) i z)[i']? = some x:=hx;rw[aoS]at lQ;have hwf:∀(i' q p:Nat),G i' q p->p<w.heap.size->(w.setCell ⟨b,o+i * ks.length+c,none⟩ v).heap[p]? = w.heap[p]? := fun i' q p hp _=>uv p (g6 i' q p hp).2
      by_cases ei:i=i'
      . subst ei;rw[if_pos rfl,if_pos hi]at lQ;simp only[amd]at lQ;subst lQ;refine Am ks (iq xs i) c k y z 0 (G i) _ F cs _ _ v hz (dI.frame _ _ _ _ _ (fun _ h=>h) (fun p hp _=>uv p (hFb p hp)) hv) ?_ (fun q hq cY => ?_) (fun q p cY hp => ?_) (fun p hp => ?_) (fun q p _ hp=>hwf i q p hp) (g8 i _ (oo xs hi))
        . rw[anb,if_pos rfl,if_pos aV]
        . rw[anb,if_neg (by omega)]
        . show(if i=i/\q=c then F p else G i q p);rw[if_neg (fun e=>cY (by omega))];exact hp
        . show(if i=i/\0+c=c then F p else G i (0+c) p);rw[if_pos ⟨rfl,by omega⟩];exact hp
      . rw[if_neg ei]at lQ;refine x6 ks x 0 (G i') _ cs _ _ (fun q hq => ?_) (fun q p hp => ?_) (hwf i') (g8 i' x lQ)
        . have:=N8 (i:=i) (i':=i') hq xw (fun e=>ei e.1.symm);rw[anb,if_neg (by omega)]
        . show(if i'=i/\q=c then F p else G i' q p);rw[if_neg (fun e=>ei e.1.symm)];exact hp)
 exact⟨_,this.1,this.2,rfl,cs,el,fr,g3,aV,fun q hq=>g4 q (Nat.lt_add_right _ hq)⟩
theorem kH{k:K}{x:T k}{v:Value}{F:Nat->Prop}(hk:tZ k=false)(h:RO Z w k x v):dI w k x v F:=by
 cases k with
 | sl e ks=>simp[tZ]at hk
 | _=>exact h
theorem Jz{w:World}{b o:Nat}{v:Value}(h:w.cell? ⟨b,o,none⟩=some v):w.setCell ⟨b,o,none⟩ v=w:=by
 have e:(w.setCell ⟨b,o,none⟩ v).heap=w.heap:=by
  apply an8;intro i;rw[eb];split
  . rename_i e;subst e;simp only[World.cell?,anz,amX,anu]at h;cases ho:w.heap[b]? with
    | none=>rfl
    | some x =>
      rw[ho]at h;cases x with
      | cells cs el fr =>
        simp only[amE,amd,Obj.cells.injEq,anM];have h:cs[o]? = some v:=h;have ho:=(amG.1 h);apply an8;intro k;rw[anb];split
        . rename_i e; subst e; rw[if_pos ho.1,h]
        . rfl
      | _=>rfl
  . rfl
 show({ w with heap:=(w.setCell ⟨b,o,none⟩ v).heap }:World)=w;rw[e]
def ql(w:World)(r j s m0 b p:Nat)(c:Nat)(l:List AV)(vs:List Value):Prop:=∀(q:Nat) (a:AV) (v:Value),l[q]? = some a->vs[q]? = some v->tU r j s m0 (c+q) a=true->w.cell? ⟨b,p+c+q,none⟩=some v
theorem ql.tail{w:World}{r j s m0 b p c:Nat}{a:AV}{l:List AV}{v:Value}{vs:List Value}(h:ql w r j s m0 b p c (a::l) (v::vs)):ql w r j s m0 b p (c+1) l vs:=fun q a' v' h1 h2 h3=>by have:=h (q+1) a' v' (by simpa using h1) (by simpa using h2) (by rw[show c+(q+1)=c+1+q by omega]; exact h3);rw[show p+(c+1)+q=p+c+(q+1)by omega];exact this
theorem ql.put{w:World}{r j s m0 b p c:Nat}{l:List AV}{vs:List Value}{v:Value}(h:ql w r j s m0 b p (c+1) l vs):ql (w.setCell ⟨b,p+c,none⟩ v) r j s m0 b p (c+1) l vs:=fun q a' v' h1 h2 h3=>by rw[World.cell?_setCell_other _ _ _ _ (by intro e; simp at e; omega)];exact h q a' v' h1 h2 h3
theorem zr{r j s i m0:Nat}{b p:Nat}:∀(bZ:List K) (l:List AV) (vs:List Value) (st:St) (g:Gh) (w:World) (c:Nat) (ay:St),Rel cx Z g st a w->bC Z g st w (.pel r j s i c) (.pointer (some ⟨b,p+c,none⟩))->ba Z g st w l vs->ql w r j s m0 b p c l vs->st.kD r j s i m0 c bZ l=some ay ->
 ∃ g',Rel cx Z g' ay a (w.setCells b (p+c) vs)/\ay.tm=st.tm/\(∀ q,q<vs.length->∃ cs el fr,w.heap[b]? = some (.cells cs el fr)/\p+c+q<cs.size/\¬ (fr.1<=p+c+q/\p+c+q<fr.2))
 | [],[],[],st,g,w,c,ay,h,hp,hr,hso,ht=>by simp only[St.kD,amd]at ht;subst ht;exact⟨g,h,rfl,fun q hq=>by simp at hq⟩
 | [],[],_::_,st,g,w,c,ay,h,hp,hr,_,ht=>hr.elim
 | k::bZ,av::l,[],st,g,w,c,ay,h,hp,hr,_,ht=>hr.elim
 | k::bZ,av::l,v::vs,st,g,w,c,ay,h,hp,hr,hso,ht=>by
   have put:∀(ca:St) (g1:Gh) (x:T k) (F:Nat->Prop),Rel cx Z g1 ca a w->ca.tm=st.tm->jK cx Z g1 ca w F->dI w k x v F->bC Z g1 ca w (.pel r j s i c) (.pointer (some ⟨b,p+c,none⟩))->ba Z g1 ca w l vs ->
    (match ca.cell r j with
      | some ⟨s',m,.own (.sl e ks) xs⟩=>bif Nat.beq s' s then (match setAt ks (iq xs i) c k x with
        | some y=>(ca.setCell r j ⟨s',m+1,.own (.sl e ks) (List.set (aW xs) i y)⟩).kD r j s i m0 (c+1) bZ l
        | none=>none)else none
      | _=>none)=some ay ->
    ∃ g',Rel cx Z g' ay a (w.setCells b (p+c) (v::vs))/\ay.tm=st.tm/\(∀ q,q<(v::vs).length->∃ cs el fr,w.heap[b]? = some (.cells cs el fr)/\p+c+q<cs.size/\¬ (fr.1<=p+c+q/\p+c+q<fr.2)):=by
    intro ca g1 x F h1 Fm hF hv hp hl mR;split at mR
    . rename_i s' m e ks xs hc;cases hs:Nat.beq s' s with
      | false=>rw[hs]at mR; simp at mR
      | true =>
        rw[hs]at mR;simp only[oT]at mR;have es:=beq_eq hs;subst es;split at mR
        . rename_i y hy;obtain⟨c0,k1,k2,k3⟩:=hp;rw[hc]at k1;simp only[amd]at k1;subst k1;obtain⟨e',ks2,xs2,f1,f2,b2,o2,l2,adU,f3,f4⟩:=k3 rfl;simp only[RV.own.injEq,K.sl.injEq]at f1;obtain⟨⟨rfl,rfl⟩,f1⟩:=f1;have f1:=aot f1;subst f1;simp only[Value.pointer.injEq,amd,anF,anM]at f4;obtain⟨rfl,f4⟩:=f4;obtain⟨g2,m1,m2,m3,cs,el,fr,n1,n2,n3⟩:=h1.aho hc f2 f3 hF hv hy;rw[<- f4]at m1 m2 n2;have alr:bC Z g1 ca w (.pel r j s' i (c+1)) (.pointer (some ⟨b,p+(c+1),none⟩)) :=
           ⟨_,hc,oR _,fun _=>⟨e,ks,xs,rfl,f2,b,o2,l2,adU,f3,by rw[show p+(c+1)=o2+i * ks.length+(c+1)by omega]⟩⟩
          obtain⟨g',q1,q2,q3⟩:=zr bZ l vs _ g2 _ (c+1) ay m1 (bC.cI m2.cI _ _ alr) (ba.cI m2.cI _ _ hl) hso.tail.put mR;refine⟨g',?_,q2.trans (fK.trans Fm),fun q hq => ?_⟩
          . rw[show p+(c+1)=p+c+1 by omega]at q1;exact q1
          . cases q with
            | zero=>exact⟨cs,el,fr,n1,n2,n3 _ n2⟩
            | succ q =>
              obtain⟨fT,el',fr',t1,t2,t3⟩:=q3 q (by simpa using hq);rw[eb,if_pos rfl,n1]at t1;simp only[amE,amd,Obj.cells.injEq]at t1;obtain⟨rfl,rfl,rfl⟩:=t1;refine⟨cs,el,fr,n1,?_,?_⟩
              . have:=t2; simp at this; omega
              . rw[show p+c+(q+1)=p+(c+1)+q by omega]; exact t3
        . simp at mR
    . simp at mR
   have scalar:tZ k=false->(match (match st.bG k av with | some x=>bif av.bV then some (st,x)else none | none=>none)with
    | some (ca,x)=>(match ca.cell r j with
      | some ⟨s',m,.own (.sl e ks) xs⟩=>bif Nat.beq s' s then (match setAt ks (iq xs i) c k x with
        | some y=>(ca.setCell r j ⟨s',m+1,.own (.sl e ks) (List.set (aW xs) i y)⟩).kD r j s i m0 (c+1) bZ l
        | none=>none)else none
      | _=>none)
    | none=>none)=some ay->∃ g',Rel cx Z g' ay a (w.setCells b (p+c) (v::vs))/\ay.tm=st.tm/\(∀ q,q<(v::vs).length->∃ cs el fr,w.heap[b]? = some (.cells cs el fr)/\p+c+q<cs.size/\¬ (fr.1<=p+c+q/\p+c+q<fr.2)):=by
    intro hk hh;cases hra:st.bG k av with
    | none=>rw[hra]at hh; simp at hh
    | some x =>
      rw[hra]at hh;cases hf:av.bV with
      | false=>rw[hf]at hh; simp at hh
      | true => rw[hf]at hh;simp only[oT]at hh;exact put st g x (fun _=>False) h rfl (jK.none _ _ _ _ _) (kH hk (cB h hr.1 hf hra)) hp hr.2 hh
   unfold St.kD at ht;cases Fp:st.oO r j s m0 c av with
   | true =>
     rw[Fp]at ht;simp only[oT]at ht;unfold St.oO at Fp;simp only[ame]at Fp;obtain⟨als,Yh⟩:=Fp;have hv:=hso 0 av v rfl rfl als;rw[amJ]at hv;obtain⟨c0,k1,k2,k3⟩:=hp;have es:c0.s=s:=by
      rw[k1]at Yh;split at Yh
      . rename_i s' m' e' ks2 x2 Im;cases Im;exact beq_eq Yh
      . simp at Yh
     obtain⟨e,ks,xs,f1,f2,b2,o2,l2,adU,f3,f4⟩:=k3 es;simp only[Value.pointer.injEq,amd,anF,anM]at f4;obtain⟨rfl,f4⟩:=f4;have hp':bC Z g st w (.pel r j s i (c+1)) (.pointer (some ⟨b,p+(c+1),none⟩)) :=
      ⟨c0,k1,k2,fun _=>⟨e,ks,xs,f1,f2,b,o2,l2,adU,f3,by rw[show p+(c+1)=o2+i * ks.length+(c+1)by omega]⟩⟩
     obtain⟨g',q1,q2,q3⟩:=zr bZ l vs st g w (c+1) ay h hp' hr.2 hso.tail ht;refine⟨g',?_,q2,fun q hq => ?_⟩
     . show Rel cx Z g' ay a ((w.setCell ⟨b,p+c,none⟩ v).setCells b (p+c+1) vs);rw[Jz hv];exact q1
     . cases q with
       | zero => have kl:=h.cell r j c0 k1;rw[f1]at kl;obtain⟨a0,cp,g1,_,_,_,g2⟩:=(show dI w (.sl e ks) xs (g.cv r j) (g.fp r j)from kl);rw[f3]at g1;simp only[anf]at g1;obtain⟨b3,o3,cs,el,fr,n1,_,n2,n3,_⟩:=g2 _ g1.1.symm;simp only[anF,anM]at n1;obtain⟨rfl,_⟩:=n1;simp only[World.cell?,anz,amX,anu,n2]at hv;have aV:=(amG.1 hv).1;exact⟨cs,el,fr,n2,aV,n3 _ (by omega)⟩
       | succ q => obtain⟨fT,el',fr',t1,t2,t3⟩:=q3 q (by simpa using hq);exact⟨fT,el',fr',t1,by omega,by rw[show p+c+(q+1)=p+(c+1)+q by omega]; exact t3⟩
   | false =>
   rw[Fp]at ht;simp only[oF]at ht;cases k with
   | sl e Kh =>
     simp only at ht;cases Ds:st.cW (.sl e Kh) av with
     | none=>rw[Ds]at ht; simp at ht
     | some q => obtain⟨ca,x⟩:=q;rw[Ds]at ht;simp only at ht;obtain⟨g1,F,k1,k2,k3,k4,k5,k6,k7⟩:=ik h hr.1 Ds;exact put ca g1 x F k1 k2.tm k4 k3 (bC.cI k2.cI _ _ hp) (ba.cI k2.cI _ _ hr.2) ht
   | int _=>exact scalar rfl ht
   | bool=>exact scalar rfl ht
   | str=>exact scalar rfl ht
 | [],_::_,_,st,g,w,c,ay,h,hp,hr,_,ht=>by simp[St.kD]at ht
 | _::_,[],_,st,g,w,c,ay,h,hp,hr,_,ht=>by simp[St.kD]at ht
end
def cA(st ay:St):Prop:=∀ r j c,st.cell r j=some c->∃ c',ay.cell r j=some c'/\c.s<=c'.s/\c.m<=c'.m/\(c'.s=c.s->c'.m=c.m->c'=c)
theorem cA.refl(st:St):cA st st:=fun r j c h=>⟨c,h,oR _,oR _,fun _ _=>rfl⟩
theorem cA.trans{a b c:St}(h1:cA a b)(h2:cA b c):cA a c:=fun r j x hx=>by obtain⟨y,hy,s1,m1,e1⟩:=h1 r j x hx;obtain⟨z,hz,s2,m2,e2⟩:=h2 r j y hy;exact⟨z,hz,aml s1 s2,aml m1 m2,fun es em=>by have ey:=e1 (by omega) (by omega);subst ey;exact e2 es em⟩
theorem cA.set{st:St}{r j:Nat}{c c0:RC}(h0:st.cell r j=some c0)(hs:c0.s<=c.s)(hm:c0.m<c.m):cA st (st.setCell r j c):=fun r' j' x hx=>by
 rw[dD];by_cases h:r=r'/\j=j'
 . obtain⟨rfl,rfl⟩:=h;rw[if_pos ⟨rfl,rfl⟩,hx];rw[h0]at hx;cases hx;exact⟨c,rfl,hs,aox hm,fun _ e=>by omega⟩
 . rw[if_neg h];exact⟨x,hx,oR _,oR _,fun _ _=>rfl⟩
theorem lu{α:Type}{c:Bool}{x:Option α}{y:α}(h:(bif c then x else none)=some y):c=true/\x=some y:=by cases c <;> simp_all
theorem TS{st ay:St}{a:AV}{p:(k:K)×T k}(h:st.take a=some (ay,p)):cA st ay:=by
 unfold St.take at h;split at h
 . split at h
   . rename_i hc;obtain⟨_,h⟩:=lu h;simp only[amd,amK]at h;obtain⟨rfl,_⟩:=h;exact cA.set hc (aoc _) (ane _)
   . simp at h
 . split at h
   . rename_i hc;obtain⟨_,h⟩:=lu h;simp only[amd,amK]at h;obtain⟨rfl,_⟩:=h;exact cA.set hc (aoc _) (ane _)
   . simp at h
 . simp at h
theorem ir{st ay:St}{k:K}{a:AV}{x:T k}(h:st.cW k a=some (ay,x)):cA st ay:=by
 unfold St.cW at h;split at h
 . simp only[amd,amK]at h;obtain⟨rfl,_⟩:=h;exact cA.refl _
 . split at h
   . rename_i ca k' y hy;split at h
     . simp only[amd,amK]at h;obtain⟨rfl,_⟩:=h;exact TS hy
     . simp at h
   . simp at h
mutual
theorem C9:∀ k:K,K.same k k=true
 | .int a=>by simp[K.same]
 | .bool=>rfl
 | .str=>rfl
 | .sl e ks=>by simp[K.same,A7 ks]
theorem A7:∀ ks:List K,K.mL ks ks=true
 | []=>rfl
 | k::ks=>by simp[K.mL,C9 k,A7 ks]
end
theorem GP(k:K)(x:T k):gC k k x=some x:=by
 unfold gC;split
 . rfl
 . rename_i h; rw[C9]at h; simp at h
theorem Bq:∀(ks:List K) (z:Tl ks) (c:Nat) (k:K) (x:T k),cellAt ks z c=some ⟨k,x⟩->setAt ks z c k x=some z
 | [],_,_,_,_,h=>by simp[cellAt]at h
 | k::ks,z,0,k',x,h=>by simp only[cellAt,amd,Sigma.mk.injEq]at h;obtain⟨rfl,h⟩:=h;have h:=aot h;subst h;simp only[setAt,GP];rfl
 | k::ks,z,c+1,k',x,h=>by simp only[setAt,Bq ks z.2 c k' x h];rfl
theorem zA:∀(ks:List K) (z y:Tl ks) (c q:Nat) (k:K) (x:T k),setAt ks z c k x=some y->q≠c->cellAt ks y q=cellAt ks z q
 | [],_,_,_,_,_,_,h,_=>by simp[setAt]at h
 | k0::ks,z,y,0,q,k,x,h,hq=>by
   simp only[setAt]at h;split at h
   . cases h;cases q with
     | zero=>exact absurd rfl hq
     | succ q=>rfl
   . simp at h
 | k0::ks,z,y,c+1,q,k,x,h,hq=>by
   simp only[setAt]at h;split at h
   . rename_i z' hz;cases h;cases q with
     | zero=>rfl
     | succ q=>exact zA ks z.2 z' c q k x hz (by omega)
   . simp at h
def UR(gn:List K):Tl gn->Nat->(ks:List K)->Tl ks->Option (Tl gn)
 | z,_,[],_=>some z
 | z,c,k::ks,y=>match setAt gn z c k y.1 with | some z'=>UR gn z' (c+1) ks y.2 | none=>none
theorem Hc{k0:K}{gn:List K}:∀(ks:List K) (z z':Tl (k0::gn)) (c:Nat) (y:Tl ks),UR (k0::gn) z (c+1) ks y=some z'->∃ u,z'=(z.1,u)/\UR gn z.2 c ks y=some u
 | [],z,z',c,y,h=>by simp only[UR,amd]at h;subst h;exact⟨z.2,rfl,rfl⟩
 | k::ks,z,z',c,y,h=>by
   simp only[UR,setAt]at h ⊢;cases hs:setAt gn z.2 c k y.1 with
   | none=>rw[hs]at h; simp at h
   | some u => rw[hs]at h;exact Hc ks (z.1,u) z' (c+1) y.2 h
theorem G5:∀(ks:List K) (z y z':Tl ks),UR ks z 0 ks y=some z'->z'=y
 | [],_,_,_,_=>rfl
 | k::ks,z,y,z',h=>by simp only[UR,setAt,GP]at h;obtain⟨u,e1,e2⟩:=Hc ks (y.1,z.2) z' 0 y.2 h;have:=G5 ks z.2 y.2 u e2;subst this;exact e1
theorem Gt{e:TypeId}{ks:List K}(xs:T (.sl e ks))(i:Nat)(y:Tl ks):(aW (e:=e) (List.set (aW xs) i y)).length=(aW xs).length:=ano
theorem He{e:TypeId}{ks:List K}(xs:T (.sl e ks)){i:Nat}(y:Tl ks)(h:i<(aW xs).length):iq (e:=e) (List.set (aW xs) i y) i=y:=by show(List.set (aW xs) i y).getD i _=y;simp[List.getD,h]
theorem PY{st:St}{r j:Nat}{c c':RC}(h:st.cell r j=some c):(st.setCell r j c').cell r j=some c':=by rw[dD,if_pos ⟨rfl,rfl⟩,h]; rfl
section
variable{r j s i m0:Nat}{e:TypeId}{gn:List K}{z0:Tl gn}
theorem tF:∀(ks:List K) (l:List AV) (c:Nat) (st stf:St) (y:Tl ks) (xc:T (.sl e gn)) (m:Nat),st.cell r j=some ⟨s,m,.own (.sl e gn) xc⟩->i<(aW xc).length->(∀ q,c<=q->cellAt gn (iq xc i) q=cellAt gn z0 q) ->
 st.gY r j s i m0 gn z0 c ks l=some (stf,y)->st.kD r j s i m0 c ks l=some stf/\∃(mf:Nat) (z:Tl gn),UR gn (iq xc i) c ks y=some z/\stf.cell r j=some ⟨s,mf,.own (.sl e gn) (List.set (aW xc) i z)⟩
 | [],[],c,st,stf,y,xc,m,hc,hi,hq,h=>by
   simp only[St.gY,amd,amK]at h;obtain⟨rfl,_⟩:=h;refine⟨rfl,m,iq xc i,rfl,?_⟩;rw[hc];have:List.set (aW xc) i (iq xc i)=aW xc:=by
    apply aoQ;intro n;rw[aoS];split
    . rename_i e; subst e;simp[iq,List.getD,hi]
    . rfl
   rw[this];rfl
 | [],_::_,_,_,_,_,_,_,_,_,_,h=>by simp[St.gY]at h
 | _::_,[],_,_,_,_,_,_,_,_,_,h=>by simp[St.gY]at h
 | k::ks,a::l,c,st,stf,y,xc,m,hc,hi,hq,h=>by
   unfold St.gY at h;unfold St.kD;cases Fp:st.oO r j s m0 c a with
   | true =>
     rw[Fp]at h;simp only[oT]at h ⊢;split at h
     . rename_i z hz;split at h
       . rename_i x q hx Kk;simp only[amd,amK]at h;obtain⟨rfl,rfl⟩:=h;obtain⟨h1,mf,z1,h2,h3⟩:=tF ks l (c+1) st q.1 q.2 xc m hc hi (fun q v7=>hq q (by omega)) Kk;refine⟨h1,mf,z1,?_,h3⟩;obtain⟨ek,hx⟩:=cQ hx;obtain⟨k',z⟩:=z;simp only at ek hx;subst ek;subst hx;have:=hq c (oR _);rw[hz]at this;simp only[UR,Bq gn (iq xc i) c k' z this];exact h2
       . simp at h
     . simp at h
   | false =>
     rw[Fp]at h;simp only[oF]at h ⊢;split at h;rotate_left
     . simp at h
     . rename_i ca x hx;have Um:cA st ca:=by
        split at hx
        . exact ir hx
        . split at hx
          . obtain⟨_,hx⟩:=lu hx;simp only[amd,amK]at hx;obtain⟨rfl,_⟩:=hx;exact cA.refl _
          . simp at hx
       obtain⟨c1,yo,v1,v2,v3⟩:=Um r j _ hc;split at h
       . rename_i s' m' e' bZ xs hcc;rw[yo]at hcc;cases hcc;obtain⟨hb,h⟩:=lu h;simp only[ame]at hb;have es:=beq_eq hb.1;have em:=beq_eq hb.2;have em':st.HR r j=m:=by unfold St.HR; rw[hc]
         have:=v3 es (em.trans em');simp only[RC.mk.injEq,RV.own.injEq,K.sl.injEq]at this;obtain⟨_,_,⟨he,hk⟩,hx⟩:=this;have he:=he.symm;have hk:=hk.symm;subst he;subst hk;have hx:=aot hx;subst hx;split at h
         . rename_i y1 hy1;split at h
           . rename_i q Kk;simp only[amd,amK]at h;obtain⟨rfl,rfl⟩:=h;have es2:=es.symm;subst es2;obtain⟨h1,mf,z1,h2,h3⟩:=tF ks l (c+1) _ q.1 q.2 (List.set (aW xs) i y1) _ (PY yo) (by rw[Gt]; exact hi) (fun q v7=>by
              rw[He xs y1 hi,zA gn _ _ c q k x hy1 (by omega)];exact hq q (by omega)) Kk
             refine⟨?_,mf,z1,?_,?_⟩
             . rw[hb.1];exact h1
             . rw[He xs y1 hi]at h2;simp only[UR,hy1];exact h2
             . rw[h3];have:List.set (aW (e:=e) (List.set (aW xs) i y1)) i z1=List.set (aW xs) i z1:=List.set_set ..
               rw[this]
           . simp at h
         . simp at h
       . simp at h
end
theorem Fv{α:Type}:∀(l:List (Nat×α)) (n:Nat) (x:α),look l n=some x->upd l n x=l
 | [],n,x,h=>by simp[look]at h
 | (k,y)::r,n,x,h=>by
   unfold upd;rw[aN]at h;cases hb:Nat.beq k n with
   | true => have e:=beq_eq hb;subst e;rw[if_pos rfl]at h;cases h;rfl
   | false =>
     have cY:k≠n:=fun e=>by subst e; simp at hb
     rw[if_neg cY]at h;simp only[oF];rw[Fv r n x h]
theorem xR{α:Type}:∀(l:List α) (j:Nat) (x:α),l[j]? = some x->mq l j x=l
 | [],j,x,h=>by simp at h
 | y::r,0,x,h=>by simp at h; subst h; rfl
 | y::r,j+1,x,h=>by simp only[mq]; rw[xR r j x (by simpa using h)]
theorem FA{st:St}{r j:Nat}{c:RC}(h:st.cell r j=some c):st.setCell r j c=st:=by
 unfold St.setCell;unfold St.cell at h;cases hl:look st.rt r with
 | none=>rfl
 | some R => rw[hl]at h;simp only at h ⊢;rw[xR _ _ _ h,Fv _ _ _ hl]
theorem Sm{st ay:St}{r j s i m:Nat}{e:TypeId}{gn ks:List K}{xs:T (.sl e gn)}{l:List AV}(hc:st.cell r j=some ⟨s,m,.own (.sl e gn) xs⟩)(hi:i<(aW xs).length)(h:st.x9 r j s i ks l=some ay):st.kD r j s i (st.HR r j) 0 ks l=some ay:=by
 unfold St.x9 at h;rw[hc]at h;simp only at h;have em:st.HR r j=m:=by unfold St.HR; rw[hc]
 rw[em];split at h
 . rename_i q hq;obtain⟨h1,mf,z,h2,h3⟩:=tF ks l 0 st q.1 q.2 xs m hc hi (fun _ _=>rfl) hq;split at h
   . rename_i y c1 hy yo;obtain⟨_,h⟩:=lu h;simp only[amd]at h;obtain⟨ek,hy⟩:=xZ hy;subst ek;subst hy;rw[h3]at yo;cases yo;rw[G5 _ _ _ _ h2]at h3;rw[FA h3]at h;rw[<- h];exact h1
   . simp at h
 . simp at h
def qt(P:Program)(cx:Cx P)(E:En)(ay:St)(a:Act)(w:World)(o:Oper):Prop :=
 cJ ay/\∀(next:Act->World->Prop) (Q:Exit->Act->World->Prop),(∀ Z' g' a' w',Rel cx Z' g' ay a' w'->Fit cx E a'->next a' w')->o.wp P a w next Q
section
variable{P:Program}{cx:Cx P}{Z:Nat->Prop}{g:Gh}{st:St}{a:Act}{w:World}{E:En}
theorem af2(h:Rel cx Z g st a w):∀(l:List AV) (vs:List Value),ba Z g st w l vs->l.all st.live=true->∀ u∈vs,u.oneCell'=true
 | [],[],_,_=>by simp
 | x::l,v::vs,hr,hl=>by
   simp only[am8,ame]at hl;intro u hu;rcases amo.1 hu with hu | hu
   . subst hu; exact(wk h hr.1 hl.1).2
   . exact af2 h l vs hr.2 hl.2 u hu
 | [],_::_,hr,_=>hr.elim
 | _::_,[],hr,_=>hr.elim
theorem xK{r j s m i:Nat}:∀(l:List AV) (c:Nat),pc r j s m i c l=true->∀ q a,l[q]? = some a->tU r j s m (c+q) a=true->∃ i' q',a= .pref r j s m i' q'/\q'=c+q/\i'=i
 | [],_,_,q,a,h,_=>by simp at h
 | x::l,c,h,q,a,hq,hs=>by
   have self:∀ a,tU r j s m c a=true->∃ i' ,a= .pref r j s m i' c:=fun a ha=>by
    unfold tU at ha;split at ha
    . rename_i r' j' s' m' i' q';simp only[ame]at ha;obtain⟨h1,h2,h3,h4,h5⟩:=ha;exact⟨i',by rw[beq_eq h1,beq_eq h2,beq_eq h3,beq_eq h4,beq_eq h5]⟩
    . simp at ha
   unfold pc at h;cases q with
   | zero => simp only[amj,amd]at hq;subst hq;rw[amJ]at hs;rw[hs]at h;obtain⟨i',rfl⟩:=self _ hs;simp only[oT,ame]at h;exact⟨i',c,rfl,rfl,beq_eq h.1⟩
   | succ q =>
     rw[am3]at hq;have hr:pc r j s m i (c+1) l=true:=by
      cases hx:tU r j s m c x with
      | false=>rw[hx]at h; exact h
      | true => rw[hx]at h;obtain⟨i',rfl⟩:=self _ hx;simp only[oT,ame]at h;exact h.2
     obtain⟨i',q',e1,e2,e3⟩:=xK l (c+1) hr q a hq (by rw[show c+1+q=c+(q+1)by omega]; exact hs);exact⟨i',q',e1,by omega,e3⟩
theorem OF{r j s i c:Nat}{c0:RC}{e:TypeId}{ks:List K}{xs:T (.sl e ks)}{b of l cap:Nat}{av:List AV}{vs:List Value}(h1:st.cell r j=some c0)(h2:c0.s=s)(h3:c0.v= .own (.sl e ks) xs)(h4:g.cv r j= .slice (some ⟨b,of,none⟩) l cap)
 (hr:ba Z g st w av vs)(hs:st.K1 (.pel r j s i c) av=true):ql w r j s (st.HR r j) b (of+i * ks.length) c av vs:=fun q a v ha hv H7=>by
 obtain⟨i',q',rfl,rfl,rfl⟩:=xK _ _ hs q a ha H7;have eQ:∀(l:List AV) (vs:List Value),ba Z g st w l vs->∀(q:Nat) (a:AV) (v:Value),l[q]? = some a->vs[q]? = some v->bC Z g st w a v:=by
  intro l;induction l with
  | nil=>intro vs _ q a v h; simp at h
  | cons x l ih =>
    intro vs hr q a v h1 h2;cases vs with
    | nil=>simp at h2
    | cons u vs =>
      cases q with
      | zero=>simp only[amj,amd]at h1 h2; subst h1 h2; exact hr.1
      | succ q=>exact ih vs hr.2 q a v (by simpa using h1) (by simpa using h2)
 obtain⟨c1,k1,k2,k3,k4⟩:=eQ _ _ hr q _ v ha hv;rw[h1]at k1;simp only[amd]at k1;subst k1;have hm:c0.m=st.HR r j:=by unfold St.HR; rw[h1]
 obtain⟨e',bZ,rU,f1,f2,f3,b',o',l',al5,f4,f5⟩:=k4 h2 hm;rw[h3]at f1;simp only[RV.own.injEq,K.sl.injEq]at f1;obtain⟨⟨rfl,rfl⟩,_⟩:=f1;rw[h4]at f4;simp only[anf,amd,anF,anM]at f4;obtain⟨⟨rfl,rfl⟩,_⟩:=f4;rw[show of+i' * ks.length+c+q=of+i' * ks.length+(c+q)by omega];exact f5
theorem Xm(hT:cH P E)(h:Rel cx Z g st a w)(hn:cJ st)(dh:Fit cx E a){o:Oper}(hd:o.dst=none){t:TypeId}{pa x:Operand}(ho:o.op= .store t pa x){ti:TI}{ta tx:TV}{av:AV}{p:Bool×List AV}{ay:St}
 (iy:E.ti t=some ti)(hpa:st.get pa=some ta)(hav:ta.Ig = some av)(hx:st.get x=some tx)(hp:tx.dn = some p)(H8:p.2.all st.live=true)(hlen:p.2.length=ti.ks.length)(H7:st.K1 av p.2=true)(hs:st.store ti.ks p.2 av=some ay):qt P cx E ay a w o:=by
 have hc:=hn.cons.cons;have ra:=uC (bg h hc hpa) hav;obtain⟨rv,rl⟩:=nc h (bg h hc hx) hp H8;have ahN:(a.eval x).cells.toList.length=ti.ks.length:=by rw[<- eX rv]; exact hlen
 have h1:=af2 h _ _ rv H8;have go:∀(b of:Nat) (g':Gh),a.eval pa= .pointer (some ⟨b,of,none⟩)->Rel cx Z g' ay a (w.setCells b of (a.eval x).cells.toList)->ay.tm=st.tm->(∀ j,j<(a.eval x).cells.toList.length->∃ cs el fr,w.heap[b]? = some (.cells cs el fr)/\of+j<cs.size/\¬ (fr.1<=of+j/\of+j<fr.2))->qt P cx E ay a w o:=by
  intro b of g' e1 e2 e3 e4;refine⟨fun t tv ht=>hn t tv (by rw[<- e3]; exact ht),fun next Q hk => ?_⟩;have au:=Gq (P:=P) (hT t ti iy) (w:=w) (b:=b) (o:=of) (v:=a.eval x) rfl ahN h1 e4;unfold Oper.wp;have:(execOp a.eval o).run P w= .ok .skip (w.setCells b of (a.eval x).cells.toList):=by simp only[execOp,ho,amF,e1,au,amq];rfl
  rw[this,Oper.upon_skip,hd];exact hk Z g' a _ e2 dh
 cases av with
 | ptr r j =>
   obtain⟨R,f1,f2,f3⟩:=ra;have BX:shape st r=some (true,R.cells.length):=by simp[shape,f1,f2]
   obtain⟨g',m1,m2,m3⟩:=ru (a:=a) (r:=r) (n:=R.cells.length) ti.ks p.2 _ st g w j ay h BX rv hs;obtain⟨b1,b2,b3,b4,cs,el,fr,b5,b6,b7,b8⟩:=h.box r R f1 f2;refine go (g.be r) j g' f3 m1 m2 fun q hq=>⟨cs,el,fr,b5,?_,?_⟩
   . rcases m3 with m3 | m3
     . rw[m3]at hq; simp at hq
     . omega
   . apply b6;rcases m3 with m3 | m3
     . rw[m3]at hq; simp at hq
     . omega
 | pel r j s i c =>
   simp only[St.store]at hs;cases hl:st.live (.pel r j s i c)with
   | false=>rw[hl]at hs; simp at hs
   | true =>
     rw[hl]at hs;simp only[oT]at hs;have ra':=ra;obtain⟨c0,f1,f2,f3⟩:=ra;simp only[St.live,f1]at hl;obtain⟨e,ks,xs,f4,f5,b,of,l,cap,f6,f7⟩:=f3 (beq_eq hl);rw[f7]at ra';have hs:st.kD r j s i (st.HR r j) c ti.ks p.2=some ay:=by
      cases vP:Nat.beq c 0&&Nat.ble 8 p.2.length with
      | false=>rw[vP]at hs; exact hs
      | true => rw[vP]at hs;simp only[ame]at vP;have e0:=beq_eq vP.1;subst e0;obtain⟨c0s,c0m,c0v⟩:=c0;simp only at f4 hl;subst f4;have es:=beq_eq hl;subst es;exact Sm f1 f5 hs
     obtain⟨g',m1,m2,m3⟩:=zr (a:=a) (b:=b) (p:=of+i * ks.length) ti.ks p.2 _ st g w c ay h ra' rv (OF f1 (beq_eq hl) f4 f6 rv H7) hs;exact go b (of+i * ks.length+c) g' f7 m1 m2 m3
 | _=>simp[St.store]at hs
theorem qc(h:Rel cx Z g st a w)(hn:cJ st)(dh:Fit cx E a){o:Oper}{d:Nat}(hd:o.dst=some d)(cE:kM cx a d){x:Operand}(ho:o.op= .move x∨o.op= .assign x){tv:TV}(hx:st.get x=some tv):qt P cx E (st.a8 d (tv,none)) a w o:=by
 refine⟨fun t ko ht => ?_,fun next Q hk=>I8 h hn.cons.cons hd cE ho hx next Q fun Z' g' v w' hr=>hk Z' g' _ w' hr (dh.put _ _)⟩;rw[cC]at ht;split at ht
 . simp only[amd]at ht;subst ht;intro hm;obtain⟨d',Pf⟩:=CG hx hm;exact hn d' _ Pf hm
 . exact hn t ko ht
def setFrom(cs:Array Value):Nat->List Value->Array Value
 | _,[]=>cs
 | o,v::r=>setFrom (cs.setIfInBounds o v) (o+1) r
theorem qI(w:World)(t:TypeId)(fr:Nat×Nat):∀(vs:List Value) (o:Nat) (cs:Array Value),(w.alloc (.cells cs t fr)).setCells w.heap.size o vs=w.alloc (.cells (setFrom cs o vs) t fr)
 | [],_,_=>rfl
 | v::r,o,cs=>by
   have:(w.alloc (.cells cs t fr)).setCell ⟨w.heap.size,o,none⟩ v=w.alloc (.cells (cs.setIfInBounds o v) t fr):=by
    have hh:((w.alloc (.cells cs t fr)).setCell ⟨w.heap.size,o,none⟩ v).heap=(w.alloc (.cells (cs.setIfInBounds o v) t fr)).heap:=by
     apply an8;intro i;rw[eb];show(if w.heap.size=i then ((w.heap.push (.cells cs t fr))[i]?).map _ else (w.heap.push (.cells cs t fr))[i]?)=(w.heap.push (.cells (cs.setIfInBounds o v) t fr))[i]?;rw[amS,amS];by_cases e:w.heap.size=i
     . subst e; simp
     . rw[if_neg e,if_neg (fun x=>e x.symm),if_neg (fun x=>e x.symm)]
    cases w;simp only[World.setCell,World.alloc]at hh ⊢;congr 1
   rw[World.setCells,this];exact qI w t fr r (o+1) _
theorem dv:∀(vs:List Value) (o:Nat) (cs:Array Value) (i:Nat),o+vs.length<=cs.size->(setFrom cs o vs)[i]? = if o<=i/\i<o+vs.length then vs[i-o]? else cs[i]?
 | [],o,cs,i,h=>by
   have:¬ (o<=i/\i<o+([]:List Value).length):=by intro hh;have:=hh.2;simp only[amZ]at this;omega
   rw[if_neg this];rfl
 | v::r,o,cs,i,h=>by
   have hl:(v::r).length=r.length+1:=rfl;rw[setFrom,dv r (o+1) _ i (by simp; omega)];by_cases e:o=i
   . subst e;rw[if_neg (by omega),if_pos (by omega),anb,if_pos rfl,if_pos (by omega),an4];rfl
   . by_cases e2:o+1<=i/\i<o+1+r.length
     . rw[if_pos e2,if_pos (by omega),show i-o=(i-(o+1))+1 by omega];rfl
     . rw[if_neg e2,if_neg (by omega),anb,if_neg e]
theorem FJ(cs:Array Value)(vs:List Value)(h:vs.length=cs.size):setFrom cs 0 vs=vs.toArray:=by
 apply an8;intro i;rw[dv vs 0 cs i (by omega)];by_cases e:i<vs.length
 . rw[if_pos (by omega)]; simp
 . rw[if_neg (by omega)];rw[amy (by omega),amy (by simp; omega)]
theorem WL(h:Rel cx Z g st a w){tv:TV}{v:Value}{p:Bool×List AV}(hr:bW Z g st w tv v)(hp:tv.dn = some p)(hl:p.2.all st.live=true):NZ p.1 v v.cells.toList:=by
 cases tv with
 | v x => simp only[TV.dn,amd]at hp;subst hp;simp only[am8,List.all_nil,aoU]at hl;show v.cells.toList=[v];rw[(wk h hr hl).1]
 | bc r j s m e ks x => simp only[TV.dn,amd]at hp;subst hp;simp only[am8,List.all_nil,aoU]at hl;show v.cells.toList=[v];rw[(wk h (RU hr) hl).1]
 | agg l => simp only[TV.dn,amd]at hp;subst hp;obtain⟨vs,e,_⟩:=hr;subst e;simp[NZ,Value.cells]
 | _=>simp[TV.dn]at hp
theorem Gf(w:World)(cs:Array Value)(t:TypeId)(i:Nat):cs.toList[i]? = (w.alloc (.cells cs t (0,0))).cell? ⟨w.heap.size,i,none⟩:=by
 have:(w.alloc (.cells cs t (0,0))).heap[w.heap.size]? = some (.cells cs t (0,0)):=by show(w.heap.push (.cells cs t (0,0)))[w.heap.size]? = _;simp
 simp only[World.cell?,this];simp
theorem IE{w0 w':World}{g':Gh}{ay:St}{a':Act}{x:Operand}{d n:Nat}{g:Bool}{v:Value}{t:TypeId}(h:Rel cx Z g' ay a' w')(hn:cJ ay)(hd:look ay.tm d=some (.v (.ptr d 0)))(hdv:a'.tmps.getD d undef= .pointer (some ⟨w0.heap.size,0,none⟩))
 (hx:∀ t,x= .tmp t->t≠d->a'.tmps.getD t undef=v)(aV:∀ t,x= .tmp t->t<a'.tmps.size)(hC:NZ g v v.cells.toList)(hlen:n=v.cells.size)(hw:w'=w0.alloc (.cells v.cells t (0,0))):cJ (ay.rebind x d g n)/\Rel cx Z g' (ay.rebind x d g n) a' w':=by
 unfold St.rebind;cases x with
 | tmp t0 =>
   simp only;cases hb:Nat.beq t0 d with
   | true=>exact⟨hn,h⟩
   | false =>
     simp only[oF];have cY:t0≠d:=anp hb;cases hl:ay.dU d 0 n with
     | none=>exact⟨hn,h⟩
     | some l =>
       simp only;obtain⟨b,o,vs,e1,e2,e3,e4⟩:=zo h (p:= .ptr d 0) (n:=n) (l:=l) (h.tm d _ hd).2 hl;rw[hdv]at e1;simp only[Value.pointer.injEq,amd,anF,anM]at e1;obtain⟨rfl,rfl⟩:=e1;have Pd:vs=v.cells.toList:=by
        apply aoQ;intro i;rcases amv i vs.length with hi | hi
        . have:=e3 i _ (ami hi);rw[amp,hw]at this;rw[ami hi,<- this];exact(Gf w0 v.cells t i).symm
        . rw[amw hi,amw (by simp; omega)]
       rw[Pd]at e4;refine⟨fun t tv ht => ?_,?_⟩
       . have ht:look ((t0,fN g l)::ay.tm) t=some tv:=ht;rw[aN]at ht;split at ht
         . simp only[amd]at ht;subst ht;intro hm;cases ho:fN g l with
           | may q w y g' l'=>exact lY ho
           | _=>rw[ho]at hm; exact hm
         . exact hn t tv ht
       . refine h.tell (tm:=ay.tm) (rt:=ay.rt) (aV t0 rfl) ?_;rw[hx t0 rfl cY];exact zz hC e4
 | _=>exact⟨hn,h⟩
theorem aej(h:Rel cx Z g st a w)(hn:cJ st)(dh:Fit cx E a){o:Oper}{d:Nat}(hd:o.dst=some d)(cE:kM cx a d){t:TypeId}{x:Operand}(ho:o.op= .box t x){ti:TI}{tx:TV}{p:Bool×List AV}{ay:St}
 (hx:st.get x=some tx)(hp:tx.dn = some p)(hf:st.free d=true)(H8:p.2.all st.live=true)(hlen:p.2.length=ti.ks.length)(hs:(st.a8 d (.v (.ptr d 0),some ⟨true,ti.ks.map o7⟩)).dz d 0 ti.ks p.2=some ay):qt P cx E (ay.rebind x d p.1 ti.ks.length) a w o:=by
 have hc:=hn.cons.cons;obtain⟨rv,rl⟩:=nc h (bg h hc hx) hp H8;obtain⟨g1,h1,hk,vT⟩:=h.ES (d:=d) cE hf (cs:=(ti.ks.map zV).toArray) (e:=t) (l:=ti.ks.map o7) (by simp) (fun j c v hj hv=>by
  have BL:(ti.ks[j]?).map o7=some c:=by rw[<- amT]; exact hj
  have hv':(ti.ks[j]?).map zV=some v:=by rw[<- amT]; simpa using hv
  cases hk:ti.ks[j]? with
  | none=>rw[hk]at BL; simp at BL
  | some k0 => rw[hk]at BL hv';simp only[amE,amd]at BL hv';exact .inl ⟨k0,BL.symm,hv'.symm⟩) (tv:= .v (.ptr d 0)) (v:= .pointer (some ⟨w.heap.size,0,none⟩)) (.inl ⟨rfl,rfl⟩)
 have BX:shape (st.a8 d (.v (.ptr d 0),some ⟨true,ti.ks.map o7⟩)) d=some (true,ti.ks.length):=by unfold shape;rw[BA];simp
 obtain⟨g',m1,m2,m3⟩:=ru (r:=d) (n:=ti.ks.length) ti.ks p.2 _ _ g1 _ 0 ay h1 BX (ba.cI hk _ _ rv) hs;rw[vT,qI,FJ _ _ (by rw[<- eX rv,hlen]; simp),anc]at m1;have alu:cJ ay:=fun t tv ht=>by
  rw[m2,cC]at ht;split at ht
  . simp only[amd]at ht; subst ht; exact fun h=>h
  . exact hn t tv ht
 obtain⟨alv,m1⟩:=IE (x:=x) (g:=p.1) m1 alu (d:=d) (v:=a.eval x) (by rw[m2,cC,if_pos rfl]) (by simp[Act.put,cE.1]) (fun t ht cY=>by subst ht; simp[Act.put,Act.eval,amn,aos (Ne.symm cY)]) (fun t ht=>by
  subst ht;have ht2:(a.put (some d) (.pointer (some ⟨w.heap.size,0,none⟩))).tmps.size=a.tmps.size:=by simp[Act.put]
  rw[ht2];have hx:st.tv t=some tx:=hx;obtain⟨tq,h1,_⟩:=Em hn.cons hx;exact(h.tm t tq h1).1) (WL h (bg h hc hx) hp H8) (hlen.symm.trans rl.symm) rfl
 refine⟨alv,fun next Q hk => ?_⟩
 . have au:(execOp a.eval o).run P w= .ok (.value (.pointer (some ⟨w.heap.size,0,none⟩))) (w.alloc (.cells (a.eval x).cells t (0,0))):=by
    simp[execOp,ho,Instr.box,newVar,newRow]
   unfold Oper.wp;rw[au,anh,hd];exact hk Z g' _ _ m1 (dh.put _ _)
end
section
variable{w w':World}
theorem kz:∀(ks:List K) (x:Tl ks) (j:Nat) (G G':Nat->Nat->Prop) (cs fT:Array Value) (o o':Nat),(∀ q,q<ks.length->fT[o'+q]? = cs[o+q]?)->(∀ j b,G j b->G' j b)->(∀ j b,G j b->b<w.heap.size->w'.heap[b]? = w.heap[b]?)->gw w ks x j G cs o->gw w' ks x j G' fT o'
 | [],_,_,_,_,_,_,_,_,_,_,_,_=>trivial
 | k::ks,x,j,G,G',cs,fT,o,o',hc,hG,hw,⟨⟨v,h1,h2⟩,h3⟩ =>
   ⟨⟨v,by rw[<- h1]; exact hc 0 (by simp),dI.frame k _ v (G j) (G' j) (hG j) (hw j) h2⟩,kz ks _ (j+1) G G' cs fT (o+1) (o'+1) (fun q hq=>by rw[show o'+1+q=o'+(q+1)by omega,show o+1+q=o+(q+1)by omega]; exact hc (q+1) (by simp; omega)) hG hw h3⟩
structure KG (w:World) (ks:List K) (ys:List (Tl ks)) (news:List Value) (H:Nat->Nat->Nat->Prop) (F:Nat->Prop):Prop where
 len:news.length=ys.length * ks.length
 one:∀ v∈news,v.oneCell'=true
 sub:∀ i j b,H i j b->F b
 cS:∀ i j i' j' b,H i j b->H i' j' b->i=i'/\j=j'
 row:∀(i:Nat) (y:Tl ks),ys[i]? = some y->gw w ks y 0 (H i) news.toArray (i * ks.length)
theorem nz{i m n q:Nat}(hi:i<m)(hq:q<n):i * n+q<m * n:=by have:=amH n (show i+1<=m from hi);rw[amR,aoE]at this;omega
theorem KA{e:TypeId}{ks:List K}{xs:T (.sl e ks)}{ys:List (Tl ks)}{G:Nat->Nat->Nat->Prop}{cs:Array Value}{o:Nat}{news:List Value}{H:Nat->Nat->Nat->Prop}{FH:Nat->Prop}{F:Nat->Prop}{b0:Nat}{cap:Nat}
 (Mn:∀ i j b,G i j b->F b/\b≠b0)(hG2:∀ i j i' j' b,G i j b->G i' j' b->i=i'/\j=j')(hx:∀ i x,(aW xs)[i]? = some x->gw w ks x 0 (G i) cs (o+i * ks.length))(hn:KG w ks ys news H FH)(hFH:∀ b,FH b->¬ F b/\b≠b0)
 {b o':Nat}{fT:Array Value}{el:TypeId}{fr:Nat×Nat}{F':Nat->Prop}(hb:w'.heap[b]? = some (.cells fT el fr))(yO:∀ q,q<fT.size+mk1 ks->¬ (fr.1<=q/\q<fr.2))(hF'b:F' b)(Io:∀ q,F q->q≠b0->F' q)(adV:∀ q,FH q->F' q)(hGb:∀ i j q,G i j q->q≠b)(Yi:∀ q,FH q->q≠b)
 (qQ:∀ q,q<w.heap.size->q≠b0->q≠b->w'.heap[q]? = w.heap[q]?)
 (hold:∀ q,q<(aW xs).length * ks.length->fT[o'+q]? = cs[o+q]?)(nL:∀ q,q<news.length->fT[o'+(aW xs).length * ks.length+q]? = news[q]?)(vO:(aW xs).length+ys.length<=cap)(dh:o'+cap * ks.length<=fT.size)(bp:(aW xs).length+ys.length<=bQ) :
 dI w' (.sl e ks) (cat ks (aW xs) ys) (.slice (some ⟨b,o',none⟩) ((aW xs).length+ys.length) cap) F':=by
 have hlen:(aW (e:=e) (ks:=ks) (cat ks (aW xs) ys)).length=(aW xs).length+ys.length:=amf ..
 refine⟨_,cap,by rw[hlen],by rw[hlen]; exact vO,by rw[hlen]; exact bp,by simp,fun a' rV => ?_⟩;simp only[amd]at rV;subst rV;refine⟨b,o',fT,el,fr,rfl,hF'b,hb,yO,dh,fun i j q=>if i<(aW xs).length then G i j q else H (i-(aW xs).length) j q,fun i j q hq => ?_,fun i j i' j' q h1 h2 => ?_,fun i x hi => ?_⟩
 . dsimp only at hq;split at hq
   . exact⟨Io q (Mn i j q hq).1 (Mn i j q hq).2,hGb i j q hq⟩
   . exact⟨adV q (hn.sub _ _ _ hq),Yi q (hn.sub _ _ _ hq)⟩
 . dsimp only at h1 h2;split at h1
   . split at h2
     . exact hG2 _ _ _ _ _ h1 h2
     . exact absurd (Mn _ _ _ h1).1 (hFH q (hn.sub _ _ _ h2)).1
   . split at h2
     . exact absurd (Mn _ _ _ h2).1 (hFH q (hn.sub _ _ _ h1)).1
     . obtain⟨e1,e2⟩:=hn.cS _ _ _ _ _ h1 h2;exact⟨by omega,e2⟩
 . have vZ:(aW xs++ys)[i]? = some x:=hi;by_cases hl:i<(aW xs).length
   . rw[amW hl]at vZ;refine kz ks x 0 (G i) _ cs fT _ _ (fun q hq => ?_) (fun j q hq => ?_) (fun j q hq aV=>qQ q aV (Mn i j q hq).2 (hGb i j q hq)) (hx i x vZ)
     . have:=hold (i * ks.length+q) (nz hl hq);rw[show o'+i * ks.length+q=o'+(i * ks.length+q)by omega,show o+i * ks.length+q=o+(i * ks.length+q)by omega];exact this
     . show(if i<(aW xs).length then G i j q else H (i-(aW xs).length) j q);rw[if_pos hl]; exact hq
   . rw[amU (by omega)]at vZ;have aV:i-(aW xs).length<ys.length:=by
      rcases amv (i-(aW xs).length) ys.length with h | h
      . exact h
      . simp[amw h]at vZ
     refine kz ks x 0 (H (i-(aW xs).length)) _ news.toArray fT _ _ (fun q hq => ?_) (fun j q hq => ?_) (fun j q hq alw=>qQ q alw (hFH q (hn.sub _ _ _ hq)).2 (Yi q (hn.sub _ _ _ hq))) (hn.row _ x vZ)
     . have v7:(i-(aW xs).length) * ks.length+q<news.length:=by rw[hn.len]; exact nz aV hq
       have:=nL _ v7;have hmul:i * ks.length=(aW xs).length * ks.length+(i-(aW xs).length) * ks.length:=by rw[<- amR]; congr 1; omega
       rw[show o'+i * ks.length+q=o'+(aW xs).length * ks.length+((i-(aW xs).length) * ks.length+q)by omega,this];simp
     . show(if i<(aW xs).length then G i j q else H (i-(aW xs).length) j q);rw[if_neg hl]; exact hq
end
section
variable{P:Program}{cx:Cx P}{Z:Nat->Prop}{g:Gh}{st:St}{a:Act}{w:World}{E:En}
theorem Rel.wr(h:Rel cx Z g st a w){w':World}{F:Nat->Prop}(hF:jK cx Z g st w F)(h1:w'.os=w.os)(h2:w'.tape=w.tape)(h3:w'.output=w.output)(hs:w.heap.size<=w'.heap.size)(hb:∀ b,b<w.heap.size->¬ F b->w'.heap[b]? = w.heap[b]?):Rel cx Z g st a w':=by
 have hz:∀ b,Z b->b<w.heap.size->w'.heap[b]? = w.heap[b]? := fun b hz aV=>hb b aV fun hf=>hF.z b hf hz
 have ym:∀ r j b,g.fp r j b->w'.heap[b]? = w.heap[b]? := fun r j b hf=>hb b (h.fp r j b hf).1 fun hf'=>hF.fp b hf' r j hf
 have k:oe Z Z w w' g g st st :=
  { size:=hs,z:=fun b ur aV=>⟨ur,hz b ur aV⟩,root:=fun r R hR=>⟨R,hR,rfl,fun _=>rfl⟩
    cell:=fun r j c hc=>⟨c,hc,oR _,oR _,fun _=>rfl,fun _ e ks xs hh=>⟨xs,hh,rfl⟩,fun _ _=>⟨rfl,fun b cz _=>⟨cz,ym r j b cz⟩⟩⟩
    own:=fun r j b cz=>(h.fp r j b cz).1
    block:=(gk h (ay:=st) (w':=w) rfl rfl).block }
 refine { os:=h1.trans h.os,tape:=h2.trans h.tape,output:=h3.trans h.output,size:=aml h.size hs,block := ?_,cq:=fun b cz=>⟨amC (h.cq b cz).1 hs,(h.cq b cz).2⟩,z0:=h.z0,fp := ?_,cS:=h.cS,box := ?_,cell := ?_,tm := ?_,defers:=h.defers,nx:=h.nx }
 . intro b aV hf;refine(hb b (amC aV h.size) fun hf' => ?_).trans (h.block b aV hf);rcases hF.own b hf' with h4 | h4
   . exact hf h4
   . omega
 . intro r j b cz;obtain⟨h1,h2,h3,h4⟩:=h.fp r j b cz;exact⟨amC h1 hs,h2,h3,h4⟩
 . intro r R hR nO;obtain⟨b1,b2,b3,b4,cs,e,fr,b5,b6⟩:=h.box r R hR nO;have aV:g.be r<w.heap.size:=by
    rcases amv (g.be r) w.heap.size with hh | hh
    . exact hh
    . simp[amy hh]at b5
   exact⟨b1,b2,b3,b4,cs,e,fr,by rw[hb _ aV fun hf=>hF.box _ hf r R hR nO rfl]; exact b5,b6⟩
 . intro r j c hc;exact lh.cI k _ _ _ _ (h.cell r j c hc) (fun _ h=>h) (fun b cz _=>ym r j b cz)
 . exact fun t tv ht=>⟨(h.tm t tv ht).1,bW.cI k _ _ (h.tm t tv ht).2⟩
theorem Rel.Kt(h:Rel cx Z g st a w){d:Nat}(hd:kM cx a d)(hf:st.free d=true){k:K}{x:T k}{v:Value}{F:Nat->Prop}(hF:∀ b,F b->b<w.heap.size/\(cx.F0 b∨cx.w0.heap.size<=b)/\¬ Z b/\(∀ r j,¬ g.fp r j b)/\(∀ r' R',look st.rt r'=some R'->R'.box=true->g.be r'≠b))(ho:dI w k x v F) :
 ∃ g',Rel cx Z g' (st.a8 d (.v (.ref d 0 0),some ⟨false,[⟨0,0,.own k x⟩]⟩)) (a.put (some d) v) w:=by
 have h6:=Rel.nw h (r:=d) (be:=0) (R:=⟨false,[⟨0,0,.own k x⟩]⟩) (cv:=fun _=>v) (fp:=fun j b=>j=0/\F b) (kI hf)
  (fun j b hb=>⟨(hF b hb.2).1,(hF b hb.2).2.1,(hF b hb.2).2.2.1,(hF b hb.2).2.2.2.1,(hF b hb.2).2.2.2.2,⟨0,0,.own k x⟩,k,x,by rw[hb.1]; rfl,rfl⟩)
  (fun j j' b h1 h2=>h1.1.trans h2.1.symm) (fun hb=>by simp at hb)
  (fun j c hj=>by
    cases j with
    | zero => simp only[amj,amd]at hj;subst hj;exact dI.frame _ _ _ _ _ (fun b hb=>⟨rfl,hb⟩) (fun _ _ _=>rfl) ho
    | succ j=>simp at hj)
 refine⟨_,h6.ot hd (tv:= .v (.ref d 0 0)) ⟨⟨0,0,.own k x⟩,?_,oR _,fun _=>by simp[Gh.at]⟩⟩;show(match look ((d,(⟨false,[⟨0,0,.own k x⟩]⟩:Rt))::st.rt) d with | some R=>R.cells[0]? | none=>none)=_;rw[aN,if_pos rfl];rfl
end
section
variable{P:Program}{w:World}{E:En}
theorem qz{t t2 ty:TypeId}{e:TypeId}{te:TI}(ht:P.underlying t=some (.slice e))(rY:rI P e te){d2:TypeDesc}(h2:P.underlying t2=some d2)(O5:∀ k,d2≠ .int k){b o sLen sCap n:Nat}{vx:Value}{news:List Value}{ats:Array TypeId}(ll:ats[0]? = some t)(oS:ats[1]? = some t2)
 (hl:(Builtin.lenOf vx).run P w= .ok n w)(hf:(Builtin.firstCells te.ks.length n vx).run P w= .ok news.toArray w)(hc:sLen+n<=sCap)(h1:∀ u∈news,u.oneCell'=true)
 (bD:∀ j,j<news.length->∃ cs el fr,w.heap[b]? = some (.cells cs el fr)/\o+sLen * te.ks.length+j<cs.size/\¬ (fr.1<=o+sLen * te.ks.length+j/\o+sLen * te.ks.length+j<fr.2)) :
 (Builtin.append_ ats ty #[.slice (some ⟨b,o,none⟩) sLen sCap,vx]).run P w= .ok (.slice (some ⟨b,o,none⟩) (sLen+n) sCap) (w.setCells b (o+sLen * te.ks.length) news):=by
 have mR:=run_storeCells_cells (P:=P) b (o+sLen * te.ks.length) news 0 w (fun j hj=>by
  obtain⟨cs,el,fr,e1,e2,_⟩:=bD j hj;simp[World.cell?,e1,e2]) (fun j hj=>by
  obtain⟨cs,el,fr,e1,e2,e3⟩:=bD j hj;simp only[World.frozen?,amJ,e1];simp only[aoy,aof];by_cases h:fr.1<=o+sLen * te.ks.length+j
  . exact .inr fun h'=>e3 ⟨h,h'⟩
  . exact .inl h) h1
 rw[amJ]at mR;have hz:(match d2 with | .int _=>true | _=>false)=false:=by cases d2 <;> first | rfl | exact absurd rfl (O5 _)
 simp only[Builtin.append_,ll,oS,amQ,amj,am3,amF,amI ht,amq,dt rY,amI h2,amN,hz,amX,anu,hl,hc,if_true,oM,hf,gN,mR]
theorem append_nil{t t2 ty:TypeId}{e:TypeId}{te:TI}(ht:P.underlying t=some (.slice e))(rY:rI P e te){d2:TypeDesc}(h2:P.underlying t2=some d2)(O5:∀ k,d2≠ .int k){vx:Value}{news:List Value}{ats:Array TypeId}(ll:ats[0]? = some t)(oS:ats[1]? = some t2)
 (hl:(Builtin.lenOf vx).run P w= .ok 0 w)(hf:(Builtin.firstCells te.ks.length 0 vx).run P w= .ok news.toArray w) :
 (Builtin.append_ ats ty #[.slice none 0 0,vx]).run P w= .ok (.slice none 0 0) w:=by
 have hz:(match d2 with | .int _=>true | _=>false)=false:=by cases d2 <;> first | rfl | exact absurd rfl (O5 _)
 simp only[Builtin.append_,ll,oS,amQ,amj,am3,amF,amI ht,amq,dt rY,amI h2,amN,hz,amX,anu,hl,oR,amJ,if_true,oM,hf]
theorem pz{t t2 ty:TypeId}{e:TypeId}{te:TI}(ht:P.underlying t=some (.slice e))(rY:rI P e te){d2:TypeDesc}(h2:P.underlying t2=some d2)(O5:∀ k,d2≠ .int k){base:Option Addr}{sLen sCap n:Nat}{vx:Value}{iT news:List Value}{ats:Array TypeId}(ll:ats[0]? = some t)(oS:ats[1]? = some t2)
 (hl:(Builtin.lenOf vx).run P w= .ok n w)(hfo:(Builtin.firstCells te.ks.length sLen (.slice base sLen sCap)).run P w.drew= .ok iT.toArray w.drew)(hf:(Builtin.firstCells te.ks.length n vx).run P w.drew= .ok news.toArray w.drew)(hc:sCap<sLen+n)(vY:0<te.bytes)(hb:(sLen+n) * te.bytes<=bQ) :
 ∃ zs:Array Value,zs.size=(grownCap w (sLen+n) sCap e-(sLen+n)) * te.ks.length/\(Builtin.append_ ats ty #[.slice base sLen sCap,vx]).run P w= .ok (.slice (some ⟨w.heap.size,0,none⟩) (sLen+n) (grownCap w (sLen+n) sCap e)) (w.drew.alloc (.cells (iT.toArray++news.toArray++zs) e (0,0))):=by
 have hz:(match d2 with | .int _=>true | _=>false)=false:=by cases d2 <;> first | rfl | exact absurd rfl (O5 _)
 obtain⟨i,e1,e2,e3,z,e4,e5⟩:=rY.info;have mQ:z.cells.size=te.ks.length:=by rw[<- amP,e5]; simp
 refine⟨Builtin.zeroCells z.cells (grownCap w (sLen+n) sCap e-(sLen+n)),by rw[size_zeroCells,mQ],?_⟩;have hn:¬ (sLen+n<=sCap):=by omega
 have Dn:(sLen+n) * te.bytes<=140737488355328:=hb;have hle:sLen+n<=(sLen+n) * te.bytes:=anL _ vY;have h63:¬ (9223372036854775807<((sLen:Int)+(n:Int))):=by omega
 have OT:¬ (281474976710656<Builtin.nextslicecap (sLen+n) sCap * i.bytes):=by have:=growslice_fits (need:=sLen+n) (old:=sCap) (bytes:=i.bytes) hc (by rw[e3]; exact Dn);omega
 have adW:(Builtin.firstCells i.size sLen (.slice base sLen sCap)).run P w.drew= .ok iT.toArray w.drew:=by rw[e2]; exact hfo
 have hf':(Builtin.firstCells i.size n vx).run P w.drew= .ok news.toArray w.drew:=by rw[e2]; exact hf
 simp[Builtin.append_,ll,oS,amI ht,amI h2,sizeOf,typeInfo,zeroValue,e1,e4,hl,hn,h63,OT,Question.forced,hf',adW,newRow,grownCap,hz];congr 2;rw[<- anW];congr 1;simp
end
section
variable{P:Program}{cx:Cx P}{Z:Nat->Prop}{g:Gh}{st:St}{a:Act}{w:World}{E:En}
theorem kj{fresh:Bool}{H:Nat->Nat->Prop}:∀(ks:List K) (x:Tl ks) (cs:List Value) (j:Nat),bb fresh Z w H ks x cs j->cs.length=ks.length
 | [],_,[],_,_=>rfl
 | .sl e bZ::ks,x,v::vs,j,h=>amL (· + 1) (kj ks x.2 vs _ h.2)
 | .int _::ks,x,v::vs,j,h=>amL (· + 1) (kj ks x.2 vs _ h.2)
 | .bool::ks,x,v::vs,j,h=>amL (· + 1) (kj ks x.2 vs _ h.2)
 | .str::ks,x,v::vs,j,h=>amL (· + 1) (kj ks x.2 vs _ h.2)
 | [],_,_::_,_,h=>h.elim
 | .sl _ _::_,_,[],_,h=>h.elim
 | .int _::_,_,[],_,h=>h.elim
 | .bool::_,_,[],_,h=>h.elim
 | .str::_,_,[],_,h=>h.elim
theorem jj{H:Nat->Nat->Prop}:∀(ks:List K) (x:Tl ks) (cs:List Value) (j:Nat),bb true Z w H ks x cs j->∀ u∈cs,u.oneCell'=true
 | [],_,[],_,_=>by simp
 | .sl e bZ::ks,x,v::vs,j,h=>fun u hu=>by
   rcases amo.1 hu with hu | hu
   . subst hu; exact(Ex h.1).2
   . exact jj ks x.2 vs _ h.2 u hu
 | .int _::ks,x,v::vs,j,h=>fun u hu=>by
   rcases amo.1 hu with hu | hu
   . subst hu; exact(qA h.1).2
   . exact jj ks x.2 vs _ h.2 u hu
 | .bool::ks,x,v::vs,j,h=>fun u hu=>by
   rcases amo.1 hu with hu | hu
   . subst hu; exact(qA (k:= .bool) h.1).2
   . exact jj ks x.2 vs _ h.2 u hu
 | .str::ks,x,v::vs,j,h=>fun u hu=>by
   rcases amo.1 hu with hu | hu
   . subst hu; exact(qA (k:= .str) h.1).2
   . exact jj ks x.2 vs _ h.2 u hu
 | [],_,_::_,_,h=>h.elim
 | .sl _ _::_,_,[],_,h=>h.elim
 | .int _::_,_,[],_,h=>h.elim
 | .bool::_,_,[],_,h=>h.elim
 | .str::_,_,[],_,h=>h.elim
theorem qe{H:Nat->Nat->Prop}(hd:∀ n m b,H n b->H m b->n=m){cs:Array Value}:∀(ks:List K) (x:Tl ks) (vs:List Value) (j j0 o:Nat),bb true Z w H ks x vs j->(∀ q,q<vs.length->cs[o+q]? = vs[q]?) ->
 ∃ G:Nat->Nat->Prop,gw w ks x j0 G cs o/\(∀ q b,G q b->j0<=q/\∃ n,j<=n/\H n b)/\(∀ q q' b,G q b->G q' b->q=q')
 | [],_,[],j,j0,o,_,_=>⟨fun _ _=>False,trivial,fun _ _ h=>h.elim,fun _ _ _ h=>h.elim⟩
 | .sl e bZ::ks,x,v::vs,j,j0,o,h,hc=>by
   obtain⟨G,g1,g2,g3⟩:=qe hd ks x.2 vs (j+1) (j0+1) (o+1) h.2 fun q hq=>by rw[show o+1+q=o+(q+1)by omega]; exact hc (q+1) (by simp; omega)
   refine⟨fun q b=>if q=j0 then H j b else G q b,⟨⟨v,by have:=hc 0 (by simp); simpa using this,dI.frame _ _ _ _ _ (fun b hb=>by dsimp only; rw[if_pos rfl]; exact hb) (fun _ _ _=>rfl) h.1⟩,?_⟩,fun q b hb => ?_,fun q q' b hb cz => ?_⟩
   . refine gw.frame ks x.2 (j0+1) G _ cs (o+1) (fun q b hb => ?_) (fun _ _ _ _=>rfl) g1;have:=(g2 q b hb).1;rw[if_neg (by omega)];exact hb
   . dsimp only at hb;split at hb
     . exact⟨by omega,j,oR _,hb⟩
     . obtain⟨k1,n,k2,k3⟩:=g2 q b hb;exact⟨by omega,n,by omega,k3⟩
   . dsimp only at hb cz;split at hb
     . split at cz
       . omega
       . obtain⟨_,n,k2,k3⟩:=g2 q' b cz;have:=hd j n b hb k3;omega
     . split at cz
       . obtain⟨_,n,k2,k3⟩:=g2 q b hb;have:=hd j n b cz k3;omega
       . exact g3 q q' b hb cz
 | .int k::ks,x,v::vs,j,j0,o,h,hc=>by
   obtain⟨G,g1,g2,g3⟩:=qe hd ks x.2 vs j (j0+1) (o+1) h.2 fun q hq=>by rw[show o+1+q=o+(q+1)by omega]; exact hc (q+1) (by simp; omega)
   exact⟨G,⟨⟨v,by have:=hc 0 (by simp); simpa using this,kH rfl h.1⟩,g1⟩,fun q b hb=>⟨by have:=(g2 q b hb).1; omega,(g2 q b hb).2⟩,g3⟩
 | .bool::ks,x,v::vs,j,j0,o,h,hc=>by
   obtain⟨G,g1,g2,g3⟩:=qe hd ks x.2 vs j (j0+1) (o+1) h.2 fun q hq=>by rw[show o+1+q=o+(q+1)by omega]; exact hc (q+1) (by simp; omega)
   exact⟨G,⟨⟨v,by have:=hc 0 (by simp); simpa using this,kH (k:= .bool) rfl h.1⟩,g1⟩,fun q b hb=>⟨by have:=(g2 q b hb).1; omega,(g2 q b hb).2⟩,g3⟩
 | .str::ks,x,v::vs,j,j0,o,h,hc=>by
   obtain⟨G,g1,g2,g3⟩:=qe hd ks x.2 vs j (j0+1) (o+1) h.2 fun q hq=>by rw[show o+1+q=o+(q+1)by omega]; exact hc (q+1) (by simp; omega)
   exact⟨G,⟨⟨v,by have:=hc 0 (by simp); simpa using this,kH (k:= .str) rfl h.1⟩,g1⟩,fun q b hb=>⟨by have:=(g2 q b hb).1; omega,(g2 q b hb).2⟩,g3⟩
 | [],_,_::_,_,_,_,h,_=>h.elim
 | .sl _ _::_,_,[],_,_,_,h,_=>h.elim
 | .int _::_,_,[],_,_,_,h,_=>h.elim
 | .bool::_,_,[],_,_,_,h,_=>h.elim
 | .str::_,_,[],_,_,_,h,_=>h.elim
theorem qW{Z':Nat->Prop}{G:Nat->Nat->Prop}{cs:Array Value}:∀(ks:List K) (x:Tl ks) (j b o o':Nat),flat ks=true->rO Z' w ks x b o->(∀ q,q<ks.length->cs[o'+q]? = w.cell? ⟨b,o+q,none⟩)->gw w ks x j G cs o'
 | [],_,_,_,_,_,_,_,_=>trivial
 | .int k::ks,x,j,b,o,o',hf,⟨⟨v,h1,h2⟩,h3⟩,hc=>⟨⟨v,by rw[<- h1]; exact hc 0 (by simp),kH rfl h2⟩,qW ks x.2 (j+1) b (o+1) (o'+1) hf h3 fun q hq=>by rw[show o'+1+q=o'+(q+1)by omega,show o+1+q=o+(q+1)by omega]; exact hc (q+1) (by simp; omega)⟩
 | .bool::ks,x,j,b,o,o',hf,⟨⟨v,h1,h2⟩,h3⟩,hc=>⟨⟨v,by rw[<- h1]; exact hc 0 (by simp),kH (k:= .bool) rfl h2⟩,qW ks x.2 (j+1) b (o+1) (o'+1) hf h3 fun q hq=>by rw[show o'+1+q=o'+(q+1)by omega,show o+1+q=o+(q+1)by omega]; exact hc (q+1) (by simp; omega)⟩
 | .str::ks,x,j,b,o,o',hf,⟨⟨v,h1,h2⟩,h3⟩,hc=>⟨⟨v,by rw[<- h1]; exact hc 0 (by simp),kH (k:= .str) rfl h2⟩,qW ks x.2 (j+1) b (o+1) (o'+1) hf h3 fun q hq=>by rw[show o'+1+q=o'+(q+1)by omega,show o+1+q=o+(q+1)by omega]; exact hc (q+1) (by simp; omega)⟩
 | .sl _ _::_,_,_,_,_,_,hf,_,_=>by simp[flat]at hf
theorem DS{Z':Nat->Prop}:∀(ks:List K) (x:Tl ks) (b o q:Nat),rO Z' w ks x b o->q<ks.length->∃ v,w.cell? ⟨b,o+q,none⟩=some v/\v.oneCell'=true
 | [],_,_,_,_,_,hq=>by simp at hq
 | k::ks,x,b,o,0,⟨⟨v,h1,h2⟩,_⟩,_=>⟨v,h1,(qA h2).2⟩
 | k::ks,x,b,o,q+1,⟨_,h3⟩,hq=>by obtain⟨v,h1,h2⟩:=DS ks x.2 b (o+1) q h3 (by simpa using hq);exact⟨v,by rw[show o+(q+1)=o+1+q by omega]; exact h1,h2⟩
theorem AA{G:Nat->Nat->Prop}{cs:Array Value}:∀(ks:List K) (x:Tl ks) (j o q:Nat),gw w ks x j G cs o->q<ks.length->∃ v,cs[o+q]? = some v/\v.oneCell'=true
 | [],_,_,_,_,_,hq=>by simp at hq
 | k::ks,x,j,o,0,⟨⟨v,h1,h2⟩,_⟩,_=>⟨v,h1,(Ex h2).2⟩
 | k::ks,x,j,o,q+1,⟨_,h3⟩,hq=>by obtain⟨v,h1,h2⟩:=AA ks x.2 (j+1) (o+1) q h3 (by simpa using hq);exact⟨v,by rw[show o+(q+1)=o+1+q by omega]; exact h1,h2⟩
theorem rA{m n q:Nat}(h:q<m * n):q / n<m/\q % n<n/\q=q / n * n+q % n:=by
 have hn:0<n:=by
  rcases an7 n with h0 | h0
  . subst h0; simp at h
  . exact h0
 exact⟨Nat.div_lt_of_lt_mul (by rw[aoJ]; exact h),Nat.mod_lt _ hn,by rw[aoJ]; exact(Nat.div_add_mod q n).symm⟩
structure zw (P:Program) (cx:Cx P) (Z:Nat->Prop) (g g':Gh) (st ay:St) (w:World) (ks:List K) (ys:List (Tl ks)) (v:Value) (news:List Value) (H:Nat->Nat->Nat->Prop) (FH:Nat->Prop):Prop where
 rows:KG w ks ys news H FH
 len:(Builtin.lenOf v).run P w= .ok ys.length w
 cells:∀ w1:World,w1.heap=w.heap->(Builtin.firstCells ks.length ys.length v).run P w1= .ok news.toArray w1
 free:jK cx Z g' ay w FH
 other:∀ F,jK cx Z g st w F->jK cx Z g' ay w F/\∀ b,FH b->¬ F b
 tm:ay.tm=st.tm
theorem zw.EX{ks:List K}{ys:List (Tl ks)}{v:Value}{news:List Value}(h1:news.length=ys.length * ks.length)(h2:∀ u∈news,u.oneCell'=true)(h3:∀(i:Nat) (y:Tl ks),ys[i]? = some y->gw w ks y 0 (fun _ _=>False) news.toArray (i * ks.length))
 (h4:(Builtin.lenOf v).run P w= .ok ys.length w)(h5:∀ w1:World,w1.heap=w.heap->(Builtin.firstCells ks.length ys.length v).run P w1= .ok news.toArray w1):zw P cx Z g g st st w ks ys v news (fun _ _ _=>False) (fun _=>False) :=
 ⟨⟨h1,h2,fun _ _ _ h=>h,fun _ _ _ _ _ h=>h.elim,h3⟩,h4,h5,jK.none _ _ _ _ _,fun F hF=>⟨hF,fun _ h=>h.elim⟩,rfl⟩
theorem On(h:Rel cx Z g st a w){e:TypeId}{ks:List K}{z:T (.sl e ks)}{v:Value}(uq:RO (iR w) w (.sl e ks) z v)(hf:flat ks=true):∃ news,zw P cx Z g g st st w ks (aW z) v news (fun _ _ _=>False) (fun _=>False):=by
 obtain⟨aa,c,rfl,h2,h3,h4,h5⟩:=uq;by_cases cY:aW z=[]
 . refine⟨[],zw.EX (by rw[cY]; simp) (by simp) (fun i y hi=>by rw[cY]at hi; simp at hi) rfl fun w1 _ => ?_⟩;rw[cY];cases aa with
   | none=>exact run_firstCells_none (P:=P) w1 _ _ _ _
   | some b=>exact run_firstCells_some (P:=P) w1 _ _ b _ _ [] (by simp) (fun j v hj=>by simp at hj)
 . obtain⟨b,o,rfl,_,_,vP⟩:=h5 cY;have bD:∀ q,q<(aW z).length * ks.length->∃ v,w.cell? ⟨b,o+q,none⟩=some v/\v.oneCell'=true:=fun q hq=>by
    obtain⟨q1,q2,q3⟩:=rA hq;obtain⟨v,k1,k2⟩:=DS ks _ b _ (q % ks.length) (vP _ _ (ami q1)) q2;exact⟨v,by rw[q3,<- ani]; exact k1,k2⟩
   have BW:∀ q,q<(aW z).length * ks.length->((List.range ((aW z).length * ks.length)).map fun q=>(w.cell? ⟨b,o+q,none⟩).getD undef)[q]? = w.cell? ⟨b,o+q,none⟩:=fun q hq=>by obtain⟨v,k1,_⟩:=bD q hq;simp[hq,k1]
   refine⟨(List.range ((aW z).length * ks.length)).map fun q=>(w.cell? ⟨b,o+q,none⟩).getD undef,zw.EX (by simp) (fun u hu => ?_) (fun i y hi => ?_) rfl fun w1 Cj => ?_⟩
   . obtain⟨q,hq,rfl⟩:=an5.1 hu;obtain⟨v,k1,k2⟩:=bD q (anq.1 hq);rw[k1];exact k2
   . have Dm:i<(aW z).length:=by
      rcases amv i (aW z).length with hh | hh
      . exact hh
      . simp[amw hh]at hi
     refine qW ks y 0 b _ _ hf (vP i y hi) fun q hq => ?_
     have:=BW (i * ks.length+q) (nz Dm hq);rw[amQ,this,ani]
   . refine run_firstCells_some (P:=P) w1 _ _ ⟨b,o,none⟩ _ _ _ (by simp) fun j v hj => ?_
     have nP:j<(aW z).length * ks.length:=by
      rcases amv j ((aW z).length * ks.length)with hh | hh
      . exact hh
      . rw[amw (by simpa using hh)]at hj; simp at hj
     rw[BW j nP]at hj;rw[gN];simp only[World.cell?,Cj]at hj ⊢;exact hj
def ob:S8->List Value
 | []=>[]
 | c::s=> .int .u8 c.toNat::ob s
theorem pP:∀ s,(ob s).length=s.length
 | []=>rfl
 | _::s=>amL (· + 1) (pP s)
theorem oX:∀ s:S8,ob s=s.map fun b=>Value.int .u8 b.toNat
 | []=>rfl
 | c::s=>amL (Value.int .u8 c.toNat :: ·) (oX s)
theorem vd:∀(s:S8) (i:Nat),i<s.length->(ob s)[i]? = some (.int .u8 (s.getD i 0).toNat)
 | [],i,h=>by simp at h
 | c::s,0,_=>rfl
 | c::s,i+1,h=>vd s i (by simpa using h)
theorem Qd(e:TypeId)(s:S8):∃ news,zw P cx Z g g st st w [.int .u8] (aW (e:=e) (bytesOf s)) (.string (fR s)) news (fun _ _ _=>False) (fun _=>False):=by
 have hl:(aW (e:=e) (bytesOf s)).length=s.length:=bytesOf_length s;refine⟨ob s,zw.EX (by rw[pP,hl]; simp) (fun u hu => ?_) (fun i y hi => ?_) ?_ fun w1 _ => ?_⟩
 . rw[oX]at hu;obtain⟨c,_,rfl⟩:=an5.1 hu;rfl
 . obtain⟨T9,rfl⟩:=qj s i y hi;refine⟨⟨_,by rw[amQ]; simpa using vd s i T9,rfl,?_⟩,trivial⟩;have:=(s.getD i 0).toNat_lt;have e1:IntKind.u8.min=0:=rfl;have e2:IntKind.u8.max=255:=rfl;unfold pT;rw[e1,e2];show 0<=((s.getD i 0).toNat:Int)/\((s.getD i 0).toNat:Int)<=255;omega
 . rw[hl];show Result.ok (fR s).size w=_;rw[ld]
 . rw[hl];have:((fR s).extract 0 s.length).data.map (fun b=>Value.int .u8 b.toNat)=(ob s).toArray:=by
    rw[oX];have h2:(fR s).extract 0 s.length=fR s:=by have:s.length=(fR s).size:=(ld s).symm;rw[this];apply ao9;simp[ByteArray.data_extract]
    rw[h2];simp[fR]
   show Result.ok (((fR s).extract 0 s.length).data.map (fun b=>Value.int .u8 b.toNat)) w1=_;rw[this]
theorem Tp{g':Gh}{ay:St}{e:TypeId}{ks:List K}{z:T (.sl e ks)}{v:Value}{F:Nat->Prop}(ho:dI w (.sl e ks) z v F)(hF:jK cx Z g' ay w F)(ym:∀ r j b,g'.fp r j b->g.fp r j b)(Un:∀ b,F b->∃ r j,g.fp r j b)(vT:g'.be=g.be)(nO:∀ r R',look ay.rt r=some R'->∃ R,look st.rt r=some R/\R'.box=R.box)(Fm:ay.tm=st.tm) :
 ∃ news H,zw P cx Z g g' st ay w ks (aW z) v news H F:=by
 have oth:∀ F',jK cx Z g st w F'->jK cx Z g' ay w F'/\∀ b,F b->¬ F' b:=fun F' h'=>⟨h'.mono ym vT nO,fun b hb cz=>by obtain⟨r,j,hh⟩:=Un b hb;exact h'.fp b cz r j hh⟩
 obtain⟨aa,c,rfl,h2,h3,h4,h5⟩:=ho;cases aa with
 | none => have hz:aW z=[]:=amY.1 (by have:=h4 rfl; omega);refine⟨[],fun _ _ _=>False,⟨by rw[hz]; simp,by simp,fun _ _ _ h=>h.elim,fun _ _ _ _ _ h=>h.elim,fun i y hi=>by rw[hz]at hi; simp at hi⟩,rfl,fun w1 _=>by rw[hz]; exact run_firstCells_none (P:=P) w1 _ _ _ _,hF,oth,Fm⟩
 | some aa =>
   obtain⟨b,o,cs,el,fr,rfl,k2,k3,k4,k5,G,k6,k7,k8⟩:=h5 _ rfl;have hbound:∀ q,q<(aW z).length * ks.length->o+q<cs.size:=fun q hq=>by have:=amH ks.length h2;omega
   have BW:∀ q,q<(aW z).length * ks.length->((List.range ((aW z).length * ks.length)).map fun q=>cs.getD (o+q) undef)[q]? = cs[o+q]? := fun q hq=>by have:=hbound q hq;simp[hq,this]
   refine⟨(List.range ((aW z).length * ks.length)).map fun q=>cs.getD (o+q) undef,G,⟨by simp,fun u hu => ?_,fun i j b' cz=>(k6 i j b' cz).1,k7,fun i y hi => ?_⟩,rfl,fun w1 Cj => ?_,hF,oth,Fm⟩
   . obtain⟨q,hq,rfl⟩:=an5.1 hu;obtain⟨q1,q2,q3⟩:=rA (anq.1 hq);obtain⟨v,f1,f2⟩:=AA ks _ 0 _ (q % ks.length) (k8 _ _ (ami q1)) q2;rw[ani,<- q3]at f1;rw[amn,f1];exact f2
   . have Dm:i<(aW z).length:=by
      rcases amv i (aW z).length with hh | hh
      . exact hh
      . simp[amw hh]at hi
     refine kz ks y 0 (G i) (G i) cs _ _ _ (fun q hq => ?_) (fun _ _ h=>h) (fun _ _ _ _=>rfl) (k8 i y hi);rw[amQ,BW _ (nz Dm hq),ani]
   . refine run_firstCells_some (P:=P) w1 _ _ ⟨b,o,none⟩ _ _ _ (by simp) fun j v hj => ?_
     have nP:j<(aW z).length * ks.length:=by
      rcases amv j ((aW z).length * ks.length)with hh | hh
      . exact hh
      . rw[amw (by simpa using hh)]at hj; simp at hj
     rw[BW j nP]at hj;rw[gN];simp only[World.cell?,Cj,k3];exact hj
theorem NY(h:Rel cx Z g st a w){r:Nat}{l:List RC}{v:Value}{ks:List K}{x:Tl ks}{ay:St}(hl:look st.rt r=some ⟨true,l⟩)(hv:v= .slice (some ⟨g.be r,0,none⟩) 1 1)(ht:jV st true ks (l.map wg)=some (ay,x)) :
 ∃ g' news H FH,Rel cx Z g' ay a w/\zw P cx Z g g' st ay w ks [x] v news H FH:=by
 obtain⟨b1,b2,b3,b4,cs,el,fr,b5,b6,b7,b8⟩:=h.box r _ hl rfl;have eQ:ba Z g st w (l.map wg) cs.toList:=by
  refine lX (by simp[b7]) fun j y u hj hu => ?_
  rw[amT]at hj;cases hc:l[j]? with
  | none=>rw[hc]at hj; simp at hj
  | some c =>
    rw[hc]at hj;simp only[amE,amd]at hj;have bD:st.cell r j=some c:=by simp only[St.cell,hl]; exact hc
    have nP:j<cs.size:=by rw[b7];exact yr bD hl
    rw[amh,b8 j nP]at hu;simp only[amd]at hu;subst hj;subst hu;unfold wg;cases O7:c.v with
    | own k y=>trivial
    | av y=>exact yv h bD O7
 obtain⟨g',H0,m1,m2,m3⟩:=mK true ks (l.map wg) cs.toList st g ay x 0 h eQ ht;have Fm:ay.tm=st.tm:=by
  have:∀(ks:List K) (l:List AV) (st ay:St) (x:Tl ks),jV st true ks l=some (ay,x)->ay.tm=st.tm:=by
   intro ks;induction ks with
   | nil=>intro l st ay x hh; cases l with | nil=>cases hh; rfl | cons _ _=>simp[jV]at hh
   | cons k ks ih =>
     intro l st ay x hh;cases l with
     | nil=>cases k <;> simp[jV]at hh
     | cons av l =>
       cases k with
       | sl e bZ =>
         unfold jV at hh;simp only[oT]at hh;split at hh
         . rename_i ca y hy;split at hh
           . rename_i q hq;cases hh;exact(ih l ca q.1 q.2 hq).trans (vI hy 0).2
           . simp at hh
         . simp at hh
       | _ =>
         unfold jV at hh;split at hh
         . rename_i y q hy hf hq;cases hh;exact ih l st q.1 q.2 hq
         . simp at hh
  exact this ks _ st ay x ht
 obtain⟨G,n1,n2,n3⟩:=qe (H:=H0) m2.cS (cs:=cs) ks x cs.toList 0 0 0 m3 fun q hq=>by rw[amp,amh]
 have hlen:=kj ks x _ 0 m3;have oU:jK cx Z g' ay w (fun b=>∃ n,H0 n b):=⟨fun b ⟨n,hb⟩=>(m2.free n).lt b hb,fun b ⟨n,hb⟩=>(m2.free n).own b hb,fun b ⟨n,hb⟩=>(m2.free n).z b hb,fun b ⟨n,hb⟩=>(m2.free n).fp b hb,fun b ⟨n,hb⟩=>(m2.free n).box b hb⟩;refine⟨g',cs.toList,fun i j b=>i=0/\G j b,fun b=>∃ n,H0 n b,m1,⟨by simpa using hlen,jj ks x _ 0 m3,fun i j b hb=>by
  obtain⟨_,n,_,hh⟩:=n2 j b hb.2;exact⟨n,hh⟩,fun i j i' j' b hb cz=>⟨hb.1.trans cz.1.symm,n3 j j' b hb.2 cz.2⟩,fun i y hi => ?_⟩,by rw[hv]; rfl,fun w1 Cj => ?_,oU,fun F hF=>⟨hF.mono m2.fp m2.be m2.box,fun b ⟨n,hb⟩ cz=>by
  obtain⟨r0,j0,hh⟩:=m2.sub n b hb;exact hF.fp b cz r0 j0 hh⟩,Fm⟩
 . cases i with
   | zero => simp only[amj,amd]at hi;subst hi;rw[Nat.zero_mul,anc];exact gw.frame ks x 0 G _ cs 0 (fun j b hb=>⟨rfl,hb⟩) (fun _ _ _ _=>rfl) n1
   | succ i=>simp at hi
 . rw[hv];refine run_firstCells_some (P:=P) w1 _ _ ⟨g.be r,0,none⟩ _ _ _ (by simpa using hlen) fun j u hj => ?_
   rw[gN,amp];simp only[World.cell?,Cj,b5];rw[amh]at hj;exact hj
theorem P2(h:Rel cx Z g st a w){e:TypeId}{ks:List K}{y:TV}{v:Value}(hr:bW Z g st w y v){ay:St}{ys:List (Tl ks)}(hn:st.news e ks y=some (ay,ys)):∃ g' news H FH,Rel cx Z g' ay a w/\zw P cx Z g g' st ay w ks ys v news H FH:=by
 have src:∀ av,bW Z g st w (.v av) v->(match st.source (.sl e ks) ks av with | some (ay,z)=>some (ay,aW z) | none=>none)=some (ay,ys)->∃ g' news H FH,Rel cx Z g' ay a w/\zw P cx Z g g' st ay w ks ys v news H FH:=by
  intro av hra hh;unfold St.source at hh;cases hf:flat ks with
  | true =>
    rw[hf]at hh;simp only[oT]at hh;cases adX:st.bG (.sl e ks) av with
    | none=>rw[adX]at hh; simp at hh
    | some z => rw[adX]at hh;cases hh;obtain⟨news,H9⟩:=On (P:=P) h (oD h hra adX) hf;exact⟨g,news,_,_,h,H9⟩
  | false =>
    rw[hf]at hh;simp only[oF]at hh;cases Ds:st.cW (.sl e ks) av with
    | none=>rw[Ds]at hh; simp at hh
    | some q => obtain⟨ca,z⟩:=q;rw[Ds]at hh;cases hh;obtain⟨g1,F,k1,k2,k3,k4,k5,k6,k7⟩:=ik h hra Ds;obtain⟨news,H,H9⟩:=Tp (P:=P) (g:=g) (st:=st) k3 k4 k5 k6 k2.be k2.box k2.tm;exact⟨g1,news,H,F,k1,H9⟩
 cases y with
 | v av =>
   cases av with
   | d k s =>
     cases k with
     | str =>
       simp only[St.news]at hn;split at hn
       . rename_i z hz;cases hn;obtain⟨eq,hz⟩:=cQ hz;cases eq;subst hz;obtain⟨hv,_⟩:=(hr:RO Z w .str s v);subst hv;obtain⟨news,H9⟩:=Qd (P:=P) (cx:=cx) (Z:=Z) (g:=g) (st:=st) (w:=w) e s;exact⟨g,news,_,_,h,H9⟩
       . simp at hn
     | _=>exact src _ hr hn
   | qN r n =>
     simp only[St.news]at hn;cases hb:Nat.beq n 1 with
     | false=>rw[hb]at hn; simp at hn
     | true =>
       rw[hb]at hn;simp only[oT]at hn;have U8:=beq_eq hb;subst U8;split at hn
       . rename_i l hl;split at hn
         . rename_i ca x hx;cases hn;obtain⟨R,_,_,hv⟩:=(hr:bC Z g st w (.qN r 1) v);exact NY h hl hv hx
         . simp at hn
       . simp at hn
   | _=>exact src _ hr hn
 | _=>simp[St.news]at hn
end
theorem cX:∀(vs:List Value) (o:Nat) (cs:Array Value),(setFrom cs o vs).size=cs.size
 | [],_,_=>rfl
 | v::r,o,cs=>by rw[setFrom,cX r]; simp
theorem eI(b:Nat):∀(vs:List Value) (o:Nat) (w:World) (cs:Array Value) (el:TypeId) (fr:Nat×Nat),w.heap[b]? = some (.cells cs el fr) ->
 (w.setCells b o vs).heap[b]? = some (.cells (setFrom cs o vs) el fr)/\(∀ i,i≠b->(w.setCells b o vs).heap[i]? = w.heap[i]?)/\(w.setCells b o vs).heap.size=w.heap.size/\(w.setCells b o vs).os=w.os/\(w.setCells b o vs).tape=w.tape/\(w.setCells b o vs).output=w.output
 | [],o,w,cs,el,fr,h=>⟨h,fun _ _=>rfl,rfl,rfl,rfl,rfl⟩
 | v::r,o,w,cs,el,fr,h=>by
   have h1:(w.setCell ⟨b,o,none⟩ v).heap[b]? = some (.cells (cs.setIfInBounds o v) el fr):=by rw[eb,if_pos rfl,h]; rfl
   obtain⟨g1,g2,g3,g4,g5,g6⟩:=eI b r (o+1) _ _ el fr h1;refine⟨g1,fun i hi => ?_,?_,g4,g5,g6⟩
   . rw[World.setCells,g2 i hi,eb,if_neg (fun e=>hi e.symm)]
   . rw[World.setCells,g3]; simp[World.setCell]
section
variable{P:Program}{cx:Cx P}{Z:Nat->Prop}{g:Gh}{st:St}{a:Act}{w:World}{E:En}
theorem T2(hT:cH P E)(h:Rel cx Z g st a w)(hn:cJ st)(dh:Fit cx E a){o:Oper}{d:Nat}(hd:o.dst=some d)(cE:kM cx a d){c:Call}(ho:o.op= .call c)(fe:c.callee= .builtin .append){x y:Operand}(cF:c.args.toList=[x,y]){t t2:Nat}{ts:List Nat}(yM:c.argTypes.toList=t::t2::ts)
 {ti te:TI}(iy:E.ti t=some ti)(E7:E.sl t=some te){tx ty:TV}(hx:st.get x=some tx)(hy:st.get y=some ty)(h2:E.str t2=true∨∃ Yj,E.sl t2=some Yj){ay:St}(au:(st.append d ti.elem te tx ty).run=some ay):qt P cx E ay a w o:=by
 have hc:=hn.cons.cons;obtain⟨gn,q1,q2,q3,q4⟩:=x8 hT E7 iy;have rY:=hT _ _ q4;obtain⟨tt,Kh,t1,_,_,_,hu⟩:=kb hT E7;rw[iy]at t1;simp only[amd]at t1;subst t1;obtain⟨d2,Ip,hd2⟩:∃ d2,P.underlying t2=some d2/\∀ k,d2≠ .int k:=by
  rcases h2 with h2 | ⟨Yj,h2⟩
  . exact⟨_,qu hT h2,fun _ h=>by simp at h⟩
  . obtain⟨_,_,_,_,_,_,Ip⟩:=kb hT h2;exact⟨_,Ip,fun _ h=>by simp at h⟩
 unfold St.append at au;obtain⟨av,hav,au⟩:=Tr.ai au;obtain⟨⟨ca,xs⟩,Ds,au⟩:=Tr.ai au;obtain⟨⟨Yf,ys⟩,hnw,au⟩:=Tr.ai au;simp only at hnw au;cases km:Yf.free d&&Nat.blt 0 te.bytes with
 | false=>rw[km]at au; simp[Tr.run]at au
 | true =>
   rw[km]at au;simp only[oT]at au;simp only[ame]at km;obtain⟨oU,vY⟩:=km;have vY:0<te.bytes:=anj (amA vY);obtain⟨OU,au⟩:=Tr.bR au;simp only[Tr.run,amd]at au;subst au;have BN:((aW xs).length+ys.length) * te.bytes<=bQ:=amA OU;have bp:(aW xs).length+ys.length<=bQ:=aml (anL _ vY) BN;obtain⟨g1,F,k1,k2,k3,k4,k5,k6,k7⟩:=ik h (uC (bg h hc hx) hav) Ds;obtain⟨g2,news,H,FH,m1,m2⟩:=P2 (P:=P) k1 (bW.cI k2.cI _ _ (bg h hc hy)) hnw;obtain⟨f1,f2⟩:=m2.other F k4;have vR:cJ (Yf.a8 d (.v (.ref d 0 0),some ⟨false,[⟨0,0,.own (.sl ti.elem te.ks) (cat te.ks (aW xs) ys)⟩]⟩)):=fun t tv ht=>by
    rw[cC]at ht;split at ht
    . simp only[amd]at ht; subst ht; exact fun h=>h
    . exact hn t tv (by rw[<- k2.tm,<- m2.tm]; exact ht)
   refine⟨vR,fun next Q hk => ?_⟩
   have fin:∀(v':Value) (w':World) (F':Nat->Prop),(Builtin.append_ c.argTypes o.type #[a.eval x,a.eval y]).run P w= .ok v' w'->Rel cx Z g2 Yf a w'->(∀ b,F' b->b<w'.heap.size/\(cx.F0 b∨cx.w0.heap.size<=b)/\¬ Z b/\(∀ r j,¬ g2.fp r j b)/\(∀ r' R',look Yf.rt r'=some R'->R'.box=true->g2.be r'≠b)) ->
    dI w' (.sl ti.elem te.ks) (cat te.ks (aW xs) ys) v' F'->o.wp P a w next Q:=by
    intro v' w' F' hr eQ Io kl;have iv:c.args = #[x,y]:=by rw[<- anc (xs:=c.args),cF]
    have:(execOp a.eval o).run P w= .ok (.value v') w':=by simp only[execOp,ho,resolve,fe,iv,amF,amN,amq,invoke,builtin,anV,amO,aog,hr]
    unfold Oper.wp;rw[this,anh,hd];obtain⟨g3,hg⟩:=eQ.Kt cE oU Io kl;exact hk Z g3 _ _ hg (dh.put _ _)
   have ll:c.argTypes[0]? = some t:=by rw[<- amh,yM]; rfl
   have oS:c.argTypes[1]? = some t2:=by rw[<- amh,yM]; rfl
   have hFs:∀(w':World),w.heap.size<=w'.heap.size->∀ b,F b∨FH b->b<w'.heap.size/\(cx.F0 b∨cx.w0.heap.size<=b)/\¬ Z b/\(∀ r j,¬ g2.fp r j b)/\(∀ r' R',look Yf.rt r'=some R'->R'.box=true->g2.be r'≠b):=fun w' hs b hb=>by
    rcases hb with hb | hb
    . exact⟨amC (f1.lt b hb) hs,f1.own b hb,f1.z b hb,f1.fp b hb,f1.box b hb⟩
    . exact⟨amC (m2.free.lt b hb) hs,m2.free.own b hb,m2.free.z b hb,m2.free.fp b hb,m2.free.box b hb⟩
   obtain⟨base,cap,ev,c1,c2,c3,c4⟩:=k3;have BW:=m2.rows.len;by_cases jn:(aW xs).length+ys.length<=cap
   . cases base with
     | none =>
       have vO:=c3 rfl;have Dt:aW xs=[]:=amY.1 (by omega);have hy0:ys=[]:=amY.1 (by omega);have e1:a.eval x= .slice none 0 0:=by rw[ev,Dt,vO]; rfl
       refine fin (.slice none 0 0) w (fun _=>False) ?_ m1 (fun b hb=>hb.elim) ?_
       . rw[e1];refine append_nil (news:=news) hu rY Ip hd2 ll oS ?_ ?_
         . have:=m2.len; rw[hy0]at this; exact this
         . have:=m2.cells w rfl; rw[hy0]at this; exact this
       . rw[Dt,hy0];exact kN _ _
     | some aa =>
       obtain⟨b,of,cs,el,fr,rfl,n2,n3,n4,n5,G,n6,n7,n8⟩:=c4 _ rfl;obtain⟨s1,s2,s3,s4,s5,s6⟩:=eI b news (of+(aW xs).length * te.ks.length) w cs el fr n3;have vN:of+(aW xs).length * te.ks.length+news.length<=cs.size:=by have:=amH te.ks.length jn;rw[amR]at this;omega
       refine fin (.slice (some ⟨b,of,none⟩) ((aW xs).length+ys.length) cap) (w.setCells b (of+(aW xs).length * te.ks.length) news) (fun q=>F q∨FH q) ?_ (m1.wr f1 s4 s5 s6 (by rw[s3]; exact oR _) fun q _ hq=>s2 q fun e=>hq (by rw[e]; exact n2)) (hFs _ (by rw[s3]; exact oR _)) ?_
       . rw[ev];exact qz hu rY Ip hd2 ll oS m2.len (m2.cells w rfl) jn m2.rows.one fun j hj=>⟨cs,el,fr,n3,by omega,n4 _ (by omega)⟩
       . refine KA (w:=w) (b0:=b) (F:=F) n6 n7 n8 m2.rows (fun q hq=>⟨f2 q hq,fun e=>f2 q hq (by rw[e]; exact n2)⟩) s1 (fun q hq=>n4 q (by rw[cX]at hq; exact hq)) (.inl n2) (fun q hq _=> .inl hq) (fun q hq=> .inr hq) (fun i j q hq=>(n6 i j q hq).2) (fun q hq e=>f2 q hq (by rw[e]; exact n2)) (fun q _ hq _=>s2 q hq) (fun q hq => ?_) (fun q hq => ?_) jn (by rw[cX]; exact n5) bp
         . rw[dv _ _ _ _ vN,if_neg (by omega)]
         . rw[dv _ _ _ _ vN,if_pos (by omega)];congr 1;omega
   . have Uo:cap<(aW xs).length+ys.length:=by omega
     have Me:=grownCap_ge w ((aW xs).length+ys.length) cap ti.elem;have Up:∀ q,F q∨FH q->q≠w.heap.size:=fun q hq e=>by have:=(hFs w (oR _) q hq).1;omega
     have iT:∃(iT:List Value) (b0:Nat) (cs:Array Value) (of:Nat) (G:Nat->Nat->Nat->Prop),(Builtin.firstCells te.ks.length (aW xs).length (.slice base (aW xs).length cap)).run P w.drew= .ok iT.toArray w.drew/\iT.length=(aW xs).length * te.ks.length/\(∀ q,q<(aW xs).length * te.ks.length->iT[q]? = cs[of+q]?) /\
      (∀ i j b,G i j b->F b/\b≠b0)/\(∀ i j i' j' b,G i j b->G i' j' b->i=i'/\j=j')/\(∀ i x,(aW xs)[i]? = some x->gw w te.ks x 0 (G i) cs (of+i * te.ks.length))/\(∀ q,FH q->q≠b0):=by
      cases base with
      | none => have vO:=c3 rfl;have Dt:aW xs=[]:=amY.1 (by omega);refine⟨[],w.heap.size,#[],0,fun _ _ _=>False,?_,by rw[Dt]; simp,fun q hq=>by rw[Dt]at hq; simp at hq,fun _ _ _ h=>h.elim,fun _ _ _ _ _ h=>h.elim,fun i x hi=>by rw[Dt]at hi; simp at hi,fun q hq=>Up q (.inr hq)⟩;exact run_firstCells_none (P:=P) w.drew _ _ _ _
      | some aa =>
        obtain⟨b,of,cs,el,fr,rfl,n2,n3,n4,n5,G,n6,n7,n8⟩:=c4 _ rfl;have hbound:∀ q,q<(aW xs).length * te.ks.length->of+q<cs.size:=fun q hq=>by have:=amH te.ks.length c1;omega
        have Uq:∀ q,q<(aW xs).length * te.ks.length->((List.range ((aW xs).length * te.ks.length)).map fun q=>cs.getD (of+q) undef)[q]? = cs[of+q]? := fun q hq=>by have:=hbound q hq;simp[hq,this]
        refine⟨(List.range ((aW xs).length * te.ks.length)).map fun q=>cs.getD (of+q) undef,b,cs,of,G,?_,by simp,Uq,n6,n7,n8,fun q hq e=>f2 q hq (by rw[e]; exact n2)⟩;refine run_firstCells_some (P:=P) w.drew _ _ ⟨b,of,none⟩ _ _ _ (by simp) fun j v hj => ?_
        have nP:j<(aW xs).length * te.ks.length:=by
         rcases amv j ((aW xs).length * te.ks.length)with hh | hh
         . exact hh
         . rw[amw (by simpa using hh)]at hj; simp at hj
        rw[Uq j nP]at hj;rw[gN];have n3':w.drew.heap[b]? = some (.cells cs el fr):=n3;simp only[World.cell?,n3'];exact hj
     obtain⟨iT,b0,cs,of,G,r1,r2,r3,r4,r5,r6,r7⟩:=iT;obtain⟨zs,z1,z2⟩:=pz (ty:=o.type) (vx:=a.eval y) hu rY Ip hd2 ll oS m2.len r1 (m2.cells w.drew rfl) Uo vY BN;have jm:(w.drew.alloc (.cells (iT.toArray++news.toArray++zs) ti.elem (0,0))).heap=w.heap.push (.cells (iT.toArray++news.toArray++zs) ti.elem (0,0)):=rfl;have jU:(w.drew.alloc (.cells (iT.toArray++news.toArray++zs) ti.elem (0,0))).heap.size=w.heap.size+1:=by rw[jm,anJ]
     have hold:∀ q,q<w.heap.size->(w.drew.alloc (.cells (iT.toArray++news.toArray++zs) ti.elem (0,0))).heap[q]? = w.heap[q]? := fun q hq=>by rw[jm,amS,if_neg (by omega)]
     refine fin (.slice (some ⟨w.heap.size,0,none⟩) ((aW xs).length+ys.length) (grownCap w ((aW xs).length+ys.length) cap ti.elem)) (w.drew.alloc (.cells (iT.toArray++news.toArray++zs) ti.elem (0,0))) (fun q=>(F q∨FH q)∨q=w.heap.size) (by rw[ev]; exact z2) (m1.wr f1 rfl rfl rfl (by rw[jU]; omega) fun q hq _=>hold q hq) (fun b hb => ?_) ?_
     . rcases hb with hb | rfl
       . exact hFs _ (by rw[jU]; omega) b hb
       . refine⟨by rw[jU]; omega,.inr m1.size,fun hz=>by have:=(m1.cq _ hz).1; omega,fun r j hh=>by have:=(m1.fp r j _ hh).1; omega,fun r' R' lr cz he => ?_⟩;obtain⟨_,_,_,_,cs1,el1,fr1,b5,_⟩:=m1.box r' R' lr cz;rw[he,amy (oR _)]at b5;simp at b5
     . refine KA (w:=w) (b0:=b0) (F:=F) r4 r5 r6 m2.rows (fun q hq=>⟨f2 q hq,r7 q hq⟩) (el:=ti.elem) (fr:=(0,0)) (fT:=iT.toArray++news.toArray++zs) (by rw[jm,amS,if_pos rfl]) (by simp) (.inr rfl) (fun q hq _=> .inl (.inl hq)) (fun q hq=> .inl (.inr hq)) (fun i j q hq=>Up q (.inl (r4 i j q hq).1)) (fun q hq=>Up q (.inr hq)) (fun q hq _ _=>hold q hq) (fun q hq => ?_) (fun q hq => ?_) Me ?_ bp
       . rw[<- r3 q hq,amp,anW,am9 (by simp; omega)];simp
       . rw[amp,anW,aoz (by simp; omega),am9 (by simp; omega)];simp only[apb,r2,am2,amQ]
       . have e1:(iT.toArray++news.toArray++zs).size=iT.length+news.length+zs.size:=by simp
         rw[e1,r2,BW,z1,amp,<- amR,<- amR];exact amH _ (by omega)
end
section
variable{P:Program}{w:World}{E:En}{P:Program}{cx:Cx P}{Z:Nat->Prop}{g:Gh}{st:St}{a:Act}
theorem BZ{z:Array Value}{ks:List K}(hz:z.toList=ks.map zV)(n j:Nat)(hj:j<n * ks.length):(Builtin.zeroCells z n)[j]? = (ks.map zV)[j % ks.length]? := by
 have hl:z.size=ks.length:=by rw[<- amP,hz]; simp
 have Kd:0<ks.length:=by
  rcases an7 ks.length with h | h
  . rw[h]at hj; simp at hj
  . exact h
 unfold Builtin.zeroCells;simp only[Array.getElem?_map,hl];have:(Array.range (n * ks.length))[j]? = some j:=by simp[hj]
 rw[this];have hm:j % ks.length<ks.length:=Nat.mod_lt _ Kd;simp only[amE];rw[<- hz,amh];rw[Array.getElem!_eq_getD];simp[amn,hl,hm]
theorem HS{t t2 ty:TypeId}{e:TypeId}{te:TI}(ht:P.underlying t=some (.slice e))(rY:rI P e te){k2:IntKind}(h2:P.underlying t2=some (.int k2)){ats:Array TypeId}(ll:ats[0]? = some t)(oS:ats[1]? = some t2){k:IntKind} :
 (Builtin.append_ ats ty #[.slice none 0 0,.int k 0]).run P w= .ok (.slice none 0 0) w:=by
 obtain⟨i,e1,e2,e3,z,e4,e5⟩:=rY.info;have hw:IntKind.i64.wrap 0=0:=by decide
 have ha:∀ w,(asInt (.int k 0)).run P w= .ok 0 w:=fun w=>by simp[asInt,asIntOf]
 simp[Builtin.append_,ll,oS,amI ht,amI h2,sizeOf,typeInfo,zeroValue,e1,e4,ha,hw]
theorem B2{t t2 ty:TypeId}{e:TypeId}{te:TI}(ht:P.underlying t=some (.slice e))(rY:rI P e te){k2:IntKind}(h2:P.underlying t2=some (.int k2)){ats:Array TypeId}(ll:ats[0]? = some t)(oS:ats[1]? = some t2){k:IntKind}{n:Nat}(hn:0<n)(vY:0<te.bytes)(hb:n * te.bytes<=bQ) :
 ∃ zs:Array Value,zs.size=(grownCap w n 0 e) * te.ks.length/\(∀ j,j<n * te.ks.length->zs[j]? = (te.ks.map zV)[j % te.ks.length]?)/\(Builtin.append_ ats ty #[.slice none 0 0,.int k (n:Int)]).run P w= .ok (.slice (some ⟨w.heap.size,0,none⟩) n (grownCap w n 0 e)) (w.drew.alloc (.cells zs e (0,0))):=by
 obtain⟨i,e1,e2,e3,z,e4,e5⟩:=rY.info;have mQ:z.cells.size=te.ks.length:=by rw[<- amP,e5]; simp
 have Me:=grownCap_ge w n 0 e;have Dn:n * te.bytes<=140737488355328:=hb;have hle:n<=n * te.bytes:=anL _ vY;have h63:¬ (9223372036854775807<(n:Int)):=by omega
 have OT:¬ (281474976710656<Builtin.nextslicecap n 0 * i.bytes):=by have:=growslice_fits (need:=n) (old:=0) (bytes:=i.bytes) hn (by rw[e3]; exact Dn);omega
 have alx:IntKind.i64.min = -9223372036854775808:=by decide
 have aly:IntKind.i64.max=9223372036854775807:=by decide
 have hw:IntKind.i64.wrap (n:Int)=n:=KI ⟨by rw[alx]; omega,by rw[aly]; omega⟩;have alz:¬ (281474976710656<(n:Int) * (i.bytes:Int)):=by rw[e3];have:((n * te.bytes:Nat):Int)<=((140737488355328:Nat):Int):=Int.ofNat_le.2 Dn;rw[Int.natCast_mul]at this;omega
 have adY:¬ ((n:Int)<0):=by omega
 have hn0:¬ (n=0):=by omega
 have ha:∀ w,(asInt (.int k (n:Int))).run P w= .ok (n:Int) w:=fun w=>by simp[asInt,asIntOf]
 have hfo:∀ w,(Builtin.firstCells i.size 0 (.slice none 0 0)).run P w= .ok #[] w:=fun w=>by simp[Builtin.firstCells]
 refine⟨(if n * i.size=0 then #[]else Builtin.zeroCells z.cells n)++Builtin.zeroCells z.cells (grownCap w n 0 e-n),?_,?_,?_⟩
 . rw[aon,size_zeroCells,mQ,e2];split
   . rename_i h0;rcases Nat.mul_eq_zero.1 h0 with h | h
     . omega
     . rw[h]; simp
   . rw[size_zeroCells,mQ,<- amR];congr 1;omega
 . intro j hj;have cY:¬ (n * i.size=0):=by rw[e2]; omega
   rw[if_neg cY,am9 (by rw[size_zeroCells,mQ]; exact hj)];exact BZ e5 n j hj
 . simp only[Builtin.append_,ll,oS,amQ,amj,am3,amF,amI ht,amq,dt rY,amI h2,amN,if_true,ha,hw,adY,anu,typeInfo];simp[e1,alz,hw,adY,hn0,h63,OT,Question.forced,hfo,newRow,grownCap,zeroValue,e4,ha,sizeOf,typeInfo];have adW:∀ w,(Builtin.firstCells te.ks.length 0 (.slice none 0 0)).run P w= .ok #[] w:=fun w=>by simp[Builtin.firstCells]
   rw[adW,<- e2];simp only[amq,Array.empty_append];by_cases h0:n * i.size=0
   . rw[if_pos h0,if_pos h0]; simp
   . rw[if_neg h0,if_neg h0]; rfl
theorem M0(hT:cH P E)(h:Rel cx Z g st a w)(hn:cJ st)(dh:Fit cx E a){o:Oper}{d:Nat}(hd:o.dst=some d)(cE:kM cx a d){c:Call}(ho:o.op= .call c)(fe:c.callee= .builtin .append){x y:Operand}(cF:c.args.toList=[x,y]){t t2:Nat}{ts:List Nat}(yM:c.argTypes.toList=t::t2::ts)
 {ti te:TI}(iy:E.ti t=some ti)(E7:E.sl t=some te){tx ty:TV}(hx:st.get x=some tx)(hy:st.get y=some ty)(h2:E.i64 t2=true)(adT:fV tx=true){k:IntKind}{n:Int}(hint:ty.int? = some (k,n)){ay:St}(au:(st.pg d ti.elem te n).run=some ay):qt P cx E ay a w o:=by
 have hc:=hn.cons.cons;obtain⟨gn,q1,q2,q3,q4⟩:=x8 hT E7 iy;have rY:=hT _ _ q4;obtain⟨tt,Kh,t1,_,_,_,hu⟩:=kb hT E7;rw[iy]at t1;simp only[amd]at t1;subst t1;have Ip:∃ k2,P.underlying t2=some (.int k2):=by
  unfold En.i64 at h2;split at h2
  . rename_i e0 by0 fl0 alA;obtain⟨dd,u1,u2⟩:=(hT t2 _ alA).desc;cases dd <;> simp[jD]at u2;exact⟨_,u1⟩
  . simp at h2
 obtain⟨k2,Ip⟩:=Ip;unfold St.pg at au;cases km:st.free d&&Nat.blt 0 te.bytes with
 | false=>rw[km]at au; simp[Tr.run]at au
 | true =>
   rw[km]at au;simp only[oT]at au;simp only[ame]at km;obtain⟨oU,vY⟩:=km;have vY:0<te.bytes:=anj (amA vY);obtain⟨OU,au⟩:=Tr.bR au;simp only[Tr.run,amd]at au;subst au;simp only[ame,ck,anD]at OU;obtain⟨n0,n1⟩:=OU;obtain⟨m,rfl⟩:=Int.eq_ofNat_of_zero_le n0;have hmb:m * te.bytes<=bQ:=by
    have:((m * te.bytes:Nat):Int)<=(bQ:Int):=by rw[Int.natCast_mul]; exact n1
    exact_mod_cast this
   have vR:cJ (st.a8 d (.v (.ref d 0 0),some ⟨false,[⟨0,0,.own (.sl ti.elem te.ks) (List.replicate (m:Int).toNat (jE te.ks))⟩]⟩)):=fun t tv ht=>by
    rw[cC]at ht;split at ht
    . simp only[amd]at ht; subst ht; exact fun h=>h
    . exact hn t tv ht
   refine⟨vR,fun next Q hk => ?_⟩;have ex:a.eval x= .slice none 0 0:=wY (bg h hc hx) adT;have ey:a.eval y= .int k (m:Int):=(gB (bg h hc hy) hint).1;have ll:c.argTypes[0]? = some t:=by rw[<- amh,yM]; rfl
   have oS:c.argTypes[1]? = some t2:=by rw[<- amh,yM]; rfl
   have iv:c.args = #[x,y]:=by rw[<- anc (xs:=c.args),cF]
   have fin:∀(v':Value) (w':World) (F':Nat->Prop),(Builtin.append_ c.argTypes o.type #[a.eval x,a.eval y]).run P w= .ok v' w'->Rel cx Z g st a w'->(∀ b,F' b->b<w'.heap.size/\(cx.F0 b∨cx.w0.heap.size<=b)/\¬ Z b/\(∀ r j,¬ g.fp r j b)/\(∀ r' R',look st.rt r'=some R'->R'.box=true->g.be r'≠b)) ->
    dI w' (.sl ti.elem te.ks) (List.replicate (m:Int).toNat (jE te.ks)) v' F'->o.wp P a w next Q:=by
    intro v' w' F' hr eQ Io kl;have:(execOp a.eval o).run P w= .ok (.value v') w':=by simp only[execOp,ho,resolve,fe,iv,amF,amN,amq,invoke,builtin,anV,amO,aog,hr]
    unfold Oper.wp;rw[this,anh,hd];obtain⟨g3,hg⟩:=eQ.Kt cE oU Io kl;exact hk Z g3 _ _ hg (dh.put _ _)
   rcases an7 m with hm | hm
   . subst hm;refine fin (.slice none 0 0) w (fun _=>False) (by rw[ex,ey]; exact HS hu rY Ip ll oS) h (fun b hb=>hb.elim) ?_;exact kN _ _
   . obtain⟨zs,z1,z2,z3⟩:=B2 (P:=P) (w:=w) (ty:=o.type) hu rY Ip ll oS (k:=k) hm vY hmb;have Me:=grownCap_ge w m 0 ti.elem;have jm:(w.drew.alloc (.cells zs ti.elem (0,0))).heap=w.heap.push (.cells zs ti.elem (0,0)):=rfl;have jU:(w.drew.alloc (.cells zs ti.elem (0,0))).heap.size=w.heap.size+1:=by rw[jm,anJ]
     have hold:∀ q,q<w.heap.size->(w.drew.alloc (.cells zs ti.elem (0,0))).heap[q]? = w.heap[q]? := fun q hq=>by rw[jm,amS,if_neg (by omega)]
     have eQ:Rel cx Z g st a (w.drew.alloc (.cells zs ti.elem (0,0))):=h.wr (jK.none _ _ _ _ _) rfl rfl rfl (by rw[jU]; omega) fun q hq _=>hold q hq
     refine fin _ _ (fun q=>q=w.heap.size) (by rw[ex,ey]; exact z3) eQ (fun b hb => ?_) ?_
     . subst hb;refine⟨by rw[jU]; omega,.inr h.size,fun hz=>by have:=(h.cq _ hz).1; omega,fun r j hh=>by have:=(h.fp r j _ hh).1; omega,fun r' R' lr cz he => ?_⟩;obtain⟨_,_,_,_,cs1,el1,fr1,b5,_⟩:=h.box r' R' lr cz;rw[he,amy (oR _)]at b5;simp at b5
     . have hlen:(aW (e:=ti.elem) (ks:=te.ks) (List.replicate (m:Int).toNat (jE te.ks))).length=m:=by simp[aW]
       have bp:m<=bQ:=aml (anL _ vY) hmb;refine⟨_,_,by rw[hlen],by rw[hlen]; omega,by rw[hlen]; exact bp,fun h=>by simp at h,fun a' rV => ?_⟩;simp only[amd]at rV;subst rV;refine⟨_,_,zs,ti.elem,(0,0),rfl,rfl,by rw[jm,amS,if_pos rfl],fun q _ hh=>by simp at hh,by rw[z1]; omega,fun _ _ _=>False,fun _ _ _ h=>h.elim,fun _ _ _ _ _ h=>h.elim,fun i y hi => ?_⟩;have Dm:i<m:=by
        rcases amv i m with hh | hh
        . exact hh
        . rw[amw (by rw[hlen]; exact hh)]at hi; simp at hi
       have hy:y=jE te.ks:=by
        have:(List.replicate (m:Int).toNat (jE te.ks))[i]? = some y:=hi;rw[aoO]at this;split at this
        . simp only[amd]at this; exact this.symm
        . simp at this
       subst hy;refine rD te.ks 0 zs _ fun c v hc => ?_
       have xw:c<te.ks.length:=by
        rcases amv c te.ks.length with hh | hh
        . exact hh
        . rw[amw (by simpa using hh)]at hc; simp at hc
       have vS:i * te.ks.length+c<m * te.ks.length:=by have:(i+1) * te.ks.length<=m * te.ks.length:=amH _ (by omega);rw[amR]at this;omega
       rw[amp,z2 _ vS,aoJ,Nat.mul_add_mod,aoA xw];exact hc
end
def R8(Z:Nat->Prop)(w:World):(ks:List K)->Tl ks->(Nat->Option Value)->Nat->Prop
 | [],_,_,_=>True
 | k::ks,x,f,o=>(∃ v,f o=some v/\RO Z w k x.1 v)/\R8 Z w ks x.2 f (o+1)
theorem rO.n{Z:Nat->Prop}{w:World}{b:Nat}:∀ {ks:List K} {x:Tl ks} {o:Nat},rO Z w ks x b o->R8 Z w ks x (fun q=>w.cell? ⟨b,q,none⟩) o
 | [],_,_,_=>trivial
 | k::ks,x,o,h=>⟨h.1,rO.n h.2⟩
theorem sL.n{Z:Nat->Prop}{w:World}{l:List Value}:∀ {ks:List K} {x:Tl ks} {vs:List Value} {o:Nat},sL Z w ks x vs->(∀ q,q<ks.length->l[o+q]? = vs[q]?)->R8 Z w ks x (fun q=>l[q]?) o
 | [],_,_,_,_,_=>trivial
 | k::ks,x,v::vs,o,h,hl=>⟨⟨v,by simpa using hl 0 (by simp),h.1⟩,sL.n h.2 fun q hq=>by rw[show o+1+q=o+(q+1)by omega]; simpa using hl (q+1) (by simp; omega)⟩
 | _::_,_,[],_,h,_=>h.elim
theorem QY{Z:Nat->Prop}{w:World}:∀ {ks:List K} {x:Tl ks} {vs:List Value},sL Z w ks x vs->vs.length=ks.length
 | [],_,[],_=>rfl
 | _::_,_,_::_,h=>amL (· + 1) (QY h.2)
 | [],_,_::_,h=>h.elim
 | _::_,_,[],h=>h.elim
theorem P9{Z:Nat->Prop}{w:World}:∀ {ks:List K} {x:Tl ks} {vs:List Value},sL Z w ks x vs->∀ u∈vs,u.oneCell'=true
 | [],_,[],_,u,hu=>by simp at hu
 | _::_,_,v::vs,h,u,hu=>by
   rcases amo.1 hu with hu | hu
   . subst hu; exact(qA h.1).2
   . exact P9 h.2 u hu
 | [],_,_::_,h,_,_=>h.elim
 | _::_,_,[],h,_,_=>h.elim
theorem R8.l{Z Z':Nat->Prop}{w w':World}(hs:w.heap.size<=w'.heap.size)(hZ:∀ b,Z b->b<w.heap.size->Z' b/\w'.heap[b]? = w.heap[b]?){f:Nat->Option Value}{b:Nat}:∀ {ks:List K} {x:Tl ks} {o o':Nat},R8 Z w ks x f o->(∀ q,q<ks.length->w'.cell? ⟨b,o'+q,none⟩=f (o+q))->rO Z' w' ks x b o'
 | [],_,_,_,_,_=>trivial
 | k::ks,x,o,o',⟨⟨v,h1,h2⟩,h3⟩,hc=>⟨⟨v,by rw[<- h1]; exact hc 0 (by simp),RO.mono hs hZ k _ v h2⟩,R8.l hs hZ h3 fun q hq=>by rw[show o'+1+q=o'+(q+1)by omega,show o+1+q=o+(q+1)by omega]; exact hc (q+1) (by simp; omega)⟩
section
variable{P:Program}{cx:Cx P}{Z:Nat->Prop}{g:Gh}{st:St}{a:Act}{w:World}{E:En}
theorem dI.sh{w:World}{e:TypeId}{ks:List K}{xs:T (.sl e ks)}{v:Value}{F:Nat->Prop}(h:dI w (.sl e ks) xs v F):Sh Z F w ks (aW xs) v:=by obtain⟨a,c,h1,h2,h3,h4,h5⟩:=h;refine⟨a,c,h1,h2,h3,h4,fun a' ha => ?_⟩;obtain⟨b,o,cs,e,fr,g1,g2,g3,g4,g5,G,g6,g7,g8⟩:=h5 a' ha;exact⟨b,o,cs,e,fr,g1,g2,g3,g4,g5,fun i x hx=>gw.ro ks x 0 (G i) cs _ b e fr g3 (fun j b' cz=> .inr (g6 i j b' cz)) (g8 i x hx)⟩
theorem Nk(h:Rel cx Z g st a w){e:TypeId}{ks:List K}{tv:TV}{v:Value}(hr:bW Z g st w tv v){ay:St}{x:T (.sl e ks)}(ht:st.F9 e ks tv=some (ay,x)) :
 ∃ g' F,Rel cx Z g' ay a w/\lM Z w w g g' st ay/\Sh Z F w ks (aW x) v/\jK cx Z g' ay w F:=by
 unfold St.F9 at ht;split at ht
 . rename_i r j s m e' bZ x';split at ht
   . rename_i c hc;cases hb:Nat.beq c.s s&&Nat.beq c.m m with
     | false=>rw[hb]at ht; simp at ht
     | true =>
       rw[hb]at ht;simp only[oT]at ht;simp only[ame]at hb;split at ht
       . rename_i y hy;cases ht;obtain⟨e1,hy⟩:=cQ hy;cases e1;subst hy;obtain⟨c',h1,_,_,h4⟩:=hr;rw[hc]at h1;cases h1;obtain⟨k1,k2,k3⟩:=h.kill hc;exact⟨_,_,k1,k2,h4 (beq_eq hb.1) (beq_eq hb.2),k3⟩
       . simp at ht
   . simp at ht
 . obtain⟨g1,F,k1,k2,k3,k4,_⟩:=ik h hr ht;exact⟨g1,F,k1,k2,k3.sh,k4⟩
 . simp at ht
structure aac (P:Program) (Z:Nat->Prop) (w:World) (ks:List K) (ys:List (Tl ks)) (v:Value) (news:List Value):Prop where
 len:news.length=ys.length * ks.length
 one:∀ u∈news,u.oneCell'=true
 row:∀ i y,ys[i]? = some y->R8 Z w ks y (fun q=>news[q]?) (i * ks.length)
 lenOf:(Builtin.lenOf v).run P w= .ok ys.length w
 cells:∀ w1:World,w1.heap=w.heap->(Builtin.firstCells ks.length ys.length v).run P w1= .ok news.toArray w1
theorem ML(h:Rel cx Z g st a w){e:TypeId}{ks:List K}{tv:TV}{v:Value}(hr:bW Z g st w tv v){ys:List (Tl ks)}(hn:st.HF e ks tv=some ys):∃ news,aac P Z w ks ys v news:=by
 unfold St.HF at hn;split at hn
 . rename_i r n;cases hb:Nat.beq n 1 with
   | false=>rw[hb]at hn; simp at hn
   | true =>
     rw[hb]at hn;simp only[oT]at hn;have:=beq_eq hb;subst this;split at hn
     . rename_i l hl;cases hf:l.all pE with
       | false=>rw[hf]at hn; simp at hn
       | true =>
         rw[hf]at hn;simp only[oT]at hn;split at hn
         . rename_i x hx;cases hn;obtain⟨R,_,_,hv⟩:=(hr:bC Z g st w (.qN r 1) v);obtain⟨b1,b2,b3,b4,cs,el,fr,b5,b6,b7,b8⟩:=h.box r _ hl rfl;have eQ:ba Z g st w (l.map wg) cs.toList:=by
            refine lX (by simp[b7]) fun j y u hj hu => ?_
            rw[amT]at hj;cases hc:l[j]? with
            | none=>rw[hc]at hj; simp at hj
            | some c =>
              rw[hc]at hj;simp only[amE,amd]at hj;have bD:st.cell r j=some c:=by simp only[St.cell,hl]; exact hc
              have nP:j<cs.size:=by rw[b7];exact yr bD hl
              rw[amh,b8 j nP]at hu;simp only[amd]at hu;subst hj;subst hu;unfold wg;cases O7:c.v with
              | own k y=>trivial
              | av y=>exact yv h bD O7
           have ahO:(l.map wg).all AV.bV=true:=by
            rw[amx]at hf ⊢;intro x hx;obtain⟨c,hc,rfl⟩:=an5.1 hx;have:=hf c hc;unfold pE at this;unfold wg;split at this
            . exact this
            . simp at this
           have uq:=dG h ks _ _ x eQ ahO hx;have hlen:=QY uq;refine⟨cs.toList,by simpa using hlen,P9 uq,fun i y hi => ?_,by rw[hv]; rfl,fun w1 Cj => ?_⟩
           . cases i with
             | zero => simp only[amj,amd]at hi;subst hi;exact uq.n fun q _=>by simp
             | succ i=>simp at hi
           . rw[hv];refine run_firstCells_some (P:=P) w1 _ _ ⟨g.be r,0,none⟩ _ _ _ (by simpa using hlen) fun j u hj => ?_
             rw[gN,amp];simp only[World.cell?,Cj,b5];rw[amh]at hj;exact hj
         . simp at hn
     . simp at hn
 . rename_i k x;split at hn
   . rename_i z hz;cases hn;obtain⟨e1,hz⟩:=cQ hz;subst e1;subst hz;obtain⟨aa,c,rfl,h2,h3,h4,h5⟩:=(hr:RO Z w (.sl e ks) x v);by_cases cY:aW x=[]
     . refine⟨[],by rw[cY]; simp,by simp,fun i y hi=>by rw[cY]at hi; simp at hi,rfl,fun w1 _ => ?_⟩;rw[cY];cases aa with
       | none=>exact run_firstCells_none (P:=P) w1 _ _ _ _
       | some b=>exact run_firstCells_some (P:=P) w1 _ _ b _ _ [] (by simp) (fun j v hj=>by simp at hj)
     . obtain⟨b,o,rfl,_,_,vP⟩:=h5 cY;have bD:∀ q,q<(aW x).length * ks.length->∃ v,w.cell? ⟨b,o+q,none⟩=some v/\v.oneCell'=true:=fun q hq=>by
        obtain⟨q1,q2,q3⟩:=rA hq;obtain⟨v,k1,k2⟩:=DS ks _ b _ (q % ks.length) (vP _ _ (ami q1)) q2;exact⟨v,by rw[q3,<- ani]; exact k1,k2⟩
       have BW:∀ q,q<(aW x).length * ks.length->((List.range ((aW x).length * ks.length)).map fun q=>(w.cell? ⟨b,o+q,none⟩).getD undef)[q]? = w.cell? ⟨b,o+q,none⟩:=fun q hq=>by obtain⟨v,k1,_⟩:=bD q hq;simp[hq,k1]
       refine⟨(List.range ((aW x).length * ks.length)).map fun q=>(w.cell? ⟨b,o+q,none⟩).getD undef,by simp,fun u hu => ?_,fun i y hi => ?_,rfl,fun w1 Cj => ?_⟩
       . obtain⟨q,hq,rfl⟩:=an5.1 hu;obtain⟨v,k1,k2⟩:=bD q (anq.1 hq);rw[k1];exact k2
       . have Dm:i<(aW x).length:=(amM.1 hi).1;have:=(vP i y hi).n;have mv:∀(bZ:List K) (y:Tl bZ) (o1 o2:Nat) (f f':Nat->Option Value),(∀ q,q<bZ.length->f' (o2+q)=f (o1+q))->R8 Z w bZ y f o1->R8 Z w bZ y f' o2:=by
          intro bZ;induction bZ with
          | nil=>intros; trivial
          | cons k bZ ih => intro y o1 o2 f f' hf ⟨⟨v,h1,h2⟩,h3⟩;exact⟨⟨v,by rw[<- h1]; exact hf 0 (by simp),h2⟩,ih _ _ _ _ _ (fun q hq=>by rw[show o2+1+q=o2+(q+1)by omega,show o1+1+q=o1+(q+1)by omega]; exact hf (q+1) (by simp; omega)) h3⟩
         refine mv ks y _ _ _ _ (fun q hq => ?_) this;rw[BW _ (nz Dm hq),ani]
       . refine run_firstCells_some (P:=P) w1 _ _ ⟨b,o,none⟩ _ _ _ (by simp) fun j v hj => ?_
         have nP:j<(aW x).length * ks.length:=by have:=(amM.1 hj).1;simpa using this
         rw[BW j nP]at hj;rw[gN];simp only[World.cell?,Cj]at hj ⊢;exact hj
   . simp at hn
 . simp at hn
theorem Rs{ks:List K}{xs ys:List (Tl ks)}{b0 o b o':Nat}{F F':Nat->Prop}{w w':World}{news:List Value}{v:Value}{fT:Array Value}{el:TypeId}{fr:Nat×Nat}{cap:Nat}
 (hx:∀ i x,xs[i]? = some x->rO (fun q=>Z q∨F q/\q≠b0) w ks x b0 (o+i * ks.length))(hn:aac P Z w ks ys v news)(hb:w'.heap[b]? = some (.cells fT el fr))(yO:∀ q,q<fT.size+mk1 ks->¬ (fr.1<=q/\q<fr.2))(hF'b:F' b)(hs:w.heap.size<=w'.heap.size)
 (hZ:∀ q,Z q->q<w.heap.size->w'.heap[q]? = w.heap[q]?)(hF:∀ q,F q->q≠b0->q<w.heap.size->F' q/\q≠b/\w'.heap[q]? = w.heap[q]?)
 (hold:∀ q,q<xs.length * ks.length->fT[o'+q]? = w.cell? ⟨b0,o+q,none⟩)(nL:∀ q,q<news.length->fT[o'+xs.length * ks.length+q]? = news[q]?)(vO:xs.length+ys.length<=cap)(dh:o'+cap * ks.length<=fT.size)(bp:xs.length+ys.length<=bQ) :
 Sh Z F' w' ks (xs++ys) (.slice (some ⟨b,o',none⟩) (xs.length+ys.length) cap):=by
 refine⟨_,cap,by rw[amf],by rw[amf]; exact vO,by rw[amf]; exact bp,by simp,fun a' rV => ?_⟩;simp only[amd]at rV;subst rV;refine⟨b,o',fT,el,fr,rfl,hF'b,hb,yO,dh,fun i x hi => ?_⟩;have bD:∀ q,w'.cell? ⟨b,q,none⟩=fT[q]? := fun q=>by simp[World.cell?,hb]
 by_cases hl:i<xs.length
 . rw[amW hl]at hi;refine R8.l hs (fun q hq aV => ?_) (hx i x hi).n fun q hq => ?_
   . rcases hq with hq | hq
     . exact⟨.inl hq,hZ q hq aV⟩
     . obtain⟨f1,f2,f3⟩:=hF q hq.1 hq.2 aV;exact⟨.inr ⟨f1,f2⟩,f3⟩
   . have:=hold (i * ks.length+q) (nz hl hq);show _=w.cell? ⟨b0,o+i * ks.length+q,none⟩;rw[bD,ani,this,ani]
 . rw[amU (by omega)]at hi;have aV:i-xs.length<ys.length:=(amM.1 hi).1;refine R8.l hs (fun q hq aV=>⟨.inl hq,hZ q hq aV⟩) (hn.row _ x hi) fun q hq => ?_
   have v7:(i-xs.length) * ks.length+q<news.length:=by rw[hn.len]; exact nz aV hq
   have:=nL _ v7;have hmul:i * ks.length=xs.length * ks.length+(i-xs.length) * ks.length:=by rw[<- amR]; congr 1; omega
   rw[bD,show o'+i * ks.length+q=o'+xs.length * ks.length+((i-xs.length) * ks.length+q)by omega,this]
theorem Rel.acu(h:Rel cx Z g st a w){d:Nat}(hd:kM cx a d)(hf:st.free d=true){e:TypeId}{ks:List K}{x:List (Tl ks)}{v:Value}{F:Nat->Prop}(hF:∀ b,F b->b<w.heap.size/\(cx.F0 b∨cx.w0.heap.size<=b)/\¬ Z b/\(∀ r j,¬ g.fp r j b)/\(∀ r' R',look st.rt r'=some R'->R'.box=true->g.be r'≠b))(ho:Sh Z F w ks x v) :
 ∃ g',Rel cx Z g' (st.a8 d (.bc d 0 0 0 e ks x,some ⟨false,[⟨0,0,.own (.sl e ks) ([]:List (Tl ks))⟩]⟩)) (a.put (some d) v) w:=by
 have h6:=Rel.nw h (r:=d) (be:=0) (R:=⟨false,[⟨0,0,.own (.sl e ks) ([]:List (Tl ks))⟩]⟩) (cv:=fun _=> .slice none 0 0) (fp:=fun j b=>j=0/\F b) (kI hf)
  (fun j b hb=>⟨(hF b hb.2).1,(hF b hb.2).2.1,(hF b hb.2).2.2.1,(hF b hb.2).2.2.2.1,(hF b hb.2).2.2.2.2,⟨0,0,.own (.sl e ks) ([]:List (Tl ks))⟩,.sl e ks,([]:List (Tl ks)),by rw[hb.1]; rfl,rfl⟩)
  (fun j j' b h1 h2=>h1.1.trans h2.1.symm) (fun hb=>by simp at hb)
  (fun j c hj=>by
    cases j with
    | zero => simp only[amj,amd]at hj;subst hj;exact kN e ks
    | succ j=>simp at hj)
 refine⟨_,h6.ot hd (tv:= .bc d 0 0 0 e ks x) ⟨⟨0,0,.own (.sl e ks) ([]:List (Tl ks))⟩,?_,oR _,oR _,fun _ _=>Sh.mono (oR _) (fun b hb _=>⟨hb,rfl⟩) (fun b hb _=>⟨by simp[Gh.at]; exact hb,rfl⟩) ho⟩⟩;show(match look ((d,(⟨false,[⟨0,0,.own (.sl e ks) ([]:List (Tl ks))⟩]⟩:Rt))::st.rt) d with | some R=>R.cells[0]? | none=>none)=_;rw[aN,if_pos rfl];rfl
theorem MC(hT:cH P E)(h:Rel cx Z g st a w)(hn:cJ st)(dh:Fit cx E a){o:Oper}{d:Nat}(hd:o.dst=some d)(cE:kM cx a d){c:Call}(ho:o.op= .call c)(fe:c.callee= .builtin .append){x y:Operand}(cF:c.args.toList=[x,y]){t t2:Nat}{ts:List Nat}(yM:c.argTypes.toList=t::t2::ts)
 {ti te:TI}(iy:E.ti t=some ti)(E7:E.sl t=some te){tx ty:TV}(hx:st.get x=some tx)(hy:st.get y=some ty)(h2:E.str t2=true∨∃ Yj,E.sl t2=some Yj){ay:St}(au:(st.pk d ti.elem te tx ty).run=some ay):qt P cx E ay a w o:=by
 have hc:=hn.cons.cons;obtain⟨gn,q1,q2,q3,q4⟩:=x8 hT E7 iy;have rY:=hT _ _ q4;obtain⟨tt,Kh,t1,_,_,_,hu⟩:=kb hT E7;rw[iy]at t1;simp only[amd]at t1;subst t1;obtain⟨d2,Ip,hd2⟩:∃ d2,P.underlying t2=some d2/\∀ k,d2≠ .int k:=by
  rcases h2 with h2 | ⟨Yj,h2⟩
  . exact⟨_,qu hT h2,fun _ h=>by simp at h⟩
  . obtain⟨_,_,_,_,_,_,Ip⟩:=kb hT h2;exact⟨_,Ip,fun _ h=>by simp at h⟩
 unfold St.pk at au;obtain⟨⟨ca,xs⟩,Ds,au⟩:=Tr.ai au;obtain⟨ys,hnw,au⟩:=Tr.ai au;simp only at hnw au;cases km:ca.free d&&Nat.blt 0 te.bytes with
 | false=>rw[km]at au; simp[Tr.run]at au
 | true =>
   rw[km]at au;simp only[oT]at au;simp only[ame]at km;obtain⟨oU,vY⟩:=km;have vY:0<te.bytes:=anj (amA vY);obtain⟨OU,au⟩:=Tr.bR au;simp only[Tr.run,amd]at au;subst au;have BN:((aW xs).length+ys.length) * te.bytes<=bQ:=amA OU;have bp:(aW xs).length+ys.length<=bQ:=aml (anL _ vY) BN;obtain⟨g1,F,k1,k2,k3,k4⟩:=Nk h (bg h hc hx) Ds;obtain⟨news,m2⟩:=ML (P:=P) k1 (bW.cI k2.cI _ _ (bg h hc hy)) hnw;refine⟨fun t tv ht => ?_,fun next Q hk => ?_⟩
   . rw[cC]at ht;split at ht
     . simp only[amd]at ht; subst ht; exact fun h=>h
     . exact hn t tv (by rw[<- k2.tm]; exact ht)
   have fin:∀(v':Value) (w':World) (F':Nat->Prop),(Builtin.append_ c.argTypes o.type #[a.eval x,a.eval y]).run P w= .ok v' w'->Rel cx Z g1 ca a w'->(∀ b,F' b->b<w'.heap.size/\(cx.F0 b∨cx.w0.heap.size<=b)/\¬ Z b/\(∀ r j,¬ g1.fp r j b)/\(∀ r' R',look ca.rt r'=some R'->R'.box=true->g1.be r'≠b)) ->
    Sh Z F' w' te.ks (aW xs++ys) v'->o.wp P a w next Q:=by
    intro v' w' F' hr eQ Io kl;have iv:c.args = #[x,y]:=by rw[<- anc (xs:=c.args),cF]
    have:(execOp a.eval o).run P w= .ok (.value v') w':=by simp only[execOp,ho,resolve,fe,iv,amF,amN,amq,invoke,builtin,anV,amO,aog,hr]
    unfold Oper.wp;rw[this,anh,hd];obtain⟨g3,hg⟩:=eQ.acu (e:=ti.elem) cE oU Io kl;exact hk Z g3 _ _ hg (dh.put _ _)
   have ll:c.argTypes[0]? = some t:=by rw[<- amh,yM]; rfl
   have oS:c.argTypes[1]? = some t2:=by rw[<- amh,yM]; rfl
   have hFs:∀(w':World),w.heap.size<=w'.heap.size->∀ b,F b->b<w'.heap.size/\(cx.F0 b∨cx.w0.heap.size<=b)/\¬ Z b/\(∀ r j,¬ g1.fp r j b)/\(∀ r' R',look ca.rt r'=some R'->R'.box=true->g1.be r'≠b):=fun w' hs b hb =>
    ⟨amC (k4.lt b hb) hs,k4.own b hb,k4.z b hb,k4.fp b hb,k4.box b hb⟩
   obtain⟨base,cap,ev,c1,c2,c3,c4⟩:=k3;have BW:=m2.len;by_cases jn:(aW xs).length+ys.length<=cap
   . cases base with
     | none =>
       have vO:=c3 rfl;have Dt:aW xs=[]:=amY.1 (by omega);have hy0:ys=[]:=amY.1 (by omega);have e1:a.eval x= .slice none 0 0:=by rw[ev,Dt,vO]; rfl
       refine fin (.slice none 0 0) w (fun _=>False) ?_ k1 (fun b hb=>hb.elim) ?_
       . rw[e1];refine append_nil (news:=news) hu rY Ip hd2 ll oS ?_ ?_
         . have:=m2.lenOf; rw[hy0]at this; exact this
         . have:=m2.cells w rfl; rw[hy0]at this; exact this
       . rw[Dt,hy0];exact(kN ti.elem te.ks).sh
     | some aa =>
       obtain⟨b,of,cs,el,fr,rfl,n2,n3,n4,n5,n6⟩:=c4 _ rfl;obtain⟨s1,s2,s3,s4,s5,s6⟩:=eI b news (of+(aW xs).length * te.ks.length) w cs el fr n3;have vN:of+(aW xs).length * te.ks.length+news.length<=cs.size:=by have:=amH te.ks.length jn;rw[amR]at this;omega
       refine fin (.slice (some ⟨b,of,none⟩) ((aW xs).length+ys.length) cap) (w.setCells b (of+(aW xs).length * te.ks.length) news) F ?_ (k1.wr k4 s4 s5 s6 (by rw[s3]; exact oR _) fun q _ hq=>s2 q fun e=>hq (by rw[e]; exact n2)) (hFs _ (by rw[s3]; exact oR _)) ?_
       . rw[ev];exact qz hu rY Ip hd2 ll oS m2.lenOf (m2.cells w rfl) jn m2.one fun j hj=>⟨cs,el,fr,n3,by omega,n4 _ (by omega)⟩
       . refine Rs (b0:=b) (F:=F) n6 m2 s1 (fun q hq=>n4 q (by rw[cX]at hq; exact hq)) n2 (by rw[s3]; exact oR _) (fun q hq _=>s2 q fun e=>k4.z b n2 (by rw[<- e]; exact hq)) (fun q hq cY _=>⟨hq,cY,s2 q cY⟩) (fun q hq => ?_) (fun q hq => ?_) jn (by rw[cX]; exact n5) bp
         . rw[dv _ _ _ _ vN,if_neg (by omega)];exact(show w.cell? ⟨b,of+q,none⟩=cs[of+q]? by simp[World.cell?,n3]).symm
         . rw[dv _ _ _ _ vN,if_pos (by omega)];congr 1;omega
   . have Uo:cap<(aW xs).length+ys.length:=by omega
     have Me:=grownCap_ge w ((aW xs).length+ys.length) cap ti.elem;have Up:∀ q,F q->q≠w.heap.size:=fun q hq e=>by have:=(hFs w (oR _) q hq).1;omega
     have iT:∃(iT:List Value) (b0 of:Nat),(Builtin.firstCells te.ks.length (aW xs).length (.slice base (aW xs).length cap)).run P w.drew= .ok iT.toArray w.drew/\iT.length=(aW xs).length * te.ks.length/\(∀ q,q<(aW xs).length * te.ks.length->iT[q]? = w.cell? ⟨b0,of+q,none⟩) /\
      (∀ i x,(aW xs)[i]? = some x->rO (fun q=>Z q∨F q/\q≠b0) w te.ks x b0 (of+i * te.ks.length)):=by
      cases base with
      | none => have vO:=c3 rfl;have Dt:aW xs=[]:=amY.1 (by omega);exact⟨[],0,0,run_firstCells_none (P:=P) w.drew _ _ _ _,by rw[Dt]; simp,fun q hq=>by rw[Dt]at hq; simp at hq,fun i x hi=>by rw[Dt]at hi; simp at hi⟩
      | some aa =>
        obtain⟨b,of,cs,el,fr,rfl,n2,n3,n4,n5,n6⟩:=c4 _ rfl;have hbound:∀ q,q<(aW xs).length * te.ks.length->of+q<cs.size:=fun q hq=>by have:=amH te.ks.length c1;omega
        have xw:∀ q,w.cell? ⟨b,q,none⟩=cs[q]? := fun q=>by simp[World.cell?,n3]
        have Uq:∀ q,q<(aW xs).length * te.ks.length->((List.range ((aW xs).length * te.ks.length)).map fun q=>cs.getD (of+q) undef)[q]? = cs[of+q]? := fun q hq=>by have:=hbound q hq;simp[hq,this]
        refine⟨(List.range ((aW xs).length * te.ks.length)).map fun q=>cs.getD (of+q) undef,b,of,?_,by simp,fun q hq=>by rw[xw]; exact Uq q hq,n6⟩;refine run_firstCells_some (P:=P) w.drew _ _ ⟨b,of,none⟩ _ _ _ (by simp) fun j v hj => ?_
        have nP:j<(aW xs).length * te.ks.length:=by have:=(amM.1 hj).1;simpa using this
        rw[Uq j nP]at hj;rw[gN];exact(xw _).trans hj
     obtain⟨iT,b0,of,r1,r2,r3,r4⟩:=iT;obtain⟨zs,z1,z2⟩:=pz (ty:=o.type) (vx:=a.eval y) hu rY Ip hd2 ll oS m2.lenOf r1 (m2.cells w.drew rfl) Uo vY BN;have jm:(w.drew.alloc (.cells (iT.toArray++news.toArray++zs) ti.elem (0,0))).heap=w.heap.push (.cells (iT.toArray++news.toArray++zs) ti.elem (0,0)):=rfl;have jU:(w.drew.alloc (.cells (iT.toArray++news.toArray++zs) ti.elem (0,0))).heap.size=w.heap.size+1:=by rw[jm,anJ]
     have hold:∀ q,q<w.heap.size->(w.drew.alloc (.cells (iT.toArray++news.toArray++zs) ti.elem (0,0))).heap[q]? = w.heap[q]? := fun q hq=>by rw[jm,amS,if_neg (by omega)]
     refine fin (.slice (some ⟨w.heap.size,0,none⟩) ((aW xs).length+ys.length) (grownCap w ((aW xs).length+ys.length) cap ti.elem)) (w.drew.alloc (.cells (iT.toArray++news.toArray++zs) ti.elem (0,0))) (fun q=>F q∨q=w.heap.size) (by rw[ev]; exact z2) (k1.wr k4 rfl rfl rfl (by rw[jU]; omega) fun q hq _=>hold q hq) (fun b hb => ?_) ?_
     . rcases hb with hb | rfl
       . exact hFs _ (by rw[jU]; omega) b hb
       . refine⟨by rw[jU]; omega,.inr k1.size,fun hz=>by have:=(k1.cq _ hz).1; omega,fun r j hh=>by have:=(k1.fp r j _ hh).1; omega,fun r' R' lr cz he => ?_⟩;obtain⟨_,_,_,_,cs1,el1,fr1,b5,_⟩:=k1.box r' R' lr cz;rw[he,amy (oR _)]at b5;simp at b5
     . refine Rs (b0:=b0) (F:=F) r4 m2 (el:=ti.elem) (fr:=(0,0)) (fT:=iT.toArray++news.toArray++zs) (by rw[jm,amS,if_pos rfl]) (by simp) (.inr rfl) (by rw[jU]; omega) (fun q hq aV=>hold q aV) (fun q hq _ aV=>⟨.inl hq,Up q hq,hold q aV⟩) (fun q hq => ?_) (fun q hq => ?_) Me ?_ bp
       . rw[<- r3 q hq,amp,anW,am9 (by simp; omega)];simp
       . rw[amp,anW,aoz (by simp; omega),am9 (by simp; omega)];simp only[apb,r2,am2,amQ]
       . have e1:(iT.toArray++news.toArray++zs).size=iT.length+news.length+zs.size:=by simp
         rw[e1,r2,BW,z1,amp,<- amR,<- amR];exact amH _ (by omega)
end
abbrev WK:=Nat->Nat->Option (RC×(Nat->Prop))
def Gh.uZ(g:Gh)(L:WK):Gh:=⟨g.be,g.cv,fun r j b=>match L r j with | some p=>p.2 b | none=>g.fp r j b⟩
structure RM (st ay:St) (L:WK):Prop where
 tm:ay.tm=st.tm
 shape:∀ r,shape ay r=shape st r
 cell:∀ r j,ay.cell r j=match L r j with | some p=>(st.cell r j).map (fun _=>p.1) | none=>st.cell r j
 rt:∀ r,(∀ j,L r j=none)->look ay.rt r=look st.rt r
section
variable{P:Program}{cx:Cx P}{Z:Nat->Prop}{g:Gh}{st ay:St}{a:Act}{w w':World}{E:En}{L:WK}
theorem vB{st ay:St}{r:Nat}{R':Rt}(hs:shape ay r=shape st r)(h:look ay.rt r=some R'):∃ R,look st.rt r=some R/\R'.box=R.box/\R'.cells.length=R.cells.length:=by
 have h1:shape st r=some (R'.box,R'.cells.length):=by rw[<- hs]; simp[shape,h]
 obtain⟨R,k1,k2,k3⟩:=sA h1;exact⟨R,k1,k2.symm,k3.symm⟩
theorem Rel.uZ(h:Rel cx Z g st a w)(hl:RM st ay L)(h1:w'.os=w.os)(h2:w'.tape=w.tape)(h3:w'.output=w.output)(dh:w.heap.size<=w'.heap.size)
 (hL:∀ r j p,L r j=some p->∃ c,st.cell r j=some c/\p.1.s=c.s/\c.m<p.1.m/\∃ e ks xs rU,c.v= .own (.sl e ks) xs/\p.1.v= .own (.sl e ks) rU/\(aW rU).length=(aW xs).length/\dI w' (.sl e ks) rU (g.cv r j) p.2)
 (hF:∀ r j p,L r j=some p->∀ b,p.2 b->b<w'.heap.size/\((∃ r0 j0 p0,L r0 j0=some p0/\g.fp r0 j0 b)∨w.heap.size<=b)/\¬ Z b)
 (hd:∀ r j p r' j' p' b,L r j=some p->L r' j'=some p'->p.2 b->p'.2 b->r=r'/\j=j')
 (lD:∀ b,b<w.heap.size->(∀ r j p,L r j=some p->¬ g.fp r j b)->w'.heap[b]? = w.heap[b]?) :
 Rel cx Z (g.uZ L) ay a w'/\lM Z w w' g (g.uZ L) st ay:=by
 have H4:∀ r j b,L r j=none->g.fp r j b->w'.heap[b]? = w.heap[b]? := fun r j b hn hb=>lD b (h.fp r j b hb).1 fun r0 j0 p0 BV hh=>by obtain⟨e1,e2⟩:=h.cS _ _ _ _ _ hb hh;subst e1; subst e2;rw[hn]at BV; simp at BV
 have hz:∀ b,Z b->b<w.heap.size->w'.heap[b]? = w.heap[b]? := fun b hb aV=>lD b aV fun r j p hp hh=>(h.fp r j b hh).2.2.1 hb
 have qP:∀ r j b,(g.uZ L).fp r j b->(∃ p,L r j=some p/\p.2 b)∨(L r j=none/\g.fp r j b):=fun r j b hb=>by
  simp only[Gh.uZ]at hb;cases hp:L r j with
  | none=>rw[hp]at hb; exact .inr ⟨rfl,hb⟩
  | some p=>rw[hp]at hb; exact .inl ⟨p,rfl,hb⟩
 have k:oe Z Z w w' g (g.uZ L) st ay:=by
  refine { size:=dh,z:=fun b hb aV=>⟨hb,hz b hb aV⟩,root:=fun r R hR => ?_,cell:=fun r j c hc => ?_,own:=fun r j b hb=>(h.fp r j b hb).1,block:=(gk h (ay:=st) (w':=w) rfl rfl).block }
  . obtain⟨R',e1,e2,_⟩:=vB (st:=ay) (ay:=st) (hl.shape r).symm hR;exact⟨R',e1,e2.symm,fun _=>rfl⟩
  . rw[hl.cell];cases hp:L r j with
    | none=>exact⟨c,hc,oR _,oR _,fun _=>rfl,fun _ e ks xs hh=>⟨xs,hh,rfl⟩,fun _ _=>⟨rfl,fun b hb _=>⟨by simp only[Gh.uZ,hp]; exact hb,H4 r j b hp hb⟩⟩⟩
    | some p => obtain⟨c0,f1,f2,f3,e,ks,xs,rU,f4,f5,f6,f7⟩:=hL r j p hp;rw[hc]at f1;simp only[amd]at f1;subst f1;rw[hc];refine⟨p.1,rfl,by omega,by omega,fun _=>rfl,fun _ e' bZ xs0 hh => ?_,fun _ e=>absurd e (by omega)⟩;rw[f4]at hh;simp only[RV.own.injEq,K.sl.injEq]at hh;obtain⟨⟨rfl,rfl⟩,hh⟩:=hh;have hh:=aot hh;subst hh;exact⟨rU,f5,f6⟩
 have hbn:∀ r R,look st.rt r=some R->R.box=true->∀ r' j',¬ (g.uZ L).fp r' j' (g.be r):=fun r R hR hb r' j' hh=>by
  obtain⟨_,_,b3,_,cs,el,fr,b5,_⟩:=h.box r R hR hb;have aV:g.be r<w.heap.size:=by
   rcases amv (g.be r) w.heap.size with hh | hh
   . exact hh
   . simp[amy hh]at b5
  rcases qP _ _ _ hh with ⟨p,hp,hh⟩ | ⟨_,hh⟩
  . rcases(hF _ _ _ hp _ hh).2.1 with ⟨r0,j0,p0,_,k2⟩ | k2
    . exact b3 r0 j0 k2
    . omega
  . exact b3 _ _ hh
 refine⟨?_,⟨k,hl.tm,rfl,fun r R' hR=>by obtain⟨R,e1,e2,_⟩:=vB (hl.shape r) hR; exact⟨R,e1,e2⟩⟩⟩;refine { os:=h1.trans h.os,tape:=h2.trans h.tape,output:=h3.trans h.output,size:=aml h.size dh,block := ?_,cq:=fun b hb=>⟨amC (h.cq b hb).1 dh,(h.cq b hb).2⟩,z0:=h.z0,fp := ?_,cS := ?_,box := ?_,cell := ?_,tm := ?_,defers:=h.defers,nx:=h.nx }
 . intro b hb hf;refine(lD b (amC hb h.size) fun r j p hp hh => ?_).trans (h.block b hb hf);rcases(h.fp r j b hh).2.1 with h4 | h4
   . exact hf h4
   . omega
 . intro r j b hb;rcases qP r j b hb with ⟨p,hp,hb⟩ | ⟨hp,hb⟩
   . obtain⟨k1,k2,k3⟩:=hF r j p hp b hb;obtain⟨c,f1,_,_,e,ks,xs,rU,_,f5,_⟩:=hL r j p hp;refine⟨k1,?_,k3,p.1,_,rU,by rw[hl.cell,hp,f1]; rfl,f5⟩;rcases k2 with ⟨r0,j0,p0,_,k2⟩ | k2
     . exact(h.fp _ _ _ k2).2.1
     . exact .inr (aml h.size k2)
   . obtain⟨k1,k2,k3,c,kk,x,k4,k5⟩:=h.fp r j b hb;exact⟨amC k1 dh,k2,k3,c,kk,x,by rw[hl.cell,hp]; exact k4,k5⟩
 . intro r1 j1 r2 j2 b yP l6;rcases qP _ _ _ yP with ⟨p1,yn,k1⟩ | ⟨yn,k1⟩
   . rcases qP _ _ _ l6 with ⟨p2,Ch,k2⟩ | ⟨Ch,k2⟩
     . exact hd _ _ _ _ _ _ b yn Ch k1 k2
     . exfalso;rcases(hF _ _ _ yn b k1).2.1 with ⟨r0,j0,p0,BV,hh⟩ | hh
       . obtain⟨e1,e2⟩:=h.cS _ _ _ _ _ hh k2;subst e1; subst e2;rw[Ch]at BV; simp at BV
       . have:=(h.fp _ _ _ k2).1; omega
   . rcases qP _ _ _ l6 with ⟨p2,Ch,k2⟩ | ⟨Ch,k2⟩
     . exfalso;rcases(hF _ _ _ Ch b k2).2.1 with ⟨r0,j0,p0,BV,hh⟩ | hh
       . obtain⟨e1,e2⟩:=h.cS _ _ _ _ _ hh k1;subst e1; subst e2;rw[yn]at BV; simp at BV
       . have:=(h.fp _ _ _ k1).1; omega
     . exact h.cS _ _ _ _ _ k1 k2
 . intro r R' hR nO;obtain⟨R,e1,e2,e3⟩:=vB (hl.shape r) hR;have ahP:R.box=true:=by rw[<- e2]; exact nO
   obtain⟨b1,b2,b3,b4,cs,el,fr,b5,b6,b7,b8⟩:=h.box r R e1 ahP;have aV:g.be r<w.heap.size:=by
    rcases amv (g.be r) w.heap.size with hh | hh
    . exact hh
    . simp[amy hh]at b5
   refine⟨b1,b2,hbn r R e1 ahP,fun r' X9 mO xr he => ?_,cs,el,fr,?_,b6,by rw[b7,e3],b8⟩
   . obtain⟨R2,f1,f2,_⟩:=vB (hl.shape r') mO;exact b4 r' R2 f1 (by rw[<- f2]; exact xr) he
   . show w'.heap[g.be r]? = _;rw[lD _ aV fun r0 j0 p0 _ hh=>b3 r0 j0 hh];exact b5
 . intro r j c hc;rw[hl.cell]at hc;cases hp:L r j with
   | none =>
     rw[hp]at hc;have e2:(g.uZ L).fp r j=g.fp r j:=by funext b; simp only[Gh.uZ,hp]
     rw[e2];exact lh.cI k _ _ _ _ (h.cell r j c hc) (fun _ h=>h) (fun b hb _=>H4 r j b hp hb)
   | some p =>
     rw[hp]at hc;obtain⟨c0,f1,_,_,e,ks,xs,rU,_,f5,_,f7⟩:=hL r j p hp;rw[f1]at hc;simp only[amE,amd]at hc;subst hc;have e2:(g.uZ L).fp r j=p.2:=by funext b; simp only[Gh.uZ,hp]
     rw[e2,f5];exact f7
 . intro t tv ht;rw[hl.tm]at ht;exact⟨(h.tm t tv ht).1,bW.cI k _ _ (h.tm t tv ht).2⟩
end
section
variable{w w':World}
theorem CM:∀(ks:List K) (x:Tl ks) (j:Nat) (G:Nat->Nat->Prop) (cs:Array Value) (o c:Nat) (k:K) (y:T k),gw w ks x j G cs o->cellAt ks x c=some ⟨k,y⟩->∃ v,cs[o+c]? = some v/\dI w k y v (G (j+c))
 | [],_,_,_,_,_,_,_,_,_,h=>by simp[cellAt]at h
 | k0::ks,x,j,G,cs,o,0,k,y,⟨⟨v,h1,h2⟩,_⟩,h=>by simp only[cellAt,amd,Sigma.mk.injEq]at h;obtain⟨rfl,h⟩:=h;have h:=aot h;subst h;exact⟨v,h1,h2⟩
 | k0::ks,x,j,G,cs,o,c+1,k,y,⟨_,h3⟩,h=>by obtain⟨v,h1,h2⟩:=CM ks x.2 (j+1) G cs (o+1) c k y h3 h;exact⟨v,by rw[show o+(c+1)=o+1+c by omega]; exact h1,by rw[show j+(c+1)=j+1+c by omega]; exact h2⟩
theorem Rn{e:TypeId}{ks:List K}{xs:T (.sl e ks)}{b o l cap:Nat}{F:Nat->Prop}(h:dI w (.sl e ks) xs (.slice (some ⟨b,o,none⟩) l cap) F){i c:Nat}(hi:i<(aW xs).length){k:K}{y:T k}(hc:cellAt ks (iq xs i) c=some ⟨k,y⟩) :
 ∃ v Fi,w.cell? ⟨b,o+i * ks.length+c,none⟩=some v/\dI w k y v Fi/\(∀ q,Fi q->F q/\q≠b)/\F b /\
  ∀(w':World) (y':T k) (z:Tl ks) (F':Nat->Prop),setAt ks (iq xs i) c k y'=some z->dI w' k y' v F'->(∀ q,F' q->F q->Fi q)->(∀ q,q<w.heap.size->F q->¬ Fi q->w'.heap[q]? = w.heap[q]?)->(∀ q,F q->q<w.heap.size) ->
   dI w' (.sl e ks) (List.set (aW xs) i z) (.slice (some ⟨b,o,none⟩) l cap) (fun q=>(F q/\¬ Fi q)∨F' q):=by
 obtain⟨a',c0,h1,h2,h3,h4,h5⟩:=h;simp only[anf]at h1;obtain⟨rfl,rfl,rfl⟩:=h1;obtain⟨b',o',cs,el,fr,g1,g2,g3,g4,g5,G,g6,g7,g8⟩:=h5 _ rfl;simp only[anF,anM]at g1;obtain⟨rfl,rfl⟩:=g1;obtain⟨v,U1,hv2⟩:=CM ks _ 0 (G i) cs _ c k y (g8 i _ (oo xs hi)) hc;rw[amp]at hv2;refine⟨v,G i c,?_,hv2,fun q hq=>g6 i c q hq,g2,fun w' y' z F' hz ho Io hw aV => ?_⟩
 . simp only[World.cell?,g3,anz,amX,anu];exact U1
 . have hlen:(aW (e:=e) (ks:=ks) (List.set (aW xs) i z)).length=(aW xs).length:=ano ..
   have hbG:¬ G i c b:=fun hh=>(g6 i c b hh).2 rfl
   have xw:=Bw _ _ _ _ _ _ hz;have alB:=aV b g2;refine⟨_,cap,by rw[hlen],by rw[hlen]; exact h2,by rw[hlen]; exact h3,h4,fun a'' H6 => ?_⟩;simp only[amd]at H6;subst H6;refine⟨b,o,cs,el,fr,rfl,.inl ⟨g2,hbG⟩,by rw[hw b alB g2 hbG]; exact g3,g4,g5,fun i' j' q=>if i'=i/\j'=c then F' q else G i' j' q,fun i' j' q hq => ?_,fun i1 j1 i2 j2 q OS Ci => ?_,fun i' x hx => ?_⟩
   . dsimp only at hq;split at hq
     . refine⟨.inr hq,fun e => ?_⟩;subst e;exact hbG (Io q hq g2)
     . rename_i cY;refine⟨.inl ⟨(g6 i' j' q hq).1,fun hh=>cY ?_⟩,(g6 i' j' q hq).2⟩;exact g7 i' j' i c q hq hh
   . dsimp only at OS Ci;have cross:∀ i1 j1,¬ (i1=i/\j1=c)->G i1 j1 q->F' q->False:=fun i1 j1 cY hG hF=>by
      exact cY (g7 i1 j1 i c q hG (Io q hF (g6 i1 j1 q hG).1))
     by_cases e1:i1=i/\j1=c
     . rw[if_pos e1]at OS;by_cases e2:i2=i/\j2=c
       . exact⟨e1.1.trans e2.1.symm,e1.2.trans e2.2.symm⟩
       . rw[if_neg e2]at Ci; exact(cross i2 j2 e2 Ci OS).elim
     . rw[if_neg e1]at OS;by_cases e2:i2=i/\j2=c
       . rw[if_pos e2]at Ci; exact(cross i1 j1 e1 OS Ci).elim
       . rw[if_neg e2]at Ci; exact g7 _ _ _ _ q OS Ci
   . have lQ:(List.set (aW xs) i z)[i']? = some x:=hx;rw[aoS]at lQ;by_cases ei:i=i'
     . subst ei;rw[if_pos rfl,if_pos hi]at lQ;simp only[amd]at lQ;subst lQ;refine Am ks (iq xs i) c k y' z 0 (G i) _ F' cs cs _ v hz ho U1 (fun _ _ _=>rfl) (fun q p cY hp => ?_) (fun p hp => ?_) (fun q p cY hp _ => ?_) (g8 i _ (oo xs hi))
       . show(if i=i/\q=c then F' p else G i q p);rw[if_neg (fun e=>cY (by omega))]; exact hp
       . show(if i=i/\0+c=c then F' p else G i (0+c) p);rw[if_pos ⟨rfl,by omega⟩]; exact hp
       . exact hw p (aV p (g6 i q p hp).1) (g6 i q p hp).1 fun hh=>cY (by have:=(g7 i q i c p hp hh).2; omega)
     . rw[if_neg ei]at lQ;refine gw.frame ks x 0 (G i') _ cs _ (fun j q hq => ?_) (fun j q hq _ => ?_) (g8 i' x lQ)
       . show(if i'=i/\j=c then F' q else G i' j q);rw[if_neg (fun e=>ei e.1.symm)]; exact hq
       . exact hw q (aV q (g6 i' j q hq).1) (g6 i' j q hq).1 fun hh=>ei (g7 i' j i c q hq hh).1.symm
end
section
variable{P:Program}{cx:Cx P}{Z:Nat->Prop}{a:Act}{w:World}{E:En}
theorem ee.mono{F F':Nat->Nat->Prop}(hF:∀ i b,F i b->F' i b):∀(ps:List PK) (x:PT ps) (vs:List Value) (i:Nat),ee Z w F ps x vs i->ee Z w F' ps x vs i
 | [],_,[],_,_=>trivial
 | .c _ _::ps,x,v::vs,i,h=>⟨h.1,ee.mono hF ps x.2 vs _ h.2⟩
 | .pt _::ps,x,v::vs,i,h=>⟨h.1,ee.mono hF ps x.2 vs _ h.2⟩
 | .nil::ps,x,v::vs,i,h=>⟨h.1,ee.mono hF ps x vs _ h.2⟩
 | .fn _ _::ps,x,v::vs,i,h=>⟨h.1,ee.mono hF ps x.2 vs _ h.2⟩
 | .io _ ks::ps,x,v::vs,i,⟨⟨cs,e,h⟩,h'⟩=>⟨⟨cs,e,bb.mono hF ks x.1 cs i h⟩,ee.mono hF ps x.2 vs _ h'⟩
 | .mv _::ps,x,v::vs,i,h=>⟨dI.frame _ _ _ _ _ (hF i) (fun _ _ _=>rfl) h.1,ee.mono hF ps x.2 vs _ h.2⟩
 | .pw _::ps,x,v::vs,i,h=>⟨h.1.mono hF,ee.mono hF ps x.2 vs _ h.2⟩
 | .pw _::_,_,[],_,h=>h.elim
 | [],_,_::_,_,h=>h.elim
 | .c _ _::_,_,[],_,h=>h.elim
 | .fn _ _::_,_,[],_,h=>h.elim
 | .io _ _::_,_,[],_,h=>h.elim
 | .pt _::_,_,[],_,h=>h.elim
 | .nil::_,_,[],_,h=>h.elim
 | .mv _::_,_,[],_,h=>h.elim
theorem bb.cq{Z':Nat->Prop}{H:Nat->Nat->Prop}(hz:∀ b,Z b->b<w.heap.size->Z' b):∀(ks:List K) (x:Tl ks) (cs:List Value) (j:Nat),bb true Z w H ks x cs j->bb true Z' w H ks x cs j
 | [],_,[],_,_=>trivial
 | .sl e bZ::ks,x,v::vs,j,h=>⟨h.1,bb.cq hz ks x.2 vs _ h.2⟩
 | .int _::ks,x,v::vs,j,h=>⟨h.1.cq hz,bb.cq hz ks x.2 vs j h.2⟩
 | .bool::ks,x,v::vs,j,h=>⟨h.1.cq hz,bb.cq hz ks x.2 vs j h.2⟩
 | .str::ks,x,v::vs,j,h=>⟨h.1.cq hz,bb.cq hz ks x.2 vs j h.2⟩
 | [],_,_::_,_,h=>h.elim
 | .sl _ _::_,_,[],_,h=>h.elim
 | .int _::_,_,[],_,h=>h.elim
 | .bool::_,_,[],_,h=>h.elim
 | .str::_,_,[],_,h=>h.elim
def Zb(Z:Nat->Prop)(g:Gh)(st:St):Nat->Prop:=fun b=>Z b∨∃ r R,look st.rt r=some R/\R.box=true/\g.be r=b
theorem YG{g:Gh}{st:St}(h:Rel cx Z g st a w):∀ b,Zb Z g st b->b<w.heap.size:=fun b hb=>by
 rcases hb with hb | ⟨r,R,hR,hx,e⟩
 . exact(h.cq b hb).1
 . obtain⟨_,_,_,_,cs,el,fr,b5,_⟩:=h.box r R hR hx;rw[e]at b5;rcases amv b w.heap.size with hh | hh
   . exact hh
   . simp[amy hh]at b5
theorem ZI{g:Gh}{st:St}(h:Rel cx Z g st a w){r j b:Nat}(hb:g.fp r j b):¬ Zb Z g st b:=fun hz=>by
 rcases hz with hz | ⟨r',R,hR,hx,e⟩
 . exact(h.fp _ _ _ hb).2.2.1 hz
 . exact(h.box r' R hR hx).2.2.1 r j (e ▸ hb)
def JQ(g:Gh)(st:St)(w w':World)(r j:Nat)(c':RC)(F F':Nat->Prop):Prop :=
 ∃ c e ks xs rU,st.cell r j=some c/\c'.s=c.s/\c.m<c'.m/\c.v= .own (.sl e ks) xs/\c'.v= .own (.sl e ks) rU/\(aW rU).length=(aW xs).length/\dI w' (.sl e ks) rU (g.cv r j) (fun q=>(g.fp r j q/\¬ F q)∨F' q)
structure PA (g:Gh) (st:St) (w:World) (n:Ln) (k:K) (F:Nat->Prop) (v:Value):Prop where
 sub:∀ b,F b->g.fp n.r n.j b
 back:∀(w':World) (y':T k) (F':Nat->Prop) (c':RC),st.D5 n ⟨k,y'⟩=some c'->dI w' k y' v F'->(∀ q,F' q->g.fp n.r n.j q->F q)->(∀ q,q<w.heap.size->g.fp n.r n.j q->¬ F q->w'.heap[q]? = w.heap[q]?)->JQ g st w w' n.r n.j c' F F'
theorem XT{w w':World}{e:TypeId}{ks:List K}{xs rU:T (.sl e ks)}{v:Value}{F F':Nat->Prop}(h:dI w (.sl e ks) xs v F)(h':dI w' (.sl e ks) rU v F'):(aW rU).length=(aW xs).length:=by obtain⟨a,c,h1,_⟩:=h;obtain⟨a',c',vM,_⟩:=h';rw[h1]at vM;simp only[anf]at vM;exact vM.2.1.symm
theorem N9{g:Gh}{st:St}(h:Rel cx Z g st a w){av:AV}{v:Value}{e0:TypeId}{gn:List K}{n:Ln}{y:T (.sl e0 gn)}(hr:bC Z g st w av v)(hl:st.FI (.sl e0 gn) av=some (n,y)) :
 ∃ F,dI w (.sl e0 gn) y v F/\PA g st w n (.sl e0 gn) F v:=by
 cases av with
 | ref r j s =>
   simp only[St.FI]at hl;split at hl
   . rename_i s' m k' x hc;cases hb:Nat.beq s' s with
     | false=>rw[hb]at hl; simp at hl
     | true =>
       rw[hb]at hl;simp only[oT]at hl;split at hl
       . rename_i y' hy;cases hl;obtain⟨rfl,hy⟩:=cQ hy;have hy:x=y:=hy;subst hy;have:=beq_eq hb;subst this;obtain⟨c,q1,q2,q3⟩:=hr;rw[hc]at q1;cases q1;have q3:=q3 rfl;subst q3;have ho:dI w (.sl e0 gn) x (g.cv r j) (g.fp r j):=h.cell r j _ hc;refine⟨g.fp r j,ho,fun b hb=>hb,fun w' y' F' c' Ia jY Io Mi => ?_⟩;simp only[St.D5,hc,amd]at Ia;subst Ia;refine⟨_,e0,gn,x,y',hc,rfl,ane _,rfl,rfl,XT ho jY,?_⟩;exact dI.frame _ _ _ _ _ (fun b hb=> .inr hb) (fun _ _ _=>rfl) jY
       . simp at hl
   . simp at hl
 | pref r j s m i c =>
   simp only[St.FI]at hl;split at hl
   . rename_i s' m' e ks x hc;cases hb:Nat.beq s' s&&Nat.beq m' m with
     | false=>rw[hb]at hl; simp at hl
     | true =>
       rw[hb]at hl;simp only[oT]at hl;simp only[ame]at hb;split at hl
       . rename_i k' y1 bD;split at hl
         . rename_i y' hy;cases hl;obtain⟨rfl,hy⟩:=cQ hy;have hy:y1=y:=hy;subst hy;have e1:=beq_eq hb.1;have e2:=beq_eq hb.2;subst e1; subst e2;obtain⟨c0,q1,q2,q3,q4⟩:=hr;rw[hc]at q1;cases q1;obtain⟨e',bZ,rU,p1,p2,p3,b,o,l,cap,p4,p5⟩:=q4 rfl rfl;simp only[RV.own.injEq,K.sl.injEq]at p1;obtain⟨⟨rfl,rfl⟩,p1⟩:=p1;have p1:=aot p1;subst p1;have ho:dI w (.sl e ks) x (g.cv r j) (g.fp r j):=h.cell r j _ hc;rw[p4]at ho;obtain⟨v',Fi,u1,u2,u3,u4,u5⟩:=Rn ho p2 bD;rw[p5]at u1;simp only[amd]at u1;subst u1;refine⟨Fi,u2,fun b hb=>(u3 b hb).1,fun w' y' F' c' Ia jY Io Mi => ?_⟩;simp only[St.D5,hc]at Ia;split at Ia
           . rename_i z hz;simp only[amd]at Ia;subst Ia;refine⟨_,e,ks,x,_,hc,rfl,ane _,rfl,rfl,ano ..,?_⟩;show dI w' (.sl e ks) _ (g.cv r j) _;rw[p4];exact u5 w' y' z F' hz jY Io Mi fun q hq=>(h.fp r j q hq).1
           . simp at Ia
         . simp at hl
       . simp at hl
   . simp at hl
 | _=>simp[St.FI]at hl
def IA:List K->List Value->List (K×Value)
 | .sl e bZ::ks,v::vs=>(.sl e bZ,v)::IA ks vs
 | .int _::ks,_::vs=>IA ks vs
 | .bool::ks,_::vs=>IA ks vs
 | .str::ks,_::vs=>IA ks vs
 | _,_=>[]
def B6:List PK->List Value->List (K×Value)
 | .io gg ks::ps,v::vs=>IA ks (cellsOf gg v)++B6 ps vs
 | .c _ _::ps,_::vs=>B6 ps vs
 | .pt _::ps,_::vs=>B6 ps vs
 | .nil::ps,_::vs=>B6 ps vs
 | .fn _ _::ps,_::vs=>B6 ps vs
 | .mv _::ps,_::vs=>B6 ps vs
 | _,_=>[]
def gT(g:Gh)(st:St)(w:World)(F:Nat->Nat->Prop):List Ln->List (K×Value)->Nat->Prop
 | [],[],_=>True
 | n::l,p::r,i=>PA g st w n p.1 (F i) p.2/\gT g st w F l r (i+1)
 | _,_,_=>False
theorem PA.eq{g:Gh}{st:St}{n:Ln}{k:K}{F F':Nat->Prop}{v:Value}(h:PA g st w n k F v)(e:∀ b,F b↔F' b):PA g st w n k F' v:=by
 have:F=F':=funext fun b=>propext (e b)
 rw[<- this]; exact h
theorem gT.eq{g:Gh}{st:St}{F F':Nat->Nat->Prop}:∀(l:List Ln) (r:List (K×Value)) (i:Nat),(∀ m b,i<=m->m<i+l.length->(F m b↔F' m b))->gT g st w F l r i->gT g st w F' l r i
 | [],[],_,_,_=>trivial
 | n::l,p::r,i,e,h=>⟨h.1.eq fun b=>e i b (oR _) (by simp),gT.eq l r (i+1) (fun m b h1 h2=>e m b (by omega) (by simp only[ams]; omega)) h.2⟩
 | [],_::_,_,_,h=>h.elim
 | _::_,[],_,_,h=>h.elim
theorem gT.len{g:Gh}{st:St}{F:Nat->Nat->Prop}:∀(l:List Ln) (r:List (K×Value)) (i:Nat),gT g st w F l r i->l.length=r.length
 | [],[],_,_=>rfl
 | n::l,p::r,i,h=>amL (· + 1) (gT.len l r (i+1) h.2)
 | [],_::_,_,h=>h.elim
 | _::_,[],_,h=>h.elim
theorem gT.app{g:Gh}{st:St}{F:Nat->Nat->Prop}:∀(l l':List Ln) (r r':List (K×Value)) (i:Nat),gT g st w F l r i->gT g st w F l' r' (i+l.length)->gT g st w F (l++l') (r++r') i
 | [],_,[],_,_,_,h=>h
 | n::l,l',p::r,r',i,h,h'=>⟨h.1,gT.app l l' r r' (i+1) h.2 (by rw[show i+1+l.length=i+(n::l).length by simp; omega]; exact h')⟩
 | [],_,_::_,_,_,h,_=>h.elim
 | _::_,_,[],_,_,h,_=>h.elim
theorem nV{g:Gh}{st:St}(h:Rel cx Z g st a w):∀(ks:List K) (l:List AV) (cs:List Value) (i:Nat) (ns:List Ln) (y:Tl ks),ba Z g st w l cs->st.qG ks l=some (ns,y) ->
 ns.length=bU ks/\∃ F:Nat->Nat->Prop,bb true Z w F ks y cs i/\gT g st w F ns (IA ks cs) i/\∀ m b,F m b->i<=m/\m<i+bU ks
 | [],[],[],i,ns,y,_,hl=>by simp only[St.qG,amd,amK]at hl;obtain⟨rfl,_⟩:=hl;exact⟨rfl,fun _ _=>False,trivial,trivial,fun _ _ h=>h.elim⟩
 | [],[],_::_,_,_,_,h1,_=>h1.elim
 | [],_::_,_,_,_,_,_,hl=>by simp[St.qG]at hl
 | _::_,[],_,_,_,_,_,hl=>by simp[St.qG]at hl
 | _::_,_::_,[],_,_,_,h1,_=>h1.elim
 | .sl e bZ::ks,av::l,v::vs,i,ns,y,h1,hl=>by
   simp only[St.qG]at hl;split at hl
   . rename_i p q hp hq;cases hl;obtain⟨F1,k1,k2⟩:=N9 h h1.1 hp;obtain⟨hlen,F,m1,m2,m3⟩:=nV h ks l vs (i+1) q.1 q.2 h1.2 hq;have hs:∀ m b,(i+1<=m)->(((m=i/\F1 b)∨F m b)↔F m b):=fun m b hm=>⟨fun hh=>hh.elim (fun h=>by omega) id,.inr⟩
     refine⟨by simp[bU,hlen],fun m b=>(m=i/\F1 b)∨F m b,⟨dI.frame _ _ _ _ _ (fun b hb=> .inl ⟨rfl,hb⟩) (fun _ _ _=>rfl) k1,bb.mono (fun m b hb=> .inr hb) _ _ _ _ m1⟩,⟨k2.eq fun b=>⟨fun hb=> .inl ⟨rfl,hb⟩,fun hb=>hb.elim (fun h=>h.2) fun hb=>by have:=(m3 i b hb).1; omega⟩,?_⟩,fun m b hb => ?_⟩
     . exact gT.eq _ _ _ (fun m b h1 _=>(hs m b h1).symm) m2
     . simp only[bU];rcases hb with hb | hb
       . omega
       . have:=m3 m b hb; omega
   . simp at hl
 | .int k::ks,av::l,v::vs,i,ns,y,h1,hl=>by
   simp only[St.qG]at hl;split at hl
   . rename_i x q hx hf hq;cases hl;obtain⟨hlen,F,m1,m2,m3⟩:=nV h ks l vs i q.1 q.2 h1.2 hq;exact⟨hlen,F,⟨cB h h1.1 hf hx,m1⟩,m2,m3⟩
   . simp at hl
 | .bool::ks,av::l,v::vs,i,ns,y,h1,hl=>by
   simp only[St.qG]at hl;split at hl
   . rename_i x q hx hf hq;cases hl;obtain⟨hlen,F,m1,m2,m3⟩:=nV h ks l vs i q.1 q.2 h1.2 hq;exact⟨hlen,F,⟨cB h h1.1 hf hx,m1⟩,m2,m3⟩
   . simp at hl
 | .str::ks,av::l,v::vs,i,ns,y,h1,hl=>by
   simp only[St.qG]at hl;split at hl
   . rename_i x q hx hf hq;cases hl;obtain⟨hlen,F,m1,m2,m3⟩:=nV h ks l vs i q.1 q.2 h1.2 hq;exact⟨hlen,F,⟨cB h h1.1 hf hx,m1⟩,m2,m3⟩
   . simp at hl
theorem pD{g:Gh}{st:St}(h:Rel cx Z g st a w){Z':Nat->Prop}(Fq:∀ b,Z b->b<w.heap.size->Z' b)(xx:∀ r R,look st.rt r=some R->R.box=true->Z' (g.be r)):∀(ps:List PK) (l:List TV) (vs:List Value) (i:Nat) (ns:List Ln) (x:PT ps),gz Z g st w l vs->st.cy ps l=some (ns,x) ->
 ∃ F:Nat->Nat->Prop,ee Z' w F ps x vs i/\gT g st w F ns (B6 ps vs) i/\∀ m b,F m b->i<=m/\m<i+ns.length
 | [],[],[],i,ns,x,_,hl=>by simp only[St.cy,amd,amK]at hl;obtain⟨rfl,_⟩:=hl;exact⟨fun _ _=>False,trivial,trivial,fun _ _ h=>h.elim⟩
 | [],[],_::_,_,_,_,h1,_=>h1.elim
 | [],_::_,_,_,_,_,_,hl=>by simp[St.cy]at hl
 | .c _ _::_,[],_,_,_,_,_,hl=>by simp[St.cy]at hl
 | .fn _ _::_,[],_,_,_,_,_,hl=>by simp[St.cy]at hl
 | .io _ _::_,[],_,_,_,_,_,hl=>by simp[St.cy]at hl
 | .mv _::_,[],_,_,_,_,_,hl=>by simp[St.cy]at hl
 | .mv _::_,_::_,_,_,_,_,_,hl=>by simp[St.cy]at hl
 | .pt _::_,[],_,_,_,_,_,hl=>by simp[St.cy]at hl
 | .nil::_,[],_,_,_,_,_,hl=>by simp[St.cy]at hl
 | .nil::_,_::_,_,_,_,_,_,hl=>by simp[St.cy]at hl
 | .pt _::_,_::_,_,_,_,_,_,hl=>by simp[St.cy]at hl
 | .c _ _::_,_::_,[],_,_,_,h1,_=>h1.elim
 | .fn _ _::_,_::_,[],_,_,_,h1,_=>h1.elim
 | .io _ _::_,_::_,[],_,_,_,h1,_=>h1.elim
 | .c gg ks::ps,tv::r,v::vs,i,ns,x,h1,hl=>by
   unfold St.cy at hl;cases Mm:tv.dn with
   | none=>rw[Mm]at hl; simp at hl
   | some p =>
     obtain⟨BU,l⟩:=p;rw[Mm]at hl;simp only at hl;cases hb:cw gg BU&&l.all AV.bV with
     | false=>rw[hb]at hl; simp at hl
     | true =>
       rw[hb]at hl;simp only[oT]at hl;simp only[ame]at hb;have hg:=eL hb.1;subst hg;split at hl
       . rename_i z q hz hq;cases hl;obtain⟨us,e1,e2⟩:=iB (lR h1.1 Mm);obtain⟨F,k1,k2,k3⟩:=pD h Fq xx ps r vs i q.1 q.2 h1.2 hq;exact⟨F,⟨⟨us,e1,sL.cq Fq ks z us (dG h ks l us z e2 hb.2 hz)⟩,k1⟩,k2,k3⟩
       . simp at hl
 | .fn f cs::ps,tv::r,v::vs,i,ns,x,h1,hl=>by
   cases tv with
   | fn f' cR =>
     unfold St.cy at hl;cases hb:Nat.beq f f' with
     | false=>rw[hb]at hl; simp at hl
     | true =>
       rw[hb]at hl;simp only[oT]at hl;have hf:=beq_eq hb;subst hf;split at hl
       . rename_i z q hz hq;cases hl;obtain⟨us,e1,e2⟩:=h1.1;obtain⟨F,k1,k2,k3⟩:=pD h Fq xx ps r vs i q.1 q.2 h1.2 hq;exact⟨F,⟨⟨us,e1,nh h Fq (fun _=>xx) cs cR us.toList z e2 hz⟩,k1⟩,k2,k3⟩
       . simp at hl
   | _=>simp[St.cy]at hl
 | .io gg ks::ps,tv::r,v::vs,i,ns,x,h1,hl=>by
   unfold St.cy at hl;cases Mm:tv.dn with
   | none=>rw[Mm]at hl; simp at hl
   | some p =>
     obtain⟨BU,l⟩:=p;rw[Mm]at hl;simp only at hl;cases hb:cw gg BU with
     | false=>rw[hb]at hl; simp at hl
     | true =>
       rw[hb]at hl;simp only[oT]at hl;have hg:=eL hb;subst hg;split at hl
       . rename_i p q hp hq;cases hl;obtain⟨us,e1,e2⟩:=iB (lR h1.1 Mm);obtain⟨hlen,F1,m1,m2,m3⟩:=nV h ks l us i p.1 p.2 e2 hp;obtain⟨F,k1,k2,k3⟩:=pD h Fq xx ps r vs (i+bU ks) q.1 q.2 h1.2 hq;refine⟨fun m b=>F1 m b∨F m b,⟨⟨us,e1,bb.mono (fun m b hb=> .inl hb) _ _ _ _ (bb.cq Fq _ _ _ _ m1)⟩,ee.mono (fun m b hb=> .inr hb) _ _ _ _ k1⟩,?_,fun m b hb => ?_⟩
         . simp only[B6,e1.eq];refine gT.app _ _ _ _ _ (gT.eq _ _ _ (fun m b U9 hm2=>⟨.inl,fun hh=>hh.elim id fun hh=>by have:=(k3 m b hh).1; omega⟩) m2) ?_;rw[hlen];exact gT.eq _ _ _ (fun m b U9 hm2=>⟨.inr,fun hh=>hh.elim (fun hh=>by have:=(m3 m b hh).2; omega) id⟩) k2
         . simp only[amf,hlen];rcases hb with hb | hb
           . have:=m3 m b hb; omega
           . have:=k3 m b hb; omega
       . simp at hl
def kO(w':World)(G:Nat->Nat->Prop):List ((k:K)×T k)->List (K×Value)->Nat->Prop
 | [],[],_=>True
 | y::l,p::r,i=>(y.1=p.1/\dI w' y.1 y.2 p.2 (G i))/\kO w' G l r (i+1)
 | _,_,_=>False
theorem kO.app{w':World}{G:Nat->Nat->Prop}:∀(l l':List ((k:K)×T k)) (r r':List (K×Value)) (i:Nat),kO w' G l r i->kO w' G l' r' (i+l.length)->kO w' G (l++l') (r++r') i
 | [],_,[],_,_,_,h=>h
 | n::l,l',p::r,r',i,h,h'=>⟨h.1,kO.app l l' r r' (i+1) h.2 (by rw[show i+1+l.length=i+(n::l).length by simp; omega]; exact h')⟩
 | [],_,_::_,_,_,h,_=>h.elim
 | _::_,_,[],_,_,h,_=>h.elim
theorem mg:∀(ks:List K) (y:Tl ks),(Ar ks y).length=bU ks
 | [],_=>rfl
 | .sl _ _::ks,x=>amL (· + 1) (mg ks x.2)
 | .int _::ks,x=>mg ks x.2
 | .bool::ks,x=>mg ks x.2
 | .str::ks,x=>mg ks x.2
theorem mE{Z':Nat->Prop}{w':World}{G:Nat->Nat->Prop}:∀(ks:List K) (y:Tl ks) (cs:List Value) (i:Nat),bb true Z' w' G ks y cs i->kO w' G (Ar ks y) (IA ks cs) i
 | [],_,[],_,_=>trivial
 | .sl e bZ::ks,y,v::vs,i,h=>⟨⟨rfl,h.1⟩,mE ks y.2 vs (i+1) h.2⟩
 | .int _::ks,y,v::vs,i,h=>mE ks y.2 vs i h.2
 | .bool::ks,y,v::vs,i,h=>mE ks y.2 vs i h.2
 | .str::ks,y,v::vs,i,h=>mE ks y.2 vs i h.2
 | [],_,_::_,_,h=>h.elim
 | .sl _ _::_,_,[],_,h=>h.elim
 | .int _::_,_,[],_,h=>h.elim
 | .bool::_,_,[],_,h=>h.elim
 | .str::_,_,[],_,h=>h.elim
def DG:List PK->Bool
 | []=>true
 | .mv _::_=>false
 | .pw _::_=>false
 | .c _ _::ps=>DG ps
 | .pt _::ps=>DG ps
 | .nil::ps=>DG ps
 | .fn _ _::ps=>DG ps
 | .io _ _::ps=>DG ps
theorem q9{Z':Nat->Prop}{w':World}{G:Nat->Nat->Prop}:∀(ps:List PK) (y:ux ps) (vs:List Value) (i:Nat),DG ps=true->vs.length=ps.length->wa Z' w' G ps y vs i->kO w' G (lz ps y) (B6 ps vs) i
 | [],_,[],_,_,_,_=>trivial
 | .c _ _::ps,y,v::vs,i,hn,hl,h=>q9 ps y vs i hn (by simpa using hl) h
 | .pt _::ps,y,v::vs,i,hn,hl,h=>q9 ps y vs i hn (by simpa using hl) h
 | .nil::ps,y,v::vs,i,hn,hl,h=>q9 ps y vs i hn (by simpa using hl) h
 | .fn _ _::ps,y,v::vs,i,hn,hl,h=>q9 ps y vs i hn (by simpa using hl) h
 | .mv _::ps,y,v::vs,i,hn,hl,h=>by simp[DG]at hn
 | .pw _::ps,y,v::vs,i,hn,hl,h=>by simp[DG]at hn
 | .pw _::ps,y,[],i,hn,hl,h=>h.elim
 | .io gg ks::ps,y,v::vs,i,hn,hl,⟨⟨cs,e,h⟩,h'⟩=>by simp only[B6,lz,e.eq];exact kO.app _ _ _ _ _ (mE ks y.1 cs i h) (by rw[mg]; exact q9 ps y.2 vs _ hn (by simpa using hl) h')
 | [],_,_::_,_,_,hl,_=>by simp at hl
 | .c _ _::ps,y,[],i,hn,hl,h=>h.elim
 | .pt _::ps,y,[],i,hn,hl,h=>h.elim
 | .nil::ps,y,[],i,hn,hl,h=>h.elim
 | .fn _ _::ps,y,[],i,hn,hl,h=>h.elim
 | .io _ _::ps,y,[],i,hn,hl,h=>h.elim
 | .mv _::ps,y,[],i,hn,hl,h=>h.elim
theorem mW{st:St}:∀(ps:List PK) (l:List TV) (q:List Ln×PT ps),st.cy ps l=some q->DG ps=true
 | [],_,_,_=>rfl
 | .c gg ks::ps,[],q,h=>by simp[St.cy]at h
 | .fn _ _::ps,[],q,h=>by simp[St.cy]at h
 | .io _ _::ps,[],q,h=>by simp[St.cy]at h
 | .mv _::ps,[],q,h=>by simp[St.cy]at h
 | .mv _::ps,_::_,q,h=>by simp[St.cy]at h
 | .pw _::ps,[],q,h=>by simp[St.cy]at h
 | .pw _::ps,_::_,q,h=>by simp[St.cy]at h
 | .pt _::ps,[],q,h=>by simp[St.cy]at h
 | .nil::ps,[],q,h=>by simp[St.cy]at h
 | .nil::ps,_::_,q,h=>by simp[St.cy]at h
 | .pt _::ps,_::_,q,h=>by simp[St.cy]at h
 | .c gg ks::ps,tv::r,q,h=>by
   unfold St.cy at h;split at h
   . rename_i g' l hl;cases hb:cw gg g'&&l.all AV.bV with
     | false=>rw[hb]at h; simp at h
     | true =>
       rw[hb]at h;simp only[oT]at h;split at h
       . rename_i y hx hy; exact mW ps r _ hy
       . simp at h
   . simp at h
 | .fn f cs::ps,tv::r,q,h=>by
   cases tv with
   | fn f' cR =>
     unfold St.cy at h;cases hb:Nat.beq f f' with
     | false=>rw[hb]at h; simp at h
     | true =>
       rw[hb]at h;simp only[oT]at h;split at h
       . rename_i y hx hy; exact mW ps r _ hy
       . simp at h
   | _=>simp[St.cy]at h
 | .io gg ks::ps,tv::r,q,h=>by
   unfold St.cy at h;split at h
   . rename_i g' l hl;cases hb:cw gg g' with
     | false=>rw[hb]at h; simp at h
     | true =>
       rw[hb]at h;simp only[oT]at h;split at h
       . rename_i y hx hy; exact mW ps r _ hy
       . simp at h
   . simp at h
def Mw(g:Gh)(st:St)(w w':World)(F G:Nat->Nat->Prop):List (Nat×Nat×RC)->Nat->Prop
 | [],_=>True
 | (r,j,c)::l,i=>(JQ g st w w' r j c (F i) (G i)/\∀ b,F i b->g.fp r j b)/\Mw g st w w' F G l (i+1)
theorem Da{g:Gh}{st:St}{w':World}{F G:Nat->Nat->Prop} :
 ∀(ns:List Ln) (ys:List ((k:K)×T k)) (kv:List (K×Value)) (i:Nat) (qs:List (Nat×Nat×RC)),st.vq ns ys=some qs->gT g st w F ns kv i->kO w' G ys kv i ->
  (∀ m n,ns[m]? = some n->(∀ q,G (i+m) q->g.fp n.r n.j q->F (i+m) q)/\∀ q,q<w.heap.size->g.fp n.r n.j q->¬ F (i+m) q->w'.heap[q]? = w.heap[q]?) ->
  Mw g st w w' F G qs i/\qs.map (fun q=>(q.1,q.2.1))=ns.map fun n=>(n.r,n.j)
 | [],[],[],i,qs,hb,_,_,_=>by simp only[St.vq,amd]at hb;subst hb;exact⟨trivial,rfl⟩
 | n::ns,y::ys,p::kv,i,qs,hb,hL,hP,hh=>by
   simp only[St.vq]at hb;split at hb
   . rename_i c q hc hq;simp only[amd]at hb;subst hb;obtain⟨k1,k2⟩:=Da ns ys kv (i+1) q hq hL.2 hP.2 fun m n' hm=>by
      have:=hh (m+1) n' (by simpa using hm);rw[show i+(m+1)=i+1+m by omega]at this;exact this
     obtain⟨h1,h2⟩:=hh 0 n rfl;obtain⟨k0,y0⟩:=y;obtain⟨kp,v⟩:=p;obtain⟨⟨e1,e2⟩,_⟩:=hP;simp only at e1 e2;subst e1;exact⟨⟨⟨hL.1.back w' y0 (G i) c hc e2 h1 h2,hL.1.sub⟩,k1⟩,by simp[k2]⟩
   . simp at hb
 | [],[],_::_,_,_,_,h,_,_=>h.elim
 | [],_::_,_,_,_,hb,_,_,_=>by simp[St.vq]at hb
 | _::_,[],_,_,_,hb,_,_,_=>by simp[St.vq]at hb
 | _::_,_::_,[],_,_,_,h,_,_=>h.elim
def mc(g:Gh)(F G:Nat->Nat->Prop):List (Nat×Nat×RC)->Nat->WK
 | [],_=>fun _ _=>none
 | (r,j,c)::l,i=>fun r' j'=>if r=r'/\j=j' then some (c,fun b=>(g.fp r j b/\¬ F i b)∨G i b)else mc g F G l (i+1) r' j'
theorem fC{g:Gh}{F G:Nat->Nat->Prop}:∀(q:List (Nat×Nat×RC)) (i:Nat) (r j:Nat) (p:RC×(Nat->Prop)),mc g F G q i r j=some p->∃ m,q[m]? = some (r,j,p.1)/\p.2=fun b=>(g.fp r j b/\¬ F (i+m) b)∨G (i+m) b
 | [],_,_,_,_,h=>by simp[mc]at h
 | (r0,j0,c)::l,i,r,j,p,h=>by
   simp only[mc]at h;split at h
   . rename_i e;obtain⟨rfl,rfl⟩:=e;simp only[amd]at h;subst h;exact⟨0,rfl,rfl⟩
   . obtain⟨m,h1,h2⟩:=fC l (i+1) r j p h;exact⟨m+1,h1,by rw[h2,show i+1+m=i+(m+1)by omega]⟩
theorem wB{g:Gh}{F G:Nat->Nat->Prop}:∀(q:List (Nat×Nat×RC)) (i m:Nat) (r j:Nat) (c:RC),q[m]? = some (r,j,c)->∃ p,mc g F G q i r j=some p
 | [],_,_,_,_,_,h=>by simp at h
 | (r0,j0,c0)::l,i,m,r,j,c,h=>by
   simp only[mc];split
   . exact⟨_,rfl⟩
   . rename_i cY;cases m with
     | zero=>simp only[amj,amd,amK]at h; exact absurd ⟨h.1,h.2.1⟩ cY
     | succ m=>exact wB l (i+1) m r j c (by simpa using h)
theorem jk{g:Gh}{F G:Nat->Nat->Prop}{st:St}:∀(q:List (Nat×Nat×RC)) (i:Nat),RM st (st.setCells q) (mc g F G q i)
 | [],i=>⟨rfl,fun _=>rfl,fun _ _=>rfl,fun _ _=>rfl⟩
 | (r,j,c)::l,i=>by
   have ih:=jk (g:=g) (F:=F) (G:=G) (st:=st) l (i+1);refine⟨by simp only[St.setCells]; rw[fK]; exact ih.tm,fun r'=>by simp only[St.setCells]; rw[kP]; exact ih.shape r',fun r' j' => ?_,fun r' hr => ?_⟩
   . simp only[St.setCells];rw[dD];simp only[mc];split
     . rw[ih.cell];split
       . simp[Option.map_map];rfl
       . rfl
     . exact ih.cell r' j'
   . simp only[St.setCells];rw[jC];by_cases e:r=r'
     . have:=hr j;simp[mc,e]at this
     . rw[if_neg e];refine ih.rt r' fun j' => ?_
       have:=hr j';simp only[mc]at this;rw[if_neg (fun hh=>e hh.1)]at this;exact this
theorem Mw.get{g:Gh}{st:St}{w w':World}{F G:Nat->Nat->Prop}:∀(q:List (Nat×Nat×RC)) (i m:Nat) (r j:Nat) (c:RC),Mw g st w w' F G q i->q[m]? = some (r,j,c)->JQ g st w w' r j c (F (i+m)) (G (i+m))/\∀ b,F (i+m) b->g.fp r j b
 | [],_,_,_,_,_,_,h=>by simp at h
 | (r0,j0,c0)::l,i,0,r,j,c,h,hq=>by simp only[amj,amd,amK]at hq;obtain⟨rfl,rfl,rfl⟩:=hq;exact h.1
 | (r0,j0,c0)::l,i,m+1,r,j,c,h,hq=>by have:=Mw.get l (i+1) m r j c h.2 (by simpa using hq);rw[show i+1+m=i+(m+1)by omega]at this;exact this
theorem zp:∀(l:List Ln) (r j m:Nat) (n:Ln),L6 r j l=false->l[m]? = some n->¬ (n.r=r/\n.j=j)
 | [],_,_,_,_,_,h=>by simp at h
 | n0::l,r,j,m,n,h,hm=>by
   simp only[L6,anZ]at h;cases m with
   | zero => simp only[amj,amd]at hm;subst hm;rintro⟨rfl,rfl⟩;simp at h
   | succ m=>exact zp l r j m n h.2 (by simpa using hm)
theorem wN:∀(l:List Ln) (m m':Nat) (n n':Ln),noTwo l=true->l[m]? = some n->l[m']? = some n'->n.r=n'.r->n.j=n'.j->m=m'
 | [],_,_,_,_,_,h,_,_,_=>by simp at h
 | n0::l,m,m',n,n',h,h1,h2,e1,e2=>by
   simp only[noTwo,ame,am0]at h;cases m with
   | zero =>
     cases m' with
     | zero=>rfl
     | succ m' => simp only[amj,amd]at h1;subst h1;exact(zp l n0.r n0.j m' n' h.1 (by simpa using h2) ⟨e1.symm,e2.symm⟩).elim
   | succ m =>
     cases m' with
     | zero => simp only[amj,amd]at h2;subst h2;exact(zp l n0.r n0.j m n h.1 (by simpa using h1) ⟨e1,e2⟩).elim
     | succ m'=>exact amL (· + 1) (wN l m m' n n' h.2 (by simpa using h1) (by simpa using h2) e1 e2)
theorem gT.get{g:Gh}{st:St}{F:Nat->Nat->Prop}:∀(l:List Ln) (r:List (K×Value)) (i m:Nat) (n:Ln),gT g st w F l r i->l[m]? = some n->∀ b,F (i+m) b->g.fp n.r n.j b
 | [],_,_,_,_,_,h=>by simp at h
 | n0::l,p::r,i,0,n,h,hm=>by simp only[amj,amd]at hm;subst hm;exact h.1.sub
 | n0::l,p::r,i,m+1,n,h,hm=>by have:=gT.get l r (i+1) m n h.2 (by simpa using hm);rw[show i+1+m=i+(m+1)by omega]at this;exact this
 | _::_,[],_,_,_,h,_=>h.elim
theorem xC{st:St}{dst:Option Nat}{E9:List TV}:∀ {l:List Su} {ay:St},(st.qL dst l E9).run=some ay->∃ s ns x z y tv q,s∈l/\(lG s.rs=false/\s.fresh=true)/\noTwo ns=true/\st.cy s.ps E9=some (ns,x)/\s.vX x=some (z,y)/\jo (tN 0 true s.rs y 0)=some tv/\st.vq ns (lz s.ps z)=some q/\ay=(st.setCells q).Fy dst tv
 | [],ay,h=>by simp[St.qL,Tr.run]at h
 | s::r,ay,h=>by
   have again:(st.qL dst r E9).run=some ay->∃ s' ns x z y tv q,s'∈s::r/\(lG s'.rs=false/\s'.fresh=true)/\noTwo ns=true/\st.cy s'.ps E9=some (ns,x)/\s'.vX x=some (z,y)/\jo (tN 0 true s'.rs y 0)=some tv/\st.vq ns (lz s'.ps z)=some q/\ay=(st.setCells q).Fy dst tv:=fun h=>by obtain⟨s',ns,x,z,y,tv,q,h1,h2⟩:=xC h;exact⟨s',ns,x,z,y,tv,q,amt _ h1,h2⟩
   unfold St.qL at h;cases hq:lG s.rs|| !s.fresh with
   | true=>rw[hq]at h; exact again h
   | false =>
     rw[hq]at h;simp only[oF]at h;simp only[anZ,ao6]at hq;split at h
     . rename_i ns x hx;split at h
       . rename_i f hf;cases hn:noTwo ns with
         | false=>rw[hn]at h; simp[Tr.run]at h
         | true => rw[hn]at h;simp only[oT,Tr.run,anv]at h;obtain⟨⟨z,y⟩,h0,h⟩:=h;obtain⟨tv,h1,h⟩:=Tr.ai h;obtain⟨q,h2,h⟩:=Tr.ai h;simp only[Tr.run,amd]at h;exact⟨s,ns,x,z,y,tv,q,amz ..,hq,hn,hx,by simp[Su.vX,hf,h0],h1,h2,h.symm⟩
       . simp[Tr.run]at h
     . exact again h
theorem Qc(eF:dO P E){g:Gh}{st:St}(h:Rel cx Z g st a w)(hn:cJ st)(dh:Fit cx E a){o:Oper}{dst:Option Nat}(cE:∀ d,dst=some d->kM cx a d)(hd:o.dst=dst){c:Call}{f:Operand}{gid:Nat}{cR:List (Bool×List AV)}{l:List TV}
 (ho:o.op= .call c)(fe:c.callee= .value f)(hg:st.get f=some (.fn gid cR))(hl:st.getAll c.args.toList=some l){ay:St}
 (au:(st.qL dst (E.ga gid) (l++cR.map fun p=>bif p.1 then .agg p.2 else (match p.2 with | [a]=> .v a | _=> .agg p.2))).run=some ay):qt P cx E ay a w o:=by
 have hc:=hn.cons.cons;obtain⟨s,ns,x,z,y,tv,q,hs,⟨Kb,yO⟩,Mg,hx,hy,hw,hq,rfl⟩:=xC au;obtain⟨cv,ef,ec⟩:=bg h hc hg;have eQ:=gz.app (jS h hc _ _ hl) (lZ _ _ ec);have Pd:c.args.toList.map a.eval++cv.toList=(c.args.map a.eval++cv).toList:=by simp
 rw[Pd]at eQ;obtain⟨F,k1,k2,k3⟩:=pD h (Z':=Zb Z g st) (fun _ h _=> .inl h) (fun r R hR hb=> .inr ⟨r,R,hR,hb,rfl⟩) s.ps _ _ 0 ns x eQ hx;have kL:∀ i b,F i b->∃ n,ns[i]? = some n/\g.fp n.r n.j b:=fun i b hb=>by
  have aV:i<ns.length:=by have:=(k3 i b hb).2; omega
  have:=gT.get ns _ 0 i _ k2 (ami aV) b (by rw[amp]; exact hb);exact⟨_,ami aV,this⟩
 have adZ:∀ i j b,F i b->F j b->i=j:=fun i j b h1 h2=>by obtain⟨n1,q1,q2⟩:=kL i b h1;obtain⟨n2,q3,q4⟩:=kL j b h2;obtain⟨e1,e2⟩:=h.cS _ _ _ _ b q2 q4;exact wN ns i j n1 n2 Mg q1 q3 e1 e2
 have Ub:=eF.1 gid s hs w (Zb Z g st) F _ x (z,y) (h.gl.mono (oR _) fun b hb _=>⟨.inl hb,rfl⟩) k1 (YG h) (fun i b hb=>by obtain⟨n,_,q2⟩:=kL i b hb; exact⟨(h.fp _ _ _ q2).1,ZI h q2⟩) adZ hy;have oV:¬ tv.iK:=nv hw;have vR:cJ ((st.setCells q).Fy dst tv):=fun t ko ht=>by
  cases dst with
  | none => have e:(st.setCells q).tm=st.tm:=(jk (g:=g) (F:=F) (G:=F) q 0).tm;exact hn t ko (by rw[<- e]; exact ht)
  | some d =>
    have e:(st.setCells q).tm=st.tm:=(jk (g:=g) (F:=F) (G:=F) q 0).tm;simp only[St.Fy]at ht;rw[cC]at ht;split at ht
    . simp only[amd]at ht; subst ht; exact oV
    . exact hn t ko (by rw[<- e]; exact ht)
 refine⟨vR,fun next Q hk => ?_⟩;unfold Oper.wp;rw[qm ho fe ef];refine uR Ub ?_;rintro v w' ⟨Z',H,vs,rfl,ha,hio,hr⟩;have hlen:(c.args.map a.eval++cv).toList.length=s.ps.length:=iz _ _ _ _ k1;have Ur:=q9 s.ps z _ 0 (mW s.ps _ _ hx) hlen hio;have aaT:∀ i b,H (2 * i) b->(∃ m,F m b)∨w.heap.size<=b:=fun i b hb=>(ha.fp _ b hb).2.2
 have qQ:∀(m:Nat) (n:Ln),ns[m]? = some n->∀ b i,F i b->g.fp n.r n.j b->i=m:=fun m n hm b i hi hb=>by obtain⟨n1,q1,q2⟩:=kL i b hi;obtain⟨e1,e2⟩:=h.cS _ _ _ _ b q2 hb;exact wN ns i m n1 n Mg q1 hm e1 e2
 rw[yO]at hr;obtain⟨hQ,Us⟩:=Da (w:=w) (w':=w') (F:=F) (G:=fun i=>H (2 * i)) ns _ _ 0 q hq k2 Ur fun m n hm=>by
  rw[amp];refine⟨fun b hb hfb => ?_,fun b aV hfb hnF=>ha.block b aV fun i hi => ?_⟩
  . rcases aaT m b hb with ⟨i,hi⟩ | nL
    . have:=qQ m n hm b i hi hfb;rw[<- this]; exact hi
    . have:=(h.fp _ _ _ hfb).1;omega
  . have:=qQ m n hm b i hi hfb;exact hnF (this ▸ hi)
 have iw:∀(m r j:Nat) (c':RC),q[m]? = some (r,j,c')->∃ n:Ln,ns[m]? = some n/\n.r=r/\n.j=j:=fun m r j c' hm=>by
  have h1:(q.map (fun q=>(q.1,q.2.1)))[m]? = some (r,j):=by rw[amT,hm]; rfl
  rw[Us,amT]at h1;cases hm2:ns[m]? with
  | none=>rw[hm2]at h1; simp at h1
  | some n => rw[hm2]at h1;simp only[amE,amd,amK]at h1;exact⟨n,rfl,h1.1,h1.2⟩
 have Ut:∀(m:Nat) (n:Ln),ns[m]? = some n->∃ p,mc g F (fun i=>H (2 * i)) q 0 n.r n.j=some p:=fun m n hm=>by
  have h1:(ns.map fun n=>(n.r,n.j))[m]? = some (n.r,n.j):=by rw[amT,hm]; rfl
  rw[<- Us,amT]at h1;cases hm2:q[m]? with
  | none=>rw[hm2]at h1; simp at h1
  | some c' => obtain⟨r1,j1,c1⟩:=c';rw[hm2]at h1;simp only[amE,amd,amK]at h1;obtain⟨rfl,rfl⟩:=h1;exact wB q 0 m _ _ c1 hm2
 have Uu:=jk (g:=g) (F:=F) (G:=fun i=>H (2 * i)) (st:=st) q 0
 obtain⟨hR,hM⟩:=h.uZ Uu ha.os ha.tape ha.output ha.size
  (fun r j p hp=>by obtain⟨m,e1,e2⟩:=fC q 0 r j p hp;obtain⟨⟨c0,e,ks,xs,rU,f1,f2,f3,f4,f5,f6,f7⟩,_⟩:=Mw.get q 0 m r j p.1 hQ e1;exact⟨c0,f1,f2,f3,e,ks,xs,rU,f4,f5,f6,by rw[e2]; exact f7⟩)
  (fun r j p hp b hb=>by
    obtain⟨m,e1,e2⟩:=fC q 0 r j p hp;rw[e2]at hb;rcases hb with ⟨hb,_⟩ | hb
    . obtain⟨t1,t2,t3,_⟩:=h.fp r j b hb;exact⟨amC t1 ha.size,.inl ⟨r,j,p,hp,hb⟩,t3⟩
    . obtain⟨t1,t2,t3⟩:=ha.fp _ b hb;refine⟨t1,?_,fun hz=>t2 (ha.z b (.inl hz))⟩;rcases t3 with ⟨i,hi⟩ | nL
      . obtain⟨n,q1,q2⟩:=kL i b hi;obtain⟨p0,BV⟩:=Ut i n q1;exact .inl ⟨n.r,n.j,p0,BV,q2⟩
      . exact .inr nL)
  (fun r j p r' j' p' b hp hp' hb cz=>by
    obtain⟨m,e1,e2⟩:=fC q 0 r j p hp;obtain⟨m',e1',e2'⟩:=fC q 0 r' j' p' hp';rw[e2]at hb;rw[e2']at cz;rw[amp]at hb cz;have cross:∀ m r j c1 i,q[m]? = some (r,j,c1)->g.fp r j b->¬ F m b->H (2 * i) b->False:=fun m r j c1 i e1 k1 k2 k3=>by
     obtain⟨n,t1,t2,t3⟩:=iw m r j c1 e1;rcases aaT i b k3 with ⟨i',vZ⟩ | nL
     . have:=qQ m n t1 b i' vZ (by rw[t2,t3]; exact k1);exact k2 (this ▸ vZ)
     . have:=(h.fp _ _ _ k1).1; omega
    rcases hb with ⟨hb,l6⟩ | hb
    . rcases cz with ⟨cz,_⟩ | cz
      . exact h.cS _ _ _ _ b hb cz
      . exact(cross m r j _ m' e1 hb l6 cz).elim
    . rcases cz with ⟨cz,alC⟩ | cz
      . exact(cross m' r' j' _ m e1' cz alC hb).elim
      . have:=ha.cS _ _ b hb cz;have hmm:m=m':=by omega
        subst hmm;rw[e1]at e1';simp only[amd,amK]at e1';exact⟨e1'.1,e1'.2.1⟩)
  (fun b aV BW=>ha.block b aV fun i hi=>by obtain⟨n,q1,q2⟩:=kL i b hi;obtain⟨p0,BV⟩:=Ut i n q1;exact BW _ _ p0 BV q2)
 rw[hd];cases dst with
 | none=>exact hk _ _ _ _ hR dh
 | some d=>exact hk _ _ _ _ (hR.ot (cE d rfl) (gq (l5 _ _ _ _ hr (fun hh=>by simp at hh) (fun _=>Kb)) hw)) (dh.put _ _)
end
section
variable{P:Program}{cx:Cx P}{Z Z2:Nat->Prop}{g:Gh}{st ay:St}{a:Act}{w w':World}{E:En}
def Gh.Hf(g:Gh)(r:Nat)(cv:Nat->Value)(fp:Nat->Nat->Prop):Gh:=⟨g.be,fun r' j=>if r'=r then cv j else g.cv r' j,fun r' j b=>if r'=r then fp j b else g.fp r' j b⟩
theorem Rel.zc(h:Rel cx Z g st a w){r:Nat}{R:Rt}(hR:look st.rt r=some R)(hb:R.box=true):g.be r<w.heap.size:=by obtain⟨_,_,_,_,cs,el,fr,b5,_⟩:=h.box r R hR hb;exact(amG.1 b5).1
theorem Rel.ahl(h:Rel cx Z g st a w){r:Nat}{R R':Rt}{cv:Nat->Value}{fp:Nat->Nat->Prop}(hR:look st.rt r=some R)(hb:R.box=true)(cz:R'.box=true)(hlen:R'.cells.length=R.cells.length)(Fm:ay.tm=st.tm)
 (Fl:∀ r',look ay.rt r'=if r'=r then some R' else look st.rt r')(h1:w'.os=w.os)(h2:w'.tape=w.tape)(h3:w'.output=w.output)(dh:w.heap.size<=w'.heap.size)
 (Um:∀(j:Nat) (c c':RC),R.cells[j]? = some c->R'.cells[j]? = some c'->c.s<c'.s/\c.m<c'.m)
 (hz:∀ b,Z b->Z2 b)(Mf:∀ b,Z2 b->b<w'.heap.size/\(Z b∨w.heap.size<=b))
 (E8:∃ vs e fr,w'.heap[g.be r]? = some (.cells vs e fr)/\(∀ q,q<vs.size->¬ (fr.1<=q/\q<fr.2))/\vs.size=R'.cells.length/\∀ j,j<vs.size->vs[j]? = some (cv j))
 (bD:∀(j:Nat) (c':RC),R'.cells[j]? = some c'->match c'.v with | RV.own k x=>dI w' k x (cv j) (fp j) | .av (.d k x)=>RO Z2 w' k x (cv j) | .av _=>False)
 (hF:∀ j b,fp j b->b<w'.heap.size/\((∃ j0,g.fp r j0 b)∨w.heap.size<=b)/\¬ Z2 b/\b≠g.be r/\∃(c':RC) (k:K) (x:T k),R'.cells[j]? = some c'/\c'.v=RV.own k x)
 (hd:∀ j j' b,fp j b->fp j' b->j=j')
 (lD:∀ b,b<w.heap.size->b≠g.be r->(∀ j,¬ g.fp r j b)->w'.heap[b]? = w.heap[b]?):Rel cx Z2 (g.Hf r cv fp) ay a w':=by
 have vT:=h.zc hR hb;obtain⟨c1,c2,c3,c4,_⟩:=h.box r R hR hb;have hzn:∀ b,b<w.heap.size->Z2 b->Z b:=fun b aV hh=>(Mf b hh).2.elim id fun hh=>by omega
 have hzw:∀ b,Z b->b<w.heap.size->w'.heap[b]? = w.heap[b]? := fun b hb aV=>lD b aV (fun e=>c2 (e ▸ hb)) fun j hh=>(h.fp _ _ _ hh).2.2.1 hb
 have H4:∀ r' j b,r'≠r->g.fp r' j b->w'.heap[b]? = w.heap[b]? := fun r' j b hn cz=>lD b (h.fp r' j b cz).1 (fun e=>c3 r' j (e ▸ cz)) fun j0 hh=>hn (h.cS _ _ _ _ _ cz hh).1
 have Fe:∀ r' j,ay.cell r' j=if r'=r then R'.cells[j]? else st.cell r' j:=fun r' j=>by simp only[St.cell,Fl];by_cases e:r'=r <;> simp[e]
 have hcr:∀ j,st.cell r j=R.cells[j]? := fun j=>by simp only[St.cell,hR]
 have k:oe Z Z2 w w' g (g.Hf r cv fp) st ay:=by
  refine { size:=dh,z:=fun b hb aV=>⟨hz b hb,hzw b hb aV⟩,root:=fun r' R0 H5 => ?_,cell:=fun r' j c hc => ?_,own:=fun r' j b hb=>(h.fp r' j b hb).1,block:=(gk h (ay:=st) (w':=w) rfl rfl).block }
  . rw[Fl];by_cases e:r'=r
    . subst e;rw[if_pos rfl];rw[hR]at H5;cases H5;exact⟨R',rfl,cz.trans hb.symm,fun _=>rfl⟩
    . rw[if_neg e];exact⟨R0,H5,rfl,fun _=>rfl⟩
  . rw[Fe];by_cases e:r'=r
    . subst e;rw[if_pos rfl];rw[hcr]at hc;have aV:j<R'.cells.length:=by rw[hlen]; exact(amM.1 hc).1
      obtain⟨v1,v2⟩:=Um j c _ hc (ami aV);exact⟨_,ami aV,by omega,by omega,fun e=>absurd e (by omega),fun e=>absurd e (by omega),fun e=>absurd e (by omega)⟩
    . rw[if_neg e];exact⟨c,hc,oR _,oR _,fun _=>by simp only[Gh.Hf]; rw[if_neg e],fun _ e ks xs hh=>⟨xs,hh,rfl⟩,fun _ _=>⟨rfl,fun b hb _=>⟨by simp only[Gh.Hf]; rw[if_neg e]; exact hb,H4 r' j b e hb⟩⟩⟩
 have qP:∀ r' j b,(g.Hf r cv fp).fp r' j b->(r'=r/\fp j b)∨(r'≠r/\g.fp r' j b):=fun r' j b hh=>by
  have Va:(if r'=r then fp j b else g.fp r' j b):=hh;by_cases e:r'=r
  . rw[if_pos e]at Va; exact .inl ⟨e,Va⟩
  . rw[if_neg e]at Va; exact .inr ⟨e,Va⟩
 have U2:∀ r' R0,look st.rt r'=some R0->R0.box=true->∀ r1 j1,¬ (g.Hf r cv fp).fp r1 j1 (g.be r'):=fun r' R0 H5 hx r1 j1 hh=>by
  obtain⟨d1,d2,d3,d4,_⟩:=h.box r' R0 H5 hx;have aV:=h.zc H5 hx;rcases qP _ _ _ hh with ⟨_,hh⟩ | ⟨_,hh⟩
  . obtain⟨f1,f2,f3,f4,_⟩:=hF _ _ hh;rcases f2 with ⟨j0,f2⟩ | f2
    . exact d3 _ _ f2
    . omega
  . exact d3 _ _ hh
 refine { os:=h1.trans h.os,tape:=h2.trans h.tape,output:=h3.trans h.output,size:=aml h.size dh,block := ?_,cq:=fun b hb=>⟨(Mf b hb).1,(Mf b hb).2.elim (fun hh=>(h.cq b hh).2) fun hh=> .inr (aml h.size hh)⟩,z0:=fun b hb aV=>hz b (h.z0 b hb aV),fp := ?_,cS := ?_,box := ?_,cell := ?_,tm := ?_,defers:=h.defers,nx:=h.nx }
 . intro b aV hf;refine(lD b (amC aV h.size) (fun e => ?_) fun j hh => ?_).trans (h.block b aV hf)
   . rcases c1 with c1 | c1
     . exact hf (e ▸ c1)
     . omega
   . rcases(h.fp _ _ _ hh).2.1 with h4 | h4
     . exact hf h4
     . omega
 . intro r' j b hh;rcases qP _ _ _ hh with ⟨e,hk⟩ | ⟨e,hh⟩
   . subst e;obtain⟨f1,f2,f3,f4,c',kk,x,f5,f6⟩:=hF _ _ hk;refine⟨f1,?_,f3,c',kk,x,by rw[Fe,if_pos rfl]; exact f5,f6⟩;rcases f2 with ⟨j0,f2⟩ | f2
     . exact(h.fp _ _ _ f2).2.1
     . exact .inr (aml h.size f2)
   . obtain⟨k1,k2,k3,c,kk,x,k4,k5⟩:=h.fp _ _ _ hh;exact⟨amC k1 dh,k2,fun hh=>k3 (hzn b k1 hh),c,kk,x,by rw[Fe,if_neg e]; exact k4,k5⟩
 . intro r1 j1 r2 j2 b yP l6;rcases qP _ _ _ yP with ⟨e1,k1⟩ | ⟨e1,k1⟩
   . rcases qP _ _ _ l6 with ⟨e2,k2⟩ | ⟨e2,k2⟩
     . exact⟨e1.trans e2.symm,hd _ _ b k1 k2⟩
     . exfalso;rcases(hF _ _ k1).2.1 with ⟨j0,hh⟩ | hh
       . exact e2 (h.cS _ _ _ _ _ k2 hh).1
       . have:=(h.fp _ _ _ k2).1; omega
   . rcases qP _ _ _ l6 with ⟨e2,k2⟩ | ⟨e2,k2⟩
     . exfalso;rcases(hF _ _ k2).2.1 with ⟨j0,hh⟩ | hh
       . exact e1 (h.cS _ _ _ _ _ k1 hh).1
       . have:=(h.fp _ _ _ k1).1; omega
     . exact h.cS _ _ _ _ _ k1 k2
 . intro r' R0 H5 hx;rw[Fl]at H5;by_cases e:r'=r
   . subst e;rw[if_pos rfl]at H5;cases H5;obtain⟨vs,el,fr,w1,w2,w3,w4⟩:=E8;refine⟨c1,fun hh=>c2 (hzn _ vT hh),U2 _ R hR hb,fun r1 R1 U7 hx1 he => ?_,vs,el,fr,w1,w2,w3,fun j hj=>by rw[w4 j hj]; simp[Gh.Hf]⟩;rw[Fl]at U7;by_cases e1:r1=r'
     . exact e1
     . rw[if_neg e1]at U7;exact c4 r1 R1 U7 hx1 he
   . rw[if_neg e]at H5;obtain⟨d1,d2,d3,d4,cs,el,fr,b5,b6,b7,b8⟩:=h.box r' R0 H5 hx;have aV:=h.zc H5 hx;refine⟨d1,fun hh=>d2 (hzn _ aV hh),U2 _ R0 H5 hx,fun r1 R1 U7 hx1 he => ?_,cs,el,fr,?_,b6,b7,fun j hj=>by rw[b8 j hj]; simp only[Gh.Hf]; rw[if_neg e]⟩
     . rw[Fl]at U7;by_cases e1:r1=r
       . subst e1;exact d4 r1 R hR hb he
       . rw[if_neg e1]at U7;exact d4 r1 R1 U7 hx1 he
     . show w'.heap[g.be r']? = _;rw[lD _ aV (fun he=>e (c4 r' R0 H5 hx he)) fun j hh=>d3 _ _ hh];exact b5
 . intro r' j c hc;rw[Fe]at hc;by_cases e:r'=r
   . subst e;rw[if_pos rfl]at hc;have h5:=bD j c hc;have e1:(g.Hf r' cv fp).cv r' j=cv j:=by simp[Gh.Hf]
     have e2:(g.Hf r' cv fp).fp r' j=fp j:=by funext b; simp[Gh.Hf]
     rw[e1,e2];cases hv:c.v with
     | own kk x=>rw[hv]at h5; exact h5
     | av av0 => rw[hv]at h5;cases av0 <;> first | exact h5 | exact h5.elim
   . rw[if_neg e]at hc;have e1:(g.Hf r cv fp).cv r' j=g.cv r' j:=by simp[Gh.Hf,e]
     have e2:(g.Hf r cv fp).fp r' j=g.fp r' j:=by funext b; simp[Gh.Hf,e]
     rw[e1,e2];exact lh.cI k _ _ _ _ (h.cell r' j c hc) (fun _ h=>h) (fun b hb _=>H4 r' j b e hb)
 . intro t tv ht;rw[Fm]at ht;exact⟨(h.tm t tv ht).1,bW.cI k _ _ (h.tm t tv ht).2⟩
end
section
variable{P:Program}{cx:Cx P}{Z:Nat->Prop}{g:Gh}{st:St}{a:Act}{w:World}{E:En}
theorem Cv{cs:List (Bool×K)}{ps:List PK}{tv:TV}{r:List TV}{p:Option (Nat×List RC)×PT (.pw cs::ps)}(h:st.cG (.pw cs::ps) (tv::r)=some p) :
 ∃ q l0 z y,tv= .v (.ptr q 0)/\look st.rt q=some ⟨true,l0⟩/\l0.length<=200000/\eU st cs l0=some z/\st.cG ps r=some (none,y)/\p.1=some (q,l0)/\p.2=(z,y):=by
 cases tv with
 | v av =>
   cases av with
   | ptr q j =>
     cases j with
     | zero =>
       simp only[St.cG]at h;split at h
       . rename_i l0 hl;cases hb:Nat.ble l0.length 200000 with
         | false=>rw[hb]at h; simp at h
         | true =>
           rw[hb]at h;simp only[oT]at h;split at h
           . rename_i z y hz hy;cases h;exact⟨q,l0,z,y,rfl,hl,amA hb,hz,hy,rfl,rfl⟩
           . simp at h
       . simp at h
     | succ j=>simp[St.cG]at h
   | _=>simp[St.cG]at h
 | _=>simp[St.cG]at h
theorem qb(h:Rel cx Z g st a w):∀(ps:List PK) (l:List TV) (vs:List Value) (x:PT ps) (F:Nat->Nat->Prop) (i:Nat),gz Z g st w l vs->st.cG ps l=some (none,x)->ee Z w F ps x vs i
 | [],[],[],_,_,_,_,_=>trivial
 | [],[],_::_,_,_,_,h1,_=>h1.elim
 | [],_::_,_,_,_,_,_,h2=>by simp[St.cG]at h2
 | .c gg ks::ps,[],_,x,F,i,h1,h2=>by simp[St.cG]at h2
 | .c gg ks::ps,tv::r,[],x,F,i,h1,h2=>h1.elim
 | .c gg ks::ps,tv::r,v::vs,x,F,i,h1,h2=>by
   unfold St.cG at h2;cases hl:tv.dn with
   | none=>rw[hl]at h2; simp at h2
   | some p =>
     obtain⟨BU,l⟩:=p;rw[hl]at h2;simp only at h2;cases hb:cw gg BU&&l.all AV.bV with
     | false=>rw[hb]at h2; simp at h2
     | true =>
       rw[hb]at h2;simp only[oT]at h2;simp only[ame]at hb;have hg:=eL hb.1;subst hg;split at h2
       . rename_i z q hz hq;obtain⟨q1,q2⟩:=q;cases h2;obtain⟨us,e1,e2⟩:=iB (lR h1.1 hl);exact⟨⟨us,e1,dG h ks l us z e2 hb.2 hz⟩,qb h ps r vs _ F i h1.2 hq⟩
       . simp at h2
 | .fn f cs::ps,[],_,x,F,i,h1,h2=>by simp[St.cG]at h2
 | .fn f cs::ps,tv::r,[],x,F,i,h1,h2=>h1.elim
 | .fn f cs::ps,tv::r,v::vs,x,F,i,h1,h2=>by
   cases tv with
   | fn f' cR =>
     unfold St.cG at h2;cases hb:Nat.beq f f' with
     | false=>rw[hb]at h2; simp at h2
     | true =>
       rw[hb]at h2;simp only[oT]at h2;have hf:=beq_eq hb;subst hf;split at h2
       . rename_i z q hz hq;obtain⟨q1,q2⟩:=q;cases h2;obtain⟨us,e1,e2⟩:=h1.1;exact⟨⟨us,e1,nh h (fun _ h _=>h) (fun hh=>by simp at hh) cs cR us.toList z e2 hz⟩,qb h ps r vs _ F i h1.2 hq⟩
       . simp at h2
   | _=>simp[St.cG]at h2
 | .pw cs::ps,[],_,x,F,i,h1,h2=>by simp[St.cG]at h2
 | .pw cs::ps,tv::r,_,x,F,i,h1,h2=>by obtain⟨q,l0,z,y,_,_,_,_,_,hh,_⟩:=Cv h2;cases hh
 | .pt _::_,_,_,x,F,i,h1,h2=>by simp[St.cG]at h2
 | .nil::_,_,_,x,F,i,h1,h2=>by simp[St.cG]at h2
 | .io _ _::_,_,_,x,F,i,h1,h2=>by simp[St.cG]at h2
 | .mv _::_,_,_,x,F,i,h1,h2=>by simp[St.cG]at h2
theorem abM(h:Rel cx Z g st a w){q:Nat}{cs:List (Bool×K)}{l0:List RC}{z:BT cs}(e2:look st.rt q=some ⟨true,l0⟩)(e4:eU st cs l0=some z):Ww Z w (YO g st ((q,200000)::dX q cs 0)) cs z (.pointer (some ⟨g.be q,0,none⟩)) 0:=by
 obtain⟨b1,b2,b3,b4,us,el,fr,b5,b6,b7,b8⟩:=h.box q _ e2 rfl;have bD:∀ j c,l0[j]? = some c->st.cell q j=some c:=fun j c hj=>by simp only[St.cell,e2]; exact hj
 have ahQ:=nk h (r:=q) ((q,200000)::dX q cs 0) cs l0 z 0 us.toList [(q,200000)] [] (fun j c hj=>by rw[amp]; exact bD j c hj) (by rw[amP]; exact b7) (fun j u hj=>by
  rw[amp];have BL:j<us.size:=by have:=(amM.1 hj).1;simpa using this
  have:=b8 j BL;rw[<- amh,hj]at this;exact am1 this) e4 (by simp)
 exact⟨g.be q,us,el,fr,rfl,b5,b6,⟨_,rfl,.inr ⟨rfl,⟨_,e2,rfl⟩,rfl⟩⟩,ahQ⟩
theorem qn(h:Rel cx Z g st a w):∀(ps:List PK) (l:List TV) (vs:List Value) (x:PT ps) (q:Nat) (l0:List RC),gz Z g st w l vs->st.cG ps l=some (some (q,l0),x) ->
 ∃(cs:List (Bool×K)) (z0:BT cs),look st.rt q=some ⟨true,l0⟩/\l0.length<=200000/\eU st cs l0=some z0/\ee Z w (YO g st ((q,200000)::dX q cs 0)) ps x vs 0 /\
  ∀(Z':Nat->Prop) (w':World) (G:Nat->Nat->Prop) (y:ux ps),wa Z' w' G ps y vs 0->∃ z:BT cs,jB ps y=cf cs z/\Ww Z' w' G cs z (.pointer (some ⟨g.be q,0,none⟩)) 0
 | [],[],_,_,_,_,_,h2=>by simp only[St.cG]at h2; cases h2
 | [],_::_,_,_,_,_,_,h2=>by simp[St.cG]at h2
 | .c gg ks::ps,[],_,x,q,l0,h1,h2=>by simp[St.cG]at h2
 | .c gg ks::ps,tv::r,[],x,q,l0,h1,h2=>h1.elim
 | .c gg ks::ps,tv::r,v::vs,x,q,l0,h1,h2=>by
   unfold St.cG at h2;cases hl:tv.dn with
   | none=>rw[hl]at h2; simp at h2
   | some p =>
     obtain⟨BU,l⟩:=p;rw[hl]at h2;simp only at h2;cases hb:cw gg BU&&l.all AV.bV with
     | false=>rw[hb]at h2; simp at h2
     | true =>
       rw[hb]at h2;simp only[oT]at h2;simp only[ame]at hb;have hg:=eL hb.1;subst hg;split at h2
       . rename_i z p hz hq;obtain⟨q1,q2⟩:=p;cases h2;obtain⟨us,e1,e2⟩:=iB (lR h1.1 hl);obtain⟨cs,z0,k1,k2,k3,k4,k5⟩:=qn h ps r vs _ q l0 h1.2 hq;exact⟨cs,z0,k1,k2,k3,⟨⟨us,e1,dG h ks l us z e2 hb.2 hz⟩,k4⟩,fun Z' w' G y hy=>k5 Z' w' G y hy⟩
       . simp at h2
 | .fn f cs::ps,[],_,x,q,l0,h1,h2=>by simp[St.cG]at h2
 | .fn f cs::ps,tv::r,[],x,q,l0,h1,h2=>h1.elim
 | .fn f cs::ps,tv::r,v::vs,x,q,l0,h1,h2=>by
   cases tv with
   | fn f' cR =>
     unfold St.cG at h2;cases hb:Nat.beq f f' with
     | false=>rw[hb]at h2; simp at h2
     | true =>
       rw[hb]at h2;simp only[oT]at h2;have hf:=beq_eq hb;subst hf;split at h2
       . rename_i z p hz hq;obtain⟨q1,q2⟩:=p;cases h2;obtain⟨us,e1,e2⟩:=h1.1;obtain⟨fT,z0,k1,k2,k3,k4,k5⟩:=qn h ps r vs _ q l0 h1.2 hq;exact⟨fT,z0,k1,k2,k3,⟨⟨us,e1,nh h (fun _ h _=>h) (fun hh=>by simp at hh) cs cR us.toList z e2 hz⟩,k4⟩,fun Z' w' G y hy=>k5 Z' w' G y hy⟩
       . simp at h2
   | _=>simp[St.cG]at h2
 | .pw cs::ps,[],_,x,q,l0,h1,h2=>by simp[St.cG]at h2
 | .pw cs::ps,tv::r,[],x,q,l0,h1,h2=>h1.elim
 | .pw cs::ps,tv::r,v::vs,x,q,l0,h1,h2=>by obtain⟨q',l0',z,y,e1,e2,e3,e4,e5,e6,e7⟩:=Cv h2;simp only[amd,amK]at e6;obtain⟨rfl,rfl⟩:=e6;have e7:x=(z,y):=e7;subst e7;subst e1;obtain⟨R,r1,r2,rfl⟩:=h1.1;exact⟨cs,z,e2,e3,e4,⟨abM h e2 e4,qb h ps r vs y _ _ h1.2 e5⟩,fun Z' w' G y hy=>⟨y.1,rfl,hy.1⟩⟩
 | .pt _::_,_,_,x,q,l0,h1,h2=>by simp[St.cG]at h2
 | .nil::_,_,_,x,q,l0,h1,h2=>by simp[St.cG]at h2
 | .io _ _::_,_,_,x,q,l0,h1,h2=>by simp[St.cG]at h2
 | .mv _::_,_,_,x,q,l0,h1,h2=>by simp[St.cG]at h2
def IP(st:St)(q:Nat)(l0:List RC)(ps:List PK)(z:ux ps):St:=⟨st.tm,(q,⟨true,kt l0 (jB ps z)⟩)::st.rt⟩
theorem xO{st:St}{dst:Option Nat}{E9:List TV}:∀ {l:List Su} {ay:St},(st.xi dst l E9).run=some ay->∃ s q l0 x z y,s∈l/\st.cG s.ps E9=some (some (q,l0),x)/\s.vX x=some (z,y)/\((dst=none/\ay=IP st q l0 s.ps z)∨∃ d p,dst=some d/\e9 d s y=some p/\((s.fresh&&lG s.rs)=true->(IP st q l0 s.ps z).free d=true)/\ay=(IP st q l0 s.ps z).a8 d p)
 | [],ay,h=>by simp[St.xi,Tr.run]at h
 | s::r,ay,h=>by
   unfold St.xi at h;split at h
   . rename_i q l0 x hx;split at h
     . rename_i f hf;simp only[Tr.run,anv]at h;obtain⟨⟨z,y⟩,h0,h⟩:=h;refine⟨s,q,l0,x,z,y,amz ..,hx,by simp[Su.vX,hf,h0],?_⟩;cases dst with
       | none=>simp only[Tr.run,amd]at h; exact .inl ⟨rfl,h.symm⟩
       | some d =>
         obtain⟨p,h1,h⟩:=Tr.ai h;refine .inr ⟨d,p,rfl,h1,?_⟩;cases hq: !(s.fresh&&lG s.rs)||St.free ⟨st.tm,(q,⟨true,kt l0 (jB s.ps z)⟩)::st.rt⟩ d with
         | false=>rw[hq]at h; simp[Tr.run]at h
         | true => rw[hq]at h;simp only[oT,Tr.run,amd]at h;refine⟨fun hh => ?_,h.symm⟩;rw[hh]at hq;exact hq
     . simp[Tr.run]at h
   . obtain⟨s',q,l0,x,z,y,h1,h2⟩:=xO h;exact⟨s',q,l0,x,z,y,amt _ h1,h2⟩
theorem uD(r:Nat):∀(cs:List (Bool×K)) (j m:Nat) (nm:Nat×Nat),(dX r cs j)[m]? = some nm->nm=(r,j+m)/\m<cs.length
 | [],_,_,_,h=>by simp[dX]at h
 | _::cs,j,0,nm,h=>by simp only[dX,amj,amd]at h;exact⟨h.symm,by simp⟩
 | _::cs,j,m+1,nm,h=>by obtain⟨h1,h2⟩:=uD r cs (j+1) m nm (by simpa[dX]using h);exact⟨by rw[h1,show j+1+m=j+(m+1)by omega],by simpa using h2⟩
theorem XO(h:Rel cx Z g st a w){q:Nat}{cs:List (Bool×K)}{l0:List RC}(e1:look st.rt q=some ⟨true,l0⟩)(e2:l0.length<=200000)(Ij:l0.length=cs.length){F:Nat->Nat->Prop}(hF:YO g st ((q,200000)::dX q cs 0)=F) :
 (∀ i b,F i b->(i=0/\b=g.be q)∨(∃ j,i=1+j/\j<l0.length/\g.fp q j b))/\∀ i j b,F i b->F j b->i=j:=by
 obtain⟨b1,b2,b3,b4,_⟩:=h.box q _ e1 rfl;have kL:∀ i b,F i b->(i=0/\b=g.be q)∨(∃ j,i=1+j/\j<l0.length/\g.fp q j b):=fun i b hb=>by
  rw[<- hF]at hb;obtain⟨nm,n1,n2⟩:=hb;cases i with
  | zero =>
    simp only[amj,amd]at n1;subst n1;rcases n2 with n2 | ⟨_,_,n2⟩
    . exfalso;obtain⟨_,_,_,c0,_,_,n3,_⟩:=h.fp _ _ _ n2;simp only[St.cell,e1]at n3;have:=(amM.1 n3).1;omega
    . exact .inl ⟨rfl,n2⟩
  | succ j =>
    rw[am3]at n1;obtain⟨rfl,n3⟩:=uD q cs 0 j nm n1;rw[amp]at n2;rcases n2 with n2 | ⟨n4,_,_⟩
    . exact .inr ⟨j,by omega,by omega,n2⟩
    . simp only at n4; omega
 refine⟨kL,fun i j b h1 h2 => ?_⟩;rcases kL i b h1 with ⟨i1,i2⟩ | ⟨i1,i2,_,i3⟩
 . rcases kL j b h2 with ⟨j1,j2⟩ | ⟨j1,j2,_,j3⟩
   . omega
   . exact(b3 _ _ (i2 ▸ j3)).elim
 . rcases kL j b h2 with ⟨j1,j2⟩ | ⟨j1,j2,_,j3⟩
   . exact(b3 _ _ (j2 ▸ i3)).elim
   . have:=(h.cS _ _ _ _ b i3 j3).2;omega
theorem CE:∀(l r:List RC),l.length=r.length->(kt l r).length=l.length
 | [],[],_=>rfl
 | _::l,_::r,h=>amL (· + 1) (CE l r (by simpa using h))
 | [],_::_,h=>by simp at h
 | _::_,[],h=>by simp at h
theorem qU:∀(l r:List RC) (j:Nat) (c':RC),(kt l r)[j]? = some c'->∃ c d,l[j]? = some c/\r[j]? = some d/\c'=⟨c.s+1,c.m+1,d.v⟩
 | [],_,_,_,h=>by simp[kt]at h
 | _::_,[],_,_,h=>by simp[kt]at h
 | c::l,d::r,0,c',h=>by simp only[kt,amj,amd]at h;exact⟨c,d,rfl,rfl,h.symm⟩
 | c::l,d::r,j+1,c',h=>by obtain⟨c0,d0,h1,h2,h3⟩:=qU l r j c' (by simpa[kt]using h);exact⟨c0,d0,by simpa using h1,by simpa using h2,h3⟩
theorem SP(eF:dO P E){g:Gh}{st:St}(h:Rel cx Z g st a w)(hn:cJ st)(dh:Fit cx E a){o:Oper}{dst:Option Nat}(cE:∀ d,dst=some d->kM cx a d)(hd:o.dst=dst){c:Call}{f:Operand}{gid:Nat}{cR:List (Bool×List AV)}{l:List TV}
 (ho:o.op= .call c)(fe:c.callee= .value f)(hg:st.get f=some (.fn gid cR))(hl:st.getAll c.args.toList=some l){ay:St}
 (au:(st.xi dst (E.ga gid) (l++cR.map fun p=>bif p.1 then .agg p.2 else (match p.2 with | [a]=> .v a | _=> .agg p.2))).run=some ay):qt P cx E ay a w o:=by
 have hc:=hn.cons.cons;obtain⟨s,q,l0,x,z,y,hs,hx,hy,hw⟩:=xO au;obtain⟨cv,ef,ec⟩:=bg h hc hg;have eQ:=gz.app (jS h hc _ _ hl) (lZ _ _ ec);have Pd:c.args.toList.map a.eval++cv.toList=(c.args.map a.eval++cv).toList:=by simp
 rw[Pd]at eQ;obtain⟨cs,z0,e1,e2,e3,k1,k2⟩:=qn h s.ps _ _ x q l0 eQ hx;obtain⟨b1,b2,b3,b4,us0,el0,fr0,b5,b6,b7,b8⟩:=h.box q _ e1 rfl;have vT:g.be q<w.heap.size:=h.zc e1 rfl;have Ij:l0.length=cs.length:=by rw[(mZ cs l0 z0 e3).1,mF]
 generalize hF:YO g st ((q,200000)::dX q cs 0)=F at k1;obtain⟨kL,adZ⟩:=XO h e1 e2 Ij hF;have OQ:∀ i b,F i b->b<w.heap.size/\¬ Z b:=fun i b hb=>by
  rcases kL i b hb with ⟨_,i2⟩ | ⟨_,_,_,i3⟩
  . rw[i2]; exact⟨vT,b2⟩
  . exact⟨(h.fp _ _ _ i3).1,(h.fp _ _ _ i3).2.2.1⟩
 have Ub:=eF.1 gid s hs w Z F _ x (z,y) h.gl k1 (fun b hb=>(h.cq b hb).1) OQ adZ hy;have alD:∀ d p,e9 d s y=some p->¬ p.1.iK:=fun d p hp=>by
  unfold e9 at hp;split at hp
  . rename_i tv hw;simp only[amd]at hp;subst hp;exact nv hw
  . simp at hp
 refine⟨fun t ko ht => ?_,fun next Q hk => ?_⟩
 . rcases hw with ⟨_,rfl⟩ | ⟨d,p,_,hp,_,rfl⟩
   . exact hn t ko ht
   . rw[cC]at ht;split at ht
     . simp only[amd]at ht; subst ht; exact alD _ _ hp
     . exact hn t ko ht
 unfold Oper.wp;rw[qm ho fe ef];refine uR Ub ?_;rintro v w' ⟨Z',H,vs,rfl,ha,hio,hr⟩;obtain⟨z1,q1,b,us,el,fr,q2,q3,q4,q5,q6⟩:=k2 Z' w' _ _ hio;simp only[Value.pointer.injEq,amd,anF,anM]at q2;subst q2;have Uj:=mF cs z1;have xw:=vL cs z1 us.toList (0+1) q6;rw[amP]at xw;have hbl:(kt l0 (cf cs z1)).length=l0.length:=CE _ _ (by rw[Uj]; exact Ij);have q1:jB s.ps z=cf cs z1:=q1
 have hR:=h.ahl (Z2:=Z') (ay:=IP st q l0 s.ps z) (w':=w') (r:=q) (R':=⟨true,kt l0 (cf cs z1)⟩) (cv:=fun j=>us.toList.getD j undef) (fp:=fun j b=>(∃ k y,(cf cs z1)[j]? = some ⟨0,0,.own k y⟩)/\H (2 * (0+1+j)) b) e1 rfl rfl hbl rfl
  (fun r'=>by
    show look ((q,(⟨true,kt l0 (jB s.ps z)⟩:Rt))::st.rt) r'=_;rw[q1,aN];by_cases e:q=r'
    . rw[if_pos e,if_pos e.symm]
    . rw[if_neg e,if_neg (fun hh=>e hh.symm)]) ha.os ha.tape ha.output ha.size
  (fun j c c' h1 h2=>by obtain⟨c0,d0,m1,m2,rfl⟩:=qU _ _ _ _ h2;have h1:l0[j]? = some c:=h1;rw[h1]at m1;cases m1;exact⟨ane _,ane _⟩) ha.z ha.cq
  ⟨us,el,fr,q3,q4,by show us.size=(kt _ _).length; rw[hbl,xw,Ij],fun j hj=>by
    rw[<- amh];have BL:j<us.toList.length:=by simpa using hj
    rw[List.getD,ami BL]; rfl⟩
  (fun j c' hj=>by
    obtain⟨c0,d0,m1,m2,rfl⟩:=qU _ _ _ _ hj;obtain⟨u,p1,p2⟩:=po cs z1 us.toList (0+1) j d0 q6 m2;have hu:us.toList.getD j undef=u:=by rw[List.getD,p1]; rfl
    rcases p2 with ⟨k,y,rfl,q3⟩ | ⟨k,y,rfl,q3⟩
    . show dI w' k y _ _;rw[hu];exact dI.frame _ _ _ _ _ (fun b hb=>⟨⟨k,y,m2⟩,hb⟩) (fun _ _ _=>rfl) q3
    . show RO Z' w' k y _;rw[hu];exact q3)
  (fun j b hb=>by
    obtain⟨⟨k,y,m1⟩,m2⟩:=hb;obtain⟨t1,t2,t3⟩:=ha.fp _ b m2;refine⟨t1,?_,t2,fun e => ?_,?_⟩
    . rcases t3 with ⟨i,t3⟩ | t3
      . rcases kL i b t3 with ⟨_,i2⟩ | ⟨_,_,_,i3⟩
        . exfalso;have:=ha.cS _ _ b m2 (by rw[i2]; exact q5);omega
        . exact .inl ⟨_,i3⟩
      . exact .inr t3
    . have:=ha.cS _ _ b m2 (by rw[e]; exact q5);omega
    . have hj:j<(kt l0 (cf cs z1)).length:=by
       have:=(amM.1 m1).1;rw[hbl,Ij]; omega
      obtain⟨c0,d0,n1,n2,n3⟩:=qU _ _ j _ (ami hj);rw[m1]at n2;cases n2;exact⟨_,k,y,ami hj,by rw[n3]⟩)
  (fun j j' b h1 h2=>by have:=ha.cS _ _ b h1.2 h2.2;omega)
  (fun b aV cY hf=>ha.block b aV fun i hi=>by
    rcases kL i b hi with ⟨_,i2⟩ | ⟨_,_,_,i3⟩
    . exact cY i2
    . exact hf _ i3)
 rw[hd];rcases hw with ⟨rfl,rfl⟩ | ⟨d,p,rfl,hp,oU,rfl⟩
 . exact hk _ _ _ _ hR dh
 unfold e9 at hp;split at hp
 . rename_i tv hw;simp only[amd]at hp;cases hb:s.fresh&&lG s.rs with
   | false => rw[hb]at hp;subst hp;exact hk _ _ _ _ (hR.ot (cE d rfl) (gq (l5 _ _ _ _ hr (fun _=>rfl) (fun hh=>by rw[hh]at hb; simpa using hb)) hw)) (dh.put _ _)
   | true =>
     rw[hb]at hp;subst hp;have yO:s.fresh=true:=by rw[ame]at hb; exact hb.1
     rw[yO]at hr hw;have Yi:∀ j b,H (2 * j+1) b->b<w'.heap.size/\(cx.F0 b∨cx.w0.heap.size<=b)/\¬ Z' b/\(∀ r j,¬ (g.Hf q (fun j=>us.toList.getD j undef) (fun j b=>(∃ k y,(cf cs z1)[j]? = some ⟨0,0,.own k y⟩)/\H (2 * (0+1+j)) b)).fp r j b)/\(∀ r' R',look (IP st q l0 s.ps z).rt r'=some R'->R'.box=true->g.be r'≠b):=fun j b Dn=>by
      obtain⟨t1,t2,t3⟩:=ha.fp _ b Dn;have hq:b≠g.be q:=fun e=>by have:=ha.cS _ _ b Dn (by rw[e]; exact q5);omega
      refine⟨t1,?_,t2,fun r' j' hh => ?_,fun r' R' lr cz he => ?_⟩
      . rcases t3 with ⟨i,t3⟩ | t3
        . rcases kL i b t3 with ⟨_,i2⟩ | ⟨_,_,_,i3⟩
          . exact(hq i2).elim
          . exact(h.fp _ _ _ i3).2.1
        . exact .inr (aml h.size t3)
      . have Va:(if r'=q then _ else g.fp r' j' b):=hh;by_cases e:r'=q
        . rw[if_pos e]at Va;have:=ha.cS _ _ b Dn Va.2;omega
        . rw[if_neg e]at Va;rcases t3 with ⟨i,t3⟩ | t3
          . rcases kL i b t3 with ⟨_,i2⟩ | ⟨_,_,_,i3⟩
            . exact hq i2
            . exact e (h.cS _ _ _ _ _ Va i3).1
          . have:=(h.fp _ _ _ Va).1; omega
      . have hl:look (IP st q l0 s.ps z).rt r'=(if q=r' then some ⟨true,kt l0 (jB s.ps z)⟩else look st.rt r'):=aN _ _ _ _;rw[hl]at lr;by_cases e:q=r'
        . subst e; exact hq he.symm
        . rw[if_neg e]at lr;rcases t3 with ⟨i,t3⟩ | t3
          . rcases kL i b t3 with ⟨_,i2⟩ | ⟨_,_,_,i3⟩
            . exact hq i2
            . exact(h.box r' R' lr cz).2.2.1 _ _ (he ▸ i3)
          . have:=h.zc lr cz; omega
     have h6:=Rel.nw hR (r:=d) (be:=0) (R:=⟨false,cP s.rs y⟩) (cv:=fun j=>(vk s.rs vs).getD j undef) (fp:=fun j b=>j<(cP s.rs y).length/\H (2 * j+1) b) (kI (oU hb))
      (fun j b hb=>by obtain⟨t1,t2,t3,t4,t5⟩:=Yi _ b hb.2;obtain⟨e,bZ,x',v',O4,X8,g3'⟩:=ma _ _ _ _ hr j _ (ami hb.1);exact⟨t1,t2,t3,t4,t5,_,_,x',ami hb.1,by rw[O4]⟩)
      (fun j j' b h1 h2=>by have:=ha.cS _ _ b h1.2 h2.2; omega) (fun hb=>by simp at hb)
      (fun j c hj=>by
        obtain⟨e,bZ,x',v',O4,X8,g3'⟩:=ma _ _ _ _ hr j c hj;subst O4;have nP:j<(cP s.rs y).length:=by
         rcases amv j (cP s.rs y).length with hh | hh
         . exact hh
         . simp[amw hh]at hj
        show dI w' (.sl e bZ) x' _ _;simp only[List.getD,X8,anB];rw[amp]at g3';exact dI.frame _ _ _ _ _ (fun b hb=>⟨nP,hb⟩) (fun _ _ _=>rfl) g3')
     refine hk _ _ _ _ (h6.ot (cE d rfl) (tv:=tv) (gq (uV _ _ _ _ hr (fun i c hi => ?_) fun i v hi => ?_) hw)) (dh.put _ _)
     . show(match look ((d,(⟨false,cP s.rs y⟩:Rt))::(IP st q l0 s.ps z).rt) d with | some R=>R.cells[0+i]? | none=>none)=_;rw[aN,if_pos rfl,amp];exact hi
     . simp[Gh.at,List.getD,hi]
 . simp at hp
end
section
variable{P:Program}{cx:Cx P}{Z:Nat->Prop}{a:Act}{w:World}{E:En}
theorem qV{Z':Nat->Prop}(Fq:∀ b,Z b->b<w.heap.size->Z' b):∀(ps:List PK) (l:List TV) (vs:List Value) (st:St) (g:Gh) (ay:St) (x:PT ps) (i:Nat),Rel cx Z g st a w->(∀ r R,look st.rt r=some R->R.box=true->Z' (g.be r))->gz Z g st w l vs->st.gX ps l=some (ay,x) ->
 ∃ g' F n,Rel cx Z g' ay a w/\mY cx Z w g g' st ay F i n/\ee Z' w F ps x vs i/\ay.tm=st.tm
 | [],[],vs,st,g,ay,x,i,h,xx,hr,ht=>by
   simp only[St.gX,amd,amK]at ht;obtain⟨rfl,_⟩:=ht;cases vs with
   | nil=>exact⟨g,_,0,h,mY.refl i,trivial,rfl⟩
   | cons _ _=>exact hr.elim
 | .c gg ks::ps,tv::r,[],st,g,ay,x,i,h,xx,hr,ht=>hr.elim
 | .c gg ks::ps,tv::r,v::vs,st,g,ay,x,i,h,xx,hr,ht=>by
   unfold St.gX at ht;cases hl:tv.dn with
   | none=>rw[hl]at ht; simp at ht
   | some p =>
     obtain⟨BU,l⟩:=p;rw[hl]at ht;simp only at ht;cases hb:cw gg BU&&l.all AV.bV with
     | false=>rw[hb]at ht; simp at ht
     | true =>
       rw[hb]at ht;simp only[oT]at ht;simp only[ame]at hb;have hg:=eL hb.1;subst hg;split at ht
       . rename_i z q hz hq;cases ht;obtain⟨us,e1,e2⟩:=iB (lR hr.1 hl);obtain⟨g',F,n,k1,k2,k3,k4⟩:=qV Fq ps r vs st g q.1 q.2 i h xx hr.2 hq;refine⟨g',F,n,k1,k2,⟨⟨us,e1,sL.cq Fq ks z us (dG h ks l us z e2 hb.2 hz)⟩,k3⟩,k4⟩
       . simp at ht
 | .fn f cs::ps,tv::r,[],st,g,ay,x,i,h,xx,hr,ht=>hr.elim
 | .fn f cs::ps,tv::r,v::vs,st,g,ay,x,i,h,xx,hr,ht=>by
   cases tv with
   | fn f' cR =>
     unfold St.gX at ht;cases hb:Nat.beq f f' with
     | false=>rw[hb]at ht; simp at ht
     | true =>
       rw[hb]at ht;simp only[oT]at ht;have hf:=beq_eq hb;subst hf;split at ht
       . rename_i z q hz hq;cases ht;obtain⟨us,e1,e2⟩:=hr.1;obtain⟨g',F,n,k1,k2,k3,k4⟩:=qV Fq ps r vs st g q.1 q.2 i h xx hr.2 hq;exact⟨g',F,n,k1,k2,⟨⟨us,e1,nh h Fq (fun _=>xx) cs cR us.toList z e2 hz⟩,k3⟩,k4⟩
       . simp at ht
   | _=>simp[St.gX]at ht
 | .mv k::ps,tv::r,[],st,g,ay,x,i,h,xx,hr,ht=>hr.elim
 | .mv k::ps,tv::r,v::vs,st,g,ay,x,i,h,xx,hr,ht=>by
   cases tv with
   | v av =>
     unfold St.gX at ht;split at ht
     . rename_i ca y hy;split at ht
       . rename_i q hq;cases ht;obtain⟨g1,F1,k1,k2,k3,k4,k5,k6,k7⟩:=ik h hr.1 hy;have t1:mY cx Z w g g1 st ca (fun n b=>n=i/\F1 b) i 1 :=
          ⟨fun p v=>vr.cI k2.cI p v,fun x v=>bC.cI k2.cI x v,k5,fun n=>⟨fun b hb=>k4.lt b hb.2,fun b hb=>k4.own b hb.2,fun b hb=>k4.z b hb.2,fun b hb=>k4.fp b hb.2,fun b hb=>k4.box b hb.2⟩,fun n b hb=>k6 b hb.2,fun n m b h1 h2=>h1.1.trans h2.1.symm,fun i b hb=>⟨by omega,by omega⟩,k2.be,k2.box⟩
         have Fo:∀(l:List TV) (vs:List Value),gz Z g st w l vs->gz Z g1 ca w l vs:=by
          intro l;induction l with
          | nil=>intro vs h; cases vs with | nil=>trivial | cons _ _=>exact h.elim
          | cons p r ih=>intro vs h; cases vs with | nil=>exact h.elim | cons v vs=>exact⟨bW.cI k2.cI _ _ h.1,ih vs h.2⟩
         obtain⟨g',F,n,m1,m2,m3,m4⟩:=qV Fq ps r vs ca g1 q.1 q.2 (i+1) k1 (fun r R hR nO=>by obtain⟨R0,e1,e2⟩:=k2.box r R hR; rw[k2.be]; exact xx r R0 e1 (by rw[<- e2]; exact nO)) (Fo _ _ hr.2) hq;exact⟨g',fun n b=>(n=i/\F1 b)∨F n b,1+n,m1,t1.trans m2,⟨dI.frame _ _ _ _ _ (fun b hb=> .inl ⟨rfl,hb⟩) (fun _ _ _=>rfl) k3,ee.mono (fun i b hb=> .inr hb) _ _ _ _ m3⟩,m4.trans k2.tm⟩
       . simp at ht
     . simp at ht
   | _=>simp[St.gX]at ht
 | .pt _::_,_::_,_,st,g,ay,x,i,h,xx,hr,ht=>by simp[St.gX]at ht
 | .nil::_,_::_,_,st,g,ay,x,i,h,xx,hr,ht=>by simp[St.gX]at ht
 | .nil::_,[],_,st,g,ay,x,i,h,xx,hr,ht=>by simp[St.gX]at ht
 | .pt _::_,[],_,st,g,ay,x,i,h,xx,hr,ht=>by simp[St.gX]at ht
 | .io _ _::_,_::_,_,st,g,ay,x,i,h,xx,hr,ht=>by simp[St.gX]at ht
 | [],_::_,_,st,g,ay,x,i,h,xx,hr,ht=>by simp[St.gX]at ht
 | .c _ _::_,[],_,st,g,ay,x,i,h,xx,hr,ht=>by simp[St.gX]at ht
 | .fn _ _::_,[],_,st,g,ay,x,i,h,xx,hr,ht=>by simp[St.gX]at ht
 | .io _ _::_,[],_,st,g,ay,x,i,h,xx,hr,ht=>by simp[St.gX]at ht
 | .mv _::_,[],_,st,g,ay,x,i,h,xx,hr,ht=>by simp[St.gX]at ht
theorem Bn{st:St}{dst:Nat}{E9:List TV}:∀ {l:List Su} {ay:St},(st.xD dst l E9).run=some ay->∃ s ca x z y p,s∈l/\s.fresh=true/\st.gX s.ps E9=some (ca,x)/\s.vX x=some (z,y)/\e9 dst s y=some p/\ca.free dst=true/\ay=ca.a8 dst p
 | [],ay,h=>by simp[St.xD,Tr.run]at h
 | s::r,ay,h=>by
   have again:(st.xD dst r E9).run=some ay->∃ s' ca x z y p,s'∈s::r/\s'.fresh=true/\st.gX s'.ps E9=some (ca,x)/\s'.vX x=some (z,y)/\e9 dst s' y=some p/\ca.free dst=true/\ay=ca.a8 dst p:=fun h=>by obtain⟨s',ca,x,z,y,p,h1,h2⟩:=Bn h;exact⟨s',ca,x,z,y,p,amt _ h1,h2⟩
   have fin:∀(ca:St) (p:TV×Option Rt),(bif ca.free dst then Tr.ret (ca.a8 dst p)else .fail).run=some ay->ca.free dst=true/\ay=ca.a8 dst p:=fun ca p hh=>by
    cases hf:ca.free dst with
    | false=>rw[hf]at hh; simp[Tr.run]at hh
    | true=>rw[hf]at hh; simp only[oT,Tr.run,amd]at hh; exact⟨rfl,hh.symm⟩
   unfold St.xD at h;cases hq:jA s.ps|| !s.fresh with
   | true=>rw[hq]at h; exact again h
   | false =>
     rw[hq]at h;simp only[oF]at h;simp only[anZ,ao6]at hq;split at h
     . rename_i ca x hx;split at h
       . rename_i f hf;simp only[Tr.run,anv]at h;obtain⟨⟨z,y⟩,h0,h⟩:=h;obtain⟨p,h1,h2⟩:=Tr.ai h;obtain⟨h3,h4⟩:=fin ca p h2;exact⟨s,ca,x,z,y,p,amz ..,hq.2,hx,by simp[Su.vX,hf,h0],h1,h3,h4⟩
       . rename_i gg hg;obtain⟨p,h1,h2⟩:=Tr.ai h;obtain⟨h3,h4⟩:=fin ca p h2;exact⟨s,ca,x,UU s.ps,gg x,p,amz ..,hq.2,hx,by simp[Su.vX,hg],h1,h3,h4⟩
     . exact again h
theorem aby(eF:dO P E){g:Gh}{st:St}(h:Rel cx Z g st a w)(hn:cJ st)(dh:Fit cx E a){o:Oper}{d:Nat}(hd:o.dst=some d)(cE:kM cx a d){c:Call}{f:Operand}{gid:Nat}{cR:List (Bool×List AV)}{l:List TV}
 (ho:o.op= .call c)(fe:c.callee= .value f)(hg:st.get f=some (.fn gid cR))(hl:st.getAll c.args.toList=some l){ay:St}
 (au:(st.xD d (E.ga gid) (l++cR.map fun p=>bif p.1 then .agg p.2 else (match p.2 with | [a]=> .v a | _=> .agg p.2))).run=some ay):qt P cx E ay a w o:=by
 have hc:=hn.cons.cons;obtain⟨s,ca,x,z,y,p,hs,yO,hx,hy,hp,oU,rfl⟩:=Bn au;obtain⟨cv,ef,ec⟩:=bg h hc hg;have eQ:=gz.app (jS h hc _ _ hl) (lZ _ _ ec);have Pd:c.args.toList.map a.eval++cv.toList=(c.args.map a.eval++cv).toList:=by simp
 rw[Pd]at eQ;obtain⟨g1,F,n,k1,k2,k3,k4⟩:=qV (Z':=Zb Z g st) (fun _ h _=> .inl h) s.ps _ _ st g ca x 0 h (fun r R hR hb=> .inr ⟨r,R,hR,hb,rfl⟩) eQ hx;have Ub:=eF.1 gid s hs w (Zb Z g st) F _ x (z,y) (h.gl.mono (oR _) fun b hb _=>⟨.inl hb,rfl⟩) k3 (YG h) (fun i b hb=>⟨(k2.free i).lt b hb,by obtain⟨r,j,hh⟩:=k2.sub i b hb; exact ZI h hh⟩) (fun i j b=>k2.cS i j b) hy;have hp':¬ p.1.iK:=by
  unfold e9 at hp;split at hp
  . rename_i tv hw;simp only[amd]at hp;subst hp;exact nv hw
  . simp at hp
 refine⟨fun t tv ht => ?_,fun next Q hk => ?_⟩
 . rw[cC]at ht;split at ht
   . simp only[amd]at ht; subst ht; exact hp'
   . exact hn t tv (by rw[<- k4]; exact ht)
 unfold Oper.wp;rw[qm ho fe ef];refine uR Ub ?_;rintro v w' ⟨Z',H,vs,rfl,ha,_,hr⟩;rw[hd];have Mo:jK cx Z g1 ca w (fun b=>∃ i,F i b):=⟨fun b ⟨i,hb⟩=>(k2.free i).lt b hb,fun b ⟨i,hb⟩=>(k2.free i).own b hb,fun b ⟨i,hb⟩=>(k2.free i).z b hb,fun b ⟨i,hb⟩=>(k2.free i).fp b hb,fun b ⟨i,hb⟩=>(k2.free i).box b hb⟩;have Mi:Rel cx Z g1 ca a w':=k1.wr Mo ha.os ha.tape ha.output ha.size fun b hb hf=>ha.block b hb fun i hi=>hf ⟨i,hi⟩
 unfold e9 at hp;split at hp
 . rename_i tv hw;simp only[amd]at hp;rw[yO,aod]at hp;rw[yO]at hr hw;cases hb:lG s.rs with
   | false => rw[hb]at hp;subst hp;exact hk _ _ _ _ (Mi.ot cE (gq (l5 _ _ _ _ hr (fun hh=>by simp at hh) (fun _=>hb)) hw)) (dh.put _ _)
   | true =>
     rw[hb]at hp;subst hp;have Yi:∀ n b,H n b->b<w'.heap.size/\(cx.F0 b∨cx.w0.heap.size<=b)/\¬ Z b/\(∀ r j,¬ g1.fp r j b)/\(∀ r' R',look ca.rt r'=some R'->R'.box=true->g1.be r'≠b):=fun n b hb=>by
      obtain⟨h1,h2,h3⟩:=ha.fp n b hb;have hz:¬ Z b:=fun hz=>h2 (ha.z b (.inl hz))
      rcases h3 with hf | nL
      . exact⟨h1,Mo.own b hf,hz,Mo.fp b hf,Mo.box b hf⟩
      . refine⟨h1,.inr (aml k1.size nL),hz,fun r j hh=>by have:=(k1.fp r j b hh).1; omega,fun r' R' lr cz he => ?_⟩;obtain⟨_,_,_,_,cs1,el1,fr1,b5,_⟩:=k1.box r' R' lr cz;rw[he,amy nL]at b5;simp at b5
     have h6:=Rel.nw Mi (r:=d) (be:=0) (R:=⟨false,cP s.rs y⟩) (cv:=fun j=>(vk s.rs vs).getD j undef) (fp:=fun j b=>j<(cP s.rs y).length/\H (2 * j+1) b) (kI oU)
      (fun j b hb=>by obtain⟨t1,t2,t3,t4,t5⟩:=Yi _ b hb.2;obtain⟨e,bZ,x',v',O4,X8,g3'⟩:=ma _ _ _ _ hr j _ (ami hb.1);exact⟨t1,t2,t3,t4,t5,_,_,x',ami hb.1,by rw[O4]⟩)
      (fun j j' b h1 h2=>by have:=ha.cS _ _ b h1.2 h2.2; omega) (fun hb=>by simp at hb)
      (fun j c hj=>by
        obtain⟨e,bZ,x',v',O4,X8,g3'⟩:=ma _ _ _ _ hr j c hj;subst O4;have nP:j<(cP s.rs y).length:=by
         rcases amv j (cP s.rs y).length with hh | hh
         . exact hh
         . simp[amw hh]at hj
        show dI w' (.sl e bZ) x' _ _;simp only[List.getD,X8,anB];rw[amp]at g3';exact dI.frame _ _ _ _ _ (fun b hb=>⟨nP,hb⟩) (fun _ _ _=>rfl) g3')
     refine hk _ _ _ _ (h6.ot cE (tv:=tv) (gq (uV _ _ _ _ hr (fun i c hi => ?_) fun i v hi => ?_) hw)) (dh.put _ _)
     . show(match look ((d,(⟨false,cP s.rs y⟩:Rt))::ca.rt) d with | some R=>R.cells[0+i]? | none=>none)=_;rw[aN,if_pos rfl,amp];exact hi
     . simp[Gh.at,List.getD,hi]
 . simp at hp
theorem wu(hT:cH P E)(eF:dO P E):tX P E:=by
 intro cx Z g st a w o ay h hn dh U5 au;have cE:∀ d,o.dst=some d->kM cx a d:=fun d hd=>by rw[hd]at U5;exact dh.dst U5
 have key:qt P cx E ay a w o:=by
  generalize fD:o.op=op at au;generalize fM:o.dst=dst at au;unfold Cf at au;split at au
  . obtain⟨ti,h1,au⟩:=Tr.ai au;obtain⟨ta,h2,au⟩:=Tr.ai au;obtain⟨av,h3,au⟩:=Tr.ai au;obtain⟨tx,h4,au⟩:=Tr.ai au;obtain⟨p,h5,au⟩:=Tr.ai au;cases hb:p.2.all st.live&&Nat.beq p.2.length ti.ks.length with
    | false=>rw[hb]at au; simp[Tr.run]at au
    | true => rw[hb]at au;simp only[oT]at au;simp only[ame]at hb;obtain⟨H7,au⟩:=Tr.bR au;obtain⟨s1,h6,au⟩:=Tr.ai au;simp only[Tr.run,amd]at au;subst au;exact Xm hT h hn dh fM fD h1 h2 h3 h4 h5 hb.1 (beq_eq hb.2) H7 h6
  . obtain⟨tv,h1,au⟩:=Tr.ai au;simp only[Tr.run,amd]at au;subst au;exact qc h hn dh fM (cE _ fM) (.inr fD) h1
  . obtain⟨tv,h1,au⟩:=Tr.ai au;simp only[Tr.run,amd]at au;subst au;exact qc h hn dh fM (cE _ fM) (.inl fD) h1
  . rename_i t x d;obtain⟨ti,h1,au⟩:=Tr.ai au;obtain⟨tv,h2,au⟩:=Tr.ai au;obtain⟨p,h3,au⟩:=Tr.ai au;cases hb:st.free d&&p.2.all st.live&&Nat.beq p.2.length ti.ks.length with
    | false=>rw[hb]at au; simp[Tr.run]at au
    | true => rw[hb]at au;simp only[oT]at au;simp only[ame]at hb;obtain⟨s1,h6,au⟩:=Tr.ai au;simp only[Tr.run,amd]at au;subst au;exact aej h hn dh fM (cE _ fM) fD h2 h3 hb.1.1 hb.1.2 (beq_eq hb.2) h6
  . rename_i c;split at au
    . rename_i x y fe cF;split at au
      . rename_i d t t2 ts yM;obtain⟨ti,h1,au⟩:=Tr.ai au;obtain⟨te,h2,au⟩:=Tr.ai au;obtain⟨tx,h3,au⟩:=Tr.ai au;obtain⟨ty,h4,au⟩:=Tr.ai au;cases hb:E.str t2||(E.sl t2).isSome with
        | false =>
          rw[hb]at au;simp only[oF]at au;cases l6:E.i64 t2&&fV tx with
          | false=>rw[l6]at au; simp[Tr.run]at au
          | true => rw[l6]at au;simp only[oT]at au;simp only[ame]at l6;obtain⟨p,h5,au⟩:=Tr.ai au;exact M0 hT h hn dh fM (cE _ fM) fD fe cF yM h1 h2 h3 h4 l6.1 l6.2 h5 au
        | true =>
          rw[hb]at au;simp only[oT]at au;have h5:E.str t2=true∨∃ Yj,E.sl t2=some Yj:=by
           simp only[anr]at hb;rcases hb with hb | hb
           . exact .inl hb
           . cases he:E.sl t2 with
             | none=>rw[he]at hb; simp at hb
             | some Yj=>exact .inr ⟨Yj,rfl⟩
          cases BX:st.PB te.ks tx ty with
          | true=>rw[BX]at au; exact MC hT h hn dh fM (cE _ fM) fD fe cF yM h1 h2 h3 h4 h5 au
          | false=>rw[BX]at au; exact T2 hT h hn dh fM (cE _ fM) fD fe cF yM h1 h2 h3 h4 h5 au
      . simp[Tr.run]at au
    . rename_i f fe;obtain⟨tf,h1,au⟩:=Tr.ai au;split at au
      . rename_i gid cR;obtain⟨l,h2,au⟩:=Tr.ai au;cases hpw:S7 (E.ga gid)with
        | true => rw[hpw]at au;exact SP eF h hn dh (fun d hd=>cE d (fM.trans hd)) fM fD fe h1 h2 au
        | false =>
        rw[hpw]at au;simp only[oF]at au;cases hio:TC (E.ga gid)with
        | true => rw[hio]at au;exact Qc eF h hn dh (fun d hd=>cE d (fM.trans hd)) fM fD fe h1 h2 au
        | false =>
          rw[hio]at au;simp only[oF]at au;split at au
          . exact aby eF h hn dh fM (cE _ fM) fD fe h1 h2 au
          . simp[Tr.run]at au
      . simp[Tr.run]at au
    . simp[Tr.run]at au
  . simp[Tr.run]at au
 exact key
end
def JL:Value->K->Bool
 | .int k n,.int k'=>k == k'&&n == 0
 | .bool b,.bool=> !b
 | .string s,.str=>Nat.beq s.size 0
 | .slice none 0 0,.sl _ _=>true
 | _,_=>false
def oa:List Value->List K->Bool
 | [],[]=>true
 | v::vs,k::ks=>JL v k&&oa vs ks
 | _,_=>false
theorem MA{v:Value}{k:K}(h:JL v k=true):v=zV k:=by
 unfold JL at h;split at h
 . simp only[ame,beq_iff_eq]at h;rw[h.1,h.2]; rfl
 . rename_i b;cases b with
   | false=>rfl
   | true=>simp at h
 . rename_i s;have hs:s.size=0:=beq_eq h;show Value.string s= .string (fR []);congr 1;apply ao9;apply Array.ext';have:s.data.toList=[]:=by
    apply amY.1;rw[amP];exact hs
   rw[this];rfl
 . rfl
 . simp at h
theorem xT:∀ {vs:List Value} {ks:List K},oa vs ks=true->vs=ks.map zV
 | [],[],_=>rfl
 | v::vs,k::ks,h=>by simp only[oa,ame]at h;rw[MA h.1,xT h.2];rfl
 | [],_::_,h=>by simp[oa]at h
 | _::_,[],h=>by simp[oa]at h
def wo:List (Nat×Nat)->List Field->Bool
 | [],_=>true
 | (o,t)::r,f::fs=>Nat.beq f.offset o&&Nat.beq f.type t&&wo r fs
 | _::_,[]=>false
theorem A9:∀ {l:List (Nat×Nat)} {fs:List Field},wo l fs=true->∀ i o t,MU l i=some (o,t)->∃ fi,fs[i]? = some fi/\fi.offset=o/\fi.type=t
 | [],fs,h,i,o,t,hf=>by simp[MU]at hf
 | (o0,t0)::r,f::fs,h,0,o,t,hf=>by simp only[wo,ame]at h;simp only[MU,amd,amK]at hf;exact⟨f,rfl,(beq_eq h.1.1).trans hf.1,(beq_eq h.1.2).trans hf.2⟩
 | (o0,t0)::r,f::fs,h,i+1,o,t,hf=>by simp only[wo,ame]at h;exact A9 h.2 i o t hf
 | _::_,[],h,_,_,_,_=>by simp[wo]at h
def PO(P:Program)(f:Field):Bool:=match P.info? f.type with | some i=>Nat.blt 0 i.size | none=>false
def qi(P:Program)(ti:TI):TypeDesc->Bool
 | .struct fs=>ti.agg&&wo ti.pV fs.toList&&fs.toList.all (PO P)
 | .slice e=> !ti.agg&&(match ti.ks with | [.sl e' _]=>Nat.beq e' e&&Nat.beq ti.elem e | _=>false)
 | .int k=> !ti.agg&&(match ti.ks with | [.int k']=>k' == k | _=>false)
 | .bool=> !ti.agg&&(match ti.ks with | [.bool]=>true | _=>false)
 | .string=> !ti.agg&&(match ti.ks with | [.str]=>true | _=>false)
 | _=>false
def acd(P:Program)(t:Nat)(ti:TI):Bool:=match P.info? t,P.underlying t with
 | some i,some d=>Nat.beq i.size ti.ks.length&&Nat.beq i.bytes ti.bytes&&(match i.zero with | some z=>oa z.cells.toList ti.ks | none=>false)&&qi P ti d
 | _,_=>false
theorem MH{P:Program}{ti:TI}{d:TypeDesc}(h:qi P ti d=true):jD P ti d:=by
 cases d with
 | struct fs =>
   simp only[qi,ame]at h;refine⟨h.1.1,fun f o u hf => ?_,fun fi hfi => ?_⟩
   . obtain⟨fi,h1,h2⟩:=A9 h.1.2 f o u hf;exact⟨fi,by rw[<- amh]; exact h1,h2⟩
   . have:=amx.1 h.2 fi hfi;unfold PO at this;cases hi:P.info? fi.type with
     | none=>rw[hi]at this; simp at this
     | some i=>rw[hi]at this; exact⟨i,rfl,Nat.ne_of_gt (anj (amA this))⟩
 | slice e =>
   simp only[qi,ame,am0]at h;obtain⟨h1,h2⟩:=h;split at h2
   . rename_i e' ks hk;simp only[ame]at h2;have e1:=beq_eq h2.1;subst e1;exact⟨h1,ks,hk,beq_eq h2.2⟩
   . simp at h2
 | int k =>
   simp only[qi,ame,am0]at h;obtain⟨h1,h2⟩:=h;split at h2
   . rename_i k' hk;have:k'=k:=by simpa using h2
     subst this;exact⟨h1,hk⟩
   . simp at h2
 | bool =>
   simp only[qi,ame,am0]at h;obtain⟨h1,h2⟩:=h;split at h2
   . rename_i hk; exact⟨h1,hk⟩
   . simp at h2
 | string =>
   simp only[qi,ame,am0]at h;obtain⟨h1,h2⟩:=h;split at h2
   . rename_i hk; exact⟨h1,hk⟩
   . simp at h2
 | _=>simp[qi]at h
theorem Wg{P:Program}{t:Nat}{ti:TI}(h:acd P t ti=true):rI P t ti:=by
 unfold acd at h;split at h
 . rename_i i d hi hd;simp only[ame]at h;obtain⟨⟨⟨h1,h2⟩,h3⟩,h4⟩:=h;refine⟨⟨i,hi,beq_eq h1,beq_eq h2,?_⟩,d,hd,MH h4⟩;split at h3
   . rename_i z hz;exact⟨z,hz,xT h3⟩
   . simp at h3
 . simp at h
def Wr(P:Program):List (Nat×TI)->Bool
 | []=>true
 | (t,ti)::r=>acd P t ti&&Wr P r
theorem GA{P:Program}:∀ {l:List (Nat×TI)},Wr P l=true->∀ t ti,(t,ti)∈l->rI P t ti
 | [],_,_,_,h=>by simp at h
 | (t0,ti0)::r,h,t,ti,hm=>by
   simp only[Wr,ame]at h;rcases amo.1 hm with hm | hm
   . cases hm; exact Wg h.1
   . exact GA h.2 t ti hm
theorem XD{P:Program}{E:En}(h:Wr P E.tt=true):cH P E:=fun t ti ht=>GA h t ti (jb _ _ _ ht)
def nK(lo:Nat->Bool):Code->Bool
 | .seq a b=>nK lo a&&nK lo b
 | .cond _ a b=>nK lo a&&nK lo b
 | .block id c=> !lo id&&nK lo c
 | .loop c=>nK lo c
 | _=>true
theorem bP{P:Program}{E:En}(Yk:∀ id,E.rg id=none:=by intro _; rfl):∀(c:Code),nK (fun id=>(E.lo id).isSome) c=true->dR P E c
 | .seq a b,h=>by simp only[nK,ame]at h;exact⟨bP Yk a h.1,bP Yk b h.2⟩
 | .cond _ a b,h=>by simp only[nK,ame]at h;exact⟨bP Yk a h.1,bP Yk b h.2⟩
 | .block id c,h=>by simp only[nK,ame,am0]at h;refine⟨fun L hL => ?_,fun _=>bP Yk c h.2⟩;rw[hL]at h;simp at h
 | .skip,_=>trivial
 | .region id _ _,_=>fun F hF=>by rw[Yk id]at hF; simp at hF
 | .loop c,h=>bP (E:=E) Yk c h
 | .rangeFunc _ _ _ _,_=>trivial
 | .exit _,_=>trivial
 | .scope _,_=>trivial
 | .label _,_=>trivial
 | .goto _,_=>trivial
 | .ret,_=>trivial
 | .refuse _,_=>trivial
def nF(rg:Nat->Bool)(lo:Nat->Bool):Code->List (Nat×Code)
 | .seq a b=>nF rg lo a++nF rg lo b
 | .cond _ a b=>nF rg lo a++nF rg lo b
 | .block id c=>bif lo id then []else nF rg lo c
 | .region id ops dr=>bif rg id then [(id,.region id ops dr)]else []
 | .loop c=>nF rg lo c
 | _=>[]
def fm(lo:Nat->Bool):Code->List (Nat×Code)
 | .seq a b=>fm lo a++fm lo b
 | .cond _ a b=>fm lo a++fm lo b
 | .block id c=>bif lo id then [(id,c)]else fm lo c
 | .loop c=>fm lo c
 | _=>[]
theorem ib{P:Program}{E:En}:∀(c:Code),(∀ id b F,(id,b)∈nF (fun id=>(E.rg id).isSome) (fun id=>(E.lo id).isSome) c->E.rg id=some F->dA P E b F)->(∀ id b L,(id,b)∈fm (fun id=>(E.lo id).isSome) c->E.lo id=some L->j4 P E id b L)->dR P E c
 | .seq a b,hr,h=>⟨ib a (fun id b F hm=>hr id b F (an0 _ hm)) fun id b L hm=>h id b L (an0 _ hm),ib b (fun id b F hm=>hr id b F (aol _ hm)) fun id b L hm=>h id b L (aol _ hm)⟩
 | .cond _ a b,hr,h=>⟨ib a (fun id b F hm=>hr id b F (an0 _ hm)) fun id b L hm=>h id b L (an0 _ hm),ib b (fun id b F hm=>hr id b F (aol _ hm)) fun id b L hm=>h id b L (aol _ hm)⟩
 | .block id c,hr,h=>by
   refine⟨fun L hL=>h id c L ?_ hL,fun hn=>ib c (fun E5 b F hm hF=>hr E5 b F (by simp only[nF,hn,anz,oF]; exact hm) hF) fun E5 b L hm hL=>h E5 b L ?_ hL⟩
   . simp[fm,hL]
   . simp only[fm,hn,anz,oF];exact hm
 | .skip,_,_=>trivial
 | .region id ops dr,hr,_=>fun F hF=>hr id _ F (by simp[nF,hF]) hF
 | .loop c,hr,h=>ib (E:=E) c hr h
 | .rangeFunc _ _ _ _,_,_=>trivial
 | .exit _,_,_=>trivial
 | .scope _,_,_=>trivial
 | .label _,_,_=>trivial
 | .goto _,_,_=>trivial
 | .ret,_,_=>trivial
 | .refuse _,_,_=>trivial
section
variable{X Y:Type}(step:X->Option (Sum X Y))
theorem CN{n m:Nat}{x:X}{y:Y}(h:iter step n x=some y)(hm:n<=m):iter step m x=some y:=by
 induction n generalizing m x with
 | zero=>simp[iter]at h
 | succ n ih =>
   obtain⟨k,rfl⟩:∃ k,m=k+1:=⟨m-1,by omega⟩;unfold iter at h ⊢;split at h
   . rename_i x' hx;exact ih h (by omega)
   . rename_i z hx;exact h
   . simp at h
noncomputable def aq(x:X):Option Y:=open Classical in if h:∃ n y,iter step n x=some y then some (Classical.choose (anG h))else none
theorem Ay{x:X}{y:Y}(h:aq step x=some y):∃ n,iter step n x=some y:=by
 unfold aq at h;split at h
 . rename_i hh;simp only[amd]at h;subst h;exact⟨_,anG (anG hh)⟩
 . simp at h
theorem Hu{n:Nat}{x:X}{y:Y}(h:iter step n x=some y):aq step x=some y:=by have hh:∃ n y,iter step n x=some y:=⟨n,y,h⟩;unfold aq;rw[dif_pos hh];have h1:=anG (anG hh);have e1:=CN step h (Nat.le_max_left n (Classical.choose hh));have e2:=CN step h1 (Nat.le_max_right n (Classical.choose hh));rw[e1]at e2;exact e2.symm
theorem ez{x x':X}{y:Y}(h:step x=some (.inl x'))(h':aq step x'=some y):aq step x=some y:=by obtain⟨n,hn⟩:=Ay step h';refine Hu step (n:=n+1) ?_;unfold iter;rw[h];exact hn
theorem dK{x:X}{y:Y}(h:step x=some (.inr y)):aq step x=some y:=by refine Hu step (n:=1) ?_;unfold iter;rw[h]
end
abbrev Rd(A Q:Type):=Option (Sum A (Sum A Q))
abbrev Az{A B Z:Type}(r:A->B->Z)(x:A×B×Unit):Z:=r x.1 x.2.1
abbrev UQ{A B Z:Type}(φ:A×B×Unit->Z)(a:A)(b:B):Z:=φ (a,b,())
abbrev fE{A B C Z:Type}(r:A->B->C->Z)(x:A×B×C×Unit):Z:=r x.1 x.2.1 x.2.2.1
abbrev pG{A B C Z:Type}(φ:A×B×C×Unit->Z)(a:A)(b:B)(c:C):Z:=φ (a,b,c,())
abbrev eo{A B C D Z:Type}(r:A->B->C->D->Z)(x:A×B×C×D×Unit):Z:=r x.1 x.2.1 x.2.2.1 x.2.2.2.1
abbrev rE{A B C D Z:Type}(φ:A×B×C×D×Unit->Z)(a:A)(b:B)(c:C)(d:D):Z:=φ (a,b,c,d,())
abbrev pZ{A B C D E Z:Type}(r:A->B->C->D->E->Z)(x:A×B×C×D×E×Unit):Z:=r x.1 x.2.1 x.2.2.1 x.2.2.2.1 x.2.2.2.2.1
abbrev O2{A B C D E Z:Type}(φ:A×B×C×D×E×Unit->Z)(a:A)(b:B)(c:C)(d:D)(e:E):Z:=φ (a,b,c,d,e,())
abbrev Fk{A B C D E F Z:Type}(r:A->B->C->D->E->F->Z)(x:A×B×C×D×E×F×Unit):Z:=r x.1 x.2.1 x.2.2.1 x.2.2.2.1 x.2.2.2.2.1 x.2.2.2.2.2.1
abbrev cu6{A B C D E F Z:Type}(φ:A×B×C×D×E×F×Unit->Z)(a:A)(b:B)(c:C)(d:D)(e:E)(f:F):Z:=φ (a,b,c,d,e,f,())
abbrev CD{A B C D E F G Z:Type}(r:A->B->C->D->E->F->G->Z)(x:A×B×C×D×E×F×G×Unit):Z:=r x.1 x.2.1 x.2.2.1 x.2.2.2.1 x.2.2.2.2.1 x.2.2.2.2.2.1 x.2.2.2.2.2.2.1
abbrev cu7{A B C D E F G Z:Type}(φ:A×B×C×D×E×F×G×Unit->Z)(a:A)(b:B)(c:C)(d:D)(e:E)(f:F)(g:G):Z:=φ (a,b,c,d,e,f,g,())
abbrev Xe{A B C D E F G H Z:Type}(r:A->B->C->D->E->F->G->H->Z)(x:A×B×C×D×E×F×G×H×Unit):Z:=r x.1 x.2.1 x.2.2.1 x.2.2.2.1 x.2.2.2.2.1 x.2.2.2.2.2.1 x.2.2.2.2.2.2.1 x.2.2.2.2.2.2.2.1
abbrev cu8{A B C D E F G H Z:Type}(φ:A×B×C×D×E×F×G×H×Unit->Z)(a:A)(b:B)(c:C)(d:D)(e:E)(f:F)(g:G)(h:H):Z:=φ (a,b,c,d,e,f,g,h,())
abbrev un9{A B C D E F G H I Z:Type}(r:A->B->C->D->E->F->G->H->I->Z)(x:A×B×C×D×E×F×G×H×I×Unit):Z:=r x.1 x.2.1 x.2.2.1 x.2.2.2.1 x.2.2.2.2.1 x.2.2.2.2.2.1 x.2.2.2.2.2.2.1 x.2.2.2.2.2.2.2.1 x.2.2.2.2.2.2.2.2.1
abbrev cu9{A B C D E F G H I Z:Type}(φ:A×B×C×D×E×F×G×H×I×Unit->Z)(a:A)(b:B)(c:C)(d:D)(e:E)(f:F)(g:G)(h:H)(i:I):Z:=φ (a,b,c,d,e,f,g,h,i,())
abbrev Oi{A B C D E F G H I J Z:Type}(r:A->B->C->D->E->F->G->H->I->J->Z)(x:A×B×C×D×E×F×G×H×I×J×Unit):Z:=r x.1 x.2.1 x.2.2.1 x.2.2.2.1 x.2.2.2.2.1 x.2.2.2.2.2.1 x.2.2.2.2.2.2.1 x.2.2.2.2.2.2.2.1 x.2.2.2.2.2.2.2.2.1 x.2.2.2.2.2.2.2.2.2.1
abbrev ae1{A B C D E F G H I J Z:Type}(φ:A×B×C×D×E×F×G×H×I×J×Unit->Z)(a:A)(b:B)(c:C)(d:D)(e:E)(f:F)(g:G)(h:H)(i:I)(j:J):Z:=φ (a,b,c,d,e,f,g,h,i,j,())
def ak(k:IntKind)(a b:Int):Int:=k.wrap (a+b)
def bf(k:IntKind)(a b:Int):Int:=k.wrap (a-b)
def yg(k:IntKind)(a b:Int):Int:=k.wrap (a * b)
def kq(k:IntKind)(a b:Int):Int:=k.wrap (a.tdiv b)
def eH(a b:Int):Int:=a.tmod b
def MP(k:IntKind)(a b:Int):Int:=k.wrap ((BitVec.ofInt k.bits a &&& BitVec.ofInt k.bits b).toNat:Int)
def UY(k:IntKind)(a b:Int):Int:=k.wrap ((BitVec.ofInt k.bits a ||| BitVec.ofInt k.bits b).toNat:Int)
def XN(k:IntKind)(a b:Int):Int:=k.wrap (a * 2 ^ min b.toNat k.bits)
def rH(k:IntKind)(a b:Int):Int:=a.fdiv (2 ^ min b.toNat k.bits)
def dC(k:IntKind)(a:Int):Int:=k.wrap a
def ae{α:Type}(xs:List α):Int:=(xs.length:Int)
def KM(n:Nat)(i j:Int):Bool:=Nat.rec true (fun _ r=>Nat.beq i.toNat j.toNat&&r) n
def aX{α:Type}(i:Int)(xs:List α):Bool:=pS i xs.length
def eV{α:Type}(lo hi:Int)(xs:List α):Bool:=jN lo hi xs.length
def agh(lo hi:Int):Bool:=jN lo hi 0
def gt{α:Type}(d:α)(xs:List α)(i:Int):α:=xs.getD i.toNat d
def cZ{α:Type}(xs:List α)(i:Int)(x:α):List α:=List.set xs i.toNat x
def XE{α:Type}(xs:List α)(n:Int):List α:=List.take n.toNat xs
def fQ{α:Type}(xs ys:List α):List α:=xs++ys
def uy(s t:S8):S8:=s++t
def bl{α:Type}(bytes:Nat)(xs ys:List α):Bool:=Nat.ble ((xs.length+ys.length) * bytes) bQ
def aef{α:Type}(bytes:Nat)(xs:List α):Bool:=Nat.ble (xs.length * bytes) bQ
def jL(s t:S8):Bool:=Nat.ble (s.length+t.length) bQ
def BR(s t:S8):Bool:=Op.bytesLess s t
def leS(s t:S8):Bool:=Op.bytesLess s t||bF s t
def fh(s:S8)(i:Int):Int:=FP s i.toNat
def wM{α:Type}(d:α)(n:Int):List α:=List.replicate n.toNat d
def VG(bytes:Nat)(n:Int):Bool:=ck 0 n&&(ck (n * bytes) bQ&&Nat.blt 0 bytes)
def aw(f:Func):Code:=match f.body with | some c=>c | none=> .skip
def ab6:Code->Code
 | .loop b=>b
 | _=> .skip
def pH(id:Nat):Code->Option Code
 | .seq a b=>match pH id a with | some c=>some c | none=>pH id b
 | .cond _ a b=>match pH id a with | some c=>some c | none=>pH id b
 | .block i c=>bif Nat.beq i id then some (ab6 c)else pH id c
 | .loop b=>pH id b
 | _=>none
def kK(id:Nat)(c:Code):Code:=(pH id c).getD .skip
abbrev SS:=Sum Su Sc
abbrev iS(s:Su):SS:= .inl s
abbrev iC(s:Sc):SS:= .inr s
def FT:List (Nat×SS)->Nat->List Su
 | [],_=>[]
 | (g,.inl s)::r,f=>bif Nat.beq g f then s::FT r f else FT r f
 | (_,.inr _)::r,f=>FT r f
def Js:List (Nat×SS)->Nat->Option Sc
 | [],_=>none
 | (g,.inr s)::r,f=>bif Nat.beq g f then some s else Js r f
 | _::r,f=>Js r f
def xE(n:Nat)(tt:List (Nat×TI))(l:List (Nat×SS))(ρ:List SE)(lo:Nat->Option (Lo ρ))(pins:List Nat)(rg:Nat->Option (St->Tr St)):En:=⟨n,tt,FT l,ρ,lo,pins,rg,Js l⟩
def aeq(P:Program)(g:Nat):SS->Prop
 | .inl s=>lU P g s
 | .inr s=>Jp P g s
def pM(P:Program):List (Nat×SS)->Prop
 | []=>True
 | (g,s)::r=>aeq P g s/\pM P r
theorem vn{P:Program}:∀(l:List (Nat×SS)) (f:Nat) (s:Su),pM P l->s∈FT l f->lU P f s
 | [],_,_,_,h=>by simp[FT]at h
 | (_,.inr _)::r,f,s,hl,h=>vn r f s hl.2 h
 | (g,.inl s0)::r,f,s,hl,h=>by
   unfold FT at h;cases hb:Nat.beq g f with
   | false=>rw[hb]at h; exact vn r f s hl.2 h
   | true =>
     rw[hb]at h;have:=beq_eq hb;subst this;rcases amo.1 h with h | h
     . subst h; exact hl.1
     . exact vn r g s hl.2 h
theorem yV{P:Program}:∀(l:List (Nat×SS)) (f:Nat) (s:Sc),pM P l->Js l f=some s->Jp P f s
 | [],_,_,_,h=>by simp[Js]at h
 | (_,.inl _)::r,f,s,hl,h=>yV r f s hl.2 h
 | (g,.inr s0)::r,f,s,hl,h=>by
   unfold Js at h;cases hb:Nat.beq g f with
   | false=>rw[hb]at h; exact yV r f s hl.2 h
   | true => rw[hb]at h;cases beq_eq hb;cases h;exact hl.1
theorem cD{P:Program}{E:En}{l:List (Nat×SS)}(hl:pM P l)(h:E.ga=FT l:=by rfl)(hc:E.gc=Js l:=by rfl):dO P E:=⟨fun f s hs=>vn l f s hl (h ▸ hs),fun f s hs=>yV l f s hl (hc ▸ hs)⟩
theorem rB{P:Program}{E E':En}(h:cH P E)(e:E'.tt=E.tt:=by rfl):cH P E':=fun t ti ht=>h t ti (by unfold En.ti at ht ⊢;rw[<- e]; exact ht)
def AZ(P:Program)(E:En):List (Nat×Code)->Prop
 | []=>True
 | (id,b)::r=>(∀ L,E.lo id=some L->j4 P E id b L)/\AZ P E r
theorem sZ{P:Program}{E:En}:∀(l:List (Nat×Code)) (id:Nat) (b:Code) (L:Lo E.ρ),AZ P E l->(id,b)∈l->E.lo id=some L->j4 P E id b L
 | [],_,_,_,_,h,_=>by simp at h
 | (i,c)::r,id,b,L,hl,h,hL=>by
   rcases amo.1 h with h | h
   . cases h; exact hl.1 L hL
   . exact sZ r id b L hl.2 h hL
def IM(P:Program)(E:En):List (Nat×Code)->Prop
 | []=>True
 | (id,b)::r=>(∀ F,E.rg id=some F->dA P E b F)/\IM P E r
theorem Bm{P:Program}{E:En}:∀(l:List (Nat×Code)) (id:Nat) (b:Code) (F:St->Tr St),IM P E l->(id,b)∈l->E.rg id=some F->dA P E b F
 | [],_,_,_,_,h,_=>by simp at h
 | (i,c)::r,id,b,F,hl,h,hF=>by
   rcases amo.1 h with h | h
   . cases h; exact hl.1 F hF
   . exact Bm r id b F hl.2 h hF
theorem uk{P:Program}{E:En}{id:Nat}{b:Code}{F0:St->Tr St}(h:E.rg id=some F0)(hs:dA P E b F0):∀ F,E.rg id=some F->dA P E b F:=fun F hF=>by rw[h]at hF;cases hF;exact hs
theorem xH{P:Program}{E:En}{c:Code}(bs:List (Nat×Code))(h:fm (fun id=>(E.lo id).isSome) c=bs)(hs:AZ P E bs)(Yk:∀ id,E.rg id=none:=by intro _; rfl):dR P E c :=
 ib c (fun id b F hm hF=>by rw[Yk id]at hF; simp at hF) fun id b L hm hL=>sZ bs id b L hs (h ▸ hm) hL
theorem db{P:Program}{E:En}{c:Code}(bs:List (Nat×Code))(h:fm (fun id=>(E.lo id).isSome) c=bs)(hs:AZ P E bs)(rs:List (Nat×Code))(hr:nF (fun id=>(E.rg id).isSome) (fun id=>(E.lo id).isSome) c=rs)(hrs:IM P E rs):dR P E c :=
 ib c (fun id b F hm hF=>Bm rs id b F hrs (hr ▸ hm) hF) fun id b L hm hL=>sZ bs id b L hs (h ▸ hm) hL
theorem XJ{P:Program}{E:En}{id:Nat}{b:Code}{L0:Lo E.ρ}(h:E.lo id=some L0)(hs:j4 P E id b L0):∀ L,E.lo id=some L->j4 P E id b L:=fun L hL=>by rw[h]at hL;cases hL;exact hs
theorem D6{P:Program}{E:En}(hT:cH P E)(eF:dO P E)(hm:P.follows .mixedOrders=true){id:Nat}{σ:List SE}{body:Code}{step:ff σ->Option (Sum (ff σ) (Sum (ff σ) (ff E.ρ)))}
 (ht:∀ x,(nE E id σ body x).run=step x)(hl:dR P E body):j4 P E id (.loop body) ⟨σ,fun x=>aq step x⟩ :=
 Jr hT eF (wu hT eF) hm (xz E) hl fun x r h=>by obtain⟨n,hn⟩:=Ay step h;have e:(fun x=>(nE E id σ body x).run)=step:=funext ht;exact⟨n,by rw[e]; exact hn⟩
theorem pN {P : Program} {E : En} (hT : cH P E) (eF : dO P E) (hm : P.follows .mixedOrders = true) {f : Nat} {fn : Func} {c : Code} (hf : P.funcs[f]? = some fn) (iw : (fn.name == "runtime.NumGoroutine") = false) (hb : fn.body = some c) (Mg : E.nt = fn.ntmps) (hl : dR P E c)
 {s:Su} (hs:∀ x y,s.vX x=some y->∃ z,(nn s.ps=true->z=y.1)/\(Ii E c fn.results.toList s.ps s.rs s.fresh x).run=some (z,y.2)):lU P f s :=
 RA hT eF (wu hT eF) hm hf iw hb Mg hl hs
def dZ:Code->Code | .seq a _=>a | c=>c
def df:Code->Code | .seq _ b=>b | c=>c
def LJ:Code->Nat | .region i _ _=>i | _=>0
def pU(c:Code)(i:Nat):Oper:=match c with | .region _ ops _=>ops.getD i default | _=>default
def sY(id:Nat):Code->Option Code
 | .seq a b=>match sY id a with | some c=>some c | none=>sY id b
 | .cond _ a b=>match sY id a with | some c=>some c | none=>sY id b
 | .block _ c=>sY id c
 | .loop b=>sY id b
 | .region i ops dr=>bif Nat.beq i id then some (.region i ops dr)else none
 | _=>none
def bq(id:Nat)(c:Code):Code:=(sY id c).getD .skip
def Pv(o:Oper):Call:=match o.op with | .call c=>c | _=>⟨.builtin .len,#[],#[]⟩
def mzB(bytes:Nat)(n:Int):Bool:=ck 0 n&&ck (n * bytes) bQ
def agp{ρ:List SE}:List (Nat×Lo ρ)->Nat->Option (Lo ρ)
 | [],_=>none
 | (k,L)::r,i=>bif Nat.beq k i then some L else agp r i
def OZ(n:Nat)(tt:List (Nat×TI))(l:List (Nat×SS))(ρ:List SE)(los:List (Nat×Lo ρ))(pins:List Nat):En:=xE n tt l ρ (agp los) pins fun _=>none
theorem ac{P:Program}{f:Nat}{s:Su}{l:List (Nat×SS)}(h:lU P f s)(r:pM P l):pM P ((f,iS s)::l):=⟨h,r⟩
theorem ack{P:Program}{f:Nat}{s:Sc}{l:List (Nat×SS)}(h:Jp P f s)(r:pM P l):pM P ((f,iC s)::l):=⟨h,r⟩
theorem an{P:Program}:pM P []:=trivial
def GLo(P:Program)(E:En)(C c:Code):Prop:=cH P E->dO P E->P.follows .mixedOrders=true->dR P E c
def WA(P:Program)(E:En)(C:Code)(ks:List Nat):Prop:=cH P E->dO P E->P.follows .mixedOrders=true->AZ P E (ks.map fun k=>(k,.loop (kK k C)))
theorem sn{P:Program}{E:En}{C:Code}:WA P E C []:=fun _ _ _=>trivial
theorem dV{P:Program}{n:Nat}{tt:List (Nat×TI)}{l:List (Nat×SS)}{ρ:List SE}{los:List (Nat×Lo ρ)}{pins:List Nat}{C c:Code}
 (h:fm (fun id=>((OZ n tt l ρ los pins).lo id).isSome) c=[]:=by kernel_rfl):GLo P (OZ n tt l ρ los pins) C c:=fun _ _ _ =>
 xH [] h trivial
theorem sc{P:Program}{E:En}{C:Code}{k:Nat}{ks:List Nat}{σ:List SE}{step:ff σ->Option (Sum (ff σ) (Sum (ff σ) (ff E.ρ)))}(hl:GLo P E C (kK k C))(r:WA P E C ks)(h:E.lo k=some ⟨σ,fun x=>aq step x⟩:=by exact rfl)
 (ht:∀ x,(nE E k σ (kK k C) x).run=step x:=by intro x; kernel_rfl):WA P E C (k::ks):=fun hT eF hm =>
 ⟨XJ h (D6 hT eF hm ht (hl hT eF hm)),r hT eF hm⟩
theorem lp{P:Program}{n:Nat}{tt:List (Nat×TI)}{l:List (Nat×SS)}{ρ:List SE}{los:List (Nat×Lo ρ)}{pins:List Nat}{C c:Code}(ks:List Nat)(hs:WA P (OZ n tt l ρ los pins) C ks)
 (h:fm (fun id=>((OZ n tt l ρ los pins).lo id).isSome) c=ks.map fun k=>(k,.loop (kK k C)):=by kernel_rfl):GLo P (OZ n tt l ρ los pins) C c:=fun hT eF hm =>
 xH _ h (hs hT eF hm)
theorem flq{P:Program}{tt:List (Nat×TI)}{E0:En}(hT:cH P E0)(hm:P.follows .mixedOrders=true){f:Nat}{s:Su}{n:Nat}{l:List (Nat×SS)}(hl:pM P l){ρ:List SE}{los:List (Nat×Lo ρ)}{pins:List Nat}{fn:Func}
 (h : (P.funcs[f]?, (fn.name == "runtime.NumGoroutine"), fn.body.isSome, fn.ntmps) = (some fn, false, true, n)) (Pb : GLo P (OZ n tt l ρ los pins) (aw fn) (aw fn))
 (ht:∀ x,(Ii (OZ n tt l ρ los pins) (aw fn) fn.results.toList s.ps s.rs s.fresh x).run=s.vX x)(e:tt=E0.tt:=by rfl):lU P f s:=by
 simp only[amK]at h;have hb:fn.body=some (aw fn):=by
  have h:=h.2.2.1;unfold aw;cases hb:fn.body with
  | none=>rw[hb]at h; simp at h
  | some c=>rfl
 have hT':cH P (OZ n tt l ρ los pins):=rB hT e;have eF:dO P (OZ n tt l ρ los pins):=cD (l:=l) hl;exact pN hT' eF hm h.1 h.2.1 hb h.2.2.2.symm (Pb hT' eF hm) fun x y hy=>⟨y.1,fun _=>rfl,(ht x).trans hy⟩
end Go.Av
