/- FnExactRunSwept, a part. -/
import Derived.Test.YtcmhjdkpbgncfaaGreatDoorFw2
import Derived.Laws.AppendOwn
import Derived.KernelRfl
namespace Go.Av
open Go.RowKit (Below)
def Gh.nH(g:Gh)(r j:Nat)(v:Value)(F:Nat->Prop):Gh:=⟨g.be,fun r' j'=>if r'=r/\j'=j then v else g.cv r' j',fun r' j' b=>if r'=r/\j'=j then F b else g.fp r' j' b⟩
section
variable{P:Program}{cx:Cx P}{Z:Nat->Prop}{g:Gh}{st:St}{a:Act}{w:World}{E:En}
theorem mj{r j:Nat}{c:RC}{r':Nat}{R':Rt}(hR:look (st.setCell r j c).rt r'=some R'):∃ R,look st.rt r'=some R/\R'.box=R.box/\R'.cells.length=R.cells.length:=by
 rw[jH]at hR;split at hR
 . cases hl:look st.rt r' with
   | none=>rw[hl]at hR;simp at hR
   | some R=>rw[hl]at hR;simp only[amI,amh]at hR;subst hR;exact⟨R,rfl,rfl,kM _ _ _⟩
 . exact⟨R',hR,rfl,rfl⟩
theorem Rel.change(h:Rel cx Z g st a w){r j:Nat}{c c':RC}(hc:st.cell r j=some c){w':World}{v':Value}{F':Nat->Prop}(h1:w'.os=w.os)(h2:w'.tape=w.tape)(h3:w'.output=w.output)(dh:w.heap.size<=w'.heap.size)
 (hs:c.s<=c'.s)(hm:c.m<c'.m)(Pc:c'.s=c.s->v'=g.cv r j)(E8:c'.s=c.s->∀ e ks xs,c.v= .own (.sl e ks) xs->∃ rW,c'.v= .own (.sl e ks) rW/\(aW rW).length=(aW xs).length)
 (lE:∀ b,b<w.heap.size->¬ g.fp r j b->(∀ R,look st.rt r=some R->R.box=true->g.be r≠b)->w'.heap[b]? = w.heap[b]?)
 (hF:∀ b,F' b->b<w'.heap.size/\(cx.F0 b∨cx.w0.heap.size<=b)/\¬ Z b/\(∀ r' j',g.fp r' j' b->r'=r/\j'=j)/\(∀ r' R,look st.rt r'=some R->R.box=true->g.be r'≠b)/\∃(k:K) (x:T k),c'.v= .own k x)
 (alu:∀ R,look st.rt r=some R->R.box=true->∃ cs e fr fT,w.heap[g.be r]? = some (.cells cs e fr)/\w'.heap[g.be r]? = some (.cells fT e fr)/\fT.size=cs.size/\∀ i,i<cs.size->fT[i]? = some (if i=j then v' else g.cv r i))
 (hv:∀(k:nW Z Z w w' g (g.nH r j v' F') st (st.setCell r j c')),lh Z (g.nH r j v' F') (st.setCell r j c') w' c'.v v' F') :
 Rel cx Z (g.nH r j v' F') (st.setCell r j c') a w'/\lN Z w w' g (g.nH r j v' F') st (st.setCell r j c'):=by
 have H6:∀ r' j' b,g.fp r' j' b->¬ (r'=r/\j'=j)->w'.heap[b]? = w.heap[b]? :=fun r' j' b hb cY=>lE b (h.fp r' j' b hb).1 (fun hh=>cY (h.cS _ _ _ _ _ hb hh)) fun R hR nP he=>(h.box r R hR nP).2.2.1 r' j' (by rw[he];exact hb)
 have hz:∀ b,Z b->b<w.heap.size->w'.heap[b]? = w.heap[b]? :=fun b hb aV=>lE b aV (fun hh=>(h.fp r j b hh).2.2.1 hb) fun R hR nP he=>(h.box r R hR nP).2.1 (by rw[he];exact hb)
 have qQ:∀ r' j' b,(g.nH r j v' F').fp r' j' b->(r'=r/\j'=j/\F' b)∨(¬ (r'=r/\j'=j)/\g.fp r' j' b):=fun r' j' b hb=>by
  simp only[Gh.nH]at hb;split at hb
  . rename_i e;exact .inl ⟨e.1,e.2,hb⟩
  . rename_i e;exact .inr ⟨e,hb⟩
 have k:nW Z Z w w' g (g.nH r j v' F') st (st.setCell r j c'):=by
  refine { size:=dh,z:=fun b hb aV=>⟨hb,hz b hb aV⟩,root:=fun r' R hR=>?_,cell:=fun r' j' c0 Ip=>?_,own:=fun r j b hb=>(h.fp r j b hb).1,block:=(fY h (ay:=st) (w':=w) rfl rfl).block }
  . rw[jH];by_cases e:r=r'
    . rw[if_pos e,hR];exact⟨_,rfl,rfl,fun _=>rfl⟩
    . rw[if_neg e];exact⟨R,hR,rfl,fun _=>rfl⟩
  . rw[dI];by_cases e:r=r'/\j=j'
    . obtain⟨rfl,rfl⟩:=e;rw[Ip]at hc;simp only[amh]at hc;subst hc;rw[if_pos ⟨rfl,rfl⟩,Ip];refine⟨_,rfl,hs,aoB hm,fun e=>?_,E8,fun _ e=>absurd e (Nat.ne_of_gt hm)⟩;simp only[Gh.nH,and_self,if_true];exact Pc e
    . rw[if_neg e];have e':¬ (r'=r/\j'=j):=fun x=>e ⟨x.1.symm,x.2.symm⟩
      refine⟨c0,Ip,oR _,oR _,fun _=>by simp only[Gh.nH];rw[if_neg e'],fun _ e ks xs hh=>⟨xs,hh,rfl⟩,fun _ _=>⟨rfl,fun b hb _=>⟨?_,H6 r' j' b hb e'⟩⟩⟩;simp only[Gh.nH];rw[if_neg e'];exact hb
 refine⟨?_,⟨k,fH,rfl,fun r' R' hR=>by obtain⟨R,h1,h2,_⟩:=mj hR;exact⟨R,h1,h2⟩⟩⟩;refine { os:=h1.trans h.os,tape:=h2.trans h.tape,output:=h3.trans h.output,size:=amp h.size dh,block:=?_,cq:=fun b hb=>⟨amG (h.cq b hb).1 dh,(h.cq b hb).2⟩,z0:=h.z0,fp:=?_,cS:=?_,box:=?_,cell:=?_,tm:=?_,defers:=h.defers,nz:=h.nz }
 . intro b hb hf;refine(lE b (amG hb h.size) (fun hh=>?_) fun R hR nP he=>?_).trans (h.block b hb hf)
   . rcases(h.fp r j b hh).2.1 with h4 | h4
     . exact hf h4
     . omega
   . rcases(h.box r R hR nP).1 with h4 | h4
     . exact hf (he ▸ h4)
     . omega
 . intro r' j' b hb;rcases qQ r' j' b hb with ⟨e1,e2,cz⟩ | ⟨cY,hb⟩
   . obtain⟨k1,k2,k3,_,_,kk,x,k4⟩:=hF b cz;exact⟨k1,k2,k3,c',kk,x,by rw[dI,if_pos ⟨e1.symm,e2.symm⟩,e1,e2,hc];rfl,k4⟩
   . obtain⟨k1,k2,k3,c0,kk,x,k4,k5⟩:=h.fp r' j' b hb;exact⟨amG k1 dh,k2,k3,c0,kk,x,by rw[dI,if_neg (fun e=>cY ⟨e.1.symm,e.2.symm⟩)];exact k4,k5⟩
 . intro r1 j1 r2 j2 b yQ l6;rcases qQ _ _ _ yQ with ⟨e1,e2,k1⟩ | ⟨alv,k1⟩
   . rcases qQ _ _ _ l6 with ⟨e3,e4,k2⟩ | ⟨ahT,k2⟩
     . exact⟨e1.trans e3.symm,e2.trans e4.symm⟩
     . exact absurd ((hF b k1).2.2.2.1 r2 j2 k2) ahT
   . rcases qQ _ _ _ l6 with ⟨e3,e4,k2⟩ | ⟨ahT,k2⟩
     . exact absurd ((hF b k2).2.2.2.1 r1 j1 k1) alv
     . exact h.cS _ _ _ _ _ k1 k2
 . intro r' R' hR nP;obtain⟨R,e1,e2,e3⟩:=mj hR;obtain⟨b1,b2,b3,b4,cs,el,fr,b5,b6,b7,b8⟩:=h.box r' R e1 (by rw[<- e2];exact nP);have hnf:∀ r0 j0,¬ (g.nH r j v' F').fp r0 j0 (g.be r'):=fun r0 j0 hh=>by
    rcases qQ _ _ _ hh with ⟨_,_,hh⟩ | ⟨_,hh⟩
    . exact(hF _ hh).2.2.2.2.1 r' R e1 (by rw[<- e2];exact nP) rfl
    . exact b3 _ _ hh
   refine⟨b1,b2,hnf,fun OT Yd mP xt he=>?_,?_⟩
   . obtain⟨R2,f1,f2,_⟩:=mj mP;exact b4 OT R2 f1 (by rw[<- f2];exact xt) he
   . by_cases e:r'=r
     . subst e;obtain⟨cs0,el0,fr0,fT,f1,f2,f3,f4⟩:=alu R e1 (by rw[<- e2];exact nP);rw[b5]at f1;simp only[amh,Obj.cells.injEq]at f1;obtain⟨rfl,rfl,rfl⟩:=f1;refine⟨fT,el,fr,f2,fun q hq=>b6 q (by omega),by rw[f3,b7,e3],fun i hi=>?_⟩;rw[f4 i (by omega)];simp only[Gh.nH,true_and]
     . refine⟨cs,el,fr,?_,b6,by rw[b7,e3],fun i hi=>?_⟩
       . have aV:g.be r'<w.heap.size:=by
          rcases amz (g.be r') w.heap.size with hh | hh
          . exact hh
          . simp[amC hh]at b5
         show w'.heap[g.be r']? = _;rw[lE _ aV (b3 r j) fun R0 H7 xy he=>e (b4 r R0 H7 xy he).symm];exact b5
       . rw[b8 i hi];simp only[Gh.nH];rw[if_neg (fun x=>e x.1)]
 . intro r' j' c0 Ip;rw[dI]at Ip;split at Ip
   . rename_i e;obtain⟨rfl,rfl⟩:=e;rw[hc]at Ip;simp only[amI,amh]at Ip;subst Ip;have e1:(g.nH r j v' F').cv r j=v':=by simp[Gh.nH]
     have e2:(g.nH r j v' F').fp r j=F':=by funext b;simp[Gh.nH]
     rw[e1,e2];exact hv k
   . rename_i e;have e':¬ (r'=r/\j'=j):=fun x=>e ⟨x.1.symm,x.2.symm⟩
     have e1:(g.nH r j v' F').cv r' j'=g.cv r' j':=by simp only[Gh.nH];rw[if_neg e']
     have e2:(g.nH r j v' F').fp r' j'=g.fp r' j':=by funext b;simp only[Gh.nH];rw[if_neg e']
     rw[e1,e2];exact lh.cI k _ _ _ _ (h.cell r' j' c0 Ip) (fun _ h=>h) (fun b hb _=>H6 r' j' b hb e')
 . intro t tv ht;rw[fH]at ht;exact⟨(h.tm t tv ht).1,bW.cI k _ _ (h.tm t tv ht).2⟩
theorem Ep{b o:Nat}{v:Value}(h:w.cell? ⟨b,o,none⟩=some v):w.setCell ⟨b,o,none⟩ v=w:=by
 have:(w.setCell ⟨b,o,none⟩ v).heap=w.heap:=by
  apply aoc;intro i;simp only[World.setCell,Array.getElem?_modify];by_cases e:b=i
  . subst e;rw[if_pos rfl];simp only[World.cell?]at h;split at h
    . rename_i c el fr hh;rw[hh];simp at h;simp only[amI,anD,am1,anz,amh,Obj.cells.injEq,anQ];apply aoc;intro q;rw[ang];by_cases e:o=q
      . subst e;rw[if_pos rfl];have aV:o<c.size:=by
         rcases amz o c.size with hh | hh
         . exact hh
         . simp[amC hh]at h
        rw[if_pos aV,h]
      . rw[if_neg e]
    . simp at h
  . rw[if_neg e]
 cases w;simp only[World.setCell]at this ⊢;congr 1
theorem eb(b o:Nat)(v:Value)(i:Nat):(w.setCell ⟨b,o,none⟩ v).heap[i]? = if b=i then (w.heap[i]?).map (fun | .cells c el fr=> .cells (c.setIfInBounds o v) el fr | x=>x)else w.heap[i]? :=by
 simp only[World.setCell,Array.getElem?_modify];by_cases e:b=i
 . rw[if_pos e,if_pos e];cases w.heap[i]? with
   | none=>rfl
   | some x=>cases x <;> rfl
 . rw[if_neg e,if_neg e]
theorem Rel.adA(h:Rel cx Z g st a w){r j:Nat}{c:RC}(hc:st.cell r j=some c){R:Rt}(hR:look st.rt r=some R)(hb:R.box=true){rv:RV}{v:Value}{F:Nat->Prop}(hF:jB cx Z g st w F)(hrv:match rv with | .own k x=>dG w k x v F | .av x=>bC Z g st w x v) :
 ∃ g',Rel cx Z g' (st.setCell r j ⟨c.s+1,c.m+1,rv⟩) a (w.setCell ⟨g.be r,j,none⟩ v)/\lN Z w (w.setCell ⟨g.be r,j,none⟩ v) g g' st (st.setCell r j ⟨c.s+1,c.m+1,rv⟩)/\g'.be=g.be:=by
 obtain⟨b1,b2,b3,b4,cs,el,fr,b5,b6,b7,b8⟩:=h.box r R hR hb;have nQ:j<cs.size:=by
  rw[b7];simp only[St.cell,hR]at hc;rcases amz j R.cells.length with hh | hh
  . exact hh
  . simp[amA hh]at hc
 have dh:(w.setCell ⟨g.be r,j,none⟩ v).heap.size=w.heap.size:=by simp[World.setCell]
 have uw:∀ i,i≠g.be r->(w.setCell ⟨g.be r,j,none⟩ v).heap[i]? = w.heap[i]? :=fun i hi=>by rw[eb,if_neg (fun e=>hi e.symm)]
 have:=h.change hc (c':=⟨c.s+1,c.m+1,rv⟩) (w':=w.setCell ⟨g.be r,j,none⟩ v) (v':=v) (F':=fun b=>F b/\∃(k:K) (x:T k),rv= .own k x) rfl rfl rfl (by rw[dh];exact oR _) (aog _) (ani _)
  (fun e=>absurd e (aoG _)) (fun e=>absurd e (aoG _)) (fun b _ _ hx=>uw b fun e=>hx R hR hb e.symm)
  (fun b cz=>⟨by rw[dh];exact hF.lt b cz.1,hF.own b cz.1,hF.z b cz.1,fun r' j' hh=>absurd hh (hF.fp b cz.1 r' j'),fun r' R' lu hx=>hF.box b cz.1 r' R' lu hx,cz.2⟩)
  (fun R' lu hx=>⟨cs,el,fr,cs.setIfInBounds j v,b5,by rw[eb,if_pos rfl,b5];rfl,by simp,fun i hi=>by
    rw[ang];by_cases e:i=j
    . subst e;simp[hi]
    . rw[if_neg (fun x=>e x.symm),if_neg e];exact b8 i hi⟩)
  (fun k=>by
    cases rv with
    | own kk x=>exact dG.frame _ _ _ _ _ (fun b hb=>⟨hb,kk,x,rfl⟩) (fun b hb _=>uw b fun e=>hF.box b hb r R hR ‹_› e.symm) hrv
    | av x=>exact bC.cI k _ _ hrv)
 exact⟨_,this.1,this.2,rfl⟩
end
def shape(st:St)(r:Nat):Option (Bool×Nat):=(look st.rt r).map fun R=>(R.box,R.cells.length)
theorem kQ{st:St}{r j:Nat}{c:RC}(r':Nat):shape (st.setCell r j c) r'=shape st r':=by
 unfold shape;rw[jH];split
 . rename_i e;subst e;cases look st.rt r with
   | none=>rfl
   | some R=>simp[kM]
 . rfl
theorem J7{st:St}{av:AV}{q:St×((k:K)×T k)}(h:st.take av=some q)(r':Nat):shape q.1 r'=shape st r'/\q.1.tm=st.tm:=by
 cases av with
 | ref r j s=>
   simp only[St.take]at h;split at h
   . rename_i s' m k x hc;cases hb:Nat.beq s' s with
     | false=>rw[hb]at h;simp at h
     | true=>rw[hb]at h;cases h;exact⟨kQ r',fH⟩
   . simp at h
 | cut r j s n=>
   simp only[St.take]at h;split at h
   . rename_i s' m e ks x hc;cases hb:Nat.beq s' s with
     | false=>rw[hb]at h;simp at h
     | true=>rw[hb]at h;cases h;exact⟨kQ r',fH⟩
   . simp at h
 | _=>simp[St.take]at h
theorem uQ{st ay:St}{k:K}{av:AV}{x:T k}(h:st.cU k av=some (ay,x))(r':Nat):shape ay r'=shape st r'/\ay.tm=st.tm:=by
 unfold St.cU at h;split at h
 . cases h;exact⟨rfl,rfl⟩
 . split at h
   . rename_i ca k1 x1 hq;split at h
     . cases h;exact J7 hq r'
     . simp at h
   . simp at h
theorem tU{st:St}{r n:Nat}{b:Bool}(h:shape st r=some (b,n)):∃ R,look st.rt r=some R/\R.box=b/\R.cells.length=n:=by
 unfold shape at h;cases hl:look st.rt r with
 | none=>rw[hl]at h;simp at h
 | some R=>rw[hl]at h;simp only[amI,amh,amO]at h;exact⟨R,rfl,h.1,h.2⟩
theorem yz{st:St}{r j:Nat}{c:RC}(h:st.cell r j=some c){R:Rt}(hR:look st.rt r=some R):j<R.cells.length:=by
 simp only[St.cell,hR]at h;rcases amz j R.cells.length with hh | hh
 . exact hh
 . simp[amA hh]at h
section
variable{P:Program}{cx:Cx P}{Z:Nat->Prop}{a:Act}{E:En}
theorem rn{r n:Nat}:∀(ks:List K) (l:List AV) (vs:List Value) (st:St) (g:Gh) (w:World) (j:Nat) (ay:St),Rel cx Z g st a w->shape st r=some (true,n)->a8 Z g st w l vs->st.dp r j ks l=some ay ->
 ∃ g',Rel cx Z g' ay a (w.setCells (g.be r) j vs)/\ay.tm=st.tm/\(vs=[]∨j+vs.length<=n)
 | [],[],[],st,g,w,j,ay,h,hs,hr,ht=>by simp only[St.dp,amh]at ht;subst ht;exact⟨g,h,rfl,.inl rfl⟩
 | [],[],_::_,st,g,w,j,ay,h,hs,hr,ht=>hr.elim
 | k::ks,av::l,[],st,g,w,j,ay,h,hs,hr,ht=>hr.elim
 | k::ks,av::l,v::vs,st,g,w,j,ay,h,hs,hr,ht=>by
   obtain⟨R,hR,hb,hn⟩:=tU hs
   have put:∀(ca:St) (g1:Gh) (rv:RV) (F:Nat->Prop) (c:RC),Rel cx Z g1 ca a w->g1.be=g.be->ca.tm=st.tm->(∀ r',shape ca r'=shape st r')->jB cx Z g1 ca w F->(match rv with | .own k x=>dG w k x v F | .av x=>bC Z g1 ca w x v)->a8 Z g1 ca w l vs->ca.cell r j=some c ->
    (ca.setCell r j ⟨c.s+1,c.m+1,rv⟩).dp r (j+1) ks l=some ay->∃ g',Rel cx Z g' ay a (w.setCells (g.be r) j (v::vs))/\ay.tm=st.tm/\(v::vs=[]∨j+(v::vs).length<=n):=by
    intro ca g1 rv F c h1 vW Fq B1 hF hrv hl hc mS;obtain⟨R1,Vb,yQ,Vc⟩:=tU (show shape ca r=some (true,n)by rw[B1];exact hs);obtain⟨g2,k1,k2,k3⟩:=h1.adA hc Vb yQ hF hrv;rw[vW]at k1 k2;obtain⟨g',m1,m2,m3⟩:=rn ks l vs _ g2 _ (j+1) ay k1 (by rw[kQ,B1];exact hs) (a8.cI k2.cI _ _ hl) mS;rw[k3,vW]at m1;refine⟨g',m1,m2.trans (fH.trans Fq),.inr ?_⟩;have:=yz hc Vb;rcases m3 with m3 | m3
    . subst m3;simp;omega
    . simp;omega
   have bump:∀(ca:St) (rv:RV) (q:Option St),(match ca.bump r j rv with | some ay=>ay.dp r (j+1) ks l | none=>none)=some ay->∃ c,ca.cell r j=some c/\(ca.setCell r j ⟨c.s+1,c.m+1,rv⟩).dp r (j+1) ks l=some ay:=by
    intro ca rv _ hh;unfold St.bump at hh;cases hc:ca.cell r j with
    | none=>rw[hc]at hh;simp at hh
    | some c=>rw[hc]at hh;exact⟨c,rfl,hh⟩
   have take:(match st.cU k av with | some (ay,x)=>(match ay.bump r j (.own k x)with | some ay=>ay.dp r (j+1) ks l | none=>none) | none=>none)=some ay->∃ g',Rel cx Z g' ay a (w.setCells (g.be r) j (v::vs))/\ay.tm=st.tm/\(v::vs=[]∨j+(v::vs).length<=n):=by
    intro hh;cases Du:st.cU k av with
    | none=>rw[Du]at hh;simp at hh
    | some q=>obtain⟨ca,x⟩:=q;rw[Du]at hh;simp only at hh;obtain⟨c,hc,mS⟩:=bump ca (.own k x) none hh;obtain⟨g1,F,k1,k2,k3,k4,k5,k6,k7⟩:=hO h hr.1 Du;exact put ca g1 (.own k x) F c k1 k2.be k2.tm (fun r'=>(uQ Du r').1) k4 k3 (a8.cI k2.cI _ _ hr.2) hc mS
   have viaRC:(match st.kG av with | some c=>(match st.bump r j c.v with | some ay=>ay.dp r (j+1) ks l | none=>none) | none=>none)=some ay->∃ g',Rel cx Z g' ay a (w.setCells (g.be r) j (v::vs))/\ay.tm=st.tm/\(v::vs=[]∨j+(v::vs).length<=n):=by
    intro hh;cases Du:st.kG av with
    | none=>rw[Du]at hh;simp at hh
    | some c1=>rw[Du]at hh;simp only at hh;obtain⟨c,hc,mS⟩:=bump st c1.v none hh;have h1:a8 Z g st w [av] [v]:=⟨hr.1,trivial⟩;obtain⟨e1,e2,e3⟩:=wz h [av] [v] [c1] h1 (by simp[St.mM,Du]);obtain⟨x,hx,hxr⟩:=e3 0 c1 v rfl rfl;rw[hx]at mS;exact put st g (.av x) (fun _=>False) c h rfl rfl (fun _=>rfl) (jB.none _ _ _ _ _) hxr hr.2 hc mS
   cases av with
   | ref r2 j2 s2=>
     simp only[St.dp]at ht;cases l6:Nat.beq r r2&&Nat.beq j j2 with
     | true=>
       rw[l6]at ht;simp only[oT]at ht;simp only[ami]at l6;have e1:=beq_eq l6.1;have e2:=beq_eq l6.2;subst e1;subst e2;cases hc:st.cell r j with
       | none=>rw[hc]at ht;simp at ht
       | some c=>
         rw[hc]at ht;simp only at ht;cases Mg:Nat.beq c.s s2 with
         | false=>rw[Mg]at ht;simp at ht
         | true=>
           rw[Mg]at ht;simp only[oT]at ht;obtain⟨c',k1,k2,k3⟩:=hr.1;rw[hc]at k1;simp only[amh]at k1;subst k1;have hv:=k3 (beq_eq Mg);have aV:=yz hc hR;obtain⟨b1,b2,b3,b4,cs,el,fr,b5,b6,b7,b8⟩:=h.box r R hR hb;have bD:w.cell? ⟨g.be r,j,none⟩=some v:=by simp only[World.cell?,b5,anD,am1,anz];rw[b8 j (by omega),hv]
           obtain⟨g',m1,m2,m3⟩:=rn ks l vs st g w (j+1) ay h hs hr.2 ht;refine⟨g',?_,m2,.inr ?_⟩
           . show Rel cx Z g' ay a ((w.setCell ⟨g.be r,j,none⟩ v).setCells (g.be r) (j+1) vs);rw[Ep bD];exact m1
           . rcases m3 with m3 | m3
             . subst m3;simp;omega
             . simp;omega
     | false=>rw[l6]at ht;exact take ht
   | cut r2 j2 s2 n2=>exact take ht
   | nil=>
     cases k with
     | sl e bZ=>simp only[St.dp]at ht;obtain⟨c,hc,mS⟩:=bump st _ none ht;have hv:v= .slice none 0 0:=hr.1;exact put st g (.own (.sl e bZ) ([]:List (Tl bZ))) (fun _=>False) c h rfl rfl (fun _=>rfl) (jB.none _ _ _ _ _) (by rw[hv];exact kP e bZ) hr.2 hc mS
     | _=>simp[St.dp]at ht
   | _=>exact viaRC ht
 | [],_::_,_,st,g,w,j,ay,h,hs,hr,ht=>by simp[St.dp]at ht
 | _::_,[],_,st,g,w,j,ay,h,hs,hr,ht=>by simp[St.dp]at ht
theorem Fz{t:TypeId}{ti:TI}(hT:rH P t ti){w:World}{b o:Nat}{v:Value}{vs:List Value}(hv:v.cells.toList=vs)(hl:vs.length=ti.ks.length)(h1:∀ u∈vs,u.oneCell'=true)(hc:∀ j,j<vs.length->∃ cs el fr,w.heap[b]? = some (.cells cs el fr)/\o+j<cs.size/\¬ (fr.1<=o+j/\o+j<fr.2)) :
 (Instr.storeAt t (.pointer (some ⟨b,o,none⟩)) v).run P w= .ok () (w.setCells b o vs):=by
 have dh:v.cells.size=ti.ks.length:=by rw[<- amT,hv,hl]
 have mS:=run_storeCells_cells (P:=P) b o vs 0 w (fun j hj=>by
  obtain⟨cs,el,fr,e1,e2,_⟩:=hc j hj;simp[World.cell?,e1,e2]) (fun j hj=>by
  obtain⟨cs,el,fr,e1,e2,e3⟩:=hc j hj;simp only[World.frozen?,amN,e1];simp only[aoC,aoj];by_cases h:fr.1<=o+j
  . exact .inr fun h'=>e3 ⟨h,h'⟩
  . exact .inl h) h1
 rw[amN]at mS;simp only[Instr.storeAt,Instr.sureAddr,amJ,amR,amu,storeVar,dz hT,dh,hv,ne_eq,not_true_eq_false,anz];simpa using mS
end
section
variable{w w':World}
theorem x8:∀(ks:List K) (x:Tl ks) (j:Nat) (G G':Nat->Nat->Prop) (cs fT:Array Value) (o:Nat),(∀ q,q<ks.length->fT[o+q]? = cs[o+q]?)->(∀ j b,G j b->G' j b)->(∀ j b,G j b->b<w.heap.size->w'.heap[b]? = w.heap[b]?)->gx w ks x j G cs o->gx w' ks x j G' fT o
 | [],_,_,_,_,_,_,_,_,_,_,_=>trivial
 | k::ks,x,j,G,G',cs,fT,o,hc,hG,hw,⟨⟨v,h1,h2⟩,h3⟩=>
   ⟨⟨v,by rw[<- h1];exact hc 0 (by simp),dG.frame k _ v (G j) (G' j) (hG j) (hw j) h2⟩,x8 ks _ (j+1) G G' cs fT (o+1) (fun q hq=>by rw[show o+1+q=o+(q+1)by omega];exact hc (q+1) (by simp;omega)) hG hw h3⟩
theorem zf:∀(ks:List K) (x:Tl ks) (c:Nat) (k:K) (y:T k) (z:Tl ks),setAt ks x c k y=some z->c<ks.length
 | [],_,_,_,_,_,h=>by simp[setAt]at h
 | _::_,_,0,_,_,_,_=>by simp
 | k0::ks,x,c+1,k,y,z,h=>by
   simp only[setAt]at h;split at h
   . rename_i z' hz;have:=zf ks x.2 c k y z' hz;simp;omega
   . simp at h
theorem Bv:∀(ks:List K) (x:Tl ks) (c:Nat) (k:K) (y:T k) (z:Tl ks) (j:Nat) (G G':Nat->Nat->Prop) (F:Nat->Prop) (cs fT:Array Value) (o:Nat) (v:Value),setAt ks x c k y=some z->dG w' k y v F->fT[o+c]? = some v->(∀ q,q<ks.length->q≠c->fT[o+q]? = cs[o+q]?) ->
 (∀ q b,q≠j+c->G q b->G' q b)->(∀ b,F b->G' (j+c) b)->(∀ q b,q≠j+c->G q b->b<w.heap.size->w'.heap[b]? = w.heap[b]?)->gx w ks x j G cs o->gx w' ks z j G' fT o
 | [],_,_,_,_,_,_,_,_,_,_,_,_,_,h,_,_,_,_,_,_,_=>by simp[setAt]at h
 | k0::ks,x,0,k,y,z,j,G,G',F,cs,fT,o,v,h,hv,hc,Mg,hG,hF,hw,⟨⟨u,h1,h2⟩,h3⟩=>by
   simp only[setAt]at h;split at h
   . rename_i y' hy;cases h;obtain⟨e,hy⟩:=cN hy;subst e;subst hy;refine⟨⟨v,hc,dG.frame _ _ _ _ _ hF (fun _ _ _=>rfl) hv⟩,?_⟩;have key:∀(ks:List K) (x:Tl ks) (q0:Nat) (o:Nat),j<q0->(∀ q,q<ks.length->fT[o+q]? = cs[o+q]?)->gx w ks x q0 G cs o->gx w' ks x q0 G' fT o:=by
      intro ks;induction ks with
      | nil=>intro x q0 o _ _ _;trivial
      | cons k1 ks ih=>intro x q0 o hq Mg ⟨⟨u,g1,g2⟩,g3⟩;exact⟨⟨u,by rw[<- g1];exact Mg 0 (by simp),dG.frame _ _ _ _ _ (fun b hb=>hG q0 b (by omega) hb) (fun b hb=>hw q0 b (by omega) hb) g2⟩,ih x.2 (q0+1) (o+1) (by omega) (fun q hq=>by rw[show o+1+q=o+(q+1)by omega];exact Mg (q+1) (by simp;omega)) g3⟩
     exact key ks x.2 (j+1) (o+1) (by omega) (fun q hq=>by rw[show o+1+q=o+(q+1)by omega];exact Mg (q+1) (by simp;omega) (by omega)) h3
   . simp at h
 | k0::ks,x,c+1,k,y,z,j,G,G',F,cs,fT,o,v,h,hv,hc,Mg,hG,hF,hw,⟨⟨u,h1,h2⟩,h3⟩=>by
   simp only[setAt]at h;split at h
   . rename_i z' hz;cases h;refine⟨⟨u,by rw[<- h1];exact Mg 0 (by simp) (by omega),dG.frame _ _ _ _ _ (fun b hb=>hG j b (by omega) hb) (fun b hb=>hw j b (by omega) hb) h2⟩,?_⟩
     exact Bv ks x.2 c k y z' (j+1) G G' F cs fT (o+1) v hz hv (by rw[show o+1+c=o+(c+1)by omega];exact hc) (fun q hq cY=>by rw[show o+1+q=o+(q+1)by omega];exact Mg (q+1) (by simp;omega) (by omega))
      (fun q b cY hb=>hG q b (by omega) hb) (fun b hb=>by rw[show j+1+c=j+(c+1)by omega];exact hF b hb) (fun q b cY hb=>hw q b (by omega) hb) h3
   . simp at h
end
section
variable{P:Program}{cx:Cx P}{Z:Nat->Prop}{g:Gh}{st:St}{a:Act}{w:World}{E:En}
theorem NY{i i' n q c:Nat}(hq:q<n)(hc:c<n)(h:¬ (i'=i/\q=c)):i' * n+q≠i * n+c:=by
 intro e;rcases aoV i' i with hi | hi | hi
 . have:=amL n (show i'+1<=i from hi);rw[amV,aoI]at this;omega
 . subst hi;exact h ⟨rfl,by omega⟩
 . have:=amL n (show i+1<=i' from hi);rw[amV,aoI]at this;omega
theorem Rel.aem(h:Rel cx Z g st a w){r j s m:Nat}{e:TypeId}{ks:List K}{xs:T (.sl e ks)}(hc:st.cell r j=some ⟨s,m,.own (.sl e ks) xs⟩){i:Nat}(hi:i<(aW xs).length){b o l cap:Nat}(Pc:g.cv r j= .slice (some ⟨b,o,none⟩) l cap)
 {F:Nat->Prop}(hF:jB cx Z g st w F){k:K}{y:T k}{v:Value}(hv:dG w k y v F){c:Nat}{z:Tl ks}(hz:setAt ks (hE xs i) c k y=some z) :
 ∃ g',Rel cx Z g' (st.setCell r j ⟨s,m+1,.own (.sl e ks) (List.set (aW xs) i z)⟩) a (w.setCell ⟨b,o+i * ks.length+c,none⟩ v)/\lN Z w (w.setCell ⟨b,o+i * ks.length+c,none⟩ v) g g' st (st.setCell r j ⟨s,m+1,.own (.sl e ks) (List.set (aW xs) i z)⟩)/\g'.be=g.be /\
  ∃ cs el fr,w.heap[b]? = some (.cells cs el fr)/\o+i * ks.length+c<cs.size/\(∀ q,q<cs.size->¬ (fr.1<=q/\q<fr.2)):=by
 have xx:=zf _ _ _ _ _ _ hz;have kn:=fj h hc rfl;rw[Pc]at kn;obtain⟨a',c0,h1,h2,h3,h4,h5⟩:=kn;simp only[anj]at h1;obtain⟨rfl,rfl,rfl⟩:=h1;obtain⟨b',o',cs,el,fr,g1,g2,g3,g4,g5,G,g6,g7,g8⟩:=h5 _ rfl;simp only[anJ,anQ]at g1;obtain⟨rfl,rfl⟩:=g1;have dh:(w.setCell ⟨b,o+i * ks.length+c,none⟩ v).heap.size=w.heap.size:=by simp[World.setCell]
 have uw:∀ q,q≠b->(w.setCell ⟨b,o+i * ks.length+c,none⟩ v).heap[q]? = w.heap[q]? :=fun q hq=>by rw[eb,if_neg (fun e=>hq e.symm)]
 have aV:o+i * ks.length+c<cs.size:=by have:=amL ks.length (show i+1<=cap by omega);rw[amV,aoI]at this;omega
 have hlen:(aW (e:=e) (ks:=ks) (List.set (aW xs) i z)).length=(aW xs).length:=ans ..
 have hFb:∀ q,F q->q≠b:=fun q hq e=>hF.fp q hq r j (by rw[e];exact g2)
 have:=h.change hc (c':=⟨s,m+1,.own (.sl e ks) (List.set (aW xs) i z)⟩) (w':=w.setCell ⟨b,o+i * ks.length+c,none⟩ v) (v':=g.cv r j) (F':=fun q=>g.fp r j q∨F q) rfl rfl rfl (by rw[dh];exact oR _) (oR _) (ani _)
  (fun _=>rfl) (fun _ e' bZ rW hx=>by simp only[RV.own.injEq,K.sl.injEq]at hx;obtain⟨⟨rfl,rfl⟩,hx⟩:=hx;have hx:=aox hx;subst hx;exact⟨_,rfl,hlen⟩)
  (fun q _ hq _=>uw q fun e=>hq (by rw[e];exact g2))
  (fun q hq=>by
    rcases hq with hq | hq
    . obtain⟨k1,k2,k3,_⟩:=h.fp r j q hq;exact⟨by rw[dh];exact k1,k2,k3,fun r' j' hh=>h.cS _ _ _ _ _ hh hq,fun r' R' lu hx he=>(h.box r' R' lu hx).2.2.1 r j (by rw[he];exact hq),_,_,rfl⟩
    . exact⟨by rw[dh];exact hF.lt q hq,hF.own q hq,hF.z q hq,fun r' j' hh=>absurd hh (hF.fp q hq r' j'),fun r' R' lu hx=>hF.box q hq r' R' lu hx,_,_,rfl⟩)
  (fun R' lu hx=>by
    obtain⟨_,_,b3,_,cs1,el1,fr1,b5,_,_,b8⟩:=h.box r R' lu hx;refine⟨cs1,el1,fr1,cs1,b5,?_,rfl,fun q hq=>?_⟩
    . rw[uw _ fun e=>b3 r j (by rw[e];exact g2)];exact b5
    . rw[b8 q hq];by_cases e:q=j
      . subst e;rw[if_pos rfl]
      . rw[if_neg e])
  (fun kp=>by
    show dG _ (.sl e ks) (List.set (aW xs) i z) (g.cv r j) _;rw[Pc];refine⟨_,cap,by rw[hlen],by rw[hlen];exact h2,by rw[hlen];exact h3,h4,fun a'' H8=>?_⟩;simp only[amh]at H8;subst H8;refine⟨b,o,cs.setIfInBounds (o+i * ks.length+c) v,el,fr,rfl,.inl g2,by rw[eb,if_pos rfl,g3];rfl,fun q hq=>g4 q (by simpa using hq),by simpa using g5,fun i' j' q=>if i'=i/\j'=c then F q else G i' j' q,fun i' j' q hq=>?_,fun i1 j1 i2 j2 q OU Cl=>?_,fun i' x hx=>?_⟩
    . dsimp only at hq;by_cases e:i'=i/\j'=c
      . rw[if_pos e]at hq;exact⟨.inr hq,hFb q hq⟩
      . rw[if_neg e]at hq;exact⟨.inl (g6 i' j' q hq).1,(g6 i' j' q hq).2⟩
    . dsimp only at OU Cl;by_cases e1:i1=i/\j1=c
      . rw[if_pos e1]at OU;by_cases e2:i2=i/\j2=c
        . exact⟨e1.1.trans e2.1.symm,e1.2.trans e2.2.symm⟩
        . rw[if_neg e2]at Cl;exact absurd (g6 i2 j2 q Cl).1 (hF.fp q OU r j)
      . rw[if_neg e1]at OU;by_cases e2:i2=i/\j2=c
        . rw[if_pos e2]at Cl;exact absurd (g6 i1 j1 q OU).1 (hF.fp q Cl r j)
        . rw[if_neg e2]at Cl;exact g7 i1 j1 i2 j2 q OU Cl
    . have lQ:(List.set (aW xs) i z)[i']? = some x:=hx;rw[aoW]at lQ;have hwf:∀(i' q p:Nat),G i' q p->p<w.heap.size->(w.setCell ⟨b,o+i * ks.length+c,none⟩ v).heap[p]? = w.heap[p]? :=fun i' q p hp _=>uw p (g6 i' q p hp).2
      by_cases ei:i=i'
      . subst ei;rw[if_pos rfl,if_pos hi]at lQ;simp only[amh]at lQ;subst lQ;refine Bv ks (hE xs i) c k y z 0 (G i) _ F cs _ _ v hz (dG.frame _ _ _ _ _ (fun _ h=>h) (fun p hp _=>uw p (hFb p hp)) hv) ?_ (fun q hq cY=>?_) (fun q p cY hp=>?_) (fun p hp=>?_) (fun q p _ hp=>hwf i q p hp) (g8 i _ (nY xs hi))
        . rw[ang,if_pos rfl,if_pos aV]
        . rw[ang,if_neg (by omega)]
        . show(if i=i/\q=c then F p else G i q p);rw[if_neg (fun e=>cY (by omega))];exact hp
        . show(if i=i/\0+c=c then F p else G i (0+c) p);rw[if_pos ⟨rfl,by omega⟩];exact hp
      . rw[if_neg ei]at lQ;refine x8 ks x 0 (G i') _ cs _ _ (fun q hq=>?_) (fun q p hp=>?_) (hwf i') (g8 i' x lQ)
        . have:=NY (i:=i) (i':=i') hq xx (fun e=>ei e.1.symm);rw[ang,if_neg (by omega)]
        . show(if i'=i/\q=c then F p else G i' q p);rw[if_neg (fun e=>ei e.1.symm)];exact hp)
 exact⟨_,this.1,this.2,rfl,cs,el,fr,g3,aV,fun q hq=>g4 q (Nat.lt_add_right _ hq)⟩
theorem kF{k:K}{x:T k}{v:Value}{F:Nat->Prop}(hk:tB k=false)(h:RO Z w k x v):dG w k x v F:=by
 cases k with
 | sl e ks=>simp[tB]at hk
 | _=>exact h
theorem IW{w:World}{b o:Nat}{v:Value}(h:w.cell? ⟨b,o,none⟩=some v):w.setCell ⟨b,o,none⟩ v=w:=by
 have e:(w.setCell ⟨b,o,none⟩ v).heap=w.heap:=by
  apply aoc;intro i;rw[eb];split
  . rename_i e;subst e;simp only[World.cell?,anD,am1,anz]at h;cases ho:w.heap[b]? with
    | none=>rfl
    | some x=>
      rw[ho]at h;cases x with
      | cells cs el fr=>
        simp only[amI,amh,Obj.cells.injEq,anQ];have h:cs[o]? = some v:=h;have ho:=(amK.1 h);apply aoc;intro k;rw[ang];split
        . rename_i e;subst e;rw[if_pos ho.1,h]
        . rfl
      | _=>rfl
  . rfl
 show({ w with heap:=(w.setCell ⟨b,o,none⟩ v).heap }:World)=w;rw[e]
def qc(w:World)(r j s m0 b p:Nat)(c:Nat)(l:List AV)(vs:List Value):Prop:=∀(q:Nat) (a:AV) (v:Value),l[q]? = some a->vs[q]? = some v->sY r j s m0 (c+q) a=true->w.cell? ⟨b,p+c+q,none⟩=some v
theorem qc.tail{w:World}{r j s m0 b p c:Nat}{a:AV}{l:List AV}{v:Value}{vs:List Value}(h:qc w r j s m0 b p c (a::l) (v::vs)):qc w r j s m0 b p (c+1) l vs:=fun q a' v' h1 h2 h3=>by have:=h (q+1) a' v' (by simpa using h1) (by simpa using h2) (by rw[show c+(q+1)=c+1+q by omega];exact h3);rw[show p+(c+1)+q=p+c+(q+1)by omega];exact this
theorem qc.put{w:World}{r j s m0 b p c:Nat}{l:List AV}{vs:List Value}{v:Value}(h:qc w r j s m0 b p (c+1) l vs):qc (w.setCell ⟨b,p+c,none⟩ v) r j s m0 b p (c+1) l vs:=fun q a' v' h1 h2 h3=>by rw[World.cell?_setCell_other _ _ _ _ (by intro e;simp at e;omega)];exact h q a' v' h1 h2 h3
theorem zP{r j s i m0:Nat}{b p:Nat}:∀(bZ:List K) (l:List AV) (vs:List Value) (st:St) (g:Gh) (w:World) (c:Nat) (ay:St),Rel cx Z g st a w->bC Z g st w (.pel r j s i c) (.pointer (some ⟨b,p+c,none⟩))->a8 Z g st w l vs->qc w r j s m0 b p c l vs->st.kJ r j s i m0 c bZ l=some ay ->
 ∃ g',Rel cx Z g' ay a (w.setCells b (p+c) vs)/\ay.tm=st.tm/\(∀ q,q<vs.length->∃ cs el fr,w.heap[b]? = some (.cells cs el fr)/\p+c+q<cs.size/\¬ (fr.1<=p+c+q/\p+c+q<fr.2))
 | [],[],[],st,g,w,c,ay,h,hp,hr,hso,ht=>by simp only[St.kJ,amh]at ht;subst ht;exact⟨g,h,rfl,fun q hq=>by simp at hq⟩
 | [],[],_::_,st,g,w,c,ay,h,hp,hr,_,ht=>hr.elim
 | k::bZ,av::l,[],st,g,w,c,ay,h,hp,hr,_,ht=>hr.elim
 | k::bZ,av::l,v::vs,st,g,w,c,ay,h,hp,hr,hso,ht=>by
   have put:∀(ca:St) (g1:Gh) (x:T k) (F:Nat->Prop),Rel cx Z g1 ca a w->ca.tm=st.tm->jB cx Z g1 ca w F->dG w k x v F->bC Z g1 ca w (.pel r j s i c) (.pointer (some ⟨b,p+c,none⟩))->a8 Z g1 ca w l vs ->
    (match ca.cell r j with
      | some ⟨s',m,.own (.sl e ks) xs⟩=>bif Nat.beq s' s then (match setAt ks (hE xs i) c k x with
        | some y=>(ca.setCell r j ⟨s',m+1,.own (.sl e ks) (List.set (aW xs) i y)⟩).kJ r j s i m0 (c+1) bZ l
        | none=>none)else none
      | _=>none)=some ay ->
    ∃ g',Rel cx Z g' ay a (w.setCells b (p+c) (v::vs))/\ay.tm=st.tm/\(∀ q,q<(v::vs).length->∃ cs el fr,w.heap[b]? = some (.cells cs el fr)/\p+c+q<cs.size/\¬ (fr.1<=p+c+q/\p+c+q<fr.2)):=by
    intro ca g1 x F h1 Fq hF hv hp hl mS;split at mS
    . rename_i s' m e ks xs hc;cases hs:Nat.beq s' s with
      | false=>rw[hs]at mS;simp at mS
      | true=>
        rw[hs]at mS;simp only[oT]at mS;have es:=beq_eq hs;subst es;split at mS
        . rename_i y hy;obtain⟨c0,k1,k2,k3⟩:=hp;rw[hc]at k1;simp only[amh]at k1;subst k1;obtain⟨e',ks2,xs2,f1,f2,b2,o2,l2,ad0,f3,f4⟩:=k3 rfl;simp only[RV.own.injEq,K.sl.injEq]at f1;obtain⟨⟨rfl,rfl⟩,f1⟩:=f1;have f1:=aox f1;subst f1;simp only[Value.pointer.injEq,amh,anJ,anQ]at f4;obtain⟨rfl,f4⟩:=f4;obtain⟨g2,m1,m2,m3,cs,el,fr,n1,n2,n3⟩:=h1.aem hc f2 f3 hF hv hy;rw[<- f4]at m1 m2 n2;have alw:bC Z g1 ca w (.pel r j s' i (c+1)) (.pointer (some ⟨b,p+(c+1),none⟩)):=
           ⟨_,hc,oR _,fun _=>⟨e,ks,xs,rfl,f2,b,o2,l2,ad0,f3,by rw[show p+(c+1)=o2+i * ks.length+(c+1)by omega]⟩⟩
          obtain⟨g',q1,q2,q3⟩:=zP bZ l vs _ g2 _ (c+1) ay m1 (bC.cI m2.cI _ _ alw) (a8.cI m2.cI _ _ hl) hso.tail.put mS;refine⟨g',?_,q2.trans (fH.trans Fq),fun q hq=>?_⟩
          . rw[show p+(c+1)=p+c+1 by omega]at q1;exact q1
          . cases q with
            | zero=>exact⟨cs,el,fr,n1,n2,n3 _ n2⟩
            | succ q=>
              obtain⟨fT,el',fr',t1,t2,t3⟩:=q3 q (by simpa using hq);rw[eb,if_pos rfl,n1]at t1;simp only[amI,amh,Obj.cells.injEq]at t1;obtain⟨rfl,rfl,rfl⟩:=t1;refine⟨cs,el,fr,n1,?_,?_⟩
              . have:=t2;simp at this;omega
              . rw[show p+c+(q+1)=p+(c+1)+q by omega];exact t3
        . simp at mS
    . simp at mS
   have scalar:tB k=false->(match (match st.bI k av with | some x=>bif av.bV then some (st,x)else none | none=>none)with
    | some (ca,x)=>(match ca.cell r j with
      | some ⟨s',m,.own (.sl e ks) xs⟩=>bif Nat.beq s' s then (match setAt ks (hE xs i) c k x with
        | some y=>(ca.setCell r j ⟨s',m+1,.own (.sl e ks) (List.set (aW xs) i y)⟩).kJ r j s i m0 (c+1) bZ l
        | none=>none)else none
      | _=>none)
    | none=>none)=some ay->∃ g',Rel cx Z g' ay a (w.setCells b (p+c) (v::vs))/\ay.tm=st.tm/\(∀ q,q<(v::vs).length->∃ cs el fr,w.heap[b]? = some (.cells cs el fr)/\p+c+q<cs.size/\¬ (fr.1<=p+c+q/\p+c+q<fr.2)):=by
    intro hk hh;cases hra:st.bI k av with
    | none=>rw[hra]at hh;simp at hh
    | some x=>
      rw[hra]at hh;cases hf:av.bV with
      | false=>rw[hf]at hh;simp at hh
      | true=>rw[hf]at hh;simp only[oT]at hh;exact put st g x (fun _=>False) h rfl (jB.none _ _ _ _ _) (kF hk (cB h hr.1 hf hra)) hp hr.2 hh
   unfold St.kJ at ht;cases Ft:st.oK r j s m0 c av with
   | true=>
     rw[Ft]at ht;simp only[oT]at ht;unfold St.oK at Ft;simp only[ami]at Ft;obtain⟨alx,Yl⟩:=Ft;have hv:=hso 0 av v rfl rfl alx;rw[amN]at hv;obtain⟨c0,k1,k2,k3⟩:=hp;have es:c0.s=s:=by
      rw[k1]at Yl;split at Yl
      . rename_i s' m' e' ks2 x2 Ip;cases Ip;exact beq_eq Yl
      . simp at Yl
     obtain⟨e,ks,xs,f1,f2,b2,o2,l2,ad0,f3,f4⟩:=k3 es;simp only[Value.pointer.injEq,amh,anJ,anQ]at f4;obtain⟨rfl,f4⟩:=f4;have hp':bC Z g st w (.pel r j s i (c+1)) (.pointer (some ⟨b,p+(c+1),none⟩)):=
      ⟨c0,k1,k2,fun _=>⟨e,ks,xs,f1,f2,b,o2,l2,ad0,f3,by rw[show p+(c+1)=o2+i * ks.length+(c+1)by omega]⟩⟩
     obtain⟨g',q1,q2,q3⟩:=zP bZ l vs st g w (c+1) ay h hp' hr.2 hso.tail ht;refine⟨g',?_,q2,fun q hq=>?_⟩
     . show Rel cx Z g' ay a ((w.setCell ⟨b,p+c,none⟩ v).setCells b (p+c+1) vs);rw[IW hv];exact q1
     . cases q with
       | zero=>have kn:=h.cell r j c0 k1;rw[f1]at kn;obtain⟨a0,cp,g1,_,_,_,g2⟩:=(show dG w (.sl e ks) xs (g.cv r j) (g.fp r j)from kn);rw[f3]at g1;simp only[anj]at g1;obtain⟨b3,o3,cs,el,fr,n1,_,n2,n3,_⟩:=g2 _ g1.1.symm;simp only[anJ,anQ]at n1;obtain⟨rfl,_⟩:=n1;simp only[World.cell?,anD,am1,anz,n2]at hv;have aV:=(amK.1 hv).1;exact⟨cs,el,fr,n2,aV,n3 _ (by omega)⟩
       | succ q=>obtain⟨fT,el',fr',t1,t2,t3⟩:=q3 q (by simpa using hq);exact⟨fT,el',fr',t1,by omega,by rw[show p+c+(q+1)=p+(c+1)+q by omega];exact t3⟩
   | false=>
   rw[Ft]at ht;simp only[oF]at ht;cases k with
   | sl e Kk=>
     simp only at ht;cases Du:st.cU (.sl e Kk) av with
     | none=>rw[Du]at ht;simp at ht
     | some q=>obtain⟨ca,x⟩:=q;rw[Du]at ht;simp only at ht;obtain⟨g1,F,k1,k2,k3,k4,k5,k6,k7⟩:=hO h hr.1 Du;exact put ca g1 x F k1 k2.tm k4 k3 (bC.cI k2.cI _ _ hp) (a8.cI k2.cI _ _ hr.2) ht
   | int _=>exact scalar rfl ht
   | bool=>exact scalar rfl ht
   | str=>exact scalar rfl ht
 | [],_::_,_,st,g,w,c,ay,h,hp,hr,_,ht=>by simp[St.kJ]at ht
 | _::_,[],_,st,g,w,c,ay,h,hp,hr,_,ht=>by simp[St.kJ]at ht
end
def cA(st ay:St):Prop:=∀ r j c,st.cell r j=some c->∃ c',ay.cell r j=some c'/\c.s<=c'.s/\c.m<=c'.m/\(c'.s=c.s->c'.m=c.m->c'=c)
theorem cA.refl(st:St):cA st st:=fun r j c h=>⟨c,h,oR _,oR _,fun _ _=>rfl⟩
theorem cA.trans{a b c:St}(h1:cA a b)(h2:cA b c):cA a c:=fun r j x hx=>by obtain⟨y,hy,s1,m1,e1⟩:=h1 r j x hx;obtain⟨z,hz,s2,m2,e2⟩:=h2 r j y hy;exact⟨z,hz,amp s1 s2,amp m1 m2,fun es em=>by have ey:=e1 (by omega) (by omega);subst ey;exact e2 es em⟩
theorem cA.set{st:St}{r j:Nat}{c c0:RC}(h0:st.cell r j=some c0)(hs:c0.s<=c.s)(hm:c0.m<c.m):cA st (st.setCell r j c):=fun r' j' x hx=>by
 rw[dI];by_cases h:r=r'/\j=j'
 . obtain⟨rfl,rfl⟩:=h;rw[if_pos ⟨rfl,rfl⟩,hx];rw[h0]at hx;cases hx;exact⟨c,rfl,hs,aoB hm,fun _ e=>by omega⟩
 . rw[if_neg h];exact⟨x,hx,oR _,oR _,fun _ _=>rfl⟩
theorem ly{α:Type}{c:Bool}{x:Option α}{y:α}(h:(bif c then x else none)=some y):c=true/\x=some y:=by cases c <;> simp_all
theorem Sq{st ay:St}{a:AV}{p:(k:K)×T k}(h:st.take a=some (ay,p)):cA st ay:=by
 unfold St.take at h;split at h
 . split at h
   . rename_i hc;obtain⟨_,h⟩:=ly h;simp only[amh,amO]at h;obtain⟨rfl,_⟩:=h;exact cA.set hc (aog _) (ani _)
   . simp at h
 . split at h
   . rename_i hc;obtain⟨_,h⟩:=ly h;simp only[amh,amO]at h;obtain⟨rfl,_⟩:=h;exact cA.set hc (aog _) (ani _)
   . simp at h
 . simp at h
theorem im{st ay:St}{k:K}{a:AV}{x:T k}(h:st.cU k a=some (ay,x)):cA st ay:=by
 unfold St.cU at h;split at h
 . simp only[amh,amO]at h;obtain⟨rfl,_⟩:=h;exact cA.refl _
 . split at h
   . rename_i ca k' y hy;split at h
     . simp only[amh,amO]at h;obtain⟨rfl,_⟩:=h;exact Sq hy
     . simp at h
   . simp at h
mutual
theorem CD:∀ k:K,K.same k k=true
 | .int a=>by simp[K.same]
 | .bool=>rfl
 | .str=>rfl
 | .sl e ks=>by simp[K.same,BG ks]
theorem BG:∀ ks:List K,K.mm ks ks=true
 | []=>rfl
 | k::ks=>by simp[K.mm,CD k,BG ks]
end
theorem Gu(k:K)(x:T k):gJ k k x=some x:=by
 unfold gJ;split
 . rfl
 . rename_i h;rw[CD]at h;simp at h
theorem Ap:∀(ks:List K) (z:Tl ks) (c:Nat) (k:K) (x:T k),cellAt ks z c=some ⟨k,x⟩->setAt ks z c k x=some z
 | [],_,_,_,_,h=>by simp[cellAt]at h
 | k::ks,z,0,k',x,h=>by simp only[cellAt,amh,Sigma.mk.injEq]at h;obtain⟨rfl,h⟩:=h;have h:=aox h;subst h;simp only[setAt,Gu];rfl
 | k::ks,z,c+1,k',x,h=>by simp only[setAt,Ap ks z.2 c k' x h];rfl
theorem yY:∀(ks:List K) (z y:Tl ks) (c q:Nat) (k:K) (x:T k),setAt ks z c k x=some y->q≠c->cellAt ks y q=cellAt ks z q
 | [],_,_,_,_,_,_,h,_=>by simp[setAt]at h
 | k0::ks,z,y,0,q,k,x,h,hq=>by
   simp only[setAt]at h;split at h
   . cases h;cases q with
     | zero=>exact absurd rfl hq
     | succ q=>rfl
   . simp at h
 | k0::ks,z,y,c+1,q,k,x,h,hq=>by
   simp only[setAt]at h;split at h
   . rename_i z' hz;cases h;cases q with
     | zero=>rfl
     | succ q=>exact yY ks z.2 z' c q k x hz (by omega)
   . simp at h
def UR(gn:List K):Tl gn->Nat->(ks:List K)->Tl ks->Option (Tl gn)
 | z,_,[],_=>some z
 | z,c,k::ks,y=>match setAt gn z c k y.1 with | some z'=>UR gn z' (c+1) ks y.2 | none=>none
theorem Gk{k0:K}{gn:List K}:∀(ks:List K) (z z':Tl (k0::gn)) (c:Nat) (y:Tl ks),UR (k0::gn) z (c+1) ks y=some z'->∃ u,z'=(z.1,u)/\UR gn z.2 c ks y=some u
 | [],z,z',c,y,h=>by simp only[UR,amh]at h;subst h;exact⟨z.2,rfl,rfl⟩
 | k::ks,z,z',c,y,h=>by
   simp only[UR,setAt]at h ⊢;cases hs:setAt gn z.2 c k y.1 with
   | none=>rw[hs]at h;simp at h
   | some u=>rw[hs]at h;exact Gk ks (z.1,u) z' (c+1) y.2 h
theorem G5:∀(ks:List K) (z y z':Tl ks),UR ks z 0 ks y=some z'->z'=y
 | [],_,_,_,_=>rfl
 | k::ks,z,y,z',h=>by simp only[UR,setAt,Gu]at h;obtain⟨u,e1,e2⟩:=Gk ks (y.1,z.2) z' 0 y.2 h;have:=G5 ks z.2 y.2 u e2;subst this;exact e1
theorem GX{e:TypeId}{ks:List K}(xs:T (.sl e ks))(i:Nat)(y:Tl ks):(aW (e:=e) (List.set (aW xs) i y)).length=(aW xs).length:=ans
theorem HO{e:TypeId}{ks:List K}(xs:T (.sl e ks)){i:Nat}(y:Tl ks)(h:i<(aW xs).length):hE (e:=e) (List.set (aW xs) i y) i=y:=by show(List.set (aW xs) i y).getD i _=y;simp[List.getD,h]
theorem SZ{st:St}{r j:Nat}{c c':RC}(h:st.cell r j=some c):(st.setCell r j c').cell r j=some c':=by rw[dI,if_pos ⟨rfl,rfl⟩,h];rfl
section
variable{r j s i m0:Nat}{e:TypeId}{gn:List K}{z0:Tl gn}
theorem tl:∀(ks:List K) (l:List AV) (c:Nat) (st stf:St) (y:Tl ks) (xc:T (.sl e gn)) (m:Nat),st.cell r j=some ⟨s,m,.own (.sl e gn) xc⟩->i<(aW xc).length->(∀ q,c<=q->cellAt gn (hE xc i) q=cellAt gn z0 q) ->
 st.gZ r j s i m0 gn z0 c ks l=some (stf,y)->st.kJ r j s i m0 c ks l=some stf/\∃(mf:Nat) (z:Tl gn),UR gn (hE xc i) c ks y=some z/\stf.cell r j=some ⟨s,mf,.own (.sl e gn) (List.set (aW xc) i z)⟩
 | [],[],c,st,stf,y,xc,m,hc,hi,hq,h=>by
   simp only[St.gZ,amh,amO]at h;obtain⟨rfl,_⟩:=h;refine⟨rfl,m,hE xc i,rfl,?_⟩;rw[hc];have:List.set (aW xc) i (hE xc i)=aW xc:=by
    apply aoU;intro n;rw[aoW];split
    . rename_i e;subst e;simp[hE,List.getD,hi]
    . rfl
   rw[this];rfl
 | [],_::_,_,_,_,_,_,_,_,_,_,h=>by simp[St.gZ]at h
 | _::_,[],_,_,_,_,_,_,_,_,_,h=>by simp[St.gZ]at h
 | k::ks,a::l,c,st,stf,y,xc,m,hc,hi,hq,h=>by
   unfold St.gZ at h;unfold St.kJ;cases Ft:st.oK r j s m0 c a with
   | true=>
     rw[Ft]at h;simp only[oT]at h ⊢;split at h
     . rename_i z hz;split at h
       . rename_i x q hx Kn;simp only[amh,amO]at h;obtain⟨rfl,rfl⟩:=h;obtain⟨h1,mf,z1,h2,h3⟩:=tl ks l (c+1) st q.1 q.2 xc m hc hi (fun q wb=>hq q (by omega)) Kn;refine⟨h1,mf,z1,?_,h3⟩;obtain⟨ek,hx⟩:=cN hx;obtain⟨k',z⟩:=z;simp only at ek hx;subst ek;subst hx;have:=hq c (oR _);rw[hz]at this;simp only[UR,Ap gn (hE xc i) c k' z this];exact h2
       . simp at h
     . simp at h
   | false=>
     rw[Ft]at h;simp only[oF]at h ⊢;split at h;rotate_left
     . simp at h
     . rename_i ca x hx;have Uq:cA st ca:=by
        split at hx
        . exact im hx
        . split at hx
          . obtain⟨_,hx⟩:=ly hx;simp only[amh,amO]at hx;obtain⟨rfl,_⟩:=hx;exact cA.refl _
          . simp at hx
       obtain⟨c1,yp,v1,v2,v3⟩:=Uq r j _ hc;split at h
       . rename_i s' m' e' bZ xs hcc;rw[yp]at hcc;cases hcc;obtain⟨hb,h⟩:=ly h;simp only[ami]at hb;have es:=beq_eq hb.1;have em:=beq_eq hb.2;have em':st.Hy r j=m:=by unfold St.Hy;rw[hc]
         have:=v3 es (em.trans em');simp only[RC.mk.injEq,RV.own.injEq,K.sl.injEq]at this;obtain⟨_,_,⟨he,hk⟩,hx⟩:=this;have he:=he.symm;have hk:=hk.symm;subst he;subst hk;have hx:=aox hx;subst hx;split at h
         . rename_i y1 hy1;split at h
           . rename_i q Kn;simp only[amh,amO]at h;obtain⟨rfl,rfl⟩:=h;have es2:=es.symm;subst es2;obtain⟨h1,mf,z1,h2,h3⟩:=tl ks l (c+1) _ q.1 q.2 (List.set (aW xs) i y1) _ (SZ yp) (by rw[GX];exact hi) (fun q wb=>by
              rw[HO xs y1 hi,yY gn _ _ c q k x hy1 (by omega)];exact hq q (by omega)) Kn
             refine⟨?_,mf,z1,?_,?_⟩
             . rw[hb.1];exact h1
             . rw[HO xs y1 hi]at h2;simp only[UR,hy1];exact h2
             . rw[h3];have:List.set (aW (e:=e) (List.set (aW xs) i y1)) i z1=List.set (aW xs) i z1:=List.set_set ..
               rw[this]
           . simp at h
         . simp at h
       . simp at h
end
theorem FR{α:Type}:∀(l:List (Nat×α)) (n:Nat) (x:α),look l n=some x->upd l n x=l
 | [],n,x,h=>by simp[look]at h
 | (k,y)::r,n,x,h=>by
   unfold upd;rw[aN]at h;cases hb:Nat.beq k n with
   | true=>have e:=beq_eq hb;subst e;rw[if_pos rfl]at h;cases h;rfl
   | false=>
     have cY:k≠n:=fun e=>by subst e;simp at hb
     rw[if_neg cY]at h;simp only[oF];rw[FR r n x h]
theorem x6{α:Type}:∀(l:List α) (j:Nat) (x:α),l[j]? = some x->mq l j x=l
 | [],j,x,h=>by simp at h
 | y::r,0,x,h=>by simp at h;subst h;rfl
 | y::r,j+1,x,h=>by simp only[mq];rw[x6 r j x (by simpa using h)]
theorem G7{st:St}{r j:Nat}{c:RC}(h:st.cell r j=some c):st.setCell r j c=st:=by
 unfold St.setCell;unfold St.cell at h;cases hl:look st.rt r with
 | none=>rfl
 | some R=>rw[hl]at h;simp only at h ⊢;rw[x6 _ _ _ h,FR _ _ _ hl]
theorem Ri{st ay:St}{r j s i m:Nat}{e:TypeId}{gn ks:List K}{xs:T (.sl e gn)}{l:List AV}(hc:st.cell r j=some ⟨s,m,.own (.sl e gn) xs⟩)(hi:i<(aW xs).length)(h:st.xA r j s i ks l=some ay):st.kJ r j s i (st.Hy r j) 0 ks l=some ay:=by
 unfold St.xA at h;rw[hc]at h;simp only at h;have em:st.Hy r j=m:=by unfold St.Hy;rw[hc]
 rw[em];split at h
 . rename_i q hq;obtain⟨h1,mf,z,h2,h3⟩:=tl ks l 0 st q.1 q.2 xs m hc hi (fun _ _=>rfl) hq;split at h
   . rename_i y c1 hy yp;obtain⟨_,h⟩:=ly h;simp only[amh]at h;obtain⟨ek,hy⟩:=xI hy;subst ek;subst hy;rw[h3]at yp;cases yp;rw[G5 _ _ _ _ h2]at h3;rw[G7 h3]at h;rw[<- h];exact h1
   . simp at h
 . simp at h
def qd(P:Program)(cx:Cx P)(E:En)(ay:St)(a:Act)(w:World)(o:Oper):Prop:=
 cJ ay/\∀(next:Act->World->Prop) (Q:Exit->Act->World->Prop),(∀ Z' g' a' w',Rel cx Z' g' ay a' w'->Fit cx E a'->next a' w')->o.wp P a w next Q
section
variable{P:Program}{cx:Cx P}{Z:Nat->Prop}{g:Gh}{st:St}{a:Act}{w:World}{E:En}
theorem agz(h:Rel cx Z g st a w):∀(l:List AV) (vs:List Value),a8 Z g st w l vs->l.all st.live=true->∀ u∈vs,u.oneCell'=true
 | [],[],_,_=>by simp
 | x::l,v::vs,hr,hl=>by
   simp only[anc,ami]at hl;intro u hu;rcases ams.1 hu with hu | hu
   . subst hu;exact(wy h hr.1 hl.1).2
   . exact agz h l vs hr.2 hl.2 u hu
 | [],_::_,hr,_=>hr.elim
 | _::_,[],hr,_=>hr.elim
theorem x5{r j s m i:Nat}:∀(l:List AV) (c:Nat),o5 r j s m i c l=true->∀ q a,l[q]? = some a->sY r j s m (c+q) a=true->∃ i' q',a= .pref r j s m i' q'/\q'=c+q/\i'=i
 | [],_,_,q,a,h,_=>by simp at h
 | x::l,c,h,q,a,hq,hs=>by
   have self:∀ a,sY r j s m c a=true->∃ i' ,a= .pref r j s m i' c:=fun a ha=>by
    unfold sY at ha;split at ha
    . rename_i r' j' s' m' i' q';simp only[ami]at ha;obtain⟨h1,h2,h3,h4,h5⟩:=ha;exact⟨i',by rw[beq_eq h1,beq_eq h2,beq_eq h3,beq_eq h4,beq_eq h5]⟩
    . simp at ha
   unfold o5 at h;cases q with
   | zero=>simp only[amn,amh]at hq;subst hq;rw[amN]at hs;rw[hs]at h;obtain⟨i',rfl⟩:=self _ hs;simp only[oT,ami]at h;exact⟨i',c,rfl,rfl,beq_eq h.1⟩
   | succ q=>
     rw[am7]at hq;have hr:o5 r j s m i (c+1) l=true:=by
      cases hx:sY r j s m c x with
      | false=>rw[hx]at h;exact h
      | true=>rw[hx]at h;obtain⟨i',rfl⟩:=self _ hx;simp only[oT,ami]at h;exact h.2
     obtain⟨i',q',e1,e2,e3⟩:=x5 l (c+1) hr q a hq (by rw[show c+1+q=c+(q+1)by omega];exact hs);exact⟨i',q',e1,by omega,e3⟩
theorem MR{r j s i c:Nat}{c0:RC}{e:TypeId}{ks:List K}{xs:T (.sl e ks)}{b of l cap:Nat}{av:List AV}{vs:List Value}(h1:st.cell r j=some c0)(h2:c0.s=s)(h3:c0.v= .own (.sl e ks) xs)(h4:g.cv r j= .slice (some ⟨b,of,none⟩) l cap)
 (hr:a8 Z g st w av vs)(hs:st.LY (.pel r j s i c) av=true):qc w r j s (st.Hy r j) b (of+i * ks.length) c av vs:=fun q a v ha hv H9=>by
 obtain⟨i',q',rfl,rfl,rfl⟩:=x5 _ _ hs q a ha H9;have eQ:∀(l:List AV) (vs:List Value),a8 Z g st w l vs->∀(q:Nat) (a:AV) (v:Value),l[q]? = some a->vs[q]? = some v->bC Z g st w a v:=by
  intro l;induction l with
  | nil=>intro vs _ q a v h;simp at h
  | cons x l ih=>
    intro vs hr q a v h1 h2;cases vs with
    | nil=>simp at h2
    | cons u vs=>
      cases q with
      | zero=>simp only[amn,amh]at h1 h2;subst h1 h2;exact hr.1
      | succ q=>exact ih vs hr.2 q a v (by simpa using h1) (by simpa using h2)
 obtain⟨c1,k1,k2,k3,k4⟩:=eQ _ _ hr q _ v ha hv;rw[h1]at k1;simp only[amh]at k1;subst k1;have hm:c0.m=st.Hy r j:=by unfold St.Hy;rw[h1]
 obtain⟨e',bZ,rW,f1,f2,f3,b',o',l',al9,f4,f5⟩:=k4 h2 hm;rw[h3]at f1;simp only[RV.own.injEq,K.sl.injEq]at f1;obtain⟨⟨rfl,rfl⟩,_⟩:=f1;rw[h4]at f4;simp only[anj,amh,anJ,anQ]at f4;obtain⟨⟨rfl,rfl⟩,_⟩:=f4;rw[show of+i' * ks.length+c+q=of+i' * ks.length+(c+q)by omega];exact f5
theorem WM(hT:cH P E)(h:Rel cx Z g st a w)(hn:cJ st)(dh:Fit cx E a){o:Oper}(hd:o.dst=none){t:TypeId}{pa x:Operand}(ho:o.op= .store t pa x){ti:TI}{ta tx:TV}{av:AV}{p:Bool×List AV}{ay:St}
 (iy:E.ti t=some ti)(hpa:st.get pa=some ta)(hav:ta.Ii = some av)(hx:st.get x=some tx)(hp:tx.dw = some p)(Ia:p.2.all st.live=true)(hlen:p.2.length=ti.ks.length)(H9:st.LY av p.2=true)(hs:st.store ti.ks p.2 av=some ay):qd P cx E ay a w o:=by
 have hc:=hn.cons.cons;have ra:=uW (bg h hc hpa) hav;obtain⟨rv,rl⟩:=nc h (bg h hc hx) hp Ia;have ahU:(a.eval x).cells.toList.length=ti.ks.length:=by rw[<- eU rv];exact hlen
 have h1:=agz h _ _ rv Ia;have go:∀(b of:Nat) (g':Gh),a.eval pa= .pointer (some ⟨b,of,none⟩)->Rel cx Z g' ay a (w.setCells b of (a.eval x).cells.toList)->ay.tm=st.tm->(∀ j,j<(a.eval x).cells.toList.length->∃ cs el fr,w.heap[b]? = some (.cells cs el fr)/\of+j<cs.size/\¬ (fr.1<=of+j/\of+j<fr.2))->qd P cx E ay a w o:=by
  intro b of g' e1 e2 e3 e4;refine⟨fun t tv ht=>hn t tv (by rw[<- e3];exact ht),fun next Q hk=>?_⟩;have au:=Fz (P:=P) (hT t ti iy) (w:=w) (b:=b) (o:=of) (v:=a.eval x) rfl ahU h1 e4;unfold Oper.wp;have:(execOp a.eval o).run P w= .ok .skip (w.setCells b of (a.eval x).cells.toList):=by simp only[execOp,ho,amJ,e1,au,amu];rfl
  rw[this,Oper.upon_skip,hd];exact hk Z g' a _ e2 dh
 cases av with
 | ptr r j=>
   obtain⟨R,f1,f2,f3⟩:=ra;have B1:shape st r=some (true,R.cells.length):=by simp[shape,f1,f2]
   obtain⟨g',m1,m2,m3⟩:=rn (a:=a) (r:=r) (n:=R.cells.length) ti.ks p.2 _ st g w j ay h B1 rv hs;obtain⟨b1,b2,b3,b4,cs,el,fr,b5,b6,b7,b8⟩:=h.box r R f1 f2;refine go (g.be r) j g' f3 m1 m2 fun q hq=>⟨cs,el,fr,b5,?_,?_⟩
   . rcases m3 with m3 | m3
     . rw[m3]at hq;simp at hq
     . omega
   . apply b6;rcases m3 with m3 | m3
     . rw[m3]at hq;simp at hq
     . omega
 | pel r j s i c=>
   simp only[St.store]at hs;cases hl:st.live (.pel r j s i c)with
   | false=>rw[hl]at hs;simp at hs
   | true=>
     rw[hl]at hs;simp only[oT]at hs;have ra':=ra;obtain⟨c0,f1,f2,f3⟩:=ra;simp only[St.live,f1]at hl;obtain⟨e,ks,xs,f4,f5,b,of,l,cap,f6,f7⟩:=f3 (beq_eq hl);rw[f7]at ra';have hs:st.kJ r j s i (st.Hy r j) c ti.ks p.2=some ay:=by
      cases vS:Nat.beq c 0&&Nat.ble 8 p.2.length with
      | false=>rw[vS]at hs;exact hs
      | true=>rw[vS]at hs;simp only[ami]at vS;have e0:=beq_eq vS.1;subst e0;obtain⟨c0s,c0m,c0v⟩:=c0;simp only at f4 hl;subst f4;have es:=beq_eq hl;subst es;exact Ri f1 f5 hs
     obtain⟨g',m1,m2,m3⟩:=zP (a:=a) (b:=b) (p:=of+i * ks.length) ti.ks p.2 _ st g w c ay h ra' rv (MR f1 (beq_eq hl) f4 f6 rv H9) hs;exact go b (of+i * ks.length+c) g' f7 m1 m2 m3
 | _=>simp[St.store]at hs
theorem qB(h:Rel cx Z g st a w)(hn:cJ st)(dh:Fit cx E a){o:Oper}{d:Nat}(hd:o.dst=some d)(cE:kR cx a d){x:Operand}(ho:o.op= .move x∨o.op= .assign x){tv:TV}(hx:st.get x=some tv):qd P cx E (st.ba d (tv,none)) a w o:=by
 refine⟨fun t kq ht=>?_,fun next Q hk=>Ke h hn.cons.cons hd cE ho hx next Q fun Z' g' v w' hr=>hk Z' g' _ w' hr (dh.put _ _)⟩;rw[cC]at ht;split at ht
 . simp only[amh]at ht;subst ht;intro hm;obtain⟨d',Pj⟩:=Cq hx hm;exact hn d' _ Pj hm
 . exact hn t kq ht
def setFrom(cs:Array Value):Nat->List Value->Array Value
 | _,[]=>cs
 | o,v::r=>setFrom (cs.setIfInBounds o v) (o+1) r
theorem qm(w:World)(t:TypeId)(fr:Nat×Nat):∀(vs:List Value) (o:Nat) (cs:Array Value),(w.alloc (.cells cs t fr)).setCells w.heap.size o vs=w.alloc (.cells (setFrom cs o vs) t fr)
 | [],_,_=>rfl
 | v::r,o,cs=>by
   have:(w.alloc (.cells cs t fr)).setCell ⟨w.heap.size,o,none⟩ v=w.alloc (.cells (cs.setIfInBounds o v) t fr):=by
    have hh:((w.alloc (.cells cs t fr)).setCell ⟨w.heap.size,o,none⟩ v).heap=(w.alloc (.cells (cs.setIfInBounds o v) t fr)).heap:=by
     apply aoc;intro i;rw[eb];show(if w.heap.size=i then ((w.heap.push (.cells cs t fr))[i]?).map _ else (w.heap.push (.cells cs t fr))[i]?)=(w.heap.push (.cells (cs.setIfInBounds o v) t fr))[i]?;rw[amW,amW];by_cases e:w.heap.size=i
     . subst e;simp
     . rw[if_neg e,if_neg (fun x=>e x.symm),if_neg (fun x=>e x.symm)]
    cases w;simp only[World.setCell,World.alloc]at hh ⊢;congr 1
   rw[World.setCells,this];exact qm w t fr r (o+1) _
theorem du:∀(vs:List Value) (o:Nat) (cs:Array Value) (i:Nat),o+vs.length<=cs.size->(setFrom cs o vs)[i]? = if o<=i/\i<o+vs.length then vs[i-o]? else cs[i]?
 | [],o,cs,i,h=>by
   have:¬ (o<=i/\i<o+([]:List Value).length):=by intro hh;have:=hh.2;simp only[am3]at this;omega
   rw[if_neg this];rfl
 | v::r,o,cs,i,h=>by
   have hl:(v::r).length=r.length+1:=rfl;rw[setFrom,du r (o+1) _ i (by simp;omega)];by_cases e:o=i
   . subst e;rw[if_neg (by omega),if_pos (by omega),ang,if_pos rfl,if_pos (by omega),an8];rfl
   . by_cases e2:o+1<=i/\i<o+1+r.length
     . rw[if_pos e2,if_pos (by omega),show i-o=(i-(o+1))+1 by omega];rfl
     . rw[if_neg e2,if_neg (by omega),ang,if_neg e]
theorem GI(cs:Array Value)(vs:List Value)(h:vs.length=cs.size):setFrom cs 0 vs=vs.toArray:=by
 apply aoc;intro i;rw[du vs 0 cs i (by omega)];by_cases e:i<vs.length
 . rw[if_pos (by omega)];simp
 . rw[if_neg (by omega)];rw[amC (by omega),amC (by simp;omega)]
theorem W8(h:Rel cx Z g st a w){tv:TV}{v:Value}{p:Bool×List AV}(hr:bW Z g st w tv v)(hp:tv.dw = some p)(hl:p.2.all st.live=true):Nk p.1 v v.cells.toList:=by
 cases tv with
 | v x=>simp only[TV.dw,amh]at hp;subst hp;simp only[anc,List.all_nil,aoY]at hl;show v.cells.toList=[v];rw[(wy h hr hl).1]
 | bc r j s m e ks x=>simp only[TV.dw,amh]at hp;subst hp;simp only[anc,List.all_nil,aoY]at hl;show v.cells.toList=[v];rw[(wy h (Qf hr) hl).1]
 | agg l=>simp only[TV.dw,amh]at hp;subst hp;obtain⟨vs,e,_⟩:=hr;subst e;simp[Nk,Value.cells]
 | _=>simp[TV.dw]at hp
theorem GY(w:World)(cs:Array Value)(t:TypeId)(i:Nat):cs.toList[i]? = (w.alloc (.cells cs t (0,0))).cell? ⟨w.heap.size,i,none⟩:=by
 have:(w.alloc (.cells cs t (0,0))).heap[w.heap.size]? = some (.cells cs t (0,0)):=by show(w.heap.push (.cells cs t (0,0)))[w.heap.size]? = _;simp
 simp only[World.cell?,this];simp
theorem Jg{w0 w':World}{g':Gh}{ay:St}{a':Act}{x:Operand}{d n:Nat}{g:Bool}{v:Value}{t:TypeId}(h:Rel cx Z g' ay a' w')(hn:cJ ay)(hd:look ay.tm d=some (.v (.ptr d 0)))(hdv:a'.tmps.getD d undef= .pointer (some ⟨w0.heap.size,0,none⟩))
 (hx:∀ t,x= .tmp t->t≠d->a'.tmps.getD t undef=v)(aV:∀ t,x= .tmp t->t<a'.tmps.size)(hC:Nk g v v.cells.toList)(hlen:n=v.cells.size)(hw:w'=w0.alloc (.cells v.cells t (0,0))):cJ (ay.rebind x d g n)/\Rel cx Z g' (ay.rebind x d g n) a' w':=by
 unfold St.rebind;cases x with
 | tmp t0=>
   simp only;cases hb:Nat.beq t0 d with
   | true=>exact⟨hn,h⟩
   | false=>
     simp only[oF];have cY:t0≠d:=ant hb;cases hl:ay.dV d 0 n with
     | none=>exact⟨hn,h⟩
     | some l=>
       simp only;obtain⟨b,o,vs,e1,e2,e3,e4⟩:=zj h (p:= .ptr d 0) (n:=n) (l:=l) (h.tm d _ hd).2 hl;rw[hdv]at e1;simp only[Value.pointer.injEq,amh,anJ,anQ]at e1;obtain⟨rfl,rfl⟩:=e1;have Pg:vs=v.cells.toList:=by
        apply aoU;intro i;rcases amz i vs.length with hi | hi
        . have:=e3 i _ (amm hi);rw[amt,hw]at this;rw[amm hi,<- this];exact(GY w0 v.cells t i).symm
        . rw[amA hi,amA (by simp;omega)]
       rw[Pg]at e4;refine⟨fun t tv ht=>?_,?_⟩
       . have ht:look ((t0,fP g l)::ay.tm) t=some tv:=ht;rw[aN]at ht;split at ht
         . simp only[amh]at ht;subst ht;intro hm;cases ho:fP g l with
           | may q w y g' l'=>exact l5 ho
           | _=>rw[ho]at hm;exact hm
         . exact hn t tv ht
       . refine h.tell (tm:=ay.tm) (rt:=ay.rt) (aV t0 rfl) ?_;rw[hx t0 rfl cY];exact zg hC e4
 | _=>exact⟨hn,h⟩
theorem agY(h:Rel cx Z g st a w)(hn:cJ st)(dh:Fit cx E a){o:Oper}{d:Nat}(hd:o.dst=some d)(cE:kR cx a d){t:TypeId}{x:Operand}(ho:o.op= .box t x){ti:TI}{tx:TV}{p:Bool×List AV}{ay:St}
 (hx:st.get x=some tx)(hp:tx.dw = some p)(hf:st.free d=true)(Ia:p.2.all st.live=true)(hlen:p.2.length=ti.ks.length)(hs:(st.ba d (.v (.ptr d 0),some ⟨true,ti.ks.map pF⟩)).dp d 0 ti.ks p.2=some ay):qd P cx E (ay.rebind x d p.1 ti.ks.length) a w o:=by
 have hc:=hn.cons.cons;obtain⟨rv,rl⟩:=nc h (bg h hc hx) hp Ia;obtain⟨g1,h1,hk,vW⟩:=h.DS (d:=d) cE hf (cs:=(ti.ks.map zV).toArray) (e:=t) (l:=ti.ks.map pF) (by simp) (fun j c v hj hv=>by
  have BP:(ti.ks[j]?).map pF=some c:=by rw[<- amX];exact hj
  have hv':(ti.ks[j]?).map zV=some v:=by rw[<- amX];simpa using hv
  cases hk:ti.ks[j]? with
  | none=>rw[hk]at BP;simp at BP
  | some k0=>rw[hk]at BP hv';simp only[amI,amh]at BP hv';exact .inl ⟨k0,BP.symm,hv'.symm⟩) (tv:= .v (.ptr d 0)) (v:= .pointer (some ⟨w.heap.size,0,none⟩)) (.inl ⟨rfl,rfl⟩)
 have B1:shape (st.ba d (.v (.ptr d 0),some ⟨true,ti.ks.map pF⟩)) d=some (true,ti.ks.length):=by unfold shape;rw[AD];simp
 obtain⟨g',m1,m2,m3⟩:=rn (r:=d) (n:=ti.ks.length) ti.ks p.2 _ _ g1 _ 0 ay h1 B1 (a8.cI hk _ _ rv) hs;rw[vW,qm,GI _ _ (by rw[<- eU rv,hlen];simp),anh]at m1;have aly:cJ ay:=fun t tv ht=>by
  rw[m2,cC]at ht;split at ht
  . simp only[amh]at ht;subst ht;exact fun h=>h
  . exact hn t tv ht
 obtain⟨alz,m1⟩:=Jg (x:=x) (g:=p.1) m1 aly (d:=d) (v:=a.eval x) (by rw[m2,cC,if_pos rfl]) (by simp[Act.put,cE.1]) (fun t ht cY=>by subst ht;simp[Act.put,Act.eval,amr,aow (Ne.symm cY)]) (fun t ht=>by
  subst ht;have ht2:(a.put (some d) (.pointer (some ⟨w.heap.size,0,none⟩))).tmps.size=a.tmps.size:=by simp[Act.put]
  rw[ht2];have hx:st.tv t=some tx:=hx;obtain⟨tq,h1,_⟩:=ED hn.cons hx;exact(h.tm t tq h1).1) (W8 h (bg h hc hx) hp Ia) (hlen.symm.trans rl.symm) rfl
 refine⟨alz,fun next Q hk=>?_⟩
 . have au:(execOp a.eval o).run P w= .ok (.value (.pointer (some ⟨w.heap.size,0,none⟩))) (w.alloc (.cells (a.eval x).cells t (0,0))):=by
    simp[execOp,ho,Instr.box,newVar,newRow]
   unfold Oper.wp;rw[au,anl,hd];exact hk Z g' _ _ m1 (dh.put _ _)
end
section
variable{w w':World}
theorem kD:∀(ks:List K) (x:Tl ks) (j:Nat) (G G':Nat->Nat->Prop) (cs fT:Array Value) (o o':Nat),(∀ q,q<ks.length->fT[o'+q]? = cs[o+q]?)->(∀ j b,G j b->G' j b)->(∀ j b,G j b->b<w.heap.size->w'.heap[b]? = w.heap[b]?)->gx w ks x j G cs o->gx w' ks x j G' fT o'
 | [],_,_,_,_,_,_,_,_,_,_,_,_=>trivial
 | k::ks,x,j,G,G',cs,fT,o,o',hc,hG,hw,⟨⟨v,h1,h2⟩,h3⟩=>
   ⟨⟨v,by rw[<- h1];exact hc 0 (by simp),dG.frame k _ v (G j) (G' j) (hG j) (hw j) h2⟩,kD ks _ (j+1) G G' cs fT (o+1) (o'+1) (fun q hq=>by rw[show o'+1+q=o'+(q+1)by omega,show o+1+q=o+(q+1)by omega];exact hc (q+1) (by simp;omega)) hG hw h3⟩
structure LJ (w:World) (ks:List K) (ys:List (Tl ks)) (news:List Value) (H:Nat->Nat->Nat->Prop) (F:Nat->Prop):Prop where
 len:news.length=ys.length * ks.length
 one:∀ v∈news,v.oneCell'=true
 sub:∀ i j b,H i j b->F b
 cS:∀ i j i' j' b,H i j b->H i' j' b->i=i'/\j=j'
 row:∀(i:Nat) (y:Tl ks),ys[i]? = some y->gx w ks y 0 (H i) news.toArray (i * ks.length)
theorem nK{i m n q:Nat}(hi:i<m)(hq:q<n):i * n+q<m * n:=by have:=amL n (show i+1<=m from hi);rw[amV,aoI]at this;omega
theorem L1{e:TypeId}{ks:List K}{xs:T (.sl e ks)}{ys:List (Tl ks)}{G:Nat->Nat->Nat->Prop}{cs:Array Value}{o:Nat}{news:List Value}{H:Nat->Nat->Nat->Prop}{FH:Nat->Prop}{F:Nat->Prop}{b0:Nat}{cap:Nat}
 (Mq:∀ i j b,G i j b->F b/\b≠b0)(hG2:∀ i j i' j' b,G i j b->G i' j' b->i=i'/\j=j')(hx:∀ i x,(aW xs)[i]? = some x->gx w ks x 0 (G i) cs (o+i * ks.length))(hn:LJ w ks ys news H FH)(hFH:∀ b,FH b->¬ F b/\b≠b0)
 {b o':Nat}{fT:Array Value}{el:TypeId}{fr:Nat×Nat}{F':Nat->Prop}(hb:w'.heap[b]? = some (.cells fT el fr))(yP:∀ q,q<fT.size+YK ks->¬ (fr.1<=q/\q<fr.2))(hF'b:F' b)(Iq:∀ q,F q->q≠b0->F' q)(ad1:∀ q,FH q->F' q)(hGb:∀ i j q,G i j q->q≠b)(Ym:∀ q,FH q->q≠b)
 (qR:∀ q,q<w.heap.size->q≠b0->q≠b->w'.heap[q]? = w.heap[q]?)
 (hold:∀ q,q<(aW xs).length * ks.length->fT[o'+q]? = cs[o+q]?)(nM:∀ q,q<news.length->fT[o'+(aW xs).length * ks.length+q]? = news[q]?)(vR:(aW xs).length+ys.length<=cap)(dh:o'+cap * ks.length<=fT.size)(bo:(aW xs).length+ys.length<=bQ) :
 dG w' (.sl e ks) (cat ks (aW xs) ys) (.slice (some ⟨b,o',none⟩) ((aW xs).length+ys.length) cap) F':=by
 have hlen:(aW (e:=e) (ks:=ks) (cat ks (aW xs) ys)).length=(aW xs).length+ys.length:=amj ..
 refine⟨_,cap,by rw[hlen],by rw[hlen];exact vR,by rw[hlen];exact bo,by simp,fun a' rX=>?_⟩;simp only[amh]at rX;subst rX;refine⟨b,o',fT,el,fr,rfl,hF'b,hb,yP,dh,fun i j q=>if i<(aW xs).length then G i j q else H (i-(aW xs).length) j q,fun i j q hq=>?_,fun i j i' j' q h1 h2=>?_,fun i x hi=>?_⟩
 . dsimp only at hq;split at hq
   . exact⟨Iq q (Mq i j q hq).1 (Mq i j q hq).2,hGb i j q hq⟩
   . exact⟨ad1 q (hn.sub _ _ _ hq),Ym q (hn.sub _ _ _ hq)⟩
 . dsimp only at h1 h2;split at h1
   . split at h2
     . exact hG2 _ _ _ _ _ h1 h2
     . exact absurd (Mq _ _ _ h1).1 (hFH q (hn.sub _ _ _ h2)).1
   . split at h2
     . exact absurd (Mq _ _ _ h2).1 (hFH q (hn.sub _ _ _ h1)).1
     . obtain⟨e1,e2⟩:=hn.cS _ _ _ _ _ h1 h2;exact⟨by omega,e2⟩
 . have wa:(aW xs++ys)[i]? = some x:=hi;by_cases hl:i<(aW xs).length
   . rw[am0 hl]at wa;refine kD ks x 0 (G i) _ cs fT _ _ (fun q hq=>?_) (fun j q hq=>?_) (fun j q hq aV=>qR q aV (Mq i j q hq).2 (hGb i j q hq)) (hx i x wa)
     . have:=hold (i * ks.length+q) (nK hl hq);rw[show o'+i * ks.length+q=o'+(i * ks.length+q)by omega,show o+i * ks.length+q=o+(i * ks.length+q)by omega];exact this
     . show(if i<(aW xs).length then G i j q else H (i-(aW xs).length) j q);rw[if_pos hl];exact hq
   . rw[amY (by omega)]at wa;have aV:i-(aW xs).length<ys.length:=by
      rcases amz (i-(aW xs).length) ys.length with h | h
      . exact h
      . simp[amA h]at wa
     refine kD ks x 0 (H (i-(aW xs).length)) _ news.toArray fT _ _ (fun q hq=>?_) (fun j q hq=>?_) (fun j q hq alA=>qR q alA (hFH q (hn.sub _ _ _ hq)).2 (Ym q (hn.sub _ _ _ hq))) (hn.row _ x wa)
     . have wb:(i-(aW xs).length) * ks.length+q<news.length:=by rw[hn.len];exact nK aV hq
       have:=nM _ wb;have hmul:i * ks.length=(aW xs).length * ks.length+(i-(aW xs).length) * ks.length:=by rw[<- amV];congr 1;omega
       rw[show o'+i * ks.length+q=o'+(aW xs).length * ks.length+((i-(aW xs).length) * ks.length+q)by omega,this];simp
     . show(if i<(aW xs).length then G i j q else H (i-(aW xs).length) j q);rw[if_neg hl];exact hq
end
section
variable{P:Program}{cx:Cx P}{Z:Nat->Prop}{g:Gh}{st:St}{a:Act}{w:World}{E:En}
theorem Rel.wr(h:Rel cx Z g st a w){w':World}{F:Nat->Prop}(hF:jB cx Z g st w F)(h1:w'.os=w.os)(h2:w'.tape=w.tape)(h3:w'.output=w.output)(hs:w.heap.size<=w'.heap.size)(hb:∀ b,b<w.heap.size->¬ F b->w'.heap[b]? = w.heap[b]?):Rel cx Z g st a w':=by
 have hz:∀ b,Z b->b<w.heap.size->w'.heap[b]? = w.heap[b]? :=fun b hz aV=>hb b aV fun hf=>hF.z b hf hz
 have yn:∀ r j b,g.fp r j b->w'.heap[b]? = w.heap[b]? :=fun r j b hf=>hb b (h.fp r j b hf).1 fun hf'=>hF.fp b hf' r j hf
 have k:nW Z Z w w' g g st st:=
  { size:=hs,z:=fun b uu aV=>⟨uu,hz b uu aV⟩,root:=fun r R hR=>⟨R,hR,rfl,fun _=>rfl⟩
    cell:=fun r j c hc=>⟨c,hc,oR _,oR _,fun _=>rfl,fun _ e ks xs hh=>⟨xs,hh,rfl⟩,fun _ _=>⟨rfl,fun b cz _=>⟨cz,yn r j b cz⟩⟩⟩
    own:=fun r j b cz=>(h.fp r j b cz).1
    block:=(fY h (ay:=st) (w':=w) rfl rfl).block }
 refine { os:=h1.trans h.os,tape:=h2.trans h.tape,output:=h3.trans h.output,size:=amp h.size hs,block:=?_,cq:=fun b cz=>⟨amG (h.cq b cz).1 hs,(h.cq b cz).2⟩,z0:=h.z0,fp:=?_,cS:=h.cS,box:=?_,cell:=?_,tm:=?_,defers:=h.defers,nz:=h.nz }
 . intro b aV hf;refine(hb b (amG aV h.size) fun hf'=>?_).trans (h.block b aV hf);rcases hF.own b hf' with h4 | h4
   . exact hf h4
   . omega
 . intro r j b cz;obtain⟨h1,h2,h3,h4⟩:=h.fp r j b cz;exact⟨amG h1 hs,h2,h3,h4⟩
 . intro r R hR nP;obtain⟨b1,b2,b3,b4,cs,e,fr,b5,b6⟩:=h.box r R hR nP;have aV:g.be r<w.heap.size:=by
    rcases amz (g.be r) w.heap.size with hh | hh
    . exact hh
    . simp[amC hh]at b5
   exact⟨b1,b2,b3,b4,cs,e,fr,by rw[hb _ aV fun hf=>hF.box _ hf r R hR nP rfl];exact b5,b6⟩
 . intro r j c hc;exact lh.cI k _ _ _ _ (h.cell r j c hc) (fun _ h=>h) (fun b cz _=>yn r j b cz)
 . exact fun t tv ht=>⟨(h.tm t tv ht).1,bW.cI k _ _ (h.tm t tv ht).2⟩
theorem Rel.Lu(h:Rel cx Z g st a w){d:Nat}(hd:kR cx a d)(hf:st.free d=true){k:K}{x:T k}{v:Value}{F:Nat->Prop}(hF:∀ b,F b->b<w.heap.size/\(cx.F0 b∨cx.w0.heap.size<=b)/\¬ Z b/\(∀ r j,¬ g.fp r j b)/\(∀ r' R',look st.rt r'=some R'->R'.box=true->g.be r'≠b))(ho:dG w k x v F) :
 ∃ g',Rel cx Z g' (st.ba d (.v (.ref d 0 0),some ⟨false,[⟨0,0,.own k x⟩]⟩)) (a.put (some d) v) w:=by
 have h6:=Rel.nr h (r:=d) (be:=0) (R:=⟨false,[⟨0,0,.own k x⟩]⟩) (cv:=fun _=>v) (fp:=fun j b=>j=0/\F b) (kB hf)
  (fun j b hb=>⟨(hF b hb.2).1,(hF b hb.2).2.1,(hF b hb.2).2.2.1,(hF b hb.2).2.2.2.1,(hF b hb.2).2.2.2.2,⟨0,0,.own k x⟩,k,x,by rw[hb.1];rfl,rfl⟩)
  (fun j j' b h1 h2=>h1.1.trans h2.1.symm) (fun hb=>by simp at hb)
  (fun j c hj=>by
    cases j with
    | zero=>simp only[amn,amh]at hj;subst hj;exact dG.frame _ _ _ _ _ (fun b hb=>⟨rfl,hb⟩) (fun _ _ _=>rfl) ho
    | succ j=>simp at hj)
 refine⟨_,h6.nS hd (tv:= .v (.ref d 0 0)) ⟨⟨0,0,.own k x⟩,?_,oR _,fun _=>by simp[Gh.at]⟩⟩;show(match look ((d,(⟨false,[⟨0,0,.own k x⟩]⟩:Rt))::st.rt) d with | some R=>R.cells[0]? | none=>none)=_;rw[aN,if_pos rfl];rfl
end
section
variable{P:Program}{w:World}{E:En}
theorem qI{t t2 ty:TypeId}{e:TypeId}{te:TI}(ht:P.underlying t=some (.slice e))(r8:rH P e te){d2:TypeDesc}(h2:P.underlying t2=some d2)(O9:∀ k,d2≠ .int k){b o sLen sCap n:Nat}{vx:Value}{news:List Value}{ats:Array TypeId}(ln:ats[0]? = some t)(oU:ats[1]? = some t2)
 (hl:(Builtin.lenOf vx).run P w= .ok n w)(hf:(Builtin.firstCells te.ks.length n vx).run P w= .ok news.toArray w)(hc:sLen+n<=sCap)(h1:∀ u∈news,u.oneCell'=true)
 (bD:∀ j,j<news.length->∃ cs el fr,w.heap[b]? = some (.cells cs el fr)/\o+sLen * te.ks.length+j<cs.size/\¬ (fr.1<=o+sLen * te.ks.length+j/\o+sLen * te.ks.length+j<fr.2)) :
 (Builtin.append_ ats ty #[.slice (some ⟨b,o,none⟩) sLen sCap,vx]).run P w= .ok (.slice (some ⟨b,o,none⟩) (sLen+n) sCap) (w.setCells b (o+sLen * te.ks.length) news):=by
 have mS:=run_storeCells_cells (P:=P) b (o+sLen * te.ks.length) news 0 w (fun j hj=>by
  obtain⟨cs,el,fr,e1,e2,_⟩:=bD j hj;simp[World.cell?,e1,e2]) (fun j hj=>by
  obtain⟨cs,el,fr,e1,e2,e3⟩:=bD j hj;simp only[World.frozen?,amN,e1];simp only[aoC,aoj];by_cases h:fr.1<=o+sLen * te.ks.length+j
  . exact .inr fun h'=>e3 ⟨h,h'⟩
  . exact .inl h) h1
 rw[amN]at mS;have hz:(match d2 with | .int _=>true | _=>false)=false:=by cases d2 <;> first | rfl | exact absurd rfl (O9 _)
 simp only[Builtin.append_,ln,oU,amU,amn,am7,amJ,amM ht,amu,dz r8,amM h2,amR,hz,am1,anz,hl,hc,if_true,oM,hf,gO,mS]
theorem append_nil{t t2 ty:TypeId}{e:TypeId}{te:TI}(ht:P.underlying t=some (.slice e))(r8:rH P e te){d2:TypeDesc}(h2:P.underlying t2=some d2)(O9:∀ k,d2≠ .int k){vx:Value}{news:List Value}{ats:Array TypeId}(ln:ats[0]? = some t)(oU:ats[1]? = some t2)
 (hl:(Builtin.lenOf vx).run P w= .ok 0 w)(hf:(Builtin.firstCells te.ks.length 0 vx).run P w= .ok news.toArray w) :
 (Builtin.append_ ats ty #[.slice none 0 0,vx]).run P w= .ok (.slice none 0 0) w:=by
 have hz:(match d2 with | .int _=>true | _=>false)=false:=by cases d2 <;> first | rfl | exact absurd rfl (O9 _)
 simp only[Builtin.append_,ln,oU,amU,amn,am7,amJ,amM ht,amu,dz r8,amM h2,amR,hz,am1,anz,hl,oR,amN,if_true,oM,hf]
theorem pB{t t2 ty:TypeId}{e:TypeId}{te:TI}(ht:P.underlying t=some (.slice e))(r8:rH P e te){d2:TypeDesc}(h2:P.underlying t2=some d2)(O9:∀ k,d2≠ .int k){base:Option Addr}{sLen sCap n:Nat}{vx:Value}{iU news:List Value}{ats:Array TypeId}(ln:ats[0]? = some t)(oU:ats[1]? = some t2)
 (hl:(Builtin.lenOf vx).run P w= .ok n w)(hfo:(Builtin.firstCells te.ks.length sLen (.slice base sLen sCap)).run P w.drew= .ok iU.toArray w.drew)(hf:(Builtin.firstCells te.ks.length n vx).run P w.drew= .ok news.toArray w.drew)(hc:sCap<sLen+n)(v8:0<te.bytes)(hb:(sLen+n) * te.bytes<=bQ) :
 ∃ zs:Array Value,zs.size=(grownCap w (sLen+n) sCap e-(sLen+n)) * te.ks.length/\(Builtin.append_ ats ty #[.slice base sLen sCap,vx]).run P w= .ok (.slice (some ⟨w.heap.size,0,none⟩) (sLen+n) (grownCap w (sLen+n) sCap e)) (w.drew.alloc (.cells (iU.toArray++news.toArray++zs) e (0,0))):=by
 have hz:(match d2 with | .int _=>true | _=>false)=false:=by cases d2 <;> first | rfl | exact absurd rfl (O9 _)
 obtain⟨i,e1,e2,e3,z,e4,e5⟩:=r8.info;have mR:z.cells.size=te.ks.length:=by rw[<- amT,e5];simp
 refine⟨Builtin.zeroCells z.cells (grownCap w (sLen+n) sCap e-(sLen+n)),by rw[size_zeroCells,mR],?_⟩;have hn:¬ (sLen+n<=sCap):=by omega
 have Dq:(sLen+n) * te.bytes<=140737488355328:=hb;have hle:sLen+n<=(sLen+n) * te.bytes:=anP _ v8;have h63:¬ (9223372036854775807<((sLen:Int)+(n:Int))):=by omega
 have OV:¬ (281474976710656<Builtin.nextslicecap (sLen+n) sCap * i.bytes):=by have:=growslice_fits (need:=sLen+n) (old:=sCap) (bytes:=i.bytes) hc (by rw[e3];exact Dq);omega
 have ad2:(Builtin.firstCells i.size sLen (.slice base sLen sCap)).run P w.drew= .ok iU.toArray w.drew:=by rw[e2];exact hfo
 have hf':(Builtin.firstCells i.size n vx).run P w.drew= .ok news.toArray w.drew:=by rw[e2];exact hf
 simp[Builtin.append_,ln,oU,amM ht,amM h2,sizeOf,typeInfo,zeroValue,e1,e4,hl,hn,h63,OV,Question.forced,hf',ad2,newRow,grownCap,hz];congr 2;rw[<- an0];congr 1;simp
end
section
variable{P:Program}{cx:Cx P}{Z:Nat->Prop}{g:Gh}{st:St}{a:Act}{w:World}{E:En}
theorem j8{fresh:Bool}{H:Nat->Nat->Prop}:∀(ks:List K) (x:Tl ks) (cs:List Value) (j:Nat),bb fresh Z w H ks x cs j->cs.length=ks.length
 | [],_,[],_,_=>rfl
 | .sl e bZ::ks,x,v::vs,j,h=>amP (· + 1) (j8 ks x.2 vs _ h.2)
 | .int _::ks,x,v::vs,j,h=>amP (· + 1) (j8 ks x.2 vs _ h.2)
 | .bool::ks,x,v::vs,j,h=>amP (· + 1) (j8 ks x.2 vs _ h.2)
 | .str::ks,x,v::vs,j,h=>amP (· + 1) (j8 ks x.2 vs _ h.2)
 | [],_,_::_,_,h=>h.elim
 | .sl _ _::_,_,[],_,h=>h.elim
 | .int _::_,_,[],_,h=>h.elim
 | .bool::_,_,[],_,h=>h.elim
 | .str::_,_,[],_,h=>h.elim
theorem ji{H:Nat->Nat->Prop}:∀(ks:List K) (x:Tl ks) (cs:List Value) (j:Nat),bb true Z w H ks x cs j->∀ u∈cs,u.oneCell'=true
 | [],_,[],_,_=>by simp
 | .sl e bZ::ks,x,v::vs,j,h=>fun u hu=>by
   rcases ams.1 hu with hu | hu
   . subst hu;exact(EM h.1).2
   . exact ji ks x.2 vs _ h.2 u hu
 | .int _::ks,x,v::vs,j,h=>fun u hu=>by
   rcases ams.1 hu with hu | hu
   . subst hu;exact(qk h.1).2
   . exact ji ks x.2 vs _ h.2 u hu
 | .bool::ks,x,v::vs,j,h=>fun u hu=>by
   rcases ams.1 hu with hu | hu
   . subst hu;exact(qk (k:= .bool) h.1).2
   . exact ji ks x.2 vs _ h.2 u hu
 | .str::ks,x,v::vs,j,h=>fun u hu=>by
   rcases ams.1 hu with hu | hu
   . subst hu;exact(qk (k:= .str) h.1).2
   . exact ji ks x.2 vs _ h.2 u hu
 | [],_,_::_,_,h=>h.elim
 | .sl _ _::_,_,[],_,h=>h.elim
 | .int _::_,_,[],_,h=>h.elim
 | .bool::_,_,[],_,h=>h.elim
 | .str::_,_,[],_,h=>h.elim
theorem qz{H:Nat->Nat->Prop}(hd:∀ n m b,H n b->H m b->n=m){cs:Array Value}:∀(ks:List K) (x:Tl ks) (vs:List Value) (j j0 o:Nat),bb true Z w H ks x vs j->(∀ q,q<vs.length->cs[o+q]? = vs[q]?) ->
 ∃ G:Nat->Nat->Prop,gx w ks x j0 G cs o/\(∀ q b,G q b->j0<=q/\∃ n,j<=n/\H n b)/\(∀ q q' b,G q b->G q' b->q=q')
 | [],_,[],j,j0,o,_,_=>⟨fun _ _=>False,trivial,fun _ _ h=>h.elim,fun _ _ _ h=>h.elim⟩
 | .sl e bZ::ks,x,v::vs,j,j0,o,h,hc=>by
   obtain⟨G,g1,g2,g3⟩:=qz hd ks x.2 vs (j+1) (j0+1) (o+1) h.2 fun q hq=>by rw[show o+1+q=o+(q+1)by omega];exact hc (q+1) (by simp;omega)
   refine⟨fun q b=>if q=j0 then H j b else G q b,⟨⟨v,by have:=hc 0 (by simp);simpa using this,dG.frame _ _ _ _ _ (fun b hb=>by dsimp only;rw[if_pos rfl];exact hb) (fun _ _ _=>rfl) h.1⟩,?_⟩,fun q b hb=>?_,fun q q' b hb cz=>?_⟩
   . refine gx.frame ks x.2 (j0+1) G _ cs (o+1) (fun q b hb=>?_) (fun _ _ _ _=>rfl) g1;have:=(g2 q b hb).1;rw[if_neg (by omega)];exact hb
   . dsimp only at hb;split at hb
     . exact⟨by omega,j,oR _,hb⟩
     . obtain⟨k1,n,k2,k3⟩:=g2 q b hb;exact⟨by omega,n,by omega,k3⟩
   . dsimp only at hb cz;split at hb
     . split at cz
       . omega
       . obtain⟨_,n,k2,k3⟩:=g2 q' b cz;have:=hd j n b hb k3;omega
     . split at cz
       . obtain⟨_,n,k2,k3⟩:=g2 q b hb;have:=hd j n b cz k3;omega
       . exact g3 q q' b hb cz
 | .int k::ks,x,v::vs,j,j0,o,h,hc=>by
   obtain⟨G,g1,g2,g3⟩:=qz hd ks x.2 vs j (j0+1) (o+1) h.2 fun q hq=>by rw[show o+1+q=o+(q+1)by omega];exact hc (q+1) (by simp;omega)
   exact⟨G,⟨⟨v,by have:=hc 0 (by simp);simpa using this,kF rfl h.1⟩,g1⟩,fun q b hb=>⟨by have:=(g2 q b hb).1;omega,(g2 q b hb).2⟩,g3⟩
 | .bool::ks,x,v::vs,j,j0,o,h,hc=>by
   obtain⟨G,g1,g2,g3⟩:=qz hd ks x.2 vs j (j0+1) (o+1) h.2 fun q hq=>by rw[show o+1+q=o+(q+1)by omega];exact hc (q+1) (by simp;omega)
   exact⟨G,⟨⟨v,by have:=hc 0 (by simp);simpa using this,kF (k:= .bool) rfl h.1⟩,g1⟩,fun q b hb=>⟨by have:=(g2 q b hb).1;omega,(g2 q b hb).2⟩,g3⟩
 | .str::ks,x,v::vs,j,j0,o,h,hc=>by
   obtain⟨G,g1,g2,g3⟩:=qz hd ks x.2 vs j (j0+1) (o+1) h.2 fun q hq=>by rw[show o+1+q=o+(q+1)by omega];exact hc (q+1) (by simp;omega)
   exact⟨G,⟨⟨v,by have:=hc 0 (by simp);simpa using this,kF (k:= .str) rfl h.1⟩,g1⟩,fun q b hb=>⟨by have:=(g2 q b hb).1;omega,(g2 q b hb).2⟩,g3⟩
 | [],_,_::_,_,_,_,h,_=>h.elim
 | .sl _ _::_,_,[],_,_,_,h,_=>h.elim
 | .int _::_,_,[],_,_,_,h,_=>h.elim
 | .bool::_,_,[],_,_,_,h,_=>h.elim
 | .str::_,_,[],_,_,_,h,_=>h.elim
theorem rD{Z':Nat->Prop}{G:Nat->Nat->Prop}{cs:Array Value}:∀(ks:List K) (x:Tl ks) (j b o o':Nat),flat ks=true->rR Z' w ks x b o->(∀ q,q<ks.length->cs[o'+q]? = w.cell? ⟨b,o+q,none⟩)->gx w ks x j G cs o'
 | [],_,_,_,_,_,_,_,_=>trivial
 | .int k::ks,x,j,b,o,o',hf,⟨⟨v,h1,h2⟩,h3⟩,hc=>⟨⟨v,by rw[<- h1];exact hc 0 (by simp),kF rfl h2⟩,rD ks x.2 (j+1) b (o+1) (o'+1) hf h3 fun q hq=>by rw[show o'+1+q=o'+(q+1)by omega,show o+1+q=o+(q+1)by omega];exact hc (q+1) (by simp;omega)⟩
 | .bool::ks,x,j,b,o,o',hf,⟨⟨v,h1,h2⟩,h3⟩,hc=>⟨⟨v,by rw[<- h1];exact hc 0 (by simp),kF (k:= .bool) rfl h2⟩,rD ks x.2 (j+1) b (o+1) (o'+1) hf h3 fun q hq=>by rw[show o'+1+q=o'+(q+1)by omega,show o+1+q=o+(q+1)by omega];exact hc (q+1) (by simp;omega)⟩
 | .str::ks,x,j,b,o,o',hf,⟨⟨v,h1,h2⟩,h3⟩,hc=>⟨⟨v,by rw[<- h1];exact hc 0 (by simp),kF (k:= .str) rfl h2⟩,rD ks x.2 (j+1) b (o+1) (o'+1) hf h3 fun q hq=>by rw[show o'+1+q=o'+(q+1)by omega,show o+1+q=o+(q+1)by omega];exact hc (q+1) (by simp;omega)⟩
 | .sl _ _::_,_,_,_,_,_,hf,_,_=>by simp[flat]at hf
theorem EE{Z':Nat->Prop}:∀(ks:List K) (x:Tl ks) (b o q:Nat),rR Z' w ks x b o->q<ks.length->∃ v,w.cell? ⟨b,o+q,none⟩=some v/\v.oneCell'=true
 | [],_,_,_,_,_,hq=>by simp at hq
 | k::ks,x,b,o,0,⟨⟨v,h1,h2⟩,_⟩,_=>⟨v,h1,(qk h2).2⟩
 | k::ks,x,b,o,q+1,⟨_,h3⟩,hq=>by obtain⟨v,h1,h2⟩:=EE ks x.2 b (o+1) q h3 (by simpa using hq);exact⟨v,by rw[show o+(q+1)=o+1+q by omega];exact h1,h2⟩
theorem Ae{G:Nat->Nat->Prop}{cs:Array Value}:∀(ks:List K) (x:Tl ks) (j o q:Nat),gx w ks x j G cs o->q<ks.length->∃ v,cs[o+q]? = some v/\v.oneCell'=true
 | [],_,_,_,_,_,hq=>by simp at hq
 | k::ks,x,j,o,0,⟨⟨v,h1,h2⟩,_⟩,_=>⟨v,h1,(EM h2).2⟩
 | k::ks,x,j,o,q+1,⟨_,h3⟩,hq=>by obtain⟨v,h1,h2⟩:=Ae ks x.2 (j+1) (o+1) q h3 (by simpa using hq);exact⟨v,by rw[show o+(q+1)=o+1+q by omega];exact h1,h2⟩
theorem rr{m n q:Nat}(h:q<m * n):q / n<m/\q % n<n/\q=q / n * n+q % n:=by
 have hn:0<n:=by
  rcases aob n with h0 | h0
  . subst h0;simp at h
  . exact h0
 exact⟨Nat.div_lt_of_lt_mul (by rw[aoN];exact h),Nat.mod_lt _ hn,by rw[aoN];exact(Nat.div_add_mod q n).symm⟩
structure zl (P:Program) (cx:Cx P) (Z:Nat->Prop) (g g':Gh) (st ay:St) (w:World) (ks:List K) (ys:List (Tl ks)) (v:Value) (news:List Value) (H:Nat->Nat->Nat->Prop) (FH:Nat->Prop):Prop where
 rows:LJ w ks ys news H FH
 len:(Builtin.lenOf v).run P w= .ok ys.length w
 cells:∀ w1:World,w1.heap=w.heap->(Builtin.firstCells ks.length ys.length v).run P w1= .ok news.toArray w1
 free:jB cx Z g' ay w FH
 other:∀ F,jB cx Z g st w F->jB cx Z g' ay w F/\∀ b,FH b->¬ F b
 tm:ay.tm=st.tm
theorem zl.D5{ks:List K}{ys:List (Tl ks)}{v:Value}{news:List Value}(h1:news.length=ys.length * ks.length)(h2:∀ u∈news,u.oneCell'=true)(h3:∀(i:Nat) (y:Tl ks),ys[i]? = some y->gx w ks y 0 (fun _ _=>False) news.toArray (i * ks.length))
 (h4:(Builtin.lenOf v).run P w= .ok ys.length w)(h5:∀ w1:World,w1.heap=w.heap->(Builtin.firstCells ks.length ys.length v).run P w1= .ok news.toArray w1):zl P cx Z g g st st w ks ys v news (fun _ _ _=>False) (fun _=>False):=
 ⟨⟨h1,h2,fun _ _ _ h=>h,fun _ _ _ _ _ h=>h.elim,h3⟩,h4,h5,jB.none _ _ _ _ _,fun F hF=>⟨hF,fun _ h=>h.elim⟩,rfl⟩
theorem MT(h:Rel cx Z g st a w){e:TypeId}{ks:List K}{z:T (.sl e ks)}{v:Value}(ur:RO (iR w) w (.sl e ks) z v)(hf:flat ks=true):∃ news,zl P cx Z g g st st w ks (aW z) v news (fun _ _ _=>False) (fun _=>False):=by
 obtain⟨aa,c,rfl,h2,h3,h4,h5⟩:=ur;by_cases cY:aW z=[]
 . refine⟨[],zl.D5 (by rw[cY];simp) (by simp) (fun i y hi=>by rw[cY]at hi;simp at hi) rfl fun w1 _=>?_⟩;rw[cY];cases aa with
   | none=>exact run_firstCells_none (P:=P) w1 _ _ _ _
   | some b=>exact run_firstCells_some (P:=P) w1 _ _ b _ _ [] (by simp) (fun j v hj=>by simp at hj)
 . obtain⟨b,o,rfl,_,_,vS⟩:=h5 cY;have bD:∀ q,q<(aW z).length * ks.length->∃ v,w.cell? ⟨b,o+q,none⟩=some v/\v.oneCell'=true:=fun q hq=>by
    obtain⟨q1,q2,q3⟩:=rr hq;obtain⟨v,k1,k2⟩:=EE ks _ b _ (q % ks.length) (vS _ _ (amm q1)) q2;exact⟨v,by rw[q3,<- anm];exact k1,k2⟩
   have B0:∀ q,q<(aW z).length * ks.length->((List.range ((aW z).length * ks.length)).map fun q=>(w.cell? ⟨b,o+q,none⟩).getD undef)[q]? = w.cell? ⟨b,o+q,none⟩:=fun q hq=>by obtain⟨v,k1,_⟩:=bD q hq;simp[hq,k1]
   refine⟨(List.range ((aW z).length * ks.length)).map fun q=>(w.cell? ⟨b,o+q,none⟩).getD undef,zl.D5 (by simp) (fun u hu=>?_) (fun i y hi=>?_) rfl fun w1 Cm=>?_⟩
   . obtain⟨q,hq,rfl⟩:=an9.1 hu;obtain⟨v,k1,k2⟩:=bD q (anu.1 hq);rw[k1];exact k2
   . have Dp:i<(aW z).length:=by
      rcases amz i (aW z).length with hh | hh
      . exact hh
      . simp[amA hh]at hi
     refine rD ks y 0 b _ _ hf (vS i y hi) fun q hq=>?_
     have:=B0 (i * ks.length+q) (nK Dp hq);rw[amU,this,anm]
   . refine run_firstCells_some (P:=P) w1 _ _ ⟨b,o,none⟩ _ _ _ (by simp) fun j v hj=>?_
     have nQ:j<(aW z).length * ks.length:=by
      rcases amz j ((aW z).length * ks.length)with hh | hh
      . exact hh
      . rw[amA (by simpa using hh)]at hj;simp at hj
     rw[B0 j nQ]at hj;rw[gO];simp only[World.cell?,Cm]at hj ⊢;exact hj
def nR:S8->List Value
 | []=>[]
 | c::s=> .int .u8 c.toNat::nR s
theorem pN:∀ s,(nR s).length=s.length
 | []=>rfl
 | _::s=>amP (· + 1) (pN s)
theorem pA:∀ s:S8,nR s=s.map fun b=>Value.int .u8 b.toNat
 | []=>rfl
 | c::s=>amP (Value.int .u8 c.toNat :: ·) (pA s)
theorem vr:∀(s:S8) (i:Nat),i<s.length->(nR s)[i]? = some (.int .u8 (s.getD i 0).toNat)
 | [],i,h=>by simp at h
 | c::s,0,_=>rfl
 | c::s,i+1,h=>vr s i (by simpa using h)
theorem PQ(e:TypeId)(s:S8):∃ news,zl P cx Z g g st st w [.int .u8] (aW (e:=e) (bytesOf s)) (.string (fQ s)) news (fun _ _ _=>False) (fun _=>False):=by
 have hl:(aW (e:=e) (bytesOf s)).length=s.length:=bytesOf_length s;refine⟨nR s,zl.D5 (by rw[pN,hl];simp) (fun u hu=>?_) (fun i y hi=>?_) ?_ fun w1 _=>?_⟩
 . rw[pA]at hu;obtain⟨c,_,rfl⟩:=an9.1 hu;rfl
 . obtain⟨Ud,rfl⟩:=qp s i y hi;refine⟨⟨_,by rw[amU];simpa using vr s i Ud,rfl,?_⟩,trivial⟩;have:=(s.getD i 0).toNat_lt;have e1:IntKind.u8.min=0:=rfl;have e2:IntKind.u8.max=255:=rfl;unfold pT;rw[e1,e2];show 0<=((s.getD i 0).toNat:Int)/\((s.getD i 0).toNat:Int)<=255;omega
 . rw[hl];show Result.ok (fQ s).size w=_;rw[lj]
 . rw[hl];have:((fQ s).extract 0 s.length).data.map (fun b=>Value.int .u8 b.toNat)=(nR s).toArray:=by
    rw[pA];have h2:(fQ s).extract 0 s.length=fQ s:=by have:s.length=(fQ s).size:=(lj s).symm;rw[this];apply apd;simp[ByteArray.data_extract]
    rw[h2];simp[fQ]
   show Result.ok (((fQ s).extract 0 s.length).data.map (fun b=>Value.int .u8 b.toNat)) w1=_;rw[this]
theorem QE{g':Gh}{ay:St}{e:TypeId}{ks:List K}{z:T (.sl e ks)}{v:Value}{F:Nat->Prop}(ho:dG w (.sl e ks) z v F)(hF:jB cx Z g' ay w F)(yn:∀ r j b,g'.fp r j b->g.fp r j b)(Ur:∀ b,F b->∃ r j,g.fp r j b)(vW:g'.be=g.be)(nP:∀ r R',look ay.rt r=some R'->∃ R,look st.rt r=some R/\R'.box=R.box)(Fq:ay.tm=st.tm) :
 ∃ news H,zl P cx Z g g' st ay w ks (aW z) v news H F:=by
 have oth:∀ F',jB cx Z g st w F'->jB cx Z g' ay w F'/\∀ b,F b->¬ F' b:=fun F' h'=>⟨h'.mono yn vW nP,fun b hb cz=>by obtain⟨r,j,hh⟩:=Ur b hb;exact h'.fp b cz r j hh⟩
 obtain⟨aa,c,rfl,h2,h3,h4,h5⟩:=ho;cases aa with
 | none=>have hz:aW z=[]:=am2.1 (by have:=h4 rfl;omega);refine⟨[],fun _ _ _=>False,⟨by rw[hz];simp,by simp,fun _ _ _ h=>h.elim,fun _ _ _ _ _ h=>h.elim,fun i y hi=>by rw[hz]at hi;simp at hi⟩,rfl,fun w1 _=>by rw[hz];exact run_firstCells_none (P:=P) w1 _ _ _ _,hF,oth,Fq⟩
 | some aa=>
   obtain⟨b,o,cs,el,fr,rfl,k2,k3,k4,k5,G,k6,k7,k8⟩:=h5 _ rfl;have hbound:∀ q,q<(aW z).length * ks.length->o+q<cs.size:=fun q hq=>by have:=amL ks.length h2;omega
   have B0:∀ q,q<(aW z).length * ks.length->((List.range ((aW z).length * ks.length)).map fun q=>cs.getD (o+q) undef)[q]? = cs[o+q]? :=fun q hq=>by have:=hbound q hq;simp[hq,this]
   refine⟨(List.range ((aW z).length * ks.length)).map fun q=>cs.getD (o+q) undef,G,⟨by simp,fun u hu=>?_,fun i j b' cz=>(k6 i j b' cz).1,k7,fun i y hi=>?_⟩,rfl,fun w1 Cm=>?_,hF,oth,Fq⟩
   . obtain⟨q,hq,rfl⟩:=an9.1 hu;obtain⟨q1,q2,q3⟩:=rr (anu.1 hq);obtain⟨v,f1,f2⟩:=Ae ks _ 0 _ (q % ks.length) (k8 _ _ (amm q1)) q2;rw[anm,<- q3]at f1;rw[amr,f1];exact f2
   . have Dp:i<(aW z).length:=by
      rcases amz i (aW z).length with hh | hh
      . exact hh
      . simp[amA hh]at hi
     refine kD ks y 0 (G i) (G i) cs _ _ _ (fun q hq=>?_) (fun _ _ h=>h) (fun _ _ _ _=>rfl) (k8 i y hi);rw[amU,B0 _ (nK Dp hq),anm]
   . refine run_firstCells_some (P:=P) w1 _ _ ⟨b,o,none⟩ _ _ _ (by simp) fun j v hj=>?_
     have nQ:j<(aW z).length * ks.length:=by
      rcases amz j ((aW z).length * ks.length)with hh | hh
      . exact hh
      . rw[amA (by simpa using hh)]at hj;simp at hj
     rw[B0 j nQ]at hj;rw[gO];simp only[World.cell?,Cm,k3];exact hj
theorem Nd(h:Rel cx Z g st a w){r:Nat}{l:List RC}{v:Value}{ks:List K}{x:Tl ks}{ay:St}(hl:look st.rt r=some ⟨true,l⟩)(hv:v= .slice (some ⟨g.be r,0,none⟩) 1 1)(ht:jV st true ks (l.map wT)=some (ay,x)) :
 ∃ g' news H FH,Rel cx Z g' ay a w/\zl P cx Z g g' st ay w ks [x] v news H FH:=by
 obtain⟨b1,b2,b3,b4,cs,el,fr,b5,b6,b7,b8⟩:=h.box r _ hl rfl;have eQ:a8 Z g st w (l.map wT) cs.toList:=by
  refine lW (by simp[b7]) fun j y u hj hu=>?_
  rw[amX]at hj;cases hc:l[j]? with
  | none=>rw[hc]at hj;simp at hj
  | some c=>
    rw[hc]at hj;simp only[amI,amh]at hj;have bD:st.cell r j=some c:=by simp only[St.cell,hl];exact hc
    have nQ:j<cs.size:=by rw[b7];exact yz bD hl
    rw[aml,b8 j nQ]at hu;simp only[amh]at hu;subst hj;subst hu;unfold wT;cases Pc:c.v with
    | own k y=>trivial
    | av y=>exact yC h bD Pc
 obtain⟨g',H0,m1,m2,m3⟩:=l8 true ks (l.map wT) cs.toList st g ay x 0 h eQ ht;have Fq:ay.tm=st.tm:=by
  have:∀(ks:List K) (l:List AV) (st ay:St) (x:Tl ks),jV st true ks l=some (ay,x)->ay.tm=st.tm:=by
   intro ks;induction ks with
   | nil=>intro l st ay x hh;cases l with | nil=>cases hh;rfl | cons _ _=>simp[jV]at hh
   | cons k ks ih=>
     intro l st ay x hh;cases l with
     | nil=>cases k <;> simp[jV]at hh
     | cons av l=>
       cases k with
       | sl e bZ=>
         unfold jV at hh;simp only[oT]at hh;split at hh
         . rename_i ca y hy;split at hh
           . rename_i q hq;cases hh;exact(ih l ca q.1 q.2 hq).trans (uQ hy 0).2
           . simp at hh
         . simp at hh
       | _=>
         unfold jV at hh;split at hh
         . rename_i y q hy hf hq;cases hh;exact ih l st q.1 q.2 hq
         . simp at hh
  exact this ks _ st ay x ht
 obtain⟨G,n1,n2,n3⟩:=qz (H:=H0) m2.cS (cs:=cs) ks x cs.toList 0 0 0 m3 fun q hq=>by rw[amt,aml]
 have hlen:=j8 ks x _ 0 m3;have oV:jB cx Z g' ay w (fun b=>∃ n,H0 n b):=⟨fun b ⟨n,hb⟩=>(m2.free n).lt b hb,fun b ⟨n,hb⟩=>(m2.free n).own b hb,fun b ⟨n,hb⟩=>(m2.free n).z b hb,fun b ⟨n,hb⟩=>(m2.free n).fp b hb,fun b ⟨n,hb⟩=>(m2.free n).box b hb⟩;refine⟨g',cs.toList,fun i j b=>i=0/\G j b,fun b=>∃ n,H0 n b,m1,⟨by simpa using hlen,ji ks x _ 0 m3,fun i j b hb=>by
  obtain⟨_,n,_,hh⟩:=n2 j b hb.2;exact⟨n,hh⟩,fun i j i' j' b hb cz=>⟨hb.1.trans cz.1.symm,n3 j j' b hb.2 cz.2⟩,fun i y hi=>?_⟩,by rw[hv];rfl,fun w1 Cm=>?_,oV,fun F hF=>⟨hF.mono m2.fp m2.be m2.box,fun b ⟨n,hb⟩ cz=>by
  obtain⟨r0,j0,hh⟩:=m2.sub n b hb;exact hF.fp b cz r0 j0 hh⟩,Fq⟩
 . cases i with
   | zero=>simp only[amn,amh]at hi;subst hi;rw[Nat.zero_mul,anh];exact gx.frame ks x 0 G _ cs 0 (fun j b hb=>⟨rfl,hb⟩) (fun _ _ _ _=>rfl) n1
   | succ i=>simp at hi
 . rw[hv];refine run_firstCells_some (P:=P) w1 _ _ ⟨g.be r,0,none⟩ _ _ _ (by simpa using hlen) fun j u hj=>?_
   rw[gO,amt];simp only[World.cell?,Cm,b5];rw[aml]at hj;exact hj
theorem QJ(h:Rel cx Z g st a w){e:TypeId}{ks:List K}{y:TV}{v:Value}(hr:bW Z g st w y v){ay:St}{ys:List (Tl ks)}(hn:st.news e ks y=some (ay,ys)):∃ g' news H FH,Rel cx Z g' ay a w/\zl P cx Z g g' st ay w ks ys v news H FH:=by
 have src:∀ av,bW Z g st w (.v av) v->(match st.source (.sl e ks) ks av with | some (ay,z)=>some (ay,aW z) | none=>none)=some (ay,ys)->∃ g' news H FH,Rel cx Z g' ay a w/\zl P cx Z g g' st ay w ks ys v news H FH:=by
  intro av hra hh;unfold St.source at hh;cases hf:flat ks with
  | true=>
    rw[hf]at hh;simp only[oT]at hh;cases ad3:st.bI (.sl e ks) av with
    | none=>rw[ad3]at hh;simp at hh
    | some z=>rw[ad3]at hh;cases hh;obtain⟨news,Ib⟩:=MT (P:=P) h (oq h hra ad3) hf;exact⟨g,news,_,_,h,Ib⟩
  | false=>
    rw[hf]at hh;simp only[oF]at hh;cases Du:st.cU (.sl e ks) av with
    | none=>rw[Du]at hh;simp at hh
    | some q=>obtain⟨ca,z⟩:=q;rw[Du]at hh;cases hh;obtain⟨g1,F,k1,k2,k3,k4,k5,k6,k7⟩:=hO h hra Du;obtain⟨news,H,Ib⟩:=QE (P:=P) (g:=g) (st:=st) k3 k4 k5 k6 k2.be k2.box k2.tm;exact⟨g1,news,H,F,k1,Ib⟩
 cases y with
 | v av=>
   cases av with
   | d k s=>
     cases k with
     | str=>
       simp only[St.news]at hn;split at hn
       . rename_i z hz;cases hn;obtain⟨eq,hz⟩:=cN hz;cases eq;subst hz;obtain⟨hv,_⟩:=(hr:RO Z w .str s v);subst hv;obtain⟨news,Ib⟩:=PQ (P:=P) (cx:=cx) (Z:=Z) (g:=g) (st:=st) (w:=w) e s;exact⟨g,news,_,_,h,Ib⟩
       . simp at hn
     | _=>exact src _ hr hn
   | qO r n=>
     simp only[St.news]at hn;cases hb:Nat.beq n 1 with
     | false=>rw[hb]at hn;simp at hn
     | true=>
       rw[hb]at hn;simp only[oT]at hn;have Vc:=beq_eq hb;subst Vc;split at hn
       . rename_i l hl;split at hn
         . rename_i ca x hx;cases hn;obtain⟨R,_,_,hv⟩:=(hr:bC Z g st w (.qO r 1) v);exact Nd h hl hv hx
         . simp at hn
       . simp at hn
   | _=>exact src _ hr hn
 | _=>simp[St.news]at hn
end
theorem cX:∀(vs:List Value) (o:Nat) (cs:Array Value),(setFrom cs o vs).size=cs.size
 | [],_,_=>rfl
 | v::r,o,cs=>by rw[setFrom,cX r];simp
theorem eI(b:Nat):∀(vs:List Value) (o:Nat) (w:World) (cs:Array Value) (el:TypeId) (fr:Nat×Nat),w.heap[b]? = some (.cells cs el fr) ->
 (w.setCells b o vs).heap[b]? = some (.cells (setFrom cs o vs) el fr)/\(∀ i,i≠b->(w.setCells b o vs).heap[i]? = w.heap[i]?)/\(w.setCells b o vs).heap.size=w.heap.size/\(w.setCells b o vs).os=w.os/\(w.setCells b o vs).tape=w.tape/\(w.setCells b o vs).output=w.output
 | [],o,w,cs,el,fr,h=>⟨h,fun _ _=>rfl,rfl,rfl,rfl,rfl⟩
 | v::r,o,w,cs,el,fr,h=>by
   have h1:(w.setCell ⟨b,o,none⟩ v).heap[b]? = some (.cells (cs.setIfInBounds o v) el fr):=by rw[eb,if_pos rfl,h];rfl
   obtain⟨g1,g2,g3,g4,g5,g6⟩:=eI b r (o+1) _ _ el fr h1;refine⟨g1,fun i hi=>?_,?_,g4,g5,g6⟩
   . rw[World.setCells,g2 i hi,eb,if_neg (fun e=>hi e.symm)]
   . rw[World.setCells,g3];simp[World.setCell]
section
variable{P:Program}{cx:Cx P}{Z:Nat->Prop}{g:Gh}{st:St}{a:Act}{w:World}{E:En}
theorem RL(hT:cH P E)(h:Rel cx Z g st a w)(hn:cJ st)(dh:Fit cx E a){o:Oper}{d:Nat}(hd:o.dst=some d)(cE:kR cx a d){c:Call}(ho:o.op= .call c)(fe:c.callee= .builtin .append){x y:Operand}(cF:c.args.toList=[x,y]){t t2:Nat}{ts:List Nat}(yN:c.argTypes.toList=t::t2::ts)
 {ti te:TI}(iy:E.ti t=some ti)(Fa:E.sl t=some te){tx ty:TV}(hx:st.get x=some tx)(hy:st.get y=some ty)(h2:E.str t2=true∨∃ Yn,E.sl t2=some Yn){ay:St}(au:(st.append d ti.elem te tx ty).run=some ay):qd P cx E ay a w o:=by
 have hc:=hn.cons.cons;obtain⟨gn,q1,q2,q3,q4⟩:=x9 hT Fa iy;have r8:=hT _ _ q4;obtain⟨tt,Kk,t1,_,_,_,hu⟩:=j5 hT Fa;rw[iy]at t1;simp only[amh]at t1;subst t1;obtain⟨d2,Ir,hd2⟩:∃ d2,P.underlying t2=some d2/\∀ k,d2≠ .int k:=by
  rcases h2 with h2 | ⟨Yn,h2⟩
  . exact⟨_,ql hT h2,fun _ h=>by simp at h⟩
  . obtain⟨_,_,_,_,_,_,Ir⟩:=j5 hT h2;exact⟨_,Ir,fun _ h=>by simp at h⟩
 unfold St.append at au;obtain⟨av,hav,au⟩:=Tr.ai au;obtain⟨⟨ca,xs⟩,Du,au⟩:=Tr.ai au;obtain⟨⟨Yj,ys⟩,hnw,au⟩:=Tr.ai au;simp only at hnw au;cases ko:Yj.free d&&Nat.blt 0 te.bytes with
 | false=>rw[ko]at au;simp[Tr.run]at au
 | true=>
   rw[ko]at au;simp only[oT]at au;simp only[ami]at ko;obtain⟨oV,v8⟩:=ko;have v8:0<te.bytes:=ann (amE v8);obtain⟨OW,au⟩:=Tr.bT au;simp only[Tr.run,amh]at au;subst au;have BR:((aW xs).length+ys.length) * te.bytes<=bQ:=amE OW;have bo:(aW xs).length+ys.length<=bQ:=amp (anP _ v8) BR;obtain⟨g1,F,k1,k2,k3,k4,k5,k6,k7⟩:=hO h (uW (bg h hc hx) hav) Du;obtain⟨g2,news,H,FH,m1,m2⟩:=QJ (P:=P) k1 (bW.cI k2.cI _ _ (bg h hc hy)) hnw;obtain⟨f1,f2⟩:=m2.other F k4;have vU:cJ (Yj.ba d (.v (.ref d 0 0),some ⟨false,[⟨0,0,.own (.sl ti.elem te.ks) (cat te.ks (aW xs) ys)⟩]⟩)):=fun t tv ht=>by
    rw[cC]at ht;split at ht
    . simp only[amh]at ht;subst ht;exact fun h=>h
    . exact hn t tv (by rw[<- k2.tm,<- m2.tm];exact ht)
   refine⟨vU,fun next Q hk=>?_⟩
   have fin:∀(v':Value) (w':World) (F':Nat->Prop),(Builtin.append_ c.argTypes o.type #[a.eval x,a.eval y]).run P w= .ok v' w'->Rel cx Z g2 Yj a w'->(∀ b,F' b->b<w'.heap.size/\(cx.F0 b∨cx.w0.heap.size<=b)/\¬ Z b/\(∀ r j,¬ g2.fp r j b)/\(∀ r' R',look Yj.rt r'=some R'->R'.box=true->g2.be r'≠b)) ->
    dG w' (.sl ti.elem te.ks) (cat te.ks (aW xs) ys) v' F'->o.wp P a w next Q:=by
    intro v' w' F' hr eQ Iq kn;have iv:c.args = #[x,y]:=by rw[<- anh (xs:=c.args),cF]
    have:(execOp a.eval o).run P w= .ok (.value v') w':=by simp only[execOp,ho,resolve,fe,iv,amJ,amR,amu,invoke,builtin,anZ,amS,aok,hr]
    unfold Oper.wp;rw[this,anl,hd];obtain⟨g3,hg⟩:=eQ.Lu cE oV Iq kn;exact hk Z g3 _ _ hg (dh.put _ _)
   have ln:c.argTypes[0]? = some t:=by rw[<- aml,yN];rfl
   have oU:c.argTypes[1]? = some t2:=by rw[<- aml,yN];rfl
   have hFs:∀(w':World),w.heap.size<=w'.heap.size->∀ b,F b∨FH b->b<w'.heap.size/\(cx.F0 b∨cx.w0.heap.size<=b)/\¬ Z b/\(∀ r j,¬ g2.fp r j b)/\(∀ r' R',look Yj.rt r'=some R'->R'.box=true->g2.be r'≠b):=fun w' hs b hb=>by
    rcases hb with hb | hb
    . exact⟨amG (f1.lt b hb) hs,f1.own b hb,f1.z b hb,f1.fp b hb,f1.box b hb⟩
    . exact⟨amG (m2.free.lt b hb) hs,m2.free.own b hb,m2.free.z b hb,m2.free.fp b hb,m2.free.box b hb⟩
   obtain⟨base,cap,ev,c1,c2,c3,c4⟩:=k3;have B0:=m2.rows.len;by_cases iV:(aW xs).length+ys.length<=cap
   . cases base with
     | none=>
       have vR:=c3 rfl;have Dv:aW xs=[]:=am2.1 (by omega);have hy0:ys=[]:=am2.1 (by omega);have e1:a.eval x= .slice none 0 0:=by rw[ev,Dv,vR];rfl
       refine fin (.slice none 0 0) w (fun _=>False) ?_ m1 (fun b hb=>hb.elim) ?_
       . rw[e1];refine append_nil (news:=news) hu r8 Ir hd2 ln oU ?_ ?_
         . have:=m2.len;rw[hy0]at this;exact this
         . have:=m2.cells w rfl;rw[hy0]at this;exact this
       . rw[Dv,hy0];exact kP _ _
     | some aa=>
       obtain⟨b,of,cs,el,fr,rfl,n2,n3,n4,n5,G,n6,n7,n8⟩:=c4 _ rfl;obtain⟨s1,s2,s3,s4,s5,s6⟩:=eI b news (of+(aW xs).length * te.ks.length) w cs el fr n3;have vQ:of+(aW xs).length * te.ks.length+news.length<=cs.size:=by have:=amL te.ks.length iV;rw[amV]at this;omega
       refine fin (.slice (some ⟨b,of,none⟩) ((aW xs).length+ys.length) cap) (w.setCells b (of+(aW xs).length * te.ks.length) news) (fun q=>F q∨FH q) ?_ (m1.wr f1 s4 s5 s6 (by rw[s3];exact oR _) fun q _ hq=>s2 q fun e=>hq (by rw[e];exact n2)) (hFs _ (by rw[s3];exact oR _)) ?_
       . rw[ev];exact qI hu r8 Ir hd2 ln oU m2.len (m2.cells w rfl) iV m2.rows.one fun j hj=>⟨cs,el,fr,n3,by omega,n4 _ (by omega)⟩
       . refine L1 (w:=w) (b0:=b) (F:=F) n6 n7 n8 m2.rows (fun q hq=>⟨f2 q hq,fun e=>f2 q hq (by rw[e];exact n2)⟩) s1 (fun q hq=>n4 q (by rw[cX]at hq;exact hq)) (.inl n2) (fun q hq _=> .inl hq) (fun q hq=> .inr hq) (fun i j q hq=>(n6 i j q hq).2) (fun q hq e=>f2 q hq (by rw[e];exact n2)) (fun q _ hq _=>s2 q hq) (fun q hq=>?_) (fun q hq=>?_) iV (by rw[cX];exact n5) bo
         . rw[du _ _ _ _ vQ,if_neg (by omega)]
         . rw[du _ _ _ _ vQ,if_pos (by omega)];congr 1;omega
   . have Us:cap<(aW xs).length+ys.length:=by omega
     have Mh:=grownCap_ge w ((aW xs).length+ys.length) cap ti.elem;have Ut:∀ q,F q∨FH q->q≠w.heap.size:=fun q hq e=>by have:=(hFs w (oR _) q hq).1;omega
     have iU:∃(iU:List Value) (b0:Nat) (cs:Array Value) (of:Nat) (G:Nat->Nat->Nat->Prop),(Builtin.firstCells te.ks.length (aW xs).length (.slice base (aW xs).length cap)).run P w.drew= .ok iU.toArray w.drew/\iU.length=(aW xs).length * te.ks.length/\(∀ q,q<(aW xs).length * te.ks.length->iU[q]? = cs[of+q]?) /\
      (∀ i j b,G i j b->F b/\b≠b0)/\(∀ i j i' j' b,G i j b->G i' j' b->i=i'/\j=j')/\(∀ i x,(aW xs)[i]? = some x->gx w te.ks x 0 (G i) cs (of+i * te.ks.length))/\(∀ q,FH q->q≠b0):=by
      cases base with
      | none=>have vR:=c3 rfl;have Dv:aW xs=[]:=am2.1 (by omega);refine⟨[],w.heap.size,#[],0,fun _ _ _=>False,?_,by rw[Dv];simp,fun q hq=>by rw[Dv]at hq;simp at hq,fun _ _ _ h=>h.elim,fun _ _ _ _ _ h=>h.elim,fun i x hi=>by rw[Dv]at hi;simp at hi,fun q hq=>Ut q (.inr hq)⟩;exact run_firstCells_none (P:=P) w.drew _ _ _ _
      | some aa=>
        obtain⟨b,of,cs,el,fr,rfl,n2,n3,n4,n5,G,n6,n7,n8⟩:=c4 _ rfl;have hbound:∀ q,q<(aW xs).length * te.ks.length->of+q<cs.size:=fun q hq=>by have:=amL te.ks.length c1;omega
        have Uu:∀ q,q<(aW xs).length * te.ks.length->((List.range ((aW xs).length * te.ks.length)).map fun q=>cs.getD (of+q) undef)[q]? = cs[of+q]? :=fun q hq=>by have:=hbound q hq;simp[hq,this]
        refine⟨(List.range ((aW xs).length * te.ks.length)).map fun q=>cs.getD (of+q) undef,b,cs,of,G,?_,by simp,Uu,n6,n7,n8,fun q hq e=>f2 q hq (by rw[e];exact n2)⟩;refine run_firstCells_some (P:=P) w.drew _ _ ⟨b,of,none⟩ _ _ _ (by simp) fun j v hj=>?_
        have nQ:j<(aW xs).length * te.ks.length:=by
         rcases amz j ((aW xs).length * te.ks.length)with hh | hh
         . exact hh
         . rw[amA (by simpa using hh)]at hj;simp at hj
        rw[Uu j nQ]at hj;rw[gO];have n3':w.drew.heap[b]? = some (.cells cs el fr):=n3;simp only[World.cell?,n3'];exact hj
     obtain⟨iU,b0,cs,of,G,r1,r2,r3,r4,r5,r6,r7⟩:=iU;obtain⟨zs,z1,z2⟩:=pB (ty:=o.type) (vx:=a.eval y) hu r8 Ir hd2 ln oU m2.len r1 (m2.cells w.drew rfl) Us v8 BR;have jn:(w.drew.alloc (.cells (iU.toArray++news.toArray++zs) ti.elem (0,0))).heap=w.heap.push (.cells (iU.toArray++news.toArray++zs) ti.elem (0,0)):=rfl;have jU:(w.drew.alloc (.cells (iU.toArray++news.toArray++zs) ti.elem (0,0))).heap.size=w.heap.size+1:=by rw[jn,anN]
     have hold:∀ q,q<w.heap.size->(w.drew.alloc (.cells (iU.toArray++news.toArray++zs) ti.elem (0,0))).heap[q]? = w.heap[q]? :=fun q hq=>by rw[jn,amW,if_neg (by omega)]
     refine fin (.slice (some ⟨w.heap.size,0,none⟩) ((aW xs).length+ys.length) (grownCap w ((aW xs).length+ys.length) cap ti.elem)) (w.drew.alloc (.cells (iU.toArray++news.toArray++zs) ti.elem (0,0))) (fun q=>(F q∨FH q)∨q=w.heap.size) (by rw[ev];exact z2) (m1.wr f1 rfl rfl rfl (by rw[jU];omega) fun q hq _=>hold q hq) (fun b hb=>?_) ?_
     . rcases hb with hb | rfl
       . exact hFs _ (by rw[jU];omega) b hb
       . refine⟨by rw[jU];omega,.inr m1.size,fun hz=>by have:=(m1.cq _ hz).1;omega,fun r j hh=>by have:=(m1.fp r j _ hh).1;omega,fun r' R' lu cz he=>?_⟩;obtain⟨_,_,_,_,cs1,el1,fr1,b5,_⟩:=m1.box r' R' lu cz;rw[he,amC (oR _)]at b5;simp at b5
     . refine L1 (w:=w) (b0:=b0) (F:=F) r4 r5 r6 m2.rows (fun q hq=>⟨f2 q hq,r7 q hq⟩) (el:=ti.elem) (fr:=(0,0)) (fT:=iU.toArray++news.toArray++zs) (by rw[jn,amW,if_pos rfl]) (by simp) (.inr rfl) (fun q hq _=> .inl (.inl hq)) (fun q hq=> .inl (.inr hq)) (fun i j q hq=>Ut q (.inl (r4 i j q hq).1)) (fun q hq=>Ut q (.inr hq)) (fun q hq _ _=>hold q hq) (fun q hq=>?_) (fun q hq=>?_) Mh ?_ bo
       . rw[<- r3 q hq,amt,an0,ane (by simp;omega)];simp
       . rw[amt,an0,aoD (by simp;omega),ane (by simp;omega)];simp only[apf,r2,am6,amU]
       . have e1:(iU.toArray++news.toArray++zs).size=iU.length+news.length+zs.size:=by simp
         rw[e1,r2,B0,z1,amt,<- amV,<- amV];exact amL _ (by omega)
end
section
variable{P:Program}{w:World}{E:En}{P:Program}{cx:Cx P}{Z:Nat->Prop}{g:Gh}{st:St}{a:Act}
theorem B2{z:Array Value}{ks:List K}(hz:z.toList=ks.map zV)(n j:Nat)(hj:j<n * ks.length):(Builtin.zeroCells z n)[j]? = (ks.map zV)[j % ks.length]? :=by
 have hl:z.size=ks.length:=by rw[<- amT,hz];simp
 have Kg:0<ks.length:=by
  rcases aob ks.length with h | h
  . rw[h]at hj;simp at hj
  . exact h
 unfold Builtin.zeroCells;simp only[Array.getElem?_map,hl];have:(Array.range (n * ks.length))[j]? = some j:=by simp[hj]
 rw[this];have hm:j % ks.length<ks.length:=Nat.mod_lt _ Kg;simp only[amI];rw[<- hz,aml];rw[Array.getElem!_eq_getD];simp[amr,hl,hm]
theorem Gn{t t2 ty:TypeId}{e:TypeId}{te:TI}(ht:P.underlying t=some (.slice e))(r8:rH P e te){k2:IntKind}(h2:P.underlying t2=some (.int k2)){ats:Array TypeId}(ln:ats[0]? = some t)(oU:ats[1]? = some t2){k:IntKind} :
 (Builtin.append_ ats ty #[.slice none 0 0,.int k 0]).run P w= .ok (.slice none 0 0) w:=by
 obtain⟨i,e1,e2,e3,z,e4,e5⟩:=r8.info;have hw:IntKind.i64.wrap 0=0:=by decide
 have ha:∀ w,(asInt (.int k 0)).run P w= .ok 0 w:=fun w=>by simp[asInt,asIntOf]
 simp[Builtin.append_,ln,oU,amM ht,amM h2,sizeOf,typeInfo,zeroValue,e1,e4,ha,hw]
theorem Ci{t t2 ty:TypeId}{e:TypeId}{te:TI}(ht:P.underlying t=some (.slice e))(r8:rH P e te){k2:IntKind}(h2:P.underlying t2=some (.int k2)){ats:Array TypeId}(ln:ats[0]? = some t)(oU:ats[1]? = some t2){k:IntKind}{n:Nat}(hn:0<n)(v8:0<te.bytes)(hb:n * te.bytes<=bQ) :
 ∃ zs:Array Value,zs.size=(grownCap w n 0 e) * te.ks.length/\(∀ j,j<n * te.ks.length->zs[j]? = (te.ks.map zV)[j % te.ks.length]?)/\(Builtin.append_ ats ty #[.slice none 0 0,.int k (n:Int)]).run P w= .ok (.slice (some ⟨w.heap.size,0,none⟩) n (grownCap w n 0 e)) (w.drew.alloc (.cells zs e (0,0))):=by
 obtain⟨i,e1,e2,e3,z,e4,e5⟩:=r8.info;have mR:z.cells.size=te.ks.length:=by rw[<- amT,e5];simp
 have Mh:=grownCap_ge w n 0 e;have Dq:n * te.bytes<=140737488355328:=hb;have hle:n<=n * te.bytes:=anP _ v8;have h63:¬ (9223372036854775807<(n:Int)):=by omega
 have OV:¬ (281474976710656<Builtin.nextslicecap n 0 * i.bytes):=by have:=growslice_fits (need:=n) (old:=0) (bytes:=i.bytes) hn (by rw[e3];exact Dq);omega
 have alB:IntKind.i64.min = -9223372036854775808:=by decide
 have alC:IntKind.i64.max=9223372036854775807:=by decide
 have hw:IntKind.i64.wrap (n:Int)=n:=Lk ⟨by rw[alB];omega,by rw[alC];omega⟩;have alD:¬ (281474976710656<(n:Int) * (i.bytes:Int)):=by rw[e3];have:((n * te.bytes:Nat):Int)<=((140737488355328:Nat):Int):=Int.ofNat_le.2 Dq;rw[Int.natCast_mul]at this;omega
 have ad4:¬ ((n:Int)<0):=by omega
 have hn0:¬ (n=0):=by omega
 have ha:∀ w,(asInt (.int k (n:Int))).run P w= .ok (n:Int) w:=fun w=>by simp[asInt,asIntOf]
 have hfo:∀ w,(Builtin.firstCells i.size 0 (.slice none 0 0)).run P w= .ok #[] w:=fun w=>by simp[Builtin.firstCells]
 refine⟨(if n * i.size=0 then #[]else Builtin.zeroCells z.cells n)++Builtin.zeroCells z.cells (grownCap w n 0 e-n),?_,?_,?_⟩
 . rw[aor,size_zeroCells,mR,e2];split
   . rename_i h0;rcases Nat.mul_eq_zero.1 h0 with h | h
     . omega
     . rw[h];simp
   . rw[size_zeroCells,mR,<- amV];congr 1;omega
 . intro j hj;have cY:¬ (n * i.size=0):=by rw[e2];omega
   rw[if_neg cY,ane (by rw[size_zeroCells,mR];exact hj)];exact B2 e5 n j hj
 . simp only[Builtin.append_,ln,oU,amU,amn,am7,amJ,amM ht,amu,dz r8,amM h2,amR,if_true,ha,hw,ad4,anz,typeInfo];simp[e1,alD,hw,ad4,hn0,h63,OV,Question.forced,hfo,newRow,grownCap,zeroValue,e4,ha,sizeOf,typeInfo];have ad2:∀ w,(Builtin.firstCells te.ks.length 0 (.slice none 0 0)).run P w= .ok #[] w:=fun w=>by simp[Builtin.firstCells]
   rw[ad2,<- e2];simp only[amu,Array.empty_append];by_cases h0:n * i.size=0
   . rw[if_pos h0,if_pos h0];simp
   . rw[if_neg h0,if_neg h0];rfl
theorem NU(hT:cH P E)(h:Rel cx Z g st a w)(hn:cJ st)(dh:Fit cx E a){o:Oper}{d:Nat}(hd:o.dst=some d)(cE:kR cx a d){c:Call}(ho:o.op= .call c)(fe:c.callee= .builtin .append){x y:Operand}(cF:c.args.toList=[x,y]){t t2:Nat}{ts:List Nat}(yN:c.argTypes.toList=t::t2::ts)
 {ti te:TI}(iy:E.ti t=some ti)(Fa:E.sl t=some te){tx ty:TV}(hx:st.get x=some tx)(hy:st.get y=some ty)(h2:E.i64 t2=true)(adZ:fX tx=true){k:IntKind}{n:Int}(hint:ty.int? = some (k,n)){ay:St}(au:(st.pK d ti.elem te n).run=some ay):qd P cx E ay a w o:=by
 have hc:=hn.cons.cons;obtain⟨gn,q1,q2,q3,q4⟩:=x9 hT Fa iy;have r8:=hT _ _ q4;obtain⟨tt,Kk,t1,_,_,_,hu⟩:=j5 hT Fa;rw[iy]at t1;simp only[amh]at t1;subst t1;have Ir:∃ k2,P.underlying t2=some (.int k2):=by
  unfold En.i64 at h2;split at h2
  . rename_i e0 by0 fl0 alE;obtain⟨dd,u1,u2⟩:=(hT t2 _ alE).desc;cases dd <;> simp[jE]at u2;exact⟨_,u1⟩
  . simp at h2
 obtain⟨k2,Ir⟩:=Ir;unfold St.pK at au;cases ko:st.free d&&Nat.blt 0 te.bytes with
 | false=>rw[ko]at au;simp[Tr.run]at au
 | true=>
   rw[ko]at au;simp only[oT]at au;simp only[ami]at ko;obtain⟨oV,v8⟩:=ko;have v8:0<te.bytes:=ann (amE v8);obtain⟨OW,au⟩:=Tr.bT au;simp only[Tr.run,amh]at au;subst au;simp only[ami,cl,anH]at OW;obtain⟨n0,n1⟩:=OW;obtain⟨m,rfl⟩:=Int.eq_ofNat_of_zero_le n0;have hmb:m * te.bytes<=bQ:=by
    have:((m * te.bytes:Nat):Int)<=(bQ:Int):=by rw[Int.natCast_mul];exact n1
    exact_mod_cast this
   have vU:cJ (st.ba d (.v (.ref d 0 0),some ⟨false,[⟨0,0,.own (.sl ti.elem te.ks) (List.replicate (m:Int).toNat (jv te.ks))⟩]⟩)):=fun t tv ht=>by
    rw[cC]at ht;split at ht
    . simp only[amh]at ht;subst ht;exact fun h=>h
    . exact hn t tv ht
   refine⟨vU,fun next Q hk=>?_⟩;have ex:a.eval x= .slice none 0 0:=xe (bg h hc hx) adZ;have ey:a.eval y= .int k (m:Int):=(gG (bg h hc hy) hint).1;have ln:c.argTypes[0]? = some t:=by rw[<- aml,yN];rfl
   have oU:c.argTypes[1]? = some t2:=by rw[<- aml,yN];rfl
   have iv:c.args = #[x,y]:=by rw[<- anh (xs:=c.args),cF]
   have fin:∀(v':Value) (w':World) (F':Nat->Prop),(Builtin.append_ c.argTypes o.type #[a.eval x,a.eval y]).run P w= .ok v' w'->Rel cx Z g st a w'->(∀ b,F' b->b<w'.heap.size/\(cx.F0 b∨cx.w0.heap.size<=b)/\¬ Z b/\(∀ r j,¬ g.fp r j b)/\(∀ r' R',look st.rt r'=some R'->R'.box=true->g.be r'≠b)) ->
    dG w' (.sl ti.elem te.ks) (List.replicate (m:Int).toNat (jv te.ks)) v' F'->o.wp P a w next Q:=by
    intro v' w' F' hr eQ Iq kn;have:(execOp a.eval o).run P w= .ok (.value v') w':=by simp only[execOp,ho,resolve,fe,iv,amJ,amR,amu,invoke,builtin,anZ,amS,aok,hr]
    unfold Oper.wp;rw[this,anl,hd];obtain⟨g3,hg⟩:=eQ.Lu cE oV Iq kn;exact hk Z g3 _ _ hg (dh.put _ _)
   rcases aob m with hm | hm
   . subst hm;refine fin (.slice none 0 0) w (fun _=>False) (by rw[ex,ey];exact Gn hu r8 Ir ln oU) h (fun b hb=>hb.elim) ?_;exact kP _ _
   . obtain⟨zs,z1,z2,z3⟩:=Ci (P:=P) (w:=w) (ty:=o.type) hu r8 Ir ln oU (k:=k) hm v8 hmb;have Mh:=grownCap_ge w m 0 ti.elem;have jn:(w.drew.alloc (.cells zs ti.elem (0,0))).heap=w.heap.push (.cells zs ti.elem (0,0)):=rfl;have jU:(w.drew.alloc (.cells zs ti.elem (0,0))).heap.size=w.heap.size+1:=by rw[jn,anN]
     have hold:∀ q,q<w.heap.size->(w.drew.alloc (.cells zs ti.elem (0,0))).heap[q]? = w.heap[q]? :=fun q hq=>by rw[jn,amW,if_neg (by omega)]
     have eQ:Rel cx Z g st a (w.drew.alloc (.cells zs ti.elem (0,0))):=h.wr (jB.none _ _ _ _ _) rfl rfl rfl (by rw[jU];omega) fun q hq _=>hold q hq
     refine fin _ _ (fun q=>q=w.heap.size) (by rw[ex,ey];exact z3) eQ (fun b hb=>?_) ?_
     . subst hb;refine⟨by rw[jU];omega,.inr h.size,fun hz=>by have:=(h.cq _ hz).1;omega,fun r j hh=>by have:=(h.fp r j _ hh).1;omega,fun r' R' lu cz he=>?_⟩;obtain⟨_,_,_,_,cs1,el1,fr1,b5,_⟩:=h.box r' R' lu cz;rw[he,amC (oR _)]at b5;simp at b5
     . have hlen:(aW (e:=ti.elem) (ks:=te.ks) (List.replicate (m:Int).toNat (jv te.ks))).length=m:=by simp[aW]
       have bo:m<=bQ:=amp (anP _ v8) hmb;refine⟨_,_,by rw[hlen],by rw[hlen];omega,by rw[hlen];exact bo,fun h=>by simp at h,fun a' rX=>?_⟩;simp only[amh]at rX;subst rX;refine⟨_,_,zs,ti.elem,(0,0),rfl,rfl,by rw[jn,amW,if_pos rfl],fun q _ hh=>by simp at hh,by rw[z1];omega,fun _ _ _=>False,fun _ _ _ h=>h.elim,fun _ _ _ _ _ h=>h.elim,fun i y hi=>?_⟩;have Dp:i<m:=by
        rcases amz i m with hh | hh
        . exact hh
        . rw[amA (by rw[hlen];exact hh)]at hi;simp at hi
       have hy:y=jv te.ks:=by
        have:(List.replicate (m:Int).toNat (jv te.ks))[i]? = some y:=hi;rw[aoS]at this;split at this
        . simp only[amh]at this;exact this.symm
        . simp at this
       subst hy;refine ri te.ks 0 zs _ fun c v hc=>?_
       have xx:c<te.ks.length:=by
        rcases amz c te.ks.length with hh | hh
        . exact hh
        . rw[amA (by simpa using hh)]at hc;simp at hc
       have vV:i * te.ks.length+c<m * te.ks.length:=by have:(i+1) * te.ks.length<=m * te.ks.length:=amL _ (by omega);rw[amV]at this;omega
       rw[amt,z2 _ vV,aoN,Nat.mul_add_mod,aoE xx];exact hc
end
def SK(Z:Nat->Prop)(w:World):(ks:List K)->Tl ks->(Nat->Option Value)->Nat->Prop
 | [],_,_,_=>True
 | k::ks,x,f,o=>(∃ v,f o=some v/\RO Z w k x.1 v)/\SK Z w ks x.2 f (o+1)
theorem rR.n{Z:Nat->Prop}{w:World}{b:Nat}:∀ {ks:List K} {x:Tl ks} {o:Nat},rR Z w ks x b o->SK Z w ks x (fun q=>w.cell? ⟨b,q,none⟩) o
 | [],_,_,_=>trivial
 | k::ks,x,o,h=>⟨h.1,rR.n h.2⟩
theorem tT.n{Z:Nat->Prop}{w:World}{l:List Value}:∀ {ks:List K} {x:Tl ks} {vs:List Value} {o:Nat},tT Z w ks x vs->(∀ q,q<ks.length->l[o+q]? = vs[q]?)->SK Z w ks x (fun q=>l[q]?) o
 | [],_,_,_,_,_=>trivial
 | k::ks,x,v::vs,o,h,hl=>⟨⟨v,by simpa using hl 0 (by simp),h.1⟩,tT.n h.2 fun q hq=>by rw[show o+1+q=o+(q+1)by omega];simpa using hl (q+1) (by simp;omega)⟩
 | _::_,_,[],_,h,_=>h.elim
theorem SJ{Z:Nat->Prop}{w:World}:∀ {ks:List K} {x:Tl ks} {vs:List Value},tT Z w ks x vs->vs.length=ks.length
 | [],_,[],_=>rfl
 | _::_,_,_::_,h=>amP (· + 1) (SJ h.2)
 | [],_,_::_,h=>h.elim
 | _::_,_,[],h=>h.elim
theorem QT{Z:Nat->Prop}{w:World}:∀ {ks:List K} {x:Tl ks} {vs:List Value},tT Z w ks x vs->∀ u∈vs,u.oneCell'=true
 | [],_,[],_,u,hu=>by simp at hu
 | _::_,_,v::vs,h,u,hu=>by
   rcases ams.1 hu with hu | hu
   . subst hu;exact(qk h.1).2
   . exact QT h.2 u hu
 | [],_,_::_,h,_,_=>h.elim
 | _::_,_,[],h,_,_=>h.elim
theorem SK.l{Z Z':Nat->Prop}{w w':World}(hs:w.heap.size<=w'.heap.size)(hZ:∀ b,Z b->b<w.heap.size->Z' b/\w'.heap[b]? = w.heap[b]?){f:Nat->Option Value}{b:Nat}:∀ {ks:List K} {x:Tl ks} {o o':Nat},SK Z w ks x f o->(∀ q,q<ks.length->w'.cell? ⟨b,o'+q,none⟩=f (o+q))->rR Z' w' ks x b o'
 | [],_,_,_,_,_=>trivial
 | k::ks,x,o,o',⟨⟨v,h1,h2⟩,h3⟩,hc=>⟨⟨v,by rw[<- h1];exact hc 0 (by simp),RO.mono hs hZ k _ v h2⟩,SK.l hs hZ h3 fun q hq=>by rw[show o'+1+q=o'+(q+1)by omega,show o+1+q=o+(q+1)by omega];exact hc (q+1) (by simp;omega)⟩
section
variable{P:Program}{cx:Cx P}{Z:Nat->Prop}{g:Gh}{st:St}{a:Act}{w:World}{E:En}
theorem dG.sh{w:World}{e:TypeId}{ks:List K}{xs:T (.sl e ks)}{v:Value}{F:Nat->Prop}(h:dG w (.sl e ks) xs v F):Sh Z F w ks (aW xs) v:=by obtain⟨a,c,h1,h2,h3,h4,h5⟩:=h;refine⟨a,c,h1,h2,h3,h4,fun a' ha=>?_⟩;obtain⟨b,o,cs,e,fr,g1,g2,g3,g4,g5,G,g6,g7,g8⟩:=h5 a' ha;exact⟨b,o,cs,e,fr,g1,g2,g3,g4,g5,fun i x hx=>gx.ro ks x 0 (G i) cs _ b e fr g3 (fun j b' cz=> .inr (g6 i j b' cz)) (g8 i x hx)⟩
theorem M6(h:Rel cx Z g st a w){e:TypeId}{ks:List K}{tv:TV}{v:Value}(hr:bW Z g st w tv v){ay:St}{x:T (.sl e ks)}(ht:st.Ht e ks tv=some (ay,x)) :
 ∃ g' F,Rel cx Z g' ay a w/\lN Z w w g g' st ay/\Sh Z F w ks (aW x) v/\jB cx Z g' ay w F:=by
 unfold St.Ht at ht;split at ht
 . rename_i r j s m e' bZ x';split at ht
   . rename_i c hc;cases hb:Nat.beq c.s s&&Nat.beq c.m m with
     | false=>rw[hb]at ht;simp at ht
     | true=>
       rw[hb]at ht;simp only[oT]at ht;simp only[ami]at hb;split at ht
       . rename_i y hy;cases ht;obtain⟨e1,hy⟩:=cN hy;cases e1;subst hy;obtain⟨c',h1,_,_,h4⟩:=hr;rw[hc]at h1;cases h1;obtain⟨k1,k2,k3⟩:=h.kill hc;exact⟨_,_,k1,k2,h4 (beq_eq hb.1) (beq_eq hb.2),k3⟩
       . simp at ht
   . simp at ht
 . obtain⟨g1,F,k1,k2,k3,k4,_⟩:=hO h hr ht;exact⟨g1,F,k1,k2,k3.sh,k4⟩
 . simp at ht
structure Yz (P:Program) (Z:Nat->Prop) (w:World) (ks:List K) (ys:List (Tl ks)) (v:Value) (news:List Value):Prop where
 len:news.length=ys.length * ks.length
 one:∀ u∈news,u.oneCell'=true
 row:∀ i y,ys[i]? = some y->SK Z w ks y (fun q=>news[q]?) (i * ks.length)
 lenOf:(Builtin.lenOf v).run P w= .ok ys.length w
 cells:∀ w1:World,w1.heap=w.heap->(Builtin.firstCells ks.length ys.length v).run P w1= .ok news.toArray w1
theorem Ny(h:Rel cx Z g st a w){e:TypeId}{ks:List K}{tv:TV}{v:Value}(hr:bW Z g st w tv v){ys:List (Tl ks)}(hn:st.F3 e ks tv=some ys):∃ news,Yz P Z w ks ys v news:=by
 unfold St.F3 at hn;split at hn
 . rename_i r n;cases hb:Nat.beq n 1 with
   | false=>rw[hb]at hn;simp at hn
   | true=>
     rw[hb]at hn;simp only[oT]at hn;have:=beq_eq hb;subst this;split at hn
     . rename_i l hl;cases hf:l.all oZ with
       | false=>rw[hf]at hn;simp at hn
       | true=>
         rw[hf]at hn;simp only[oT]at hn;split at hn
         . rename_i x hx;cases hn;obtain⟨R,_,_,hv⟩:=(hr:bC Z g st w (.qO r 1) v);obtain⟨b1,b2,b3,b4,cs,el,fr,b5,b6,b7,b8⟩:=h.box r _ hl rfl;have eQ:a8 Z g st w (l.map wT) cs.toList:=by
            refine lW (by simp[b7]) fun j y u hj hu=>?_
            rw[amX]at hj;cases hc:l[j]? with
            | none=>rw[hc]at hj;simp at hj
            | some c=>
              rw[hc]at hj;simp only[amI,amh]at hj;have bD:st.cell r j=some c:=by simp only[St.cell,hl];exact hc
              have nQ:j<cs.size:=by rw[b7];exact yz bD hl
              rw[aml,b8 j nQ]at hu;simp only[amh]at hu;subst hj;subst hu;unfold wT;cases Pc:c.v with
              | own k y=>trivial
              | av y=>exact yC h bD Pc
           have ahV:(l.map wT).all AV.bV=true:=by
            rw[amB]at hf ⊢;intro x hx;obtain⟨c,hc,rfl⟩:=an9.1 hx;have:=hf c hc;unfold oZ at this;unfold wT;split at this
            . exact this
            . simp at this
           have ur:=dH h ks _ _ x eQ ahV hx;have hlen:=SJ ur;refine⟨cs.toList,by simpa using hlen,QT ur,fun i y hi=>?_,by rw[hv];rfl,fun w1 Cm=>?_⟩
           . cases i with
             | zero=>simp only[amn,amh]at hi;subst hi;exact ur.n fun q _=>by simp
             | succ i=>simp at hi
           . rw[hv];refine run_firstCells_some (P:=P) w1 _ _ ⟨g.be r,0,none⟩ _ _ _ (by simpa using hlen) fun j u hj=>?_
             rw[gO,amt];simp only[World.cell?,Cm,b5];rw[aml]at hj;exact hj
         . simp at hn
     . simp at hn
 . rename_i k x;split at hn
   . rename_i z hz;cases hn;obtain⟨e1,hz⟩:=cN hz;subst e1;subst hz;obtain⟨aa,c,rfl,h2,h3,h4,h5⟩:=(hr:RO Z w (.sl e ks) x v);by_cases cY:aW x=[]
     . refine⟨[],by rw[cY];simp,by simp,fun i y hi=>by rw[cY]at hi;simp at hi,rfl,fun w1 _=>?_⟩;rw[cY];cases aa with
       | none=>exact run_firstCells_none (P:=P) w1 _ _ _ _
       | some b=>exact run_firstCells_some (P:=P) w1 _ _ b _ _ [] (by simp) (fun j v hj=>by simp at hj)
     . obtain⟨b,o,rfl,_,_,vS⟩:=h5 cY;have bD:∀ q,q<(aW x).length * ks.length->∃ v,w.cell? ⟨b,o+q,none⟩=some v/\v.oneCell'=true:=fun q hq=>by
        obtain⟨q1,q2,q3⟩:=rr hq;obtain⟨v,k1,k2⟩:=EE ks _ b _ (q % ks.length) (vS _ _ (amm q1)) q2;exact⟨v,by rw[q3,<- anm];exact k1,k2⟩
       have B0:∀ q,q<(aW x).length * ks.length->((List.range ((aW x).length * ks.length)).map fun q=>(w.cell? ⟨b,o+q,none⟩).getD undef)[q]? = w.cell? ⟨b,o+q,none⟩:=fun q hq=>by obtain⟨v,k1,_⟩:=bD q hq;simp[hq,k1]
       refine⟨(List.range ((aW x).length * ks.length)).map fun q=>(w.cell? ⟨b,o+q,none⟩).getD undef,by simp,fun u hu=>?_,fun i y hi=>?_,rfl,fun w1 Cm=>?_⟩
       . obtain⟨q,hq,rfl⟩:=an9.1 hu;obtain⟨v,k1,k2⟩:=bD q (anu.1 hq);rw[k1];exact k2
       . have Dp:i<(aW x).length:=(amQ.1 hi).1;have:=(vS i y hi).n;have mv:∀(bZ:List K) (y:Tl bZ) (o1 o2:Nat) (f f':Nat->Option Value),(∀ q,q<bZ.length->f' (o2+q)=f (o1+q))->SK Z w bZ y f o1->SK Z w bZ y f' o2:=by
          intro bZ;induction bZ with
          | nil=>intros;trivial
          | cons k bZ ih=>intro y o1 o2 f f' hf ⟨⟨v,h1,h2⟩,h3⟩;exact⟨⟨v,by rw[<- h1];exact hf 0 (by simp),h2⟩,ih _ _ _ _ _ (fun q hq=>by rw[show o2+1+q=o2+(q+1)by omega,show o1+1+q=o1+(q+1)by omega];exact hf (q+1) (by simp;omega)) h3⟩
         refine mv ks y _ _ _ _ (fun q hq=>?_) this;rw[B0 _ (nK Dp hq),anm]
       . refine run_firstCells_some (P:=P) w1 _ _ ⟨b,o,none⟩ _ _ _ (by simp) fun j v hj=>?_
         have nQ:j<(aW x).length * ks.length:=by have:=(amQ.1 hj).1;simpa using this
         rw[B0 j nQ]at hj;rw[gO];simp only[World.cell?,Cm]at hj ⊢;exact hj
   . simp at hn
 . simp at hn
theorem RF{ks:List K}{xs ys:List (Tl ks)}{b0 o b o':Nat}{F F':Nat->Prop}{w w':World}{news:List Value}{v:Value}{fT:Array Value}{el:TypeId}{fr:Nat×Nat}{cap:Nat}
 (hx:∀ i x,xs[i]? = some x->rR (fun q=>Z q∨F q/\q≠b0) w ks x b0 (o+i * ks.length))(hn:Yz P Z w ks ys v news)(hb:w'.heap[b]? = some (.cells fT el fr))(yP:∀ q,q<fT.size+YK ks->¬ (fr.1<=q/\q<fr.2))(hF'b:F' b)(hs:w.heap.size<=w'.heap.size)
 (hZ:∀ q,Z q->q<w.heap.size->w'.heap[q]? = w.heap[q]?)(hF:∀ q,F q->q≠b0->q<w.heap.size->F' q/\q≠b/\w'.heap[q]? = w.heap[q]?)
 (hold:∀ q,q<xs.length * ks.length->fT[o'+q]? = w.cell? ⟨b0,o+q,none⟩)(nM:∀ q,q<news.length->fT[o'+xs.length * ks.length+q]? = news[q]?)(vR:xs.length+ys.length<=cap)(dh:o'+cap * ks.length<=fT.size)(bo:xs.length+ys.length<=bQ) :
 Sh Z F' w' ks (xs++ys) (.slice (some ⟨b,o',none⟩) (xs.length+ys.length) cap):=by
 refine⟨_,cap,by rw[amj],by rw[amj];exact vR,by rw[amj];exact bo,by simp,fun a' rX=>?_⟩;simp only[amh]at rX;subst rX;refine⟨b,o',fT,el,fr,rfl,hF'b,hb,yP,dh,fun i x hi=>?_⟩;have bD:∀ q,w'.cell? ⟨b,q,none⟩=fT[q]? :=fun q=>by simp[World.cell?,hb]
 by_cases hl:i<xs.length
 . rw[am0 hl]at hi;refine SK.l hs (fun q hq aV=>?_) (hx i x hi).n fun q hq=>?_
   . rcases hq with hq | hq
     . exact⟨.inl hq,hZ q hq aV⟩
     . obtain⟨f1,f2,f3⟩:=hF q hq.1 hq.2 aV;exact⟨.inr ⟨f1,f2⟩,f3⟩
   . have:=hold (i * ks.length+q) (nK hl hq);show _=w.cell? ⟨b0,o+i * ks.length+q,none⟩;rw[bD,anm,this,anm]
 . rw[amY (by omega)]at hi;have aV:i-xs.length<ys.length:=(amQ.1 hi).1;refine SK.l hs (fun q hq aV=>⟨.inl hq,hZ q hq aV⟩) (hn.row _ x hi) fun q hq=>?_
   have wb:(i-xs.length) * ks.length+q<news.length:=by rw[hn.len];exact nK aV hq
   have:=nM _ wb;have hmul:i * ks.length=xs.length * ks.length+(i-xs.length) * ks.length:=by rw[<- amV];congr 1;omega
   rw[bD,show o'+i * ks.length+q=o'+xs.length * ks.length+((i-xs.length) * ks.length+q)by omega,this]
theorem Rel.adf(h:Rel cx Z g st a w){d:Nat}(hd:kR cx a d)(hf:st.free d=true){e:TypeId}{ks:List K}{x:List (Tl ks)}{v:Value}{F:Nat->Prop}(hF:∀ b,F b->b<w.heap.size/\(cx.F0 b∨cx.w0.heap.size<=b)/\¬ Z b/\(∀ r j,¬ g.fp r j b)/\(∀ r' R',look st.rt r'=some R'->R'.box=true->g.be r'≠b))(ho:Sh Z F w ks x v) :
 ∃ g',Rel cx Z g' (st.ba d (.bc d 0 0 0 e ks x,some ⟨false,[⟨0,0,.own (.sl e ks) ([]:List (Tl ks))⟩]⟩)) (a.put (some d) v) w:=by
 have h6:=Rel.nr h (r:=d) (be:=0) (R:=⟨false,[⟨0,0,.own (.sl e ks) ([]:List (Tl ks))⟩]⟩) (cv:=fun _=> .slice none 0 0) (fp:=fun j b=>j=0/\F b) (kB hf)
  (fun j b hb=>⟨(hF b hb.2).1,(hF b hb.2).2.1,(hF b hb.2).2.2.1,(hF b hb.2).2.2.2.1,(hF b hb.2).2.2.2.2,⟨0,0,.own (.sl e ks) ([]:List (Tl ks))⟩,.sl e ks,([]:List (Tl ks)),by rw[hb.1];rfl,rfl⟩)
  (fun j j' b h1 h2=>h1.1.trans h2.1.symm) (fun hb=>by simp at hb)
  (fun j c hj=>by
    cases j with
    | zero=>simp only[amn,amh]at hj;subst hj;exact kP e ks
    | succ j=>simp at hj)
 refine⟨_,h6.nS hd (tv:= .bc d 0 0 0 e ks x) ⟨⟨0,0,.own (.sl e ks) ([]:List (Tl ks))⟩,?_,oR _,oR _,fun _ _=>Sh.mono (oR _) (fun b hb _=>⟨hb,rfl⟩) (fun b hb _=>⟨by simp[Gh.at];exact hb,rfl⟩) ho⟩⟩;show(match look ((d,(⟨false,[⟨0,0,.own (.sl e ks) ([]:List (Tl ks))⟩]⟩:Rt))::st.rt) d with | some R=>R.cells[0]? | none=>none)=_;rw[aN,if_pos rfl];rfl
theorem Nr(hT:cH P E)(h:Rel cx Z g st a w)(hn:cJ st)(dh:Fit cx E a){o:Oper}{d:Nat}(hd:o.dst=some d)(cE:kR cx a d){c:Call}(ho:o.op= .call c)(fe:c.callee= .builtin .append){x y:Operand}(cF:c.args.toList=[x,y]){t t2:Nat}{ts:List Nat}(yN:c.argTypes.toList=t::t2::ts)
 {ti te:TI}(iy:E.ti t=some ti)(Fa:E.sl t=some te){tx ty:TV}(hx:st.get x=some tx)(hy:st.get y=some ty)(h2:E.str t2=true∨∃ Yn,E.sl t2=some Yn){ay:St}(au:(st.oX d ti.elem te tx ty).run=some ay):qd P cx E ay a w o:=by
 have hc:=hn.cons.cons;obtain⟨gn,q1,q2,q3,q4⟩:=x9 hT Fa iy;have r8:=hT _ _ q4;obtain⟨tt,Kk,t1,_,_,_,hu⟩:=j5 hT Fa;rw[iy]at t1;simp only[amh]at t1;subst t1;obtain⟨d2,Ir,hd2⟩:∃ d2,P.underlying t2=some d2/\∀ k,d2≠ .int k:=by
  rcases h2 with h2 | ⟨Yn,h2⟩
  . exact⟨_,ql hT h2,fun _ h=>by simp at h⟩
  . obtain⟨_,_,_,_,_,_,Ir⟩:=j5 hT h2;exact⟨_,Ir,fun _ h=>by simp at h⟩
 unfold St.oX at au;obtain⟨⟨ca,xs⟩,Du,au⟩:=Tr.ai au;obtain⟨ys,hnw,au⟩:=Tr.ai au;simp only at hnw au;cases ko:ca.free d&&Nat.blt 0 te.bytes with
 | false=>rw[ko]at au;simp[Tr.run]at au
 | true=>
   rw[ko]at au;simp only[oT]at au;simp only[ami]at ko;obtain⟨oV,v8⟩:=ko;have v8:0<te.bytes:=ann (amE v8);obtain⟨OW,au⟩:=Tr.bT au;simp only[Tr.run,amh]at au;subst au;have BR:((aW xs).length+ys.length) * te.bytes<=bQ:=amE OW;have bo:(aW xs).length+ys.length<=bQ:=amp (anP _ v8) BR;obtain⟨g1,F,k1,k2,k3,k4⟩:=M6 h (bg h hc hx) Du;obtain⟨news,m2⟩:=Ny (P:=P) k1 (bW.cI k2.cI _ _ (bg h hc hy)) hnw;refine⟨fun t tv ht=>?_,fun next Q hk=>?_⟩
   . rw[cC]at ht;split at ht
     . simp only[amh]at ht;subst ht;exact fun h=>h
     . exact hn t tv (by rw[<- k2.tm];exact ht)
   have fin:∀(v':Value) (w':World) (F':Nat->Prop),(Builtin.append_ c.argTypes o.type #[a.eval x,a.eval y]).run P w= .ok v' w'->Rel cx Z g1 ca a w'->(∀ b,F' b->b<w'.heap.size/\(cx.F0 b∨cx.w0.heap.size<=b)/\¬ Z b/\(∀ r j,¬ g1.fp r j b)/\(∀ r' R',look ca.rt r'=some R'->R'.box=true->g1.be r'≠b)) ->
    Sh Z F' w' te.ks (aW xs++ys) v'->o.wp P a w next Q:=by
    intro v' w' F' hr eQ Iq kn;have iv:c.args = #[x,y]:=by rw[<- anh (xs:=c.args),cF]
    have:(execOp a.eval o).run P w= .ok (.value v') w':=by simp only[execOp,ho,resolve,fe,iv,amJ,amR,amu,invoke,builtin,anZ,amS,aok,hr]
    unfold Oper.wp;rw[this,anl,hd];obtain⟨g3,hg⟩:=eQ.adf (e:=ti.elem) cE oV Iq kn;exact hk Z g3 _ _ hg (dh.put _ _)
   have ln:c.argTypes[0]? = some t:=by rw[<- aml,yN];rfl
   have oU:c.argTypes[1]? = some t2:=by rw[<- aml,yN];rfl
   have hFs:∀(w':World),w.heap.size<=w'.heap.size->∀ b,F b->b<w'.heap.size/\(cx.F0 b∨cx.w0.heap.size<=b)/\¬ Z b/\(∀ r j,¬ g1.fp r j b)/\(∀ r' R',look ca.rt r'=some R'->R'.box=true->g1.be r'≠b):=fun w' hs b hb=>
    ⟨amG (k4.lt b hb) hs,k4.own b hb,k4.z b hb,k4.fp b hb,k4.box b hb⟩
   obtain⟨base,cap,ev,c1,c2,c3,c4⟩:=k3;have B0:=m2.len;by_cases iV:(aW xs).length+ys.length<=cap
   . cases base with
     | none=>
       have vR:=c3 rfl;have Dv:aW xs=[]:=am2.1 (by omega);have hy0:ys=[]:=am2.1 (by omega);have e1:a.eval x= .slice none 0 0:=by rw[ev,Dv,vR];rfl
       refine fin (.slice none 0 0) w (fun _=>False) ?_ k1 (fun b hb=>hb.elim) ?_
       . rw[e1];refine append_nil (news:=news) hu r8 Ir hd2 ln oU ?_ ?_
         . have:=m2.lenOf;rw[hy0]at this;exact this
         . have:=m2.cells w rfl;rw[hy0]at this;exact this
       . rw[Dv,hy0];exact(kP ti.elem te.ks).sh
     | some aa=>
       obtain⟨b,of,cs,el,fr,rfl,n2,n3,n4,n5,n6⟩:=c4 _ rfl;obtain⟨s1,s2,s3,s4,s5,s6⟩:=eI b news (of+(aW xs).length * te.ks.length) w cs el fr n3;have vQ:of+(aW xs).length * te.ks.length+news.length<=cs.size:=by have:=amL te.ks.length iV;rw[amV]at this;omega
       refine fin (.slice (some ⟨b,of,none⟩) ((aW xs).length+ys.length) cap) (w.setCells b (of+(aW xs).length * te.ks.length) news) F ?_ (k1.wr k4 s4 s5 s6 (by rw[s3];exact oR _) fun q _ hq=>s2 q fun e=>hq (by rw[e];exact n2)) (hFs _ (by rw[s3];exact oR _)) ?_
       . rw[ev];exact qI hu r8 Ir hd2 ln oU m2.lenOf (m2.cells w rfl) iV m2.one fun j hj=>⟨cs,el,fr,n3,by omega,n4 _ (by omega)⟩
       . refine RF (b0:=b) (F:=F) n6 m2 s1 (fun q hq=>n4 q (by rw[cX]at hq;exact hq)) n2 (by rw[s3];exact oR _) (fun q hq _=>s2 q fun e=>k4.z b n2 (by rw[<- e];exact hq)) (fun q hq cY _=>⟨hq,cY,s2 q cY⟩) (fun q hq=>?_) (fun q hq=>?_) iV (by rw[cX];exact n5) bo
         . rw[du _ _ _ _ vQ,if_neg (by omega)];exact(show w.cell? ⟨b,of+q,none⟩=cs[of+q]? by simp[World.cell?,n3]).symm
         . rw[du _ _ _ _ vQ,if_pos (by omega)];congr 1;omega
   . have Us:cap<(aW xs).length+ys.length:=by omega
     have Mh:=grownCap_ge w ((aW xs).length+ys.length) cap ti.elem;have Ut:∀ q,F q->q≠w.heap.size:=fun q hq e=>by have:=(hFs w (oR _) q hq).1;omega
     have iU:∃(iU:List Value) (b0 of:Nat),(Builtin.firstCells te.ks.length (aW xs).length (.slice base (aW xs).length cap)).run P w.drew= .ok iU.toArray w.drew/\iU.length=(aW xs).length * te.ks.length/\(∀ q,q<(aW xs).length * te.ks.length->iU[q]? = w.cell? ⟨b0,of+q,none⟩) /\
      (∀ i x,(aW xs)[i]? = some x->rR (fun q=>Z q∨F q/\q≠b0) w te.ks x b0 (of+i * te.ks.length)):=by
      cases base with
      | none=>have vR:=c3 rfl;have Dv:aW xs=[]:=am2.1 (by omega);exact⟨[],0,0,run_firstCells_none (P:=P) w.drew _ _ _ _,by rw[Dv];simp,fun q hq=>by rw[Dv]at hq;simp at hq,fun i x hi=>by rw[Dv]at hi;simp at hi⟩
      | some aa=>
        obtain⟨b,of,cs,el,fr,rfl,n2,n3,n4,n5,n6⟩:=c4 _ rfl;have hbound:∀ q,q<(aW xs).length * te.ks.length->of+q<cs.size:=fun q hq=>by have:=amL te.ks.length c1;omega
        have xx:∀ q,w.cell? ⟨b,q,none⟩=cs[q]? :=fun q=>by simp[World.cell?,n3]
        have Uu:∀ q,q<(aW xs).length * te.ks.length->((List.range ((aW xs).length * te.ks.length)).map fun q=>cs.getD (of+q) undef)[q]? = cs[of+q]? :=fun q hq=>by have:=hbound q hq;simp[hq,this]
        refine⟨(List.range ((aW xs).length * te.ks.length)).map fun q=>cs.getD (of+q) undef,b,of,?_,by simp,fun q hq=>by rw[xx];exact Uu q hq,n6⟩;refine run_firstCells_some (P:=P) w.drew _ _ ⟨b,of,none⟩ _ _ _ (by simp) fun j v hj=>?_
        have nQ:j<(aW xs).length * te.ks.length:=by have:=(amQ.1 hj).1;simpa using this
        rw[Uu j nQ]at hj;rw[gO];exact(xx _).trans hj
     obtain⟨iU,b0,of,r1,r2,r3,r4⟩:=iU;obtain⟨zs,z1,z2⟩:=pB (ty:=o.type) (vx:=a.eval y) hu r8 Ir hd2 ln oU m2.lenOf r1 (m2.cells w.drew rfl) Us v8 BR;have jn:(w.drew.alloc (.cells (iU.toArray++news.toArray++zs) ti.elem (0,0))).heap=w.heap.push (.cells (iU.toArray++news.toArray++zs) ti.elem (0,0)):=rfl;have jU:(w.drew.alloc (.cells (iU.toArray++news.toArray++zs) ti.elem (0,0))).heap.size=w.heap.size+1:=by rw[jn,anN]
     have hold:∀ q,q<w.heap.size->(w.drew.alloc (.cells (iU.toArray++news.toArray++zs) ti.elem (0,0))).heap[q]? = w.heap[q]? :=fun q hq=>by rw[jn,amW,if_neg (by omega)]
     refine fin (.slice (some ⟨w.heap.size,0,none⟩) ((aW xs).length+ys.length) (grownCap w ((aW xs).length+ys.length) cap ti.elem)) (w.drew.alloc (.cells (iU.toArray++news.toArray++zs) ti.elem (0,0))) (fun q=>F q∨q=w.heap.size) (by rw[ev];exact z2) (k1.wr k4 rfl rfl rfl (by rw[jU];omega) fun q hq _=>hold q hq) (fun b hb=>?_) ?_
     . rcases hb with hb | rfl
       . exact hFs _ (by rw[jU];omega) b hb
       . refine⟨by rw[jU];omega,.inr k1.size,fun hz=>by have:=(k1.cq _ hz).1;omega,fun r j hh=>by have:=(k1.fp r j _ hh).1;omega,fun r' R' lu cz he=>?_⟩;obtain⟨_,_,_,_,cs1,el1,fr1,b5,_⟩:=k1.box r' R' lu cz;rw[he,amC (oR _)]at b5;simp at b5
     . refine RF (b0:=b0) (F:=F) r4 m2 (el:=ti.elem) (fr:=(0,0)) (fT:=iU.toArray++news.toArray++zs) (by rw[jn,amW,if_pos rfl]) (by simp) (.inr rfl) (by rw[jU];omega) (fun q hq aV=>hold q aV) (fun q hq _ aV=>⟨.inl hq,Ut q hq,hold q aV⟩) (fun q hq=>?_) (fun q hq=>?_) Mh ?_ bo
       . rw[<- r3 q hq,amt,an0,ane (by simp;omega)];simp
       . rw[amt,an0,aoD (by simp;omega),ane (by simp;omega)];simp only[apf,r2,am6,amU]
       . have e1:(iU.toArray++news.toArray++zs).size=iU.length+news.length+zs.size:=by simp
         rw[e1,r2,B0,z1,amt,<- amV,<- amV];exact amL _ (by omega)
end
abbrev Xk:=Nat->Nat->Option (RC×(Nat->Prop))
def Gh.vz(g:Gh)(L:Xk):Gh:=⟨g.be,g.cv,fun r j b=>match L r j with | some p=>p.2 b | none=>g.fp r j b⟩
structure Rb (st ay:St) (L:Xk):Prop where
 tm:ay.tm=st.tm
 shape:∀ r,shape ay r=shape st r
 cell:∀ r j,ay.cell r j=match L r j with | some p=>(st.cell r j).map (fun _=>p.1) | none=>st.cell r j
 rt:∀ r,(∀ j,L r j=none)->look ay.rt r=look st.rt r
section
variable{P:Program}{cx:Cx P}{Z:Nat->Prop}{g:Gh}{st ay:St}{a:Act}{w w':World}{E:En}{L:Xk}
theorem vC{st ay:St}{r:Nat}{R':Rt}(hs:shape ay r=shape st r)(h:look ay.rt r=some R'):∃ R,look st.rt r=some R/\R'.box=R.box/\R'.cells.length=R.cells.length:=by
 have h1:shape st r=some (R'.box,R'.cells.length):=by rw[<- hs];simp[shape,h]
 obtain⟨R,k1,k2,k3⟩:=tU h1;exact⟨R,k1,k2.symm,k3.symm⟩
theorem Rel.vz(h:Rel cx Z g st a w)(hl:Rb st ay L)(h1:w'.os=w.os)(h2:w'.tape=w.tape)(h3:w'.output=w.output)(dh:w.heap.size<=w'.heap.size)
 (hL:∀ r j p,L r j=some p->∃ c,st.cell r j=some c/\p.1.s=c.s/\c.m<p.1.m/\∃ e ks xs rW,c.v= .own (.sl e ks) xs/\p.1.v= .own (.sl e ks) rW/\(aW rW).length=(aW xs).length/\dG w' (.sl e ks) rW (g.cv r j) p.2)
 (hF:∀ r j p,L r j=some p->∀ b,p.2 b->b<w'.heap.size/\((∃ r0 j0 p0,L r0 j0=some p0/\g.fp r0 j0 b)∨w.heap.size<=b)/\¬ Z b)
 (hd:∀ r j p r' j' p' b,L r j=some p->L r' j'=some p'->p.2 b->p'.2 b->r=r'/\j=j')
 (lE:∀ b,b<w.heap.size->(∀ r j p,L r j=some p->¬ g.fp r j b)->w'.heap[b]? = w.heap[b]?) :
 Rel cx Z (g.vz L) ay a w'/\lN Z w w' g (g.vz L) st ay:=by
 have H6:∀ r j b,L r j=none->g.fp r j b->w'.heap[b]? = w.heap[b]? :=fun r j b hn hb=>lE b (h.fp r j b hb).1 fun r0 j0 p0 BZ hh=>by obtain⟨e1,e2⟩:=h.cS _ _ _ _ _ hb hh;subst e1;subst e2;rw[hn]at BZ;simp at BZ
 have hz:∀ b,Z b->b<w.heap.size->w'.heap[b]? = w.heap[b]? :=fun b hb aV=>lE b aV fun r j p hp hh=>(h.fp r j b hh).2.2.1 hb
 have qQ:∀ r j b,(g.vz L).fp r j b->(∃ p,L r j=some p/\p.2 b)∨(L r j=none/\g.fp r j b):=fun r j b hb=>by
  simp only[Gh.vz]at hb;cases hp:L r j with
  | none=>rw[hp]at hb;exact .inr ⟨rfl,hb⟩
  | some p=>rw[hp]at hb;exact .inl ⟨p,rfl,hb⟩
 have k:nW Z Z w w' g (g.vz L) st ay:=by
  refine { size:=dh,z:=fun b hb aV=>⟨hb,hz b hb aV⟩,root:=fun r R hR=>?_,cell:=fun r j c hc=>?_,own:=fun r j b hb=>(h.fp r j b hb).1,block:=(fY h (ay:=st) (w':=w) rfl rfl).block }
  . obtain⟨R',e1,e2,_⟩:=vC (st:=ay) (ay:=st) (hl.shape r).symm hR;exact⟨R',e1,e2.symm,fun _=>rfl⟩
  . rw[hl.cell];cases hp:L r j with
    | none=>exact⟨c,hc,oR _,oR _,fun _=>rfl,fun _ e ks xs hh=>⟨xs,hh,rfl⟩,fun _ _=>⟨rfl,fun b hb _=>⟨by simp only[Gh.vz,hp];exact hb,H6 r j b hp hb⟩⟩⟩
    | some p=>obtain⟨c0,f1,f2,f3,e,ks,xs,rW,f4,f5,f6,f7⟩:=hL r j p hp;rw[hc]at f1;simp only[amh]at f1;subst f1;rw[hc];refine⟨p.1,rfl,by omega,by omega,fun _=>rfl,fun _ e' bZ xs0 hh=>?_,fun _ e=>absurd e (by omega)⟩;rw[f4]at hh;simp only[RV.own.injEq,K.sl.injEq]at hh;obtain⟨⟨rfl,rfl⟩,hh⟩:=hh;have hh:=aox hh;subst hh;exact⟨rW,f5,f6⟩
 have hbn:∀ r R,look st.rt r=some R->R.box=true->∀ r' j',¬ (g.vz L).fp r' j' (g.be r):=fun r R hR hb r' j' hh=>by
  obtain⟨_,_,b3,_,cs,el,fr,b5,_⟩:=h.box r R hR hb;have aV:g.be r<w.heap.size:=by
   rcases amz (g.be r) w.heap.size with hh | hh
   . exact hh
   . simp[amC hh]at b5
  rcases qQ _ _ _ hh with ⟨p,hp,hh⟩ | ⟨_,hh⟩
  . rcases(hF _ _ _ hp _ hh).2.1 with ⟨r0,j0,p0,_,k2⟩ | k2
    . exact b3 r0 j0 k2
    . omega
  . exact b3 _ _ hh
 refine⟨?_,⟨k,hl.tm,rfl,fun r R' hR=>by obtain⟨R,e1,e2,_⟩:=vC (hl.shape r) hR;exact⟨R,e1,e2⟩⟩⟩;refine { os:=h1.trans h.os,tape:=h2.trans h.tape,output:=h3.trans h.output,size:=amp h.size dh,block:=?_,cq:=fun b hb=>⟨amG (h.cq b hb).1 dh,(h.cq b hb).2⟩,z0:=h.z0,fp:=?_,cS:=?_,box:=?_,cell:=?_,tm:=?_,defers:=h.defers,nz:=h.nz }
 . intro b hb hf;refine(lE b (amG hb h.size) fun r j p hp hh=>?_).trans (h.block b hb hf);rcases(h.fp r j b hh).2.1 with h4 | h4
   . exact hf h4
   . omega
 . intro r j b hb;rcases qQ r j b hb with ⟨p,hp,hb⟩ | ⟨hp,hb⟩
   . obtain⟨k1,k2,k3⟩:=hF r j p hp b hb;obtain⟨c,f1,_,_,e,ks,xs,rW,_,f5,_⟩:=hL r j p hp;refine⟨k1,?_,k3,p.1,_,rW,by rw[hl.cell,hp,f1];rfl,f5⟩;rcases k2 with ⟨r0,j0,p0,_,k2⟩ | k2
     . exact(h.fp _ _ _ k2).2.1
     . exact .inr (amp h.size k2)
   . obtain⟨k1,k2,k3,c,kk,x,k4,k5⟩:=h.fp r j b hb;exact⟨amG k1 dh,k2,k3,c,kk,x,by rw[hl.cell,hp];exact k4,k5⟩
 . intro r1 j1 r2 j2 b yQ l6;rcases qQ _ _ _ yQ with ⟨p1,yo,k1⟩ | ⟨yo,k1⟩
   . rcases qQ _ _ _ l6 with ⟨p2,Ck,k2⟩ | ⟨Ck,k2⟩
     . exact hd _ _ _ _ _ _ b yo Ck k1 k2
     . exfalso;rcases(hF _ _ _ yo b k1).2.1 with ⟨r0,j0,p0,BZ,hh⟩ | hh
       . obtain⟨e1,e2⟩:=h.cS _ _ _ _ _ hh k2;subst e1;subst e2;rw[Ck]at BZ;simp at BZ
       . have:=(h.fp _ _ _ k2).1;omega
   . rcases qQ _ _ _ l6 with ⟨p2,Ck,k2⟩ | ⟨Ck,k2⟩
     . exfalso;rcases(hF _ _ _ Ck b k2).2.1 with ⟨r0,j0,p0,BZ,hh⟩ | hh
       . obtain⟨e1,e2⟩:=h.cS _ _ _ _ _ hh k1;subst e1;subst e2;rw[yo]at BZ;simp at BZ
       . have:=(h.fp _ _ _ k1).1;omega
     . exact h.cS _ _ _ _ _ k1 k2
 . intro r R' hR nP;obtain⟨R,e1,e2,e3⟩:=vC (hl.shape r) hR;have ahW:R.box=true:=by rw[<- e2];exact nP
   obtain⟨b1,b2,b3,b4,cs,el,fr,b5,b6,b7,b8⟩:=h.box r R e1 ahW;have aV:g.be r<w.heap.size:=by
    rcases amz (g.be r) w.heap.size with hh | hh
    . exact hh
    . simp[amC hh]at b5
   refine⟨b1,b2,hbn r R e1 ahW,fun r' Yd mP xt he=>?_,cs,el,fr,?_,b6,by rw[b7,e3],b8⟩
   . obtain⟨R2,f1,f2,_⟩:=vC (hl.shape r') mP;exact b4 r' R2 f1 (by rw[<- f2];exact xt) he
   . show w'.heap[g.be r]? = _;rw[lE _ aV fun r0 j0 p0 _ hh=>b3 r0 j0 hh];exact b5
 . intro r j c hc;rw[hl.cell]at hc;cases hp:L r j with
   | none=>
     rw[hp]at hc;have e2:(g.vz L).fp r j=g.fp r j:=by funext b;simp only[Gh.vz,hp]
     rw[e2];exact lh.cI k _ _ _ _ (h.cell r j c hc) (fun _ h=>h) (fun b hb _=>H6 r j b hp hb)
   | some p=>
     rw[hp]at hc;obtain⟨c0,f1,_,_,e,ks,xs,rW,_,f5,_,f7⟩:=hL r j p hp;rw[f1]at hc;simp only[amI,amh]at hc;subst hc;have e2:(g.vz L).fp r j=p.2:=by funext b;simp only[Gh.vz,hp]
     rw[e2,f5];exact f7
 . intro t tv ht;rw[hl.tm]at ht;exact⟨(h.tm t tv ht).1,bW.cI k _ _ (h.tm t tv ht).2⟩
end
section
variable{w w':World}
theorem Dm:∀(ks:List K) (x:Tl ks) (j:Nat) (G:Nat->Nat->Prop) (cs:Array Value) (o c:Nat) (k:K) (y:T k),gx w ks x j G cs o->cellAt ks x c=some ⟨k,y⟩->∃ v,cs[o+c]? = some v/\dG w k y v (G (j+c))
 | [],_,_,_,_,_,_,_,_,_,h=>by simp[cellAt]at h
 | k0::ks,x,j,G,cs,o,0,k,y,⟨⟨v,h1,h2⟩,_⟩,h=>by simp only[cellAt,amh,Sigma.mk.injEq]at h;obtain⟨rfl,h⟩:=h;have h:=aox h;subst h;exact⟨v,h1,h2⟩
 | k0::ks,x,j,G,cs,o,c+1,k,y,⟨_,h3⟩,h=>by obtain⟨v,h1,h2⟩:=Dm ks x.2 (j+1) G cs (o+1) c k y h3 h;exact⟨v,by rw[show o+(c+1)=o+1+c by omega];exact h1,by rw[show j+(c+1)=j+1+c by omega];exact h2⟩
theorem Ty{e:TypeId}{ks:List K}{xs:T (.sl e ks)}{b o l cap:Nat}{F:Nat->Prop}(h:dG w (.sl e ks) xs (.slice (some ⟨b,o,none⟩) l cap) F){i c:Nat}(hi:i<(aW xs).length){k:K}{y:T k}(hc:cellAt ks (hE xs i) c=some ⟨k,y⟩) :
 ∃ v Fi,w.cell? ⟨b,o+i * ks.length+c,none⟩=some v/\dG w k y v Fi/\(∀ q,Fi q->F q/\q≠b)/\F b /\
  ∀(w':World) (y':T k) (z:Tl ks) (F':Nat->Prop),setAt ks (hE xs i) c k y'=some z->dG w' k y' v F'->(∀ q,F' q->F q->Fi q)->(∀ q,q<w.heap.size->F q->¬ Fi q->w'.heap[q]? = w.heap[q]?)->(∀ q,F q->q<w.heap.size) ->
   dG w' (.sl e ks) (List.set (aW xs) i z) (.slice (some ⟨b,o,none⟩) l cap) (fun q=>(F q/\¬ Fi q)∨F' q):=by
 obtain⟨a',c0,h1,h2,h3,h4,h5⟩:=h;simp only[anj]at h1;obtain⟨rfl,rfl,rfl⟩:=h1;obtain⟨b',o',cs,el,fr,g1,g2,g3,g4,g5,G,g6,g7,g8⟩:=h5 _ rfl;simp only[anJ,anQ]at g1;obtain⟨rfl,rfl⟩:=g1;obtain⟨v,U5,hv2⟩:=Dm ks _ 0 (G i) cs _ c k y (g8 i _ (nY xs hi)) hc;rw[amt]at hv2;refine⟨v,G i c,?_,hv2,fun q hq=>g6 i c q hq,g2,fun w' y' z F' hz ho Iq hw aV=>?_⟩
 . simp only[World.cell?,g3,anD,am1,anz];exact U5
 . have hlen:(aW (e:=e) (ks:=ks) (List.set (aW xs) i z)).length=(aW xs).length:=ans ..
   have hbG:¬ G i c b:=fun hh=>(g6 i c b hh).2 rfl
   have xx:=zf _ _ _ _ _ _ hz;have alF:=aV b g2;refine⟨_,cap,by rw[hlen],by rw[hlen];exact h2,by rw[hlen];exact h3,h4,fun a'' H8=>?_⟩;simp only[amh]at H8;subst H8;refine⟨b,o,cs,el,fr,rfl,.inl ⟨g2,hbG⟩,by rw[hw b alF g2 hbG];exact g3,g4,g5,fun i' j' q=>if i'=i/\j'=c then F' q else G i' j' q,fun i' j' q hq=>?_,fun i1 j1 i2 j2 q OU Cl=>?_,fun i' x hx=>?_⟩
   . dsimp only at hq;split at hq
     . refine⟨.inr hq,fun e=>?_⟩;subst e;exact hbG (Iq q hq g2)
     . rename_i cY;refine⟨.inl ⟨(g6 i' j' q hq).1,fun hh=>cY ?_⟩,(g6 i' j' q hq).2⟩;exact g7 i' j' i c q hq hh
   . dsimp only at OU Cl;have cross:∀ i1 j1,¬ (i1=i/\j1=c)->G i1 j1 q->F' q->False:=fun i1 j1 cY hG hF=>by
      exact cY (g7 i1 j1 i c q hG (Iq q hF (g6 i1 j1 q hG).1))
     by_cases e1:i1=i/\j1=c
     . rw[if_pos e1]at OU;by_cases e2:i2=i/\j2=c
       . exact⟨e1.1.trans e2.1.symm,e1.2.trans e2.2.symm⟩
       . rw[if_neg e2]at Cl;exact(cross i2 j2 e2 Cl OU).elim
     . rw[if_neg e1]at OU;by_cases e2:i2=i/\j2=c
       . rw[if_pos e2]at Cl;exact(cross i1 j1 e1 OU Cl).elim
       . rw[if_neg e2]at Cl;exact g7 _ _ _ _ q OU Cl
   . have lQ:(List.set (aW xs) i z)[i']? = some x:=hx;rw[aoW]at lQ;by_cases ei:i=i'
     . subst ei;rw[if_pos rfl,if_pos hi]at lQ;simp only[amh]at lQ;subst lQ;refine Bv ks (hE xs i) c k y' z 0 (G i) _ F' cs cs _ v hz ho U5 (fun _ _ _=>rfl) (fun q p cY hp=>?_) (fun p hp=>?_) (fun q p cY hp _=>?_) (g8 i _ (nY xs hi))
       . show(if i=i/\q=c then F' p else G i q p);rw[if_neg (fun e=>cY (by omega))];exact hp
       . show(if i=i/\0+c=c then F' p else G i (0+c) p);rw[if_pos ⟨rfl,by omega⟩];exact hp
       . exact hw p (aV p (g6 i q p hp).1) (g6 i q p hp).1 fun hh=>cY (by have:=(g7 i q i c p hp hh).2;omega)
     . rw[if_neg ei]at lQ;refine gx.frame ks x 0 (G i') _ cs _ (fun j q hq=>?_) (fun j q hq _=>?_) (g8 i' x lQ)
       . show(if i'=i/\j=c then F' q else G i' j q);rw[if_neg (fun e=>ei e.1.symm)];exact hq
       . exact hw q (aV q (g6 i' j q hq).1) (g6 i' j q hq).1 fun hh=>ei (g7 i' j i c q hq hh).1.symm
end
section
variable{P:Program}{cx:Cx P}{Z:Nat->Prop}{a:Act}{w:World}{E:En}
theorem ej.mono{F F':Nat->Nat->Prop}(hF:∀ i b,F i b->F' i b):∀(ps:List PK) (x:PT ps) (vs:List Value) (i:Nat),ej Z w F ps x vs i->ej Z w F' ps x vs i
 | [],_,[],_,_=>trivial
 | .c _ _::ps,x,v::vs,i,h=>⟨h.1,ej.mono hF ps x.2 vs _ h.2⟩
 | .pt _::ps,x,v::vs,i,h=>⟨h.1,ej.mono hF ps x.2 vs _ h.2⟩
 | .nil::ps,x,v::vs,i,h=>⟨h.1,ej.mono hF ps x vs _ h.2⟩
 | .fn _ _::ps,x,v::vs,i,h=>⟨h.1,ej.mono hF ps x.2 vs _ h.2⟩
 | .io _ ks::ps,x,v::vs,i,⟨⟨cs,e,h⟩,h'⟩=>⟨⟨cs,e,bb.mono hF ks x.1 cs i h⟩,ej.mono hF ps x.2 vs _ h'⟩
 | .mv _::ps,x,v::vs,i,h=>⟨dG.frame _ _ _ _ _ (hF i) (fun _ _ _=>rfl) h.1,ej.mono hF ps x.2 vs _ h.2⟩
 | .pw _::ps,x,v::vs,i,h=>⟨h.1.mono hF,ej.mono hF ps x.2 vs _ h.2⟩
 | .pw _::_,_,[],_,h=>h.elim
 | [],_,_::_,_,h=>h.elim
 | .c _ _::_,_,[],_,h=>h.elim
 | .fn _ _::_,_,[],_,h=>h.elim
 | .io _ _::_,_,[],_,h=>h.elim
 | .pt _::_,_,[],_,h=>h.elim
 | .nil::_,_,[],_,h=>h.elim
 | .mv _::_,_,[],_,h=>h.elim
theorem bb.cq{Z':Nat->Prop}{H:Nat->Nat->Prop}(hz:∀ b,Z b->b<w.heap.size->Z' b):∀(ks:List K) (x:Tl ks) (cs:List Value) (j:Nat),bb true Z w H ks x cs j->bb true Z' w H ks x cs j
 | [],_,[],_,_=>trivial
 | .sl e bZ::ks,x,v::vs,j,h=>⟨h.1,bb.cq hz ks x.2 vs _ h.2⟩
 | .int _::ks,x,v::vs,j,h=>⟨h.1.cq hz,bb.cq hz ks x.2 vs j h.2⟩
 | .bool::ks,x,v::vs,j,h=>⟨h.1.cq hz,bb.cq hz ks x.2 vs j h.2⟩
 | .str::ks,x,v::vs,j,h=>⟨h.1.cq hz,bb.cq hz ks x.2 vs j h.2⟩
 | [],_,_::_,_,h=>h.elim
 | .sl _ _::_,_,[],_,h=>h.elim
 | .int _::_,_,[],_,h=>h.elim
 | .bool::_,_,[],_,h=>h.elim
 | .str::_,_,[],_,h=>h.elim
def Zb(Z:Nat->Prop)(g:Gh)(st:St):Nat->Prop:=fun b=>Z b∨∃ r R,look st.rt r=some R/\R.box=true/\g.be r=b
theorem ZF{g:Gh}{st:St}(h:Rel cx Z g st a w):∀ b,Zb Z g st b->b<w.heap.size:=fun b hb=>by
 rcases hb with hb | ⟨r,R,hR,hx,e⟩
 . exact(h.cq b hb).1
 . obtain⟨_,_,_,_,cs,el,fr,b5,_⟩:=h.box r R hR hx;rw[e]at b5;rcases amz b w.heap.size with hh | hh
   . exact hh
   . simp[amC hh]at b5
theorem YG{g:Gh}{st:St}(h:Rel cx Z g st a w){r j b:Nat}(hb:g.fp r j b):¬ Zb Z g st b:=fun hz=>by
 rcases hz with hz | ⟨r',R,hR,hx,e⟩
 . exact(h.fp _ _ _ hb).2.2.1 hz
 . exact(h.box r' R hR hx).2.2.1 r j (e ▸ hb)
def JZ(g:Gh)(st:St)(w w':World)(r j:Nat)(c':RC)(F F':Nat->Prop):Prop:=
 ∃ c e ks xs rW,st.cell r j=some c/\c'.s=c.s/\c.m<c'.m/\c.v= .own (.sl e ks) xs/\c'.v= .own (.sl e ks) rW/\(aW rW).length=(aW xs).length/\dG w' (.sl e ks) rW (g.cv r j) (fun q=>(g.fp r j q/\¬ F q)∨F' q)
structure QZ (g:Gh) (st:St) (w:World) (n:Ln) (k:K) (F:Nat->Prop) (v:Value):Prop where
 sub:∀ b,F b->g.fp n.r n.j b
 back:∀(w':World) (y':T k) (F':Nat->Prop) (c':RC),st.D3 n ⟨k,y'⟩=some c'->dG w' k y' v F'->(∀ q,F' q->g.fp n.r n.j q->F q)->(∀ q,q<w.heap.size->g.fp n.r n.j q->¬ F q->w'.heap[q]? = w.heap[q]?)->JZ g st w w' n.r n.j c' F F'
theorem Wz{w w':World}{e:TypeId}{ks:List K}{xs rW:T (.sl e ks)}{v:Value}{F F':Nat->Prop}(h:dG w (.sl e ks) xs v F)(h':dG w' (.sl e ks) rW v F'):(aW rW).length=(aW xs).length:=by obtain⟨a,c,h1,_⟩:=h;obtain⟨a',c',vP,_⟩:=h';rw[h1]at vP;simp only[anj]at vP;exact vP.2.1.symm
theorem NN{g:Gh}{st:St}(h:Rel cx Z g st a w){av:AV}{v:Value}{e0:TypeId}{gn:List K}{n:Ln}{y:T (.sl e0 gn)}(hr:bC Z g st w av v)(hl:st.FF (.sl e0 gn) av=some (n,y)) :
 ∃ F,dG w (.sl e0 gn) y v F/\QZ g st w n (.sl e0 gn) F v:=by
 cases av with
 | ref r j s=>
   simp only[St.FF]at hl;split at hl
   . rename_i s' m k' x hc;cases hb:Nat.beq s' s with
     | false=>rw[hb]at hl;simp at hl
     | true=>
       rw[hb]at hl;simp only[oT]at hl;split at hl
       . rename_i y' hy;cases hl;obtain⟨rfl,hy⟩:=cN hy;have hy:x=y:=hy;subst hy;have:=beq_eq hb;subst this;obtain⟨c,q1,q2,q3⟩:=hr;rw[hc]at q1;cases q1;have q3:=q3 rfl;subst q3;have ho:dG w (.sl e0 gn) x (g.cv r j) (g.fp r j):=h.cell r j _ hc;refine⟨g.fp r j,ho,fun b hb=>hb,fun w' y' F' c' Ic jY Iq Ml=>?_⟩;simp only[St.D3,hc,amh]at Ic;subst Ic;refine⟨_,e0,gn,x,y',hc,rfl,ani _,rfl,rfl,Wz ho jY,?_⟩;exact dG.frame _ _ _ _ _ (fun b hb=> .inr hb) (fun _ _ _=>rfl) jY
       . simp at hl
   . simp at hl
 | pref r j s m i c=>
   simp only[St.FF]at hl;split at hl
   . rename_i s' m' e ks x hc;cases hb:Nat.beq s' s&&Nat.beq m' m with
     | false=>rw[hb]at hl;simp at hl
     | true=>
       rw[hb]at hl;simp only[oT]at hl;simp only[ami]at hb;split at hl
       . rename_i k' y1 bD;split at hl
         . rename_i y' hy;cases hl;obtain⟨rfl,hy⟩:=cN hy;have hy:y1=y:=hy;subst hy;have e1:=beq_eq hb.1;have e2:=beq_eq hb.2;subst e1;subst e2;obtain⟨c0,q1,q2,q3,q4⟩:=hr;rw[hc]at q1;cases q1;obtain⟨e',bZ,rW,p1,p2,p3,b,o,l,cap,p4,p5⟩:=q4 rfl rfl;simp only[RV.own.injEq,K.sl.injEq]at p1;obtain⟨⟨rfl,rfl⟩,p1⟩:=p1;have p1:=aox p1;subst p1;have ho:dG w (.sl e ks) x (g.cv r j) (g.fp r j):=h.cell r j _ hc;rw[p4]at ho;obtain⟨v',Fi,u1,u2,u3,u4,u5⟩:=Ty ho p2 bD;rw[p5]at u1;simp only[amh]at u1;subst u1;refine⟨Fi,u2,fun b hb=>(u3 b hb).1,fun w' y' F' c' Ic jY Iq Ml=>?_⟩;simp only[St.D3,hc]at Ic;split at Ic
           . rename_i z hz;simp only[amh]at Ic;subst Ic;refine⟨_,e,ks,x,_,hc,rfl,ani _,rfl,rfl,ans ..,?_⟩;show dG w' (.sl e ks) _ (g.cv r j) _;rw[p4];exact u5 w' y' z F' hz jY Iq Ml fun q hq=>(h.fp r j q hq).1
           . simp at Ic
         . simp at hl
       . simp at hl
   . simp at hl
 | _=>simp[St.FF]at hl
def JE:List K->List Value->List (K×Value)
 | .sl e bZ::ks,v::vs=>(.sl e bZ,v)::JE ks vs
 | .int _::ks,_::vs=>JE ks vs
 | .bool::ks,_::vs=>JE ks vs
 | .str::ks,_::vs=>JE ks vs
 | _,_=>[]
def B5:List PK->List Value->List (K×Value)
 | .io gg ks::ps,v::vs=>JE ks (cellsOf gg v)++B5 ps vs
 | .c _ _::ps,_::vs=>B5 ps vs
 | .pt _::ps,_::vs=>B5 ps vs
 | .nil::ps,_::vs=>B5 ps vs
 | .fn _ _::ps,_::vs=>B5 ps vs
 | .mv _::ps,_::vs=>B5 ps vs
 | _,_=>[]
def gQ(g:Gh)(st:St)(w:World)(F:Nat->Nat->Prop):List Ln->List (K×Value)->Nat->Prop
 | [],[],_=>True
 | n::l,p::r,i=>QZ g st w n p.1 (F i) p.2/\gQ g st w F l r (i+1)
 | _,_,_=>False
theorem QZ.eq{g:Gh}{st:St}{n:Ln}{k:K}{F F':Nat->Prop}{v:Value}(h:QZ g st w n k F v)(e:∀ b,F b↔F' b):QZ g st w n k F' v:=by
 have:F=F':=funext fun b=>propext (e b)
 rw[<- this];exact h
theorem gQ.eq{g:Gh}{st:St}{F F':Nat->Nat->Prop}:∀(l:List Ln) (r:List (K×Value)) (i:Nat),(∀ m b,i<=m->m<i+l.length->(F m b↔F' m b))->gQ g st w F l r i->gQ g st w F' l r i
 | [],[],_,_,_=>trivial
 | n::l,p::r,i,e,h=>⟨h.1.eq fun b=>e i b (oR _) (by simp),gQ.eq l r (i+1) (fun m b h1 h2=>e m b (by omega) (by simp only[amw];omega)) h.2⟩
 | [],_::_,_,_,h=>h.elim
 | _::_,[],_,_,h=>h.elim
theorem gQ.len{g:Gh}{st:St}{F:Nat->Nat->Prop}:∀(l:List Ln) (r:List (K×Value)) (i:Nat),gQ g st w F l r i->l.length=r.length
 | [],[],_,_=>rfl
 | n::l,p::r,i,h=>amP (· + 1) (gQ.len l r (i+1) h.2)
 | [],_::_,_,h=>h.elim
 | _::_,[],_,h=>h.elim
theorem gQ.app{g:Gh}{st:St}{F:Nat->Nat->Prop}:∀(l l':List Ln) (r r':List (K×Value)) (i:Nat),gQ g st w F l r i->gQ g st w F l' r' (i+l.length)->gQ g st w F (l++l') (r++r') i
 | [],_,[],_,_,_,h=>h
 | n::l,l',p::r,r',i,h,h'=>⟨h.1,gQ.app l l' r r' (i+1) h.2 (by rw[show i+1+l.length=i+(n::l).length by simp;omega];exact h')⟩
 | [],_,_::_,_,_,h,_=>h.elim
 | _::_,_,[],_,_,h,_=>h.elim
theorem nV{g:Gh}{st:St}(h:Rel cx Z g st a w):∀(ks:List K) (l:List AV) (cs:List Value) (i:Nat) (ns:List Ln) (y:Tl ks),a8 Z g st w l cs->st.qo ks l=some (ns,y) ->
 ns.length=bU ks/\∃ F:Nat->Nat->Prop,bb true Z w F ks y cs i/\gQ g st w F ns (JE ks cs) i/\∀ m b,F m b->i<=m/\m<i+bU ks
 | [],[],[],i,ns,y,_,hl=>by simp only[St.qo,amh,amO]at hl;obtain⟨rfl,_⟩:=hl;exact⟨rfl,fun _ _=>False,trivial,trivial,fun _ _ h=>h.elim⟩
 | [],[],_::_,_,_,_,h1,_=>h1.elim
 | [],_::_,_,_,_,_,_,hl=>by simp[St.qo]at hl
 | _::_,[],_,_,_,_,_,hl=>by simp[St.qo]at hl
 | _::_,_::_,[],_,_,_,h1,_=>h1.elim
 | .sl e bZ::ks,av::l,v::vs,i,ns,y,h1,hl=>by
   simp only[St.qo]at hl;split at hl
   . rename_i p q hp hq;cases hl;obtain⟨F1,k1,k2⟩:=NN h h1.1 hp;obtain⟨hlen,F,m1,m2,m3⟩:=nV h ks l vs (i+1) q.1 q.2 h1.2 hq;have hs:∀ m b,(i+1<=m)->(((m=i/\F1 b)∨F m b)↔F m b):=fun m b hm=>⟨fun hh=>hh.elim (fun h=>by omega) id,.inr⟩
     refine⟨by simp[bU,hlen],fun m b=>(m=i/\F1 b)∨F m b,⟨dG.frame _ _ _ _ _ (fun b hb=> .inl ⟨rfl,hb⟩) (fun _ _ _=>rfl) k1,bb.mono (fun m b hb=> .inr hb) _ _ _ _ m1⟩,⟨k2.eq fun b=>⟨fun hb=> .inl ⟨rfl,hb⟩,fun hb=>hb.elim (fun h=>h.2) fun hb=>by have:=(m3 i b hb).1;omega⟩,?_⟩,fun m b hb=>?_⟩
     . exact gQ.eq _ _ _ (fun m b h1 _=>(hs m b h1).symm) m2
     . simp only[bU];rcases hb with hb | hb
       . omega
       . have:=m3 m b hb;omega
   . simp at hl
 | .int k::ks,av::l,v::vs,i,ns,y,h1,hl=>by
   simp only[St.qo]at hl;split at hl
   . rename_i x q hx hf hq;cases hl;obtain⟨hlen,F,m1,m2,m3⟩:=nV h ks l vs i q.1 q.2 h1.2 hq;exact⟨hlen,F,⟨cB h h1.1 hf hx,m1⟩,m2,m3⟩
   . simp at hl
 | .bool::ks,av::l,v::vs,i,ns,y,h1,hl=>by
   simp only[St.qo]at hl;split at hl
   . rename_i x q hx hf hq;cases hl;obtain⟨hlen,F,m1,m2,m3⟩:=nV h ks l vs i q.1 q.2 h1.2 hq;exact⟨hlen,F,⟨cB h h1.1 hf hx,m1⟩,m2,m3⟩
   . simp at hl
 | .str::ks,av::l,v::vs,i,ns,y,h1,hl=>by
   simp only[St.qo]at hl;split at hl
   . rename_i x q hx hf hq;cases hl;obtain⟨hlen,F,m1,m2,m3⟩:=nV h ks l vs i q.1 q.2 h1.2 hq;exact⟨hlen,F,⟨cB h h1.1 hf hx,m1⟩,m2,m3⟩
   . simp at hl
theorem o9{g:Gh}{st:St}(h:Rel cx Z g st a w){Z':Nat->Prop}(Fu:∀ b,Z b->b<w.heap.size->Z' b)(xy:∀ r R,look st.rt r=some R->R.box=true->Z' (g.be r)):∀(ps:List PK) (l:List TV) (vs:List Value) (i:Nat) (ns:List Ln) (x:PT ps),gB Z g st w l vs->st.cy ps l=some (ns,x) ->
 ∃ F:Nat->Nat->Prop,ej Z' w F ps x vs i/\gQ g st w F ns (B5 ps vs) i/\∀ m b,F m b->i<=m/\m<i+ns.length
 | [],[],[],i,ns,x,_,hl=>by simp only[St.cy,amh,amO]at hl;obtain⟨rfl,_⟩:=hl;exact⟨fun _ _=>False,trivial,trivial,fun _ _ h=>h.elim⟩
 | [],[],_::_,_,_,_,h1,_=>h1.elim
 | [],_::_,_,_,_,_,_,hl=>by simp[St.cy]at hl
 | .c _ _::_,[],_,_,_,_,_,hl=>by simp[St.cy]at hl
 | .fn _ _::_,[],_,_,_,_,_,hl=>by simp[St.cy]at hl
 | .io _ _::_,[],_,_,_,_,_,hl=>by simp[St.cy]at hl
 | .mv _::_,[],_,_,_,_,_,hl=>by simp[St.cy]at hl
 | .mv _::_,_::_,_,_,_,_,_,hl=>by simp[St.cy]at hl
 | .pt _::_,[],_,_,_,_,_,hl=>by simp[St.cy]at hl
 | .nil::_,[],_,_,_,_,_,hl=>by simp[St.cy]at hl
 | .nil::_,_::_,_,_,_,_,_,hl=>by simp[St.cy]at hl
 | .pt _::_,_::_,_,_,_,_,_,hl=>by simp[St.cy]at hl
 | .c _ _::_,_::_,[],_,_,_,h1,_=>h1.elim
 | .fn _ _::_,_::_,[],_,_,_,h1,_=>h1.elim
 | .io _ _::_,_::_,[],_,_,_,h1,_=>h1.elim
 | .c gg ks::ps,tv::r,v::vs,i,ns,x,h1,hl=>by
   unfold St.cy at hl;cases Mp:tv.dw with
   | none=>rw[Mp]at hl;simp at hl
   | some p=>
     obtain⟨BY,l⟩:=p;rw[Mp]at hl;simp only at hl;cases hb:cw gg BY&&l.all AV.bV with
     | false=>rw[hb]at hl;simp at hl
     | true=>
       rw[hb]at hl;simp only[oT]at hl;simp only[ami]at hb;have hg:=eL hb.1;subst hg;split at hl
       . rename_i z q hz hq;cases hl;obtain⟨us,e1,e2⟩:=iD (lS h1.1 Mp);obtain⟨F,k1,k2,k3⟩:=o9 h Fu xy ps r vs i q.1 q.2 h1.2 hq;exact⟨F,⟨⟨us,e1,tT.cq Fu ks z us (dH h ks l us z e2 hb.2 hz)⟩,k1⟩,k2,k3⟩
       . simp at hl
 | .fn f cs::ps,tv::r,v::vs,i,ns,x,h1,hl=>by
   cases tv with
   | fn f' cR=>
     unfold St.cy at hl;cases hb:Nat.beq f f' with
     | false=>rw[hb]at hl;simp at hl
     | true=>
       rw[hb]at hl;simp only[oT]at hl;have hf:=beq_eq hb;subst hf;split at hl
       . rename_i z q hz hq;cases hl;obtain⟨us,e1,e2⟩:=h1.1;obtain⟨F,k1,k2,k3⟩:=o9 h Fu xy ps r vs i q.1 q.2 h1.2 hq;exact⟨F,⟨⟨us,e1,mZ h Fu (fun _=>xy) cs cR us.toList z e2 hz⟩,k1⟩,k2,k3⟩
       . simp at hl
   | _=>simp[St.cy]at hl
 | .io gg ks::ps,tv::r,v::vs,i,ns,x,h1,hl=>by
   unfold St.cy at hl;cases Mp:tv.dw with
   | none=>rw[Mp]at hl;simp at hl
   | some p=>
     obtain⟨BY,l⟩:=p;rw[Mp]at hl;simp only at hl;cases hb:cw gg BY with
     | false=>rw[hb]at hl;simp at hl
     | true=>
       rw[hb]at hl;simp only[oT]at hl;have hg:=eL hb;subst hg;split at hl
       . rename_i p q hp hq;cases hl;obtain⟨us,e1,e2⟩:=iD (lS h1.1 Mp);obtain⟨hlen,F1,m1,m2,m3⟩:=nV h ks l us i p.1 p.2 e2 hp;obtain⟨F,k1,k2,k3⟩:=o9 h Fu xy ps r vs (i+bU ks) q.1 q.2 h1.2 hq;refine⟨fun m b=>F1 m b∨F m b,⟨⟨us,e1,bb.mono (fun m b hb=> .inl hb) _ _ _ _ (bb.cq Fu _ _ _ _ m1)⟩,ej.mono (fun m b hb=> .inr hb) _ _ _ _ k1⟩,?_,fun m b hb=>?_⟩
         . simp only[B5,e1.eq];refine gQ.app _ _ _ _ _ (gQ.eq _ _ _ (fun m b Vd hm2=>⟨.inl,fun hh=>hh.elim id fun hh=>by have:=(k3 m b hh).1;omega⟩) m2) ?_;rw[hlen];exact gQ.eq _ _ _ (fun m b Vd hm2=>⟨.inr,fun hh=>hh.elim (fun hh=>by have:=(m3 m b hh).2;omega) id⟩) k2
         . simp only[amj,hlen];rcases hb with hb | hb
           . have:=m3 m b hb;omega
           . have:=k3 m b hb;omega
       . simp at hl
def kT(w':World)(G:Nat->Nat->Prop):List ((k:K)×T k)->List (K×Value)->Nat->Prop
 | [],[],_=>True
 | y::l,p::r,i=>(y.1=p.1/\dG w' y.1 y.2 p.2 (G i))/\kT w' G l r (i+1)
 | _,_,_=>False
theorem kT.app{w':World}{G:Nat->Nat->Prop}:∀(l l':List ((k:K)×T k)) (r r':List (K×Value)) (i:Nat),kT w' G l r i->kT w' G l' r' (i+l.length)->kT w' G (l++l') (r++r') i
 | [],_,[],_,_,_,h=>h
 | n::l,l',p::r,r',i,h,h'=>⟨h.1,kT.app l l' r r' (i+1) h.2 (by rw[show i+1+l.length=i+(n::l).length by simp;omega];exact h')⟩
 | [],_,_::_,_,_,h,_=>h.elim
 | _::_,_,[],_,_,h,_=>h.elim
theorem mz:∀(ks:List K) (y:Tl ks),(z8 ks y).length=bU ks
 | [],_=>rfl
 | .sl _ _::ks,x=>amP (· + 1) (mz ks x.2)
 | .int _::ks,x=>mz ks x.2
 | .bool::ks,x=>mz ks x.2
 | .str::ks,x=>mz ks x.2
theorem mE{Z':Nat->Prop}{w':World}{G:Nat->Nat->Prop}:∀(ks:List K) (y:Tl ks) (cs:List Value) (i:Nat),bb true Z' w' G ks y cs i->kT w' G (z8 ks y) (JE ks cs) i
 | [],_,[],_,_=>trivial
 | .sl e bZ::ks,y,v::vs,i,h=>⟨⟨rfl,h.1⟩,mE ks y.2 vs (i+1) h.2⟩
 | .int _::ks,y,v::vs,i,h=>mE ks y.2 vs i h.2
 | .bool::ks,y,v::vs,i,h=>mE ks y.2 vs i h.2
 | .str::ks,y,v::vs,i,h=>mE ks y.2 vs i h.2
 | [],_,_::_,_,h=>h.elim
 | .sl _ _::_,_,[],_,h=>h.elim
 | .int _::_,_,[],_,h=>h.elim
 | .bool::_,_,[],_,h=>h.elim
 | .str::_,_,[],_,h=>h.elim
def DT:List PK->Bool
 | []=>true
 | .mv _::_=>false
 | .pw _::_=>false
 | .c _ _::ps=>DT ps
 | .pt _::ps=>DT ps
 | .nil::ps=>DT ps
 | .fn _ _::ps=>DT ps
 | .io _ _::ps=>DT ps
theorem qX{Z':Nat->Prop}{w':World}{G:Nat->Nat->Prop}:∀(ps:List PK) (y:uy ps) (vs:List Value) (i:Nat),DT ps=true->vs.length=ps.length->xm Z' w' G ps y vs i->kT w' G (lD ps y) (B5 ps vs) i
 | [],_,[],_,_,_,_=>trivial
 | .c _ _::ps,y,v::vs,i,hn,hl,h=>qX ps y vs i hn (by simpa using hl) h
 | .pt _::ps,y,v::vs,i,hn,hl,h=>qX ps y vs i hn (by simpa using hl) h
 | .nil::ps,y,v::vs,i,hn,hl,h=>qX ps y vs i hn (by simpa using hl) h
 | .fn _ _::ps,y,v::vs,i,hn,hl,h=>qX ps y vs i hn (by simpa using hl) h
 | .mv _::ps,y,v::vs,i,hn,hl,h=>by simp[DT]at hn
 | .pw _::ps,y,v::vs,i,hn,hl,h=>by simp[DT]at hn
 | .pw _::ps,y,[],i,hn,hl,h=>h.elim
 | .io gg ks::ps,y,v::vs,i,hn,hl,⟨⟨cs,e,h⟩,h'⟩=>by simp only[B5,lD,e.eq];exact kT.app _ _ _ _ _ (mE ks y.1 cs i h) (by rw[mz];exact qX ps y.2 vs _ hn (by simpa using hl) h')
 | [],_,_::_,_,_,hl,_=>by simp at hl
 | .c _ _::ps,y,[],i,hn,hl,h=>h.elim
 | .pt _::ps,y,[],i,hn,hl,h=>h.elim
 | .nil::ps,y,[],i,hn,hl,h=>h.elim
 | .fn _ _::ps,y,[],i,hn,hl,h=>h.elim
 | .io _ _::ps,y,[],i,hn,hl,h=>h.elim
 | .mv _::ps,y,[],i,hn,hl,h=>h.elim
theorem nb{st:St}:∀(ps:List PK) (l:List TV) (q:List Ln×PT ps),st.cy ps l=some q->DT ps=true
 | [],_,_,_=>rfl
 | .c gg ks::ps,[],q,h=>by simp[St.cy]at h
 | .fn _ _::ps,[],q,h=>by simp[St.cy]at h
 | .io _ _::ps,[],q,h=>by simp[St.cy]at h
 | .mv _::ps,[],q,h=>by simp[St.cy]at h
 | .mv _::ps,_::_,q,h=>by simp[St.cy]at h
 | .pw _::ps,[],q,h=>by simp[St.cy]at h
 | .pw _::ps,_::_,q,h=>by simp[St.cy]at h
 | .pt _::ps,[],q,h=>by simp[St.cy]at h
 | .nil::ps,[],q,h=>by simp[St.cy]at h
 | .nil::ps,_::_,q,h=>by simp[St.cy]at h
 | .pt _::ps,_::_,q,h=>by simp[St.cy]at h
 | .c gg ks::ps,tv::r,q,h=>by
   unfold St.cy at h;split at h
   . rename_i g' l hl;cases hb:cw gg g'&&l.all AV.bV with
     | false=>rw[hb]at h;simp at h
     | true=>
       rw[hb]at h;simp only[oT]at h;split at h
       . rename_i y hx hy;exact nb ps r _ hy
       . simp at h
   . simp at h
 | .fn f cs::ps,tv::r,q,h=>by
   cases tv with
   | fn f' cR=>
     unfold St.cy at h;cases hb:Nat.beq f f' with
     | false=>rw[hb]at h;simp at h
     | true=>
       rw[hb]at h;simp only[oT]at h;split at h
       . rename_i y hx hy;exact nb ps r _ hy
       . simp at h
   | _=>simp[St.cy]at h
 | .io gg ks::ps,tv::r,q,h=>by
   unfold St.cy at h;split at h
   . rename_i g' l hl;cases hb:cw gg g' with
     | false=>rw[hb]at h;simp at h
     | true=>
       rw[hb]at h;simp only[oT]at h;split at h
       . rename_i y hx hy;exact nb ps r _ hy
       . simp at h
   . simp at h
def Ov(g:Gh)(st:St)(w w':World)(F G:Nat->Nat->Prop):List (Nat×Nat×RC)->Nat->Prop
 | [],_=>True
 | (r,j,c)::l,i=>(JZ g st w w' r j c (F i) (G i)/\∀ b,F i b->g.fp r j b)/\Ov g st w w' F G l (i+1)
theorem CI{g:Gh}{st:St}{w':World}{F G:Nat->Nat->Prop} :
 ∀(ns:List Ln) (ys:List ((k:K)×T k)) (kv:List (K×Value)) (i:Nat) (qs:List (Nat×Nat×RC)),st.uZ ns ys=some qs->gQ g st w F ns kv i->kT w' G ys kv i ->
  (∀ m n,ns[m]? = some n->(∀ q,G (i+m) q->g.fp n.r n.j q->F (i+m) q)/\∀ q,q<w.heap.size->g.fp n.r n.j q->¬ F (i+m) q->w'.heap[q]? = w.heap[q]?) ->
  Ov g st w w' F G qs i/\qs.map (fun q=>(q.1,q.2.1))=ns.map fun n=>(n.r,n.j)
 | [],[],[],i,qs,hb,_,_,_=>by simp only[St.uZ,amh]at hb;subst hb;exact⟨trivial,rfl⟩
 | n::ns,y::ys,p::kv,i,qs,hb,hL,hP,hh=>by
   simp only[St.uZ]at hb;split at hb
   . rename_i c q hc hq;simp only[amh]at hb;subst hb;obtain⟨k1,k2⟩:=CI ns ys kv (i+1) q hq hL.2 hP.2 fun m n' hm=>by
      have:=hh (m+1) n' (by simpa using hm);rw[show i+(m+1)=i+1+m by omega]at this;exact this
     obtain⟨h1,h2⟩:=hh 0 n rfl;obtain⟨k0,y0⟩:=y;obtain⟨kp,v⟩:=p;obtain⟨⟨e1,e2⟩,_⟩:=hP;simp only at e1 e2;subst e1;exact⟨⟨⟨hL.1.back w' y0 (G i) c hc e2 h1 h2,hL.1.sub⟩,k1⟩,by simp[k2]⟩
   . simp at hb
 | [],[],_::_,_,_,_,h,_,_=>h.elim
 | [],_::_,_,_,_,hb,_,_,_=>by simp[St.uZ]at hb
 | _::_,[],_,_,_,hb,_,_,_=>by simp[St.uZ]at hb
 | _::_,_::_,[],_,_,_,h,_,_=>h.elim
def l7(g:Gh)(F G:Nat->Nat->Prop):List (Nat×Nat×RC)->Nat->Xk
 | [],_=>fun _ _=>none
 | (r,j,c)::l,i=>fun r' j'=>if r=r'/\j=j' then some (c,fun b=>(g.fp r j b/\¬ F i b)∨G i b)else l7 g F G l (i+1) r' j'
theorem fA{g:Gh}{F G:Nat->Nat->Prop}:∀(q:List (Nat×Nat×RC)) (i:Nat) (r j:Nat) (p:RC×(Nat->Prop)),l7 g F G q i r j=some p->∃ m,q[m]? = some (r,j,p.1)/\p.2=fun b=>(g.fp r j b/\¬ F (i+m) b)∨G (i+m) b
 | [],_,_,_,_,h=>by simp[l7]at h
 | (r0,j0,c)::l,i,r,j,p,h=>by
   simp only[l7]at h;split at h
   . rename_i e;obtain⟨rfl,rfl⟩:=e;simp only[amh]at h;subst h;exact⟨0,rfl,rfl⟩
   . obtain⟨m,h1,h2⟩:=fA l (i+1) r j p h;exact⟨m+1,h1,by rw[h2,show i+1+m=i+(m+1)by omega]⟩
theorem wk{g:Gh}{F G:Nat->Nat->Prop}:∀(q:List (Nat×Nat×RC)) (i m:Nat) (r j:Nat) (c:RC),q[m]? = some (r,j,c)->∃ p,l7 g F G q i r j=some p
 | [],_,_,_,_,_,h=>by simp at h
 | (r0,j0,c0)::l,i,m,r,j,c,h=>by
   simp only[l7];split
   . exact⟨_,rfl⟩
   . rename_i cY;cases m with
     | zero=>simp only[amn,amh,amO]at h;exact absurd ⟨h.1,h.2.1⟩ cY
     | succ m=>exact wk l (i+1) m r j c (by simpa using h)
theorem je{g:Gh}{F G:Nat->Nat->Prop}{st:St}:∀(q:List (Nat×Nat×RC)) (i:Nat),Rb st (st.setCells q) (l7 g F G q i)
 | [],i=>⟨rfl,fun _=>rfl,fun _ _=>rfl,fun _ _=>rfl⟩
 | (r,j,c)::l,i=>by
   have ih:=je (g:=g) (F:=F) (G:=G) (st:=st) l (i+1);refine⟨by simp only[St.setCells];rw[fH];exact ih.tm,fun r'=>by simp only[St.setCells];rw[kQ];exact ih.shape r',fun r' j'=>?_,fun r' hr=>?_⟩
   . simp only[St.setCells];rw[dI];simp only[l7];split
     . rw[ih.cell];split
       . simp[Option.map_map];rfl
       . rfl
     . exact ih.cell r' j'
   . simp only[St.setCells];rw[jH];by_cases e:r=r'
     . have:=hr j;simp[l7,e]at this
     . rw[if_neg e];refine ih.rt r' fun j'=>?_
       have:=hr j';simp only[l7]at this;rw[if_neg (fun hh=>e hh.1)]at this;exact this
theorem Ov.get{g:Gh}{st:St}{w w':World}{F G:Nat->Nat->Prop}:∀(q:List (Nat×Nat×RC)) (i m:Nat) (r j:Nat) (c:RC),Ov g st w w' F G q i->q[m]? = some (r,j,c)->JZ g st w w' r j c (F (i+m)) (G (i+m))/\∀ b,F (i+m) b->g.fp r j b
 | [],_,_,_,_,_,_,h=>by simp at h
 | (r0,j0,c0)::l,i,0,r,j,c,h,hq=>by simp only[amn,amh,amO]at hq;obtain⟨rfl,rfl,rfl⟩:=hq;exact h.1
 | (r0,j0,c0)::l,i,m+1,r,j,c,h,hq=>by have:=Ov.get l (i+1) m r j c h.2 (by simpa using hq);rw[show i+1+m=i+(m+1)by omega]at this;exact this
theorem As:∀(l:List Ln) (r j m:Nat) (n:Ln),K4 r j l=false->l[m]? = some n->¬ (n.r=r/\n.j=j)
 | [],_,_,_,_,_,h=>by simp at h
 | n0::l,r,j,m,n,h,hm=>by
   simp only[K4,an3]at h;cases m with
   | zero=>simp only[amn,amh]at hm;subst hm;rintro⟨rfl,rfl⟩;simp at h
   | succ m=>exact As l r j m n h.2 (by simpa using hm)
theorem xf:∀(l:List Ln) (m m':Nat) (n n':Ln),noTwo l=true->l[m]? = some n->l[m']? = some n'->n.r=n'.r->n.j=n'.j->m=m'
 | [],_,_,_,_,_,h,_,_,_=>by simp at h
 | n0::l,m,m',n,n',h,h1,h2,e1,e2=>by
   simp only[noTwo,ami,am4]at h;cases m with
   | zero=>
     cases m' with
     | zero=>rfl
     | succ m'=>simp only[amn,amh]at h1;subst h1;exact(As l n0.r n0.j m' n' h.1 (by simpa using h2) ⟨e1.symm,e2.symm⟩).elim
   | succ m=>
     cases m' with
     | zero=>simp only[amn,amh]at h2;subst h2;exact(As l n0.r n0.j m n h.1 (by simpa using h1) ⟨e1,e2⟩).elim
     | succ m'=>exact amP (· + 1) (xf l m m' n n' h.2 (by simpa using h1) (by simpa using h2) e1 e2)
theorem gQ.get{g:Gh}{st:St}{F:Nat->Nat->Prop}:∀(l:List Ln) (r:List (K×Value)) (i m:Nat) (n:Ln),gQ g st w F l r i->l[m]? = some n->∀ b,F (i+m) b->g.fp n.r n.j b
 | [],_,_,_,_,_,h=>by simp at h
 | n0::l,p::r,i,0,n,h,hm=>by simp only[amn,amh]at hm;subst hm;exact h.1.sub
 | n0::l,p::r,i,m+1,n,h,hm=>by have:=gQ.get l r (i+1) m n h.2 (by simpa using hm);rw[show i+1+m=i+(m+1)by omega]at this;exact this
 | _::_,[],_,_,_,h,_=>h.elim
theorem xS{st:St}{dst:Option Nat}{Fc:List TV}:∀ {l:List Su} {ay:St},(st.qD dst l Fc).run=some ay->∃ s ns x z y tv q,s∈l/\(lJ s.rs=false/\s.fresh=true)/\noTwo ns=true/\st.cy s.ps Fc=some (ns,x)/\s.v7 x=some (z,y)/\js (tC 0 true s.rs y 0)=some tv/\st.uZ ns (lD s.ps z)=some q/\ay=(st.setCells q).FA dst tv
 | [],ay,h=>by simp[St.qD,Tr.run]at h
 | s::r,ay,h=>by
   have again:(st.qD dst r Fc).run=some ay->∃ s' ns x z y tv q,s'∈s::r/\(lJ s'.rs=false/\s'.fresh=true)/\noTwo ns=true/\st.cy s'.ps Fc=some (ns,x)/\s'.v7 x=some (z,y)/\js (tC 0 true s'.rs y 0)=some tv/\st.uZ ns (lD s'.ps z)=some q/\ay=(st.setCells q).FA dst tv:=fun h=>by obtain⟨s',ns,x,z,y,tv,q,h1,h2⟩:=xS h;exact⟨s',ns,x,z,y,tv,q,amy _ h1,h2⟩
   unfold St.qD at h;cases hq:lJ s.rs|| !s.fresh with
   | true=>rw[hq]at h;exact again h
   | false=>
     rw[hq]at h;simp only[oF]at h;simp only[an3,apa]at hq;split at h
     . rename_i ns x hx;split at h
       . rename_i f hf;cases hn:noTwo ns with
         | false=>rw[hn]at h;simp[Tr.run]at h
         | true=>rw[hn]at h;simp only[oT,Tr.run,anA]at h;obtain⟨⟨z,y⟩,h0,h⟩:=h;obtain⟨tv,h1,h⟩:=Tr.ai h;obtain⟨q,h2,h⟩:=Tr.ai h;simp only[Tr.run,amh]at h;exact⟨s,ns,x,z,y,tv,q,amD ..,hq,hn,hx,by simp[Su.v7,hf,h0],h1,h2,h.symm⟩
       . simp[Tr.run]at h
     . exact again h
theorem SN(eF:dQ P E){g:Gh}{st:St}(h:Rel cx Z g st a w)(hn:cJ st)(dh:Fit cx E a){o:Oper}{dst:Option Nat}(cE:∀ d,dst=some d->kR cx a d)(hd:o.dst=dst){c:Call}{f:Operand}{gid:Nat}{cR:List (Bool×List AV)}{l:List TV}
 (ho:o.op= .call c)(fe:c.callee= .value f)(hg:st.get f=some (.fn gid cR))(hl:st.getAll c.args.toList=some l){ay:St}
 (au:(st.qD dst (E.ga gid) (l++cR.map fun p=>bif p.1 then .agg p.2 else (match p.2 with | [a]=> .v a | _=> .agg p.2))).run=some ay):qd P cx E ay a w o:=by
 have hc:=hn.cons.cons;obtain⟨s,ns,x,z,y,tv,q,hs,⟨E8,yP⟩,Mj,hx,hy,hw,hq,rfl⟩:=xS au;obtain⟨cv,ef,ec⟩:=bg h hc hg;have eQ:=gB.app (jT h hc _ _ hl) (lX _ _ ec);have Pg:c.args.toList.map a.eval++cv.toList=(c.args.map a.eval++cv).toList:=by simp
 rw[Pg]at eQ;obtain⟨F,k1,k2,k3⟩:=o9 h (Z':=Zb Z g st) (fun _ h _=> .inl h) (fun r R hR hb=> .inr ⟨r,R,hR,hb,rfl⟩) s.ps _ _ 0 ns x eQ hx;have kL:∀ i b,F i b->∃ n,ns[i]? = some n/\g.fp n.r n.j b:=fun i b hb=>by
  have aV:i<ns.length:=by have:=(k3 i b hb).2;omega
  have:=gQ.get ns _ 0 i _ k2 (amm aV) b (by rw[amt];exact hb);exact⟨_,amm aV,this⟩
 have ad5:∀ i j b,F i b->F j b->i=j:=fun i j b h1 h2=>by obtain⟨n1,q1,q2⟩:=kL i b h1;obtain⟨n2,q3,q4⟩:=kL j b h2;obtain⟨e1,e2⟩:=h.cS _ _ _ _ b q2 q4;exact xf ns i j n1 n2 Mj q1 q3 e1 e2
 have Uf:=eF.1 gid s hs w (Zb Z g st) F _ x (z,y) (h.gl.mono (oR _) fun b hb _=>⟨.inl hb,rfl⟩) k1 (ZF h) (fun i b hb=>by obtain⟨n,_,q2⟩:=kL i b hb;exact⟨(h.fp _ _ _ q2).1,YG h q2⟩) ad5 hy;have oW:¬ tv.iL:=nk hw;have vU:cJ ((st.setCells q).FA dst tv):=fun t kq ht=>by
  cases dst with
  | none=>have e:(st.setCells q).tm=st.tm:=(je (g:=g) (F:=F) (G:=F) q 0).tm;exact hn t kq (by rw[<- e];exact ht)
  | some d=>
    have e:(st.setCells q).tm=st.tm:=(je (g:=g) (F:=F) (G:=F) q 0).tm;simp only[St.FA]at ht;rw[cC]at ht;split at ht
    . simp only[amh]at ht;subst ht;exact oW
    . exact hn t kq (by rw[<- e];exact ht)
 refine⟨vU,fun next Q hk=>?_⟩;unfold Oper.wp;rw[qf ho fe ef];refine uR Uf ?_;rintro v w' ⟨Z',H,vs,rfl,ha,hio,hr⟩;have hlen:(c.args.map a.eval++cv).toList.length=s.ps.length:=iF _ _ _ _ k1;have Uv:=qX s.ps z _ 0 (nb s.ps _ _ hx) hlen hio;have aa0:∀ i b,H (2 * i) b->(∃ m,F m b)∨w.heap.size<=b:=fun i b hb=>(ha.fp _ b hb).2.2
 have qR:∀(m:Nat) (n:Ln),ns[m]? = some n->∀ b i,F i b->g.fp n.r n.j b->i=m:=fun m n hm b i hi hb=>by obtain⟨n1,q1,q2⟩:=kL i b hi;obtain⟨e1,e2⟩:=h.cS _ _ _ _ b q2 hb;exact xf ns i m n1 n Mj q1 hm e1 e2
 rw[yP]at hr;obtain⟨hQ,Uw⟩:=CI (w:=w) (w':=w') (F:=F) (G:=fun i=>H (2 * i)) ns _ _ 0 q hq k2 Uv fun m n hm=>by
  rw[amt];refine⟨fun b hb hfb=>?_,fun b aV hfb hnF=>ha.block b aV fun i hi=>?_⟩
  . rcases aa0 m b hb with ⟨i,hi⟩ | nM
    . have:=qR m n hm b i hi hfb;rw[<- this];exact hi
    . have:=(h.fp _ _ _ hfb).1;omega
  . have:=qR m n hm b i hi hfb;exact hnF (this ▸ hi)
 have iw:∀(m r j:Nat) (c':RC),q[m]? = some (r,j,c')->∃ n:Ln,ns[m]? = some n/\n.r=r/\n.j=j:=fun m r j c' hm=>by
  have h1:(q.map (fun q=>(q.1,q.2.1)))[m]? = some (r,j):=by rw[amX,hm];rfl
  rw[Uw,amX]at h1;cases hm2:ns[m]? with
  | none=>rw[hm2]at h1;simp at h1
  | some n=>rw[hm2]at h1;simp only[amI,amh,amO]at h1;exact⟨n,rfl,h1.1,h1.2⟩
 have Ux:∀(m:Nat) (n:Ln),ns[m]? = some n->∃ p,l7 g F (fun i=>H (2 * i)) q 0 n.r n.j=some p:=fun m n hm=>by
  have h1:(ns.map fun n=>(n.r,n.j))[m]? = some (n.r,n.j):=by rw[amX,hm];rfl
  rw[<- Uw,amX]at h1;cases hm2:q[m]? with
  | none=>rw[hm2]at h1;simp at h1
  | some c'=>obtain⟨r1,j1,c1⟩:=c';rw[hm2]at h1;simp only[amI,amh,amO]at h1;obtain⟨rfl,rfl⟩:=h1;exact wk q 0 m _ _ c1 hm2
 have Uy:=je (g:=g) (F:=F) (G:=fun i=>H (2 * i)) (st:=st) q 0
 obtain⟨hR,hM⟩:=h.vz Uy ha.os ha.tape ha.output ha.size
  (fun r j p hp=>by obtain⟨m,e1,e2⟩:=fA q 0 r j p hp;obtain⟨⟨c0,e,ks,xs,rW,f1,f2,f3,f4,f5,f6,f7⟩,_⟩:=Ov.get q 0 m r j p.1 hQ e1;exact⟨c0,f1,f2,f3,e,ks,xs,rW,f4,f5,f6,by rw[e2];exact f7⟩)
  (fun r j p hp b hb=>by
    obtain⟨m,e1,e2⟩:=fA q 0 r j p hp;rw[e2]at hb;rcases hb with ⟨hb,_⟩ | hb
    . obtain⟨t1,t2,t3,_⟩:=h.fp r j b hb;exact⟨amG t1 ha.size,.inl ⟨r,j,p,hp,hb⟩,t3⟩
    . obtain⟨t1,t2,t3⟩:=ha.fp _ b hb;refine⟨t1,?_,fun hz=>t2 (ha.z b (.inl hz))⟩;rcases t3 with ⟨i,hi⟩ | nM
      . obtain⟨n,q1,q2⟩:=kL i b hi;obtain⟨p0,BZ⟩:=Ux i n q1;exact .inl ⟨n.r,n.j,p0,BZ,q2⟩
      . exact .inr nM)
  (fun r j p r' j' p' b hp hp' hb cz=>by
    obtain⟨m,e1,e2⟩:=fA q 0 r j p hp;obtain⟨m',e1',e2'⟩:=fA q 0 r' j' p' hp';rw[e2]at hb;rw[e2']at cz;rw[amt]at hb cz;have cross:∀ m r j c1 i,q[m]? = some (r,j,c1)->g.fp r j b->¬ F m b->H (2 * i) b->False:=fun m r j c1 i e1 k1 k2 k3=>by
     obtain⟨n,t1,t2,t3⟩:=iw m r j c1 e1;rcases aa0 i b k3 with ⟨i',wa⟩ | nM
     . have:=qR m n t1 b i' wa (by rw[t2,t3];exact k1);exact k2 (this ▸ wa)
     . have:=(h.fp _ _ _ k1).1;omega
    rcases hb with ⟨hb,l6⟩ | hb
    . rcases cz with ⟨cz,_⟩ | cz
      . exact h.cS _ _ _ _ b hb cz
      . exact(cross m r j _ m' e1 hb l6 cz).elim
    . rcases cz with ⟨cz,alG⟩ | cz
      . exact(cross m' r' j' _ m e1' cz alG hb).elim
      . have:=ha.cS _ _ b hb cz;have hmm:m=m':=by omega
        subst hmm;rw[e1]at e1';simp only[amh,amO]at e1';exact⟨e1'.1,e1'.2.1⟩)
  (fun b aV B0=>ha.block b aV fun i hi=>by obtain⟨n,q1,q2⟩:=kL i b hi;obtain⟨p0,BZ⟩:=Ux i n q1;exact B0 _ _ p0 BZ q2)
 rw[hd];cases dst with
 | none=>exact hk _ _ _ _ hR dh
 | some d=>exact hk _ _ _ _ (hR.nS (cE d rfl) (gq (lY _ _ _ _ hr (fun hh=>by simp at hh) (fun _=>E8)) hw)) (dh.put _ _)
end
section
variable{P:Program}{cx:Cx P}{Z Z2:Nat->Prop}{g:Gh}{st ay:St}{a:Act}{w w':World}{E:En}
def Gh.GC(g:Gh)(r:Nat)(cv:Nat->Value)(fp:Nat->Nat->Prop):Gh:=⟨g.be,fun r' j=>if r'=r then cv j else g.cv r' j,fun r' j b=>if r'=r then fp j b else g.fp r' j b⟩
theorem Rel.yX(h:Rel cx Z g st a w){r:Nat}{R:Rt}(hR:look st.rt r=some R)(hb:R.box=true):g.be r<w.heap.size:=by obtain⟨_,_,_,_,cs,el,fr,b5,_⟩:=h.box r R hR hb;exact(amK.1 b5).1
theorem Rel.ahE(h:Rel cx Z g st a w){r:Nat}{R R':Rt}{cv:Nat->Value}{fp:Nat->Nat->Prop}(hR:look st.rt r=some R)(hb:R.box=true)(cz:R'.box=true)(hlen:R'.cells.length=R.cells.length)(Fq:ay.tm=st.tm)
 (Fp:∀ r',look ay.rt r'=if r'=r then some R' else look st.rt r')(h1:w'.os=w.os)(h2:w'.tape=w.tape)(h3:w'.output=w.output)(dh:w.heap.size<=w'.heap.size)
 (Uq:∀(j:Nat) (c c':RC),R.cells[j]? = some c->R'.cells[j]? = some c'->c.s<c'.s/\c.m<c'.m)
 (hz:∀ b,Z b->Z2 b)(Mi:∀ b,Z2 b->b<w'.heap.size/\(Z b∨w.heap.size<=b))
 (Fb:∃ vs e fr,w'.heap[g.be r]? = some (.cells vs e fr)/\(∀ q,q<vs.size->¬ (fr.1<=q/\q<fr.2))/\vs.size=R'.cells.length/\∀ j,j<vs.size->vs[j]? = some (cv j))
 (bD:∀(j:Nat) (c':RC),R'.cells[j]? = some c'->match c'.v with | RV.own k x=>dG w' k x (cv j) (fp j) | .av (.d k x)=>RO Z2 w' k x (cv j) | .av _=>False)
 (hF:∀ j b,fp j b->b<w'.heap.size/\((∃ j0,g.fp r j0 b)∨w.heap.size<=b)/\¬ Z2 b/\b≠g.be r/\∃(c':RC) (k:K) (x:T k),R'.cells[j]? = some c'/\c'.v=RV.own k x)
 (hd:∀ j j' b,fp j b->fp j' b->j=j')
 (lE:∀ b,b<w.heap.size->b≠g.be r->(∀ j,¬ g.fp r j b)->w'.heap[b]? = w.heap[b]?):Rel cx Z2 (g.GC r cv fp) ay a w':=by
 have vW:=h.yX hR hb;obtain⟨c1,c2,c3,c4,_⟩:=h.box r R hR hb;have hzn:∀ b,b<w.heap.size->Z2 b->Z b:=fun b aV hh=>(Mi b hh).2.elim id fun hh=>by omega
 have hzw:∀ b,Z b->b<w.heap.size->w'.heap[b]? = w.heap[b]? :=fun b hb aV=>lE b aV (fun e=>c2 (e ▸ hb)) fun j hh=>(h.fp _ _ _ hh).2.2.1 hb
 have H6:∀ r' j b,r'≠r->g.fp r' j b->w'.heap[b]? = w.heap[b]? :=fun r' j b hn cz=>lE b (h.fp r' j b cz).1 (fun e=>c3 r' j (e ▸ cz)) fun j0 hh=>hn (h.cS _ _ _ _ _ cz hh).1
 have Fh:∀ r' j,ay.cell r' j=if r'=r then R'.cells[j]? else st.cell r' j:=fun r' j=>by simp only[St.cell,Fp];by_cases e:r'=r <;> simp[e]
 have hcr:∀ j,st.cell r j=R.cells[j]? :=fun j=>by simp only[St.cell,hR]
 have k:nW Z Z2 w w' g (g.GC r cv fp) st ay:=by
  refine { size:=dh,z:=fun b hb aV=>⟨hz b hb,hzw b hb aV⟩,root:=fun r' R0 H7=>?_,cell:=fun r' j c hc=>?_,own:=fun r' j b hb=>(h.fp r' j b hb).1,block:=(fY h (ay:=st) (w':=w) rfl rfl).block }
  . rw[Fp];by_cases e:r'=r
    . subst e;rw[if_pos rfl];rw[hR]at H7;cases H7;exact⟨R',rfl,cz.trans hb.symm,fun _=>rfl⟩
    . rw[if_neg e];exact⟨R0,H7,rfl,fun _=>rfl⟩
  . rw[Fh];by_cases e:r'=r
    . subst e;rw[if_pos rfl];rw[hcr]at hc;have aV:j<R'.cells.length:=by rw[hlen];exact(amQ.1 hc).1
      obtain⟨v1,v2⟩:=Uq j c _ hc (amm aV);exact⟨_,amm aV,by omega,by omega,fun e=>absurd e (by omega),fun e=>absurd e (by omega),fun e=>absurd e (by omega)⟩
    . rw[if_neg e];exact⟨c,hc,oR _,oR _,fun _=>by simp only[Gh.GC];rw[if_neg e],fun _ e ks xs hh=>⟨xs,hh,rfl⟩,fun _ _=>⟨rfl,fun b hb _=>⟨by simp only[Gh.GC];rw[if_neg e];exact hb,H6 r' j b e hb⟩⟩⟩
 have qQ:∀ r' j b,(g.GC r cv fp).fp r' j b->(r'=r/\fp j b)∨(r'≠r/\g.fp r' j b):=fun r' j b hh=>by
  have Ve:(if r'=r then fp j b else g.fp r' j b):=hh;by_cases e:r'=r
  . rw[if_pos e]at Ve;exact .inl ⟨e,Ve⟩
  . rw[if_neg e]at Ve;exact .inr ⟨e,Ve⟩
 have U6:∀ r' R0,look st.rt r'=some R0->R0.box=true->∀ r1 j1,¬ (g.GC r cv fp).fp r1 j1 (g.be r'):=fun r' R0 H7 hx r1 j1 hh=>by
  obtain⟨d1,d2,d3,d4,_⟩:=h.box r' R0 H7 hx;have aV:=h.yX H7 hx;rcases qQ _ _ _ hh with ⟨_,hh⟩ | ⟨_,hh⟩
  . obtain⟨f1,f2,f3,f4,_⟩:=hF _ _ hh;rcases f2 with ⟨j0,f2⟩ | f2
    . exact d3 _ _ f2
    . omega
  . exact d3 _ _ hh
 refine { os:=h1.trans h.os,tape:=h2.trans h.tape,output:=h3.trans h.output,size:=amp h.size dh,block:=?_,cq:=fun b hb=>⟨(Mi b hb).1,(Mi b hb).2.elim (fun hh=>(h.cq b hh).2) fun hh=> .inr (amp h.size hh)⟩,z0:=fun b hb aV=>hz b (h.z0 b hb aV),fp:=?_,cS:=?_,box:=?_,cell:=?_,tm:=?_,defers:=h.defers,nz:=h.nz }
 . intro b aV hf;refine(lE b (amG aV h.size) (fun e=>?_) fun j hh=>?_).trans (h.block b aV hf)
   . rcases c1 with c1 | c1
     . exact hf (e ▸ c1)
     . omega
   . rcases(h.fp _ _ _ hh).2.1 with h4 | h4
     . exact hf h4
     . omega
 . intro r' j b hh;rcases qQ _ _ _ hh with ⟨e,hk⟩ | ⟨e,hh⟩
   . subst e;obtain⟨f1,f2,f3,f4,c',kk,x,f5,f6⟩:=hF _ _ hk;refine⟨f1,?_,f3,c',kk,x,by rw[Fh,if_pos rfl];exact f5,f6⟩;rcases f2 with ⟨j0,f2⟩ | f2
     . exact(h.fp _ _ _ f2).2.1
     . exact .inr (amp h.size f2)
   . obtain⟨k1,k2,k3,c,kk,x,k4,k5⟩:=h.fp _ _ _ hh;exact⟨amG k1 dh,k2,fun hh=>k3 (hzn b k1 hh),c,kk,x,by rw[Fh,if_neg e];exact k4,k5⟩
 . intro r1 j1 r2 j2 b yQ l6;rcases qQ _ _ _ yQ with ⟨e1,k1⟩ | ⟨e1,k1⟩
   . rcases qQ _ _ _ l6 with ⟨e2,k2⟩ | ⟨e2,k2⟩
     . exact⟨e1.trans e2.symm,hd _ _ b k1 k2⟩
     . exfalso;rcases(hF _ _ k1).2.1 with ⟨j0,hh⟩ | hh
       . exact e2 (h.cS _ _ _ _ _ k2 hh).1
       . have:=(h.fp _ _ _ k2).1;omega
   . rcases qQ _ _ _ l6 with ⟨e2,k2⟩ | ⟨e2,k2⟩
     . exfalso;rcases(hF _ _ k2).2.1 with ⟨j0,hh⟩ | hh
       . exact e1 (h.cS _ _ _ _ _ k1 hh).1
       . have:=(h.fp _ _ _ k1).1;omega
     . exact h.cS _ _ _ _ _ k1 k2
 . intro r' R0 H7 hx;rw[Fp]at H7;by_cases e:r'=r
   . subst e;rw[if_pos rfl]at H7;cases H7;obtain⟨vs,el,fr,w1,w2,w3,w4⟩:=Fb;refine⟨c1,fun hh=>c2 (hzn _ vW hh),U6 _ R hR hb,fun r1 R1 Vb hx1 he=>?_,vs,el,fr,w1,w2,w3,fun j hj=>by rw[w4 j hj];simp[Gh.GC]⟩;rw[Fp]at Vb;by_cases e1:r1=r'
     . exact e1
     . rw[if_neg e1]at Vb;exact c4 r1 R1 Vb hx1 he
   . rw[if_neg e]at H7;obtain⟨d1,d2,d3,d4,cs,el,fr,b5,b6,b7,b8⟩:=h.box r' R0 H7 hx;have aV:=h.yX H7 hx;refine⟨d1,fun hh=>d2 (hzn _ aV hh),U6 _ R0 H7 hx,fun r1 R1 Vb hx1 he=>?_,cs,el,fr,?_,b6,b7,fun j hj=>by rw[b8 j hj];simp only[Gh.GC];rw[if_neg e]⟩
     . rw[Fp]at Vb;by_cases e1:r1=r
       . subst e1;exact d4 r1 R hR hb he
       . rw[if_neg e1]at Vb;exact d4 r1 R1 Vb hx1 he
     . show w'.heap[g.be r']? = _;rw[lE _ aV (fun he=>e (c4 r' R0 H7 hx he)) fun j hh=>d3 _ _ hh];exact b5
 . intro r' j c hc;rw[Fh]at hc;by_cases e:r'=r
   . subst e;rw[if_pos rfl]at hc;have h5:=bD j c hc;have e1:(g.GC r' cv fp).cv r' j=cv j:=by simp[Gh.GC]
     have e2:(g.GC r' cv fp).fp r' j=fp j:=by funext b;simp[Gh.GC]
     rw[e1,e2];cases hv:c.v with
     | own kk x=>rw[hv]at h5;exact h5
     | av av0=>rw[hv]at h5;cases av0 <;> first | exact h5 | exact h5.elim
   . rw[if_neg e]at hc;have e1:(g.GC r cv fp).cv r' j=g.cv r' j:=by simp[Gh.GC,e]
     have e2:(g.GC r cv fp).fp r' j=g.fp r' j:=by funext b;simp[Gh.GC,e]
     rw[e1,e2];exact lh.cI k _ _ _ _ (h.cell r' j c hc) (fun _ h=>h) (fun b hb _=>H6 r' j b e hb)
 . intro t tv ht;rw[Fq]at ht;exact⟨(h.tm t tv ht).1,bW.cI k _ _ (h.tm t tv ht).2⟩
end
section
variable{P:Program}{cx:Cx P}{Z:Nat->Prop}{g:Gh}{st:St}{a:Act}{w:World}{E:En}
theorem Db{cs:List (Bool×K)}{ps:List PK}{tv:TV}{r:List TV}{p:Option (Nat×List RC)×PT (.pw cs::ps)}(h:st.cG (.pw cs::ps) (tv::r)=some p) :
 ∃ q l0 z y,tv= .v (.ptr q 0)/\look st.rt q=some ⟨true,l0⟩/\l0.length<=200000/\eS st cs l0=some z/\st.cG ps r=some (none,y)/\p.1=some (q,l0)/\p.2=(z,y):=by
 cases tv with
 | v av=>
   cases av with
   | ptr q j=>
     cases j with
     | zero=>
       simp only[St.cG]at h;split at h
       . rename_i l0 hl;cases hb:Nat.ble l0.length 200000 with
         | false=>rw[hb]at h;simp at h
         | true=>
           rw[hb]at h;simp only[oT]at h;split at h
           . rename_i z y hz hy;cases h;exact⟨q,l0,z,y,rfl,hl,amE hb,hz,hy,rfl,rfl⟩
           . simp at h
       . simp at h
     | succ j=>simp[St.cG]at h
   | _=>simp[St.cG]at h
 | _=>simp[St.cG]at h
theorem qn(h:Rel cx Z g st a w):∀(ps:List PK) (l:List TV) (vs:List Value) (x:PT ps) (F:Nat->Nat->Prop) (i:Nat),gB Z g st w l vs->st.cG ps l=some (none,x)->ej Z w F ps x vs i
 | [],[],[],_,_,_,_,_=>trivial
 | [],[],_::_,_,_,_,h1,_=>h1.elim
 | [],_::_,_,_,_,_,_,h2=>by simp[St.cG]at h2
 | .c gg ks::ps,[],_,x,F,i,h1,h2=>by simp[St.cG]at h2
 | .c gg ks::ps,tv::r,[],x,F,i,h1,h2=>h1.elim
 | .c gg ks::ps,tv::r,v::vs,x,F,i,h1,h2=>by
   unfold St.cG at h2;cases hl:tv.dw with
   | none=>rw[hl]at h2;simp at h2
   | some p=>
     obtain⟨BY,l⟩:=p;rw[hl]at h2;simp only at h2;cases hb:cw gg BY&&l.all AV.bV with
     | false=>rw[hb]at h2;simp at h2
     | true=>
       rw[hb]at h2;simp only[oT]at h2;simp only[ami]at hb;have hg:=eL hb.1;subst hg;split at h2
       . rename_i z q hz hq;obtain⟨q1,q2⟩:=q;cases h2;obtain⟨us,e1,e2⟩:=iD (lS h1.1 hl);exact⟨⟨us,e1,dH h ks l us z e2 hb.2 hz⟩,qn h ps r vs _ F i h1.2 hq⟩
       . simp at h2
 | .fn f cs::ps,[],_,x,F,i,h1,h2=>by simp[St.cG]at h2
 | .fn f cs::ps,tv::r,[],x,F,i,h1,h2=>h1.elim
 | .fn f cs::ps,tv::r,v::vs,x,F,i,h1,h2=>by
   cases tv with
   | fn f' cR=>
     unfold St.cG at h2;cases hb:Nat.beq f f' with
     | false=>rw[hb]at h2;simp at h2
     | true=>
       rw[hb]at h2;simp only[oT]at h2;have hf:=beq_eq hb;subst hf;split at h2
       . rename_i z q hz hq;obtain⟨q1,q2⟩:=q;cases h2;obtain⟨us,e1,e2⟩:=h1.1;exact⟨⟨us,e1,mZ h (fun _ h _=>h) (fun hh=>by simp at hh) cs cR us.toList z e2 hz⟩,qn h ps r vs _ F i h1.2 hq⟩
       . simp at h2
   | _=>simp[St.cG]at h2
 | .pw cs::ps,[],_,x,F,i,h1,h2=>by simp[St.cG]at h2
 | .pw cs::ps,tv::r,_,x,F,i,h1,h2=>by obtain⟨q,l0,z,y,_,_,_,_,_,hh,_⟩:=Db h2;cases hh
 | .pt _::_,_,_,x,F,i,h1,h2=>by simp[St.cG]at h2
 | .nil::_,_,_,x,F,i,h1,h2=>by simp[St.cG]at h2
 | .io _ _::_,_,_,x,F,i,h1,h2=>by simp[St.cG]at h2
 | .mv _::_,_,_,x,F,i,h1,h2=>by simp[St.cG]at h2
theorem adq(h:Rel cx Z g st a w){q:Nat}{cs:List (Bool×K)}{l0:List RC}{z:BT cs}(e2:look st.rt q=some ⟨true,l0⟩)(e4:eS st cs l0=some z):XA Z w (Fam g st ((q,200000)::dW q cs 0)) cs z (.pointer (some ⟨g.be q,0,none⟩)) 0:=by
 obtain⟨b1,b2,b3,b4,us,el,fr,b5,b6,b7,b8⟩:=h.box q _ e2 rfl;have bD:∀ j c,l0[j]? = some c->st.cell q j=some c:=fun j c hj=>by simp only[St.cell,e2];exact hj
 have ahX:=np h (r:=q) ((q,200000)::dW q cs 0) cs l0 z 0 us.toList [(q,200000)] [] (fun j c hj=>by rw[amt];exact bD j c hj) (by rw[amT];exact b7) (fun j u hj=>by
  rw[amt];have BP:j<us.size:=by have:=(amQ.1 hj).1;simpa using this
  have:=b8 j BP;rw[<- aml,hj]at this;exact am5 this) e4 (by simp)
 exact⟨g.be q,us,el,fr,rfl,b5,b6,⟨_,rfl,.inr ⟨rfl,⟨_,e2,rfl⟩,rfl⟩⟩,ahX⟩
theorem qF(h:Rel cx Z g st a w):∀(ps:List PK) (l:List TV) (vs:List Value) (x:PT ps) (q:Nat) (l0:List RC),gB Z g st w l vs->st.cG ps l=some (some (q,l0),x) ->
 ∃(cs:List (Bool×K)) (z0:BT cs),look st.rt q=some ⟨true,l0⟩/\l0.length<=200000/\eS st cs l0=some z0/\ej Z w (Fam g st ((q,200000)::dW q cs 0)) ps x vs 0 /\
  ∀(Z':Nat->Prop) (w':World) (G:Nat->Nat->Prop) (y:uy ps),xm Z' w' G ps y vs 0->∃ z:BT cs,jL ps y=cf cs z/\XA Z' w' G cs z (.pointer (some ⟨g.be q,0,none⟩)) 0
 | [],[],_,_,_,_,_,h2=>by simp only[St.cG]at h2;cases h2
 | [],_::_,_,_,_,_,_,h2=>by simp[St.cG]at h2
 | .c gg ks::ps,[],_,x,q,l0,h1,h2=>by simp[St.cG]at h2
 | .c gg ks::ps,tv::r,[],x,q,l0,h1,h2=>h1.elim
 | .c gg ks::ps,tv::r,v::vs,x,q,l0,h1,h2=>by
   unfold St.cG at h2;cases hl:tv.dw with
   | none=>rw[hl]at h2;simp at h2
   | some p=>
     obtain⟨BY,l⟩:=p;rw[hl]at h2;simp only at h2;cases hb:cw gg BY&&l.all AV.bV with
     | false=>rw[hb]at h2;simp at h2
     | true=>
       rw[hb]at h2;simp only[oT]at h2;simp only[ami]at hb;have hg:=eL hb.1;subst hg;split at h2
       . rename_i z p hz hq;obtain⟨q1,q2⟩:=p;cases h2;obtain⟨us,e1,e2⟩:=iD (lS h1.1 hl);obtain⟨cs,z0,k1,k2,k3,k4,k5⟩:=qF h ps r vs _ q l0 h1.2 hq;exact⟨cs,z0,k1,k2,k3,⟨⟨us,e1,dH h ks l us z e2 hb.2 hz⟩,k4⟩,fun Z' w' G y hy=>k5 Z' w' G y hy⟩
       . simp at h2
 | .fn f cs::ps,[],_,x,q,l0,h1,h2=>by simp[St.cG]at h2
 | .fn f cs::ps,tv::r,[],x,q,l0,h1,h2=>h1.elim
 | .fn f cs::ps,tv::r,v::vs,x,q,l0,h1,h2=>by
   cases tv with
   | fn f' cR=>
     unfold St.cG at h2;cases hb:Nat.beq f f' with
     | false=>rw[hb]at h2;simp at h2
     | true=>
       rw[hb]at h2;simp only[oT]at h2;have hf:=beq_eq hb;subst hf;split at h2
       . rename_i z p hz hq;obtain⟨q1,q2⟩:=p;cases h2;obtain⟨us,e1,e2⟩:=h1.1;obtain⟨fT,z0,k1,k2,k3,k4,k5⟩:=qF h ps r vs _ q l0 h1.2 hq;exact⟨fT,z0,k1,k2,k3,⟨⟨us,e1,mZ h (fun _ h _=>h) (fun hh=>by simp at hh) cs cR us.toList z e2 hz⟩,k4⟩,fun Z' w' G y hy=>k5 Z' w' G y hy⟩
       . simp at h2
   | _=>simp[St.cG]at h2
 | .pw cs::ps,[],_,x,q,l0,h1,h2=>by simp[St.cG]at h2
 | .pw cs::ps,tv::r,[],x,q,l0,h1,h2=>h1.elim
 | .pw cs::ps,tv::r,v::vs,x,q,l0,h1,h2=>by obtain⟨q',l0',z,y,e1,e2,e3,e4,e5,e6,e7⟩:=Db h2;simp only[amh,amO]at e6;obtain⟨rfl,rfl⟩:=e6;have e7:x=(z,y):=e7;subst e7;subst e1;obtain⟨R,r1,r2,rfl⟩:=h1.1;exact⟨cs,z,e2,e3,e4,⟨adq h e2 e4,qn h ps r vs y _ _ h1.2 e5⟩,fun Z' w' G y hy=>⟨y.1,rfl,hy.1⟩⟩
 | .pt _::_,_,_,x,q,l0,h1,h2=>by simp[St.cG]at h2
 | .nil::_,_,_,x,q,l0,h1,h2=>by simp[St.cG]at h2
 | .io _ _::_,_,_,x,q,l0,h1,h2=>by simp[St.cG]at h2
 | .mv _::_,_,_,x,q,l0,h1,h2=>by simp[St.cG]at h2
def I0(st:St)(q:Nat)(l0:List RC)(ps:List PK)(z:uy ps):St:=⟨st.tm,(q,⟨true,kt l0 (jL ps z)⟩)::st.rt⟩
theorem xT{st:St}{dst:Option Nat}{Fc:List TV}:∀ {l:List Su} {ay:St},(st.wV dst l Fc).run=some ay->∃ s q l0 x z y,s∈l/\st.cG s.ps Fc=some (some (q,l0),x)/\s.v7 x=some (z,y)/\((dst=none/\ay=I0 st q l0 s.ps z)∨∃ d p,dst=some d/\fc d s y=some p/\((s.fresh&&lJ s.rs)=true->(I0 st q l0 s.ps z).free d=true)/\ay=(I0 st q l0 s.ps z).ba d p)
 | [],ay,h=>by simp[St.wV,Tr.run]at h
 | s::r,ay,h=>by
   unfold St.wV at h;split at h
   . rename_i q l0 x hx;split at h
     . rename_i f hf;simp only[Tr.run,anA]at h;obtain⟨⟨z,y⟩,h0,h⟩:=h;refine⟨s,q,l0,x,z,y,amD ..,hx,by simp[Su.v7,hf,h0],?_⟩;cases dst with
       | none=>simp only[Tr.run,amh]at h;exact .inl ⟨rfl,h.symm⟩
       | some d=>
         obtain⟨p,h1,h⟩:=Tr.ai h;refine .inr ⟨d,p,rfl,h1,?_⟩;cases hq: !(s.fresh&&lJ s.rs)||St.free ⟨st.tm,(q,⟨true,kt l0 (jL s.ps z)⟩)::st.rt⟩ d with
         | false=>rw[hq]at h;simp[Tr.run]at h
         | true=>rw[hq]at h;simp only[oT,Tr.run,amh]at h;refine⟨fun hh=>?_,h.symm⟩;rw[hh]at hq;exact hq
     . simp[Tr.run]at h
   . obtain⟨s',q,l0,x,z,y,h1,h2⟩:=xT h;exact⟨s',q,l0,x,z,y,amy _ h1,h2⟩
theorem uY(r:Nat):∀(cs:List (Bool×K)) (j m:Nat) (nm:Nat×Nat),(dW r cs j)[m]? = some nm->nm=(r,j+m)/\m<cs.length
 | [],_,_,_,h=>by simp[dW]at h
 | _::cs,j,0,nm,h=>by simp only[dW,amn,amh]at h;exact⟨h.symm,by simp⟩
 | _::cs,j,m+1,nm,h=>by obtain⟨h1,h2⟩:=uY r cs (j+1) m nm (by simpa[dW]using h);exact⟨by rw[h1,show j+1+m=j+(m+1)by omega],by simpa using h2⟩
theorem Xf(h:Rel cx Z g st a w){q:Nat}{cs:List (Bool×K)}{l0:List RC}(e1:look st.rt q=some ⟨true,l0⟩)(e2:l0.length<=200000)(Il:l0.length=cs.length){F:Nat->Nat->Prop}(hF:Fam g st ((q,200000)::dW q cs 0)=F) :
 (∀ i b,F i b->(i=0/\b=g.be q)∨(∃ j,i=1+j/\j<l0.length/\g.fp q j b))/\∀ i j b,F i b->F j b->i=j:=by
 obtain⟨b1,b2,b3,b4,_⟩:=h.box q _ e1 rfl;have kL:∀ i b,F i b->(i=0/\b=g.be q)∨(∃ j,i=1+j/\j<l0.length/\g.fp q j b):=fun i b hb=>by
  rw[<- hF]at hb;obtain⟨nm,n1,n2⟩:=hb;cases i with
  | zero=>
    simp only[amn,amh]at n1;subst n1;rcases n2 with n2 | ⟨_,_,n2⟩
    . exfalso;obtain⟨_,_,_,c0,_,_,n3,_⟩:=h.fp _ _ _ n2;simp only[St.cell,e1]at n3;have:=(amQ.1 n3).1;omega
    . exact .inl ⟨rfl,n2⟩
  | succ j=>
    rw[am7]at n1;obtain⟨rfl,n3⟩:=uY q cs 0 j nm n1;rw[amt]at n2;rcases n2 with n2 | ⟨n4,_,_⟩
    . exact .inr ⟨j,by omega,by omega,n2⟩
    . simp only at n4;omega
 refine⟨kL,fun i j b h1 h2=>?_⟩;rcases kL i b h1 with ⟨i1,i2⟩ | ⟨i1,i2,_,i3⟩
 . rcases kL j b h2 with ⟨j1,j2⟩ | ⟨j1,j2,_,j3⟩
   . omega
   . exact(b3 _ _ (i2 ▸ j3)).elim
 . rcases kL j b h2 with ⟨j1,j2⟩ | ⟨j1,j2,_,j3⟩
   . exact(b3 _ _ (j2 ▸ i3)).elim
   . have:=(h.cS _ _ _ _ b i3 j3).2;omega
theorem CX:∀(l r:List RC),l.length=r.length->(kt l r).length=l.length
 | [],[],_=>rfl
 | _::l,_::r,h=>amP (· + 1) (CX l r (by simpa using h))
 | [],_::_,h=>by simp at h
 | _::_,[],h=>by simp at h
theorem rE:∀(l r:List RC) (j:Nat) (c':RC),(kt l r)[j]? = some c'->∃ c d,l[j]? = some c/\r[j]? = some d/\c'=⟨c.s+1,c.m+1,d.v⟩
 | [],_,_,_,h=>by simp[kt]at h
 | _::_,[],_,_,h=>by simp[kt]at h
 | c::l,d::r,0,c',h=>by simp only[kt,amn,amh]at h;exact⟨c,d,rfl,rfl,h.symm⟩
 | c::l,d::r,j+1,c',h=>by obtain⟨c0,d0,h1,h2,h3⟩:=rE l r j c' (by simpa[kt]using h);exact⟨c0,d0,by simpa using h1,by simpa using h2,h3⟩
theorem RW(eF:dQ P E){g:Gh}{st:St}(h:Rel cx Z g st a w)(hn:cJ st)(dh:Fit cx E a){o:Oper}{dst:Option Nat}(cE:∀ d,dst=some d->kR cx a d)(hd:o.dst=dst){c:Call}{f:Operand}{gid:Nat}{cR:List (Bool×List AV)}{l:List TV}
 (ho:o.op= .call c)(fe:c.callee= .value f)(hg:st.get f=some (.fn gid cR))(hl:st.getAll c.args.toList=some l){ay:St}
 (au:(st.wV dst (E.ga gid) (l++cR.map fun p=>bif p.1 then .agg p.2 else (match p.2 with | [a]=> .v a | _=> .agg p.2))).run=some ay):qd P cx E ay a w o:=by
 have hc:=hn.cons.cons;obtain⟨s,q,l0,x,z,y,hs,hx,hy,hw⟩:=xT au;obtain⟨cv,ef,ec⟩:=bg h hc hg;have eQ:=gB.app (jT h hc _ _ hl) (lX _ _ ec);have Pg:c.args.toList.map a.eval++cv.toList=(c.args.map a.eval++cv).toList:=by simp
 rw[Pg]at eQ;obtain⟨cs,z0,e1,e2,e3,k1,k2⟩:=qF h s.ps _ _ x q l0 eQ hx;obtain⟨b1,b2,b3,b4,us0,el0,fr0,b5,b6,b7,b8⟩:=h.box q _ e1 rfl;have vW:g.be q<w.heap.size:=h.yX e1 rfl;have Il:l0.length=cs.length:=by rw[(nu cs l0 z0 e3).1,mC]
 generalize hF:Fam g st ((q,200000)::dW q cs 0)=F at k1;obtain⟨kL,ad5⟩:=Xf h e1 e2 Il hF;have OS:∀ i b,F i b->b<w.heap.size/\¬ Z b:=fun i b hb=>by
  rcases kL i b hb with ⟨_,i2⟩ | ⟨_,_,_,i3⟩
  . rw[i2];exact⟨vW,b2⟩
  . exact⟨(h.fp _ _ _ i3).1,(h.fp _ _ _ i3).2.2.1⟩
 have Uf:=eF.1 gid s hs w Z F _ x (z,y) h.gl k1 (fun b hb=>(h.cq b hb).1) OS ad5 hy;have alH:∀ d p,fc d s y=some p->¬ p.1.iL:=fun d p hp=>by
  unfold fc at hp;split at hp
  . rename_i tv hw;simp only[amh]at hp;subst hp;exact nk hw
  . simp at hp
 refine⟨fun t kq ht=>?_,fun next Q hk=>?_⟩
 . rcases hw with ⟨_,rfl⟩ | ⟨d,p,_,hp,_,rfl⟩
   . exact hn t kq ht
   . rw[cC]at ht;split at ht
     . simp only[amh]at ht;subst ht;exact alH _ _ hp
     . exact hn t kq ht
 unfold Oper.wp;rw[qf ho fe ef];refine uR Uf ?_;rintro v w' ⟨Z',H,vs,rfl,ha,hio,hr⟩;obtain⟨z1,q1,b,us,el,fr,q2,q3,q4,q5,q6⟩:=k2 Z' w' _ _ hio;simp only[Value.pointer.injEq,amh,anJ,anQ]at q2;subst q2;have Un:=mC cs z1;have xx:=uD cs z1 us.toList (0+1) q6;rw[amT]at xx;have hbl:(kt l0 (cf cs z1)).length=l0.length:=CX _ _ (by rw[Un];exact Il);have q1:jL s.ps z=cf cs z1:=q1
 have hR:=h.ahE (Z2:=Z') (ay:=I0 st q l0 s.ps z) (w':=w') (r:=q) (R':=⟨true,kt l0 (cf cs z1)⟩) (cv:=fun j=>us.toList.getD j undef) (fp:=fun j b=>(∃ k y,(cf cs z1)[j]? = some ⟨0,0,.own k y⟩)/\H (2 * (0+1+j)) b) e1 rfl rfl hbl rfl
  (fun r'=>by
    show look ((q,(⟨true,kt l0 (jL s.ps z)⟩:Rt))::st.rt) r'=_;rw[q1,aN];by_cases e:q=r'
    . rw[if_pos e,if_pos e.symm]
    . rw[if_neg e,if_neg (fun hh=>e hh.symm)]) ha.os ha.tape ha.output ha.size
  (fun j c c' h1 h2=>by obtain⟨c0,d0,m1,m2,rfl⟩:=rE _ _ _ _ h2;have h1:l0[j]? = some c:=h1;rw[h1]at m1;cases m1;exact⟨ani _,ani _⟩) ha.z ha.cq
  ⟨us,el,fr,q3,q4,by show us.size=(kt _ _).length;rw[hbl,xx,Il],fun j hj=>by
    rw[<- aml];have BP:j<us.toList.length:=by simpa using hj
    rw[List.getD,amm BP];rfl⟩
  (fun j c' hj=>by
    obtain⟨c0,d0,m1,m2,rfl⟩:=rE _ _ _ _ hj;obtain⟨u,p1,p2⟩:=oY cs z1 us.toList (0+1) j d0 q6 m2;have hu:us.toList.getD j undef=u:=by rw[List.getD,p1];rfl
    rcases p2 with ⟨k,y,rfl,q3⟩ | ⟨k,y,rfl,q3⟩
    . show dG w' k y _ _;rw[hu];exact dG.frame _ _ _ _ _ (fun b hb=>⟨⟨k,y,m2⟩,hb⟩) (fun _ _ _=>rfl) q3
    . show RO Z' w' k y _;rw[hu];exact q3)
  (fun j b hb=>by
    obtain⟨⟨k,y,m1⟩,m2⟩:=hb;obtain⟨t1,t2,t3⟩:=ha.fp _ b m2;refine⟨t1,?_,t2,fun e=>?_,?_⟩
    . rcases t3 with ⟨i,t3⟩ | t3
      . rcases kL i b t3 with ⟨_,i2⟩ | ⟨_,_,_,i3⟩
        . exfalso;have:=ha.cS _ _ b m2 (by rw[i2];exact q5);omega
        . exact .inl ⟨_,i3⟩
      . exact .inr t3
    . have:=ha.cS _ _ b m2 (by rw[e];exact q5);omega
    . have hj:j<(kt l0 (cf cs z1)).length:=by
       have:=(amQ.1 m1).1;rw[hbl,Il];omega
      obtain⟨c0,d0,n1,n2,n3⟩:=rE _ _ j _ (amm hj);rw[m1]at n2;cases n2;exact⟨_,k,y,amm hj,by rw[n3]⟩)
  (fun j j' b h1 h2=>by have:=ha.cS _ _ b h1.2 h2.2;omega)
  (fun b aV cY hf=>ha.block b aV fun i hi=>by
    rcases kL i b hi with ⟨_,i2⟩ | ⟨_,_,_,i3⟩
    . exact cY i2
    . exact hf _ i3)
 rw[hd];rcases hw with ⟨rfl,rfl⟩ | ⟨d,p,rfl,hp,oV,rfl⟩
 . exact hk _ _ _ _ hR dh
 unfold fc at hp;split at hp
 . rename_i tv hw;simp only[amh]at hp;cases hb:s.fresh&&lJ s.rs with
   | false=>rw[hb]at hp;subst hp;exact hk _ _ _ _ (hR.nS (cE d rfl) (gq (lY _ _ _ _ hr (fun _=>rfl) (fun hh=>by rw[hh]at hb;simpa using hb)) hw)) (dh.put _ _)
   | true=>
     rw[hb]at hp;subst hp;have yP:s.fresh=true:=by rw[ami]at hb;exact hb.1
     rw[yP]at hr hw;have Ym:∀ j b,H (2 * j+1) b->b<w'.heap.size/\(cx.F0 b∨cx.w0.heap.size<=b)/\¬ Z' b/\(∀ r j,¬ (g.GC q (fun j=>us.toList.getD j undef) (fun j b=>(∃ k y,(cf cs z1)[j]? = some ⟨0,0,.own k y⟩)/\H (2 * (0+1+j)) b)).fp r j b)/\(∀ r' R',look (I0 st q l0 s.ps z).rt r'=some R'->R'.box=true->g.be r'≠b):=fun j b Dq=>by
      obtain⟨t1,t2,t3⟩:=ha.fp _ b Dq;have hq:b≠g.be q:=fun e=>by have:=ha.cS _ _ b Dq (by rw[e];exact q5);omega
      refine⟨t1,?_,t2,fun r' j' hh=>?_,fun r' R' lu cz he=>?_⟩
      . rcases t3 with ⟨i,t3⟩ | t3
        . rcases kL i b t3 with ⟨_,i2⟩ | ⟨_,_,_,i3⟩
          . exact(hq i2).elim
          . exact(h.fp _ _ _ i3).2.1
        . exact .inr (amp h.size t3)
      . have Ve:(if r'=q then _ else g.fp r' j' b):=hh;by_cases e:r'=q
        . rw[if_pos e]at Ve;have:=ha.cS _ _ b Dq Ve.2;omega
        . rw[if_neg e]at Ve;rcases t3 with ⟨i,t3⟩ | t3
          . rcases kL i b t3 with ⟨_,i2⟩ | ⟨_,_,_,i3⟩
            . exact hq i2
            . exact e (h.cS _ _ _ _ _ Ve i3).1
          . have:=(h.fp _ _ _ Ve).1;omega
      . have hl:look (I0 st q l0 s.ps z).rt r'=(if q=r' then some ⟨true,kt l0 (jL s.ps z)⟩else look st.rt r'):=aN _ _ _ _;rw[hl]at lu;by_cases e:q=r'
        . subst e;exact hq he.symm
        . rw[if_neg e]at lu;rcases t3 with ⟨i,t3⟩ | t3
          . rcases kL i b t3 with ⟨_,i2⟩ | ⟨_,_,_,i3⟩
            . exact hq i2
            . exact(h.box r' R' lu cz).2.2.1 _ _ (he ▸ i3)
          . have:=h.yX lu cz;omega
     have h6:=Rel.nr hR (r:=d) (be:=0) (R:=⟨false,cO s.rs y⟩) (cv:=fun j=>(vE s.rs vs).getD j undef) (fp:=fun j b=>j<(cO s.rs y).length/\H (2 * j+1) b) (kB (oV hb))
      (fun j b hb=>by obtain⟨t1,t2,t3,t4,t5⟩:=Ym _ b hb.2;obtain⟨e,bZ,x',v',O7,Yc,g3'⟩:=mr _ _ _ _ hr j _ (amm hb.1);exact⟨t1,t2,t3,t4,t5,_,_,x',amm hb.1,by rw[O7]⟩)
      (fun j j' b h1 h2=>by have:=ha.cS _ _ b h1.2 h2.2;omega) (fun hb=>by simp at hb)
      (fun j c hj=>by
        obtain⟨e,bZ,x',v',O7,Yc,g3'⟩:=mr _ _ _ _ hr j c hj;subst O7;have nQ:j<(cO s.rs y).length:=by
         rcases amz j (cO s.rs y).length with hh | hh
         . exact hh
         . simp[amA hh]at hj
        show dG w' (.sl e bZ) x' _ _;simp only[List.getD,Yc,anF];rw[amt]at g3';exact dG.frame _ _ _ _ _ (fun b hb=>⟨nQ,hb⟩) (fun _ _ _=>rfl) g3')
     refine hk _ _ _ _ (h6.nS (cE d rfl) (tv:=tv) (gq (vh _ _ _ _ hr (fun i c hi=>?_) fun i v hi=>?_) hw)) (dh.put _ _)
     . show(match look ((d,(⟨false,cO s.rs y⟩:Rt))::(I0 st q l0 s.ps z).rt) d with | some R=>R.cells[0+i]? | none=>none)=_;rw[aN,if_pos rfl,amt];exact hi
     . simp[Gh.at,List.getD,hi]
 . simp at hp
end
section
variable{P:Program}{cx:Cx P}{Z:Nat->Prop}{a:Act}{w:World}{E:En}
theorem rf{Z':Nat->Prop}(Fu:∀ b,Z b->b<w.heap.size->Z' b):∀(ps:List PK) (l:List TV) (vs:List Value) (st:St) (g:Gh) (ay:St) (x:PT ps) (i:Nat),Rel cx Z g st a w->(∀ r R,look st.rt r=some R->R.box=true->Z' (g.be r))->gB Z g st w l vs->st.ic ps l=some (ay,x) ->
 ∃ g' F n,Rel cx Z g' ay a w/\nj cx Z w g g' st ay F i n/\ej Z' w F ps x vs i/\ay.tm=st.tm
 | [],[],vs,st,g,ay,x,i,h,xy,hr,ht=>by
   simp only[St.ic,amh,amO]at ht;obtain⟨rfl,_⟩:=ht;cases vs with
   | nil=>exact⟨g,_,0,h,nj.refl i,trivial,rfl⟩
   | cons _ _=>exact hr.elim
 | .c gg ks::ps,tv::r,[],st,g,ay,x,i,h,xy,hr,ht=>hr.elim
 | .c gg ks::ps,tv::r,v::vs,st,g,ay,x,i,h,xy,hr,ht=>by
   unfold St.ic at ht;cases hl:tv.dw with
   | none=>rw[hl]at ht;simp at ht
   | some p=>
     obtain⟨BY,l⟩:=p;rw[hl]at ht;simp only at ht;cases hb:cw gg BY&&l.all AV.bV with
     | false=>rw[hb]at ht;simp at ht
     | true=>
       rw[hb]at ht;simp only[oT]at ht;simp only[ami]at hb;have hg:=eL hb.1;subst hg;split at ht
       . rename_i z q hz hq;cases ht;obtain⟨us,e1,e2⟩:=iD (lS hr.1 hl);obtain⟨g',F,n,k1,k2,k3,k4⟩:=rf Fu ps r vs st g q.1 q.2 i h xy hr.2 hq;refine⟨g',F,n,k1,k2,⟨⟨us,e1,tT.cq Fu ks z us (dH h ks l us z e2 hb.2 hz)⟩,k3⟩,k4⟩
       . simp at ht
 | .fn f cs::ps,tv::r,[],st,g,ay,x,i,h,xy,hr,ht=>hr.elim
 | .fn f cs::ps,tv::r,v::vs,st,g,ay,x,i,h,xy,hr,ht=>by
   cases tv with
   | fn f' cR=>
     unfold St.ic at ht;cases hb:Nat.beq f f' with
     | false=>rw[hb]at ht;simp at ht
     | true=>
       rw[hb]at ht;simp only[oT]at ht;have hf:=beq_eq hb;subst hf;split at ht
       . rename_i z q hz hq;cases ht;obtain⟨us,e1,e2⟩:=hr.1;obtain⟨g',F,n,k1,k2,k3,k4⟩:=rf Fu ps r vs st g q.1 q.2 i h xy hr.2 hq;exact⟨g',F,n,k1,k2,⟨⟨us,e1,mZ h Fu (fun _=>xy) cs cR us.toList z e2 hz⟩,k3⟩,k4⟩
       . simp at ht
   | _=>simp[St.ic]at ht
 | .mv k::ps,tv::r,[],st,g,ay,x,i,h,xy,hr,ht=>hr.elim
 | .mv k::ps,tv::r,v::vs,st,g,ay,x,i,h,xy,hr,ht=>by
   cases tv with
   | v av=>
     unfold St.ic at ht;split at ht
     . rename_i ca y hy;split at ht
       . rename_i q hq;cases ht;obtain⟨g1,F1,k1,k2,k3,k4,k5,k6,k7⟩:=hO h hr.1 hy;have t1:nj cx Z w g g1 st ca (fun n b=>n=i/\F1 b) i 1:=
          ⟨fun p v=>vw.cI k2.cI p v,fun x v=>bC.cI k2.cI x v,k5,fun n=>⟨fun b hb=>k4.lt b hb.2,fun b hb=>k4.own b hb.2,fun b hb=>k4.z b hb.2,fun b hb=>k4.fp b hb.2,fun b hb=>k4.box b hb.2⟩,fun n b hb=>k6 b hb.2,fun n m b h1 h2=>h1.1.trans h2.1.symm,fun i b hb=>⟨by omega,by omega⟩,k2.be,k2.box⟩
         have Fs:∀(l:List TV) (vs:List Value),gB Z g st w l vs->gB Z g1 ca w l vs:=by
          intro l;induction l with
          | nil=>intro vs h;cases vs with | nil=>trivial | cons _ _=>exact h.elim
          | cons p r ih=>intro vs h;cases vs with | nil=>exact h.elim | cons v vs=>exact⟨bW.cI k2.cI _ _ h.1,ih vs h.2⟩
         obtain⟨g',F,n,m1,m2,m3,m4⟩:=rf Fu ps r vs ca g1 q.1 q.2 (i+1) k1 (fun r R hR nP=>by obtain⟨R0,e1,e2⟩:=k2.box r R hR;rw[k2.be];exact xy r R0 e1 (by rw[<- e2];exact nP)) (Fs _ _ hr.2) hq;exact⟨g',fun n b=>(n=i/\F1 b)∨F n b,1+n,m1,t1.trans m2,⟨dG.frame _ _ _ _ _ (fun b hb=> .inl ⟨rfl,hb⟩) (fun _ _ _=>rfl) k3,ej.mono (fun i b hb=> .inr hb) _ _ _ _ m3⟩,m4.trans k2.tm⟩
       . simp at ht
     . simp at ht
   | _=>simp[St.ic]at ht
 | .pt _::_,_::_,_,st,g,ay,x,i,h,xy,hr,ht=>by simp[St.ic]at ht
 | .nil::_,_::_,_,st,g,ay,x,i,h,xy,hr,ht=>by simp[St.ic]at ht
 | .nil::_,[],_,st,g,ay,x,i,h,xy,hr,ht=>by simp[St.ic]at ht
 | .pt _::_,[],_,st,g,ay,x,i,h,xy,hr,ht=>by simp[St.ic]at ht
 | .io _ _::_,_::_,_,st,g,ay,x,i,h,xy,hr,ht=>by simp[St.ic]at ht
 | [],_::_,_,st,g,ay,x,i,h,xy,hr,ht=>by simp[St.ic]at ht
 | .c _ _::_,[],_,st,g,ay,x,i,h,xy,hr,ht=>by simp[St.ic]at ht
 | .fn _ _::_,[],_,st,g,ay,x,i,h,xy,hr,ht=>by simp[St.ic]at ht
 | .io _ _::_,[],_,st,g,ay,x,i,h,xy,hr,ht=>by simp[St.ic]at ht
 | .mv _::_,[],_,st,g,ay,x,i,h,xy,hr,ht=>by simp[St.ic]at ht
theorem yV{st:St}{dst:Nat}{Fc:List TV}:∀ {l:List Su} {ay:St},(st.xH dst l Fc).run=some ay->∃ s ca x z y p,s∈l/\s.fresh=true/\st.ic s.ps Fc=some (ca,x)/\s.v7 x=some (z,y)/\fc dst s y=some p/\ca.free dst=true/\ay=ca.ba dst p
 | [],ay,h=>by simp[St.xH,Tr.run]at h
 | s::r,ay,h=>by
   have again:(st.xH dst r Fc).run=some ay->∃ s' ca x z y p,s'∈s::r/\s'.fresh=true/\st.ic s'.ps Fc=some (ca,x)/\s'.v7 x=some (z,y)/\fc dst s' y=some p/\ca.free dst=true/\ay=ca.ba dst p:=fun h=>by obtain⟨s',ca,x,z,y,p,h1,h2⟩:=yV h;exact⟨s',ca,x,z,y,p,amy _ h1,h2⟩
   have fin:∀(ca:St) (p:TV×Option Rt),(bif ca.free dst then Tr.ret (ca.ba dst p)else .fail).run=some ay->ca.free dst=true/\ay=ca.ba dst p:=fun ca p hh=>by
    cases hf:ca.free dst with
    | false=>rw[hf]at hh;simp[Tr.run]at hh
    | true=>rw[hf]at hh;simp only[oT,Tr.run,amh]at hh;exact⟨rfl,hh.symm⟩
   unfold St.xH at h;cases hq:jz s.ps|| !s.fresh with
   | true=>rw[hq]at h;exact again h
   | false=>
     rw[hq]at h;simp only[oF]at h;simp only[an3,apa]at hq;split at h
     . rename_i ca x hx;split at h
       . rename_i f hf;simp only[Tr.run,anA]at h;obtain⟨⟨z,y⟩,h0,h⟩:=h;obtain⟨p,h1,h2⟩:=Tr.ai h;obtain⟨h3,h4⟩:=fin ca p h2;exact⟨s,ca,x,z,y,p,amD ..,hq.2,hx,by simp[Su.v7,hf,h0],h1,h3,h4⟩
       . rename_i gg hg;obtain⟨p,h1,h2⟩:=Tr.ai h;obtain⟨h3,h4⟩:=fin ca p h2;exact⟨s,ca,x,U0 s.ps,gg x,p,amD ..,hq.2,hx,by simp[Su.v7,hg],h1,h3,h4⟩
     . exact again h
theorem adV(eF:dQ P E){g:Gh}{st:St}(h:Rel cx Z g st a w)(hn:cJ st)(dh:Fit cx E a){o:Oper}{d:Nat}(hd:o.dst=some d)(cE:kR cx a d){c:Call}{f:Operand}{gid:Nat}{cR:List (Bool×List AV)}{l:List TV}
 (ho:o.op= .call c)(fe:c.callee= .value f)(hg:st.get f=some (.fn gid cR))(hl:st.getAll c.args.toList=some l){ay:St}
 (au:(st.xH d (E.ga gid) (l++cR.map fun p=>bif p.1 then .agg p.2 else (match p.2 with | [a]=> .v a | _=> .agg p.2))).run=some ay):qd P cx E ay a w o:=by
 have hc:=hn.cons.cons;obtain⟨s,ca,x,z,y,p,hs,yP,hx,hy,hp,oV,rfl⟩:=yV au;obtain⟨cv,ef,ec⟩:=bg h hc hg;have eQ:=gB.app (jT h hc _ _ hl) (lX _ _ ec);have Pg:c.args.toList.map a.eval++cv.toList=(c.args.map a.eval++cv).toList:=by simp
 rw[Pg]at eQ;obtain⟨g1,F,n,k1,k2,k3,k4⟩:=rf (Z':=Zb Z g st) (fun _ h _=> .inl h) s.ps _ _ st g ca x 0 h (fun r R hR hb=> .inr ⟨r,R,hR,hb,rfl⟩) eQ hx;have Uf:=eF.1 gid s hs w (Zb Z g st) F _ x (z,y) (h.gl.mono (oR _) fun b hb _=>⟨.inl hb,rfl⟩) k3 (ZF h) (fun i b hb=>⟨(k2.free i).lt b hb,by obtain⟨r,j,hh⟩:=k2.sub i b hb;exact YG h hh⟩) (fun i j b=>k2.cS i j b) hy;have hp':¬ p.1.iL:=by
  unfold fc at hp;split at hp
  . rename_i tv hw;simp only[amh]at hp;subst hp;exact nk hw
  . simp at hp
 refine⟨fun t tv ht=>?_,fun next Q hk=>?_⟩
 . rw[cC]at ht;split at ht
   . simp only[amh]at ht;subst ht;exact hp'
   . exact hn t tv (by rw[<- k4];exact ht)
 unfold Oper.wp;rw[qf ho fe ef];refine uR Uf ?_;rintro v w' ⟨Z',H,vs,rfl,ha,_,hr⟩;rw[hd];have Mr:jB cx Z g1 ca w (fun b=>∃ i,F i b):=⟨fun b ⟨i,hb⟩=>(k2.free i).lt b hb,fun b ⟨i,hb⟩=>(k2.free i).own b hb,fun b ⟨i,hb⟩=>(k2.free i).z b hb,fun b ⟨i,hb⟩=>(k2.free i).fp b hb,fun b ⟨i,hb⟩=>(k2.free i).box b hb⟩;have Ml:Rel cx Z g1 ca a w':=k1.wr Mr ha.os ha.tape ha.output ha.size fun b hb hf=>ha.block b hb fun i hi=>hf ⟨i,hi⟩
 unfold fc at hp;split at hp
 . rename_i tv hw;simp only[amh]at hp;rw[yP,aoh]at hp;rw[yP]at hr hw;cases hb:lJ s.rs with
   | false=>rw[hb]at hp;subst hp;exact hk _ _ _ _ (Ml.nS cE (gq (lY _ _ _ _ hr (fun hh=>by simp at hh) (fun _=>hb)) hw)) (dh.put _ _)
   | true=>
     rw[hb]at hp;subst hp;have Ym:∀ n b,H n b->b<w'.heap.size/\(cx.F0 b∨cx.w0.heap.size<=b)/\¬ Z b/\(∀ r j,¬ g1.fp r j b)/\(∀ r' R',look ca.rt r'=some R'->R'.box=true->g1.be r'≠b):=fun n b hb=>by
      obtain⟨h1,h2,h3⟩:=ha.fp n b hb;have hz:¬ Z b:=fun hz=>h2 (ha.z b (.inl hz))
      rcases h3 with hf | nM
      . exact⟨h1,Mr.own b hf,hz,Mr.fp b hf,Mr.box b hf⟩
      . refine⟨h1,.inr (amp k1.size nM),hz,fun r j hh=>by have:=(k1.fp r j b hh).1;omega,fun r' R' lu cz he=>?_⟩;obtain⟨_,_,_,_,cs1,el1,fr1,b5,_⟩:=k1.box r' R' lu cz;rw[he,amC nM]at b5;simp at b5
     have h6:=Rel.nr Ml (r:=d) (be:=0) (R:=⟨false,cO s.rs y⟩) (cv:=fun j=>(vE s.rs vs).getD j undef) (fp:=fun j b=>j<(cO s.rs y).length/\H (2 * j+1) b) (kB oV)
      (fun j b hb=>by obtain⟨t1,t2,t3,t4,t5⟩:=Ym _ b hb.2;obtain⟨e,bZ,x',v',O7,Yc,g3'⟩:=mr _ _ _ _ hr j _ (amm hb.1);exact⟨t1,t2,t3,t4,t5,_,_,x',amm hb.1,by rw[O7]⟩)
      (fun j j' b h1 h2=>by have:=ha.cS _ _ b h1.2 h2.2;omega) (fun hb=>by simp at hb)
      (fun j c hj=>by
        obtain⟨e,bZ,x',v',O7,Yc,g3'⟩:=mr _ _ _ _ hr j c hj;subst O7;have nQ:j<(cO s.rs y).length:=by
         rcases amz j (cO s.rs y).length with hh | hh
         . exact hh
         . simp[amA hh]at hj
        show dG w' (.sl e bZ) x' _ _;simp only[List.getD,Yc,anF];rw[amt]at g3';exact dG.frame _ _ _ _ _ (fun b hb=>⟨nQ,hb⟩) (fun _ _ _=>rfl) g3')
     refine hk _ _ _ _ (h6.nS cE (tv:=tv) (gq (vh _ _ _ _ hr (fun i c hi=>?_) fun i v hi=>?_) hw)) (dh.put _ _)
     . show(match look ((d,(⟨false,cO s.rs y⟩:Rt))::ca.rt) d with | some R=>R.cells[0+i]? | none=>none)=_;rw[aN,if_pos rfl,amt];exact hi
     . simp[Gh.at,List.getD,hi]
 . simp at hp
theorem xl(hT:cH P E)(eF:dQ P E):sk P E:=by
 intro cx Z g st a w o ay h hn dh U9 au;have cE:∀ d,o.dst=some d->kR cx a d:=fun d hd=>by rw[hd]at U9;exact dh.dst U9
 have key:qd P cx E ay a w o:=by
  generalize fD:o.op=op at au;generalize fN:o.dst=dst at au;unfold Cc at au;split at au
  . obtain⟨ti,h1,au⟩:=Tr.ai au;obtain⟨ta,h2,au⟩:=Tr.ai au;obtain⟨av,h3,au⟩:=Tr.ai au;obtain⟨tx,h4,au⟩:=Tr.ai au;obtain⟨p,h5,au⟩:=Tr.ai au;cases hb:p.2.all st.live&&Nat.beq p.2.length ti.ks.length with
    | false=>rw[hb]at au;simp[Tr.run]at au
    | true=>rw[hb]at au;simp only[oT]at au;simp only[ami]at hb;obtain⟨H9,au⟩:=Tr.bT au;obtain⟨s1,h6,au⟩:=Tr.ai au;simp only[Tr.run,amh]at au;subst au;exact WM hT h hn dh fN fD h1 h2 h3 h4 h5 hb.1 (beq_eq hb.2) H9 h6
  . obtain⟨tv,h1,au⟩:=Tr.ai au;simp only[Tr.run,amh]at au;subst au;exact qB h hn dh fN (cE _ fN) (.inr fD) h1
  . obtain⟨tv,h1,au⟩:=Tr.ai au;simp only[Tr.run,amh]at au;subst au;exact qB h hn dh fN (cE _ fN) (.inl fD) h1
  . rename_i t x d;obtain⟨ti,h1,au⟩:=Tr.ai au;obtain⟨tv,h2,au⟩:=Tr.ai au;obtain⟨p,h3,au⟩:=Tr.ai au;cases hb:st.free d&&p.2.all st.live&&Nat.beq p.2.length ti.ks.length with
    | false=>rw[hb]at au;simp[Tr.run]at au
    | true=>rw[hb]at au;simp only[oT]at au;simp only[ami]at hb;obtain⟨s1,h6,au⟩:=Tr.ai au;simp only[Tr.run,amh]at au;subst au;exact agY h hn dh fN (cE _ fN) fD h2 h3 hb.1.1 hb.1.2 (beq_eq hb.2) h6
  . rename_i c;split at au
    . rename_i x y fe cF;split at au
      . rename_i d t t2 ts yN;obtain⟨ti,h1,au⟩:=Tr.ai au;obtain⟨te,h2,au⟩:=Tr.ai au;obtain⟨tx,h3,au⟩:=Tr.ai au;obtain⟨ty,h4,au⟩:=Tr.ai au;cases hb:E.str t2||(E.sl t2).isSome with
        | false=>
          rw[hb]at au;simp only[oF]at au;cases l6:E.i64 t2&&fX tx with
          | false=>rw[l6]at au;simp[Tr.run]at au
          | true=>rw[l6]at au;simp only[oT]at au;simp only[ami]at l6;obtain⟨p,h5,au⟩:=Tr.ai au;exact NU hT h hn dh fN (cE _ fN) fD fe cF yN h1 h2 h3 h4 l6.1 l6.2 h5 au
        | true=>
          rw[hb]at au;simp only[oT]at au;have h5:E.str t2=true∨∃ Yn,E.sl t2=some Yn:=by
           simp only[anv]at hb;rcases hb with hb | hb
           . exact .inl hb
           . cases he:E.sl t2 with
             | none=>rw[he]at hb;simp at hb
             | some Yn=>exact .inr ⟨Yn,rfl⟩
          cases B1:st.S1 te.ks tx ty with
          | true=>rw[B1]at au;exact Nr hT h hn dh fN (cE _ fN) fD fe cF yN h1 h2 h3 h4 h5 au
          | false=>rw[B1]at au;exact RL hT h hn dh fN (cE _ fN) fD fe cF yN h1 h2 h3 h4 h5 au
      . simp[Tr.run]at au
    . rename_i f fe;obtain⟨tf,h1,au⟩:=Tr.ai au;split at au
      . rename_i gid cR;obtain⟨l,h2,au⟩:=Tr.ai au;cases hpw:Sl (E.ga gid)with
        | true=>rw[hpw]at au;exact RW eF h hn dh (fun d hd=>cE d (fN.trans hd)) fN fD fe h1 h2 au
        | false=>
        rw[hpw]at au;simp only[oF]at au;cases hio:Qz (E.ga gid)with
        | true=>rw[hio]at au;exact SN eF h hn dh (fun d hd=>cE d (fN.trans hd)) fN fD fe h1 h2 au
        | false=>
          rw[hio]at au;simp only[oF]at au;split at au
          . exact adV eF h hn dh fN (cE _ fN) fD fe h1 h2 au
          . simp[Tr.run]at au
      . simp[Tr.run]at au
    . simp[Tr.run]at au
  . simp[Tr.run]at au
 exact key
end
def IA:Value->K->Bool
 | .int k n,.int k'=>k == k'&&n == 0
 | .bool b,.bool=> !b
 | .string s,.str=>Nat.beq s.size 0
 | .slice none 0 0,.sl _ _=>true
 | _,_=>false
def oE:List Value->List K->Bool
 | [],[]=>true
 | v::vs,k::ks=>IA v k&&oE vs ks
 | _,_=>false
theorem NT{v:Value}{k:K}(h:IA v k=true):v=zV k:=by
 unfold IA at h;split at h
 . simp only[ami,beq_iff_eq]at h;rw[h.1,h.2];rfl
 . rename_i b;cases b with
   | false=>rfl
   | true=>simp at h
 . rename_i s;have hs:s.size=0:=beq_eq h;show Value.string s= .string (fQ []);congr 1;apply apd;apply Array.ext';have:s.data.toList=[]:=by
    apply am2.1;rw[amT];exact hs
   rw[this];rfl
 . rfl
 . simp at h
theorem xU:∀ {vs:List Value} {ks:List K},oE vs ks=true->vs=ks.map zV
 | [],[],_=>rfl
 | v::vs,k::ks,h=>by simp only[oE,ami]at h;rw[NT h.1,xU h.2];rfl
 | [],_::_,h=>by simp[oE]at h
 | _::_,[],h=>by simp[oE]at h
def xk:List (Nat×Nat)->List Field->Bool
 | [],_=>true
 | (o,t)::r,f::fs=>Nat.beq f.offset o&&Nat.beq f.type t&&xk r fs
 | _::_,[]=>false
theorem zO:∀ {l:List (Nat×Nat)} {fs:List Field},xk l fs=true->∀ i o t,NX l i=some (o,t)->∃ fi,fs[i]? = some fi/\fi.offset=o/\fi.type=t
 | [],fs,h,i,o,t,hf=>by simp[NX]at hf
 | (o0,t0)::r,f::fs,h,0,o,t,hf=>by simp only[xk,ami]at h;simp only[NX,amh,amO]at hf;exact⟨f,rfl,(beq_eq h.1.1).trans hf.1,(beq_eq h.1.2).trans hf.2⟩
 | (o0,t0)::r,f::fs,h,i+1,o,t,hf=>by simp only[xk,ami]at h;exact zO h.2 i o t hf
 | _::_,[],h,_,_,_,_=>by simp[xk]at h
def PL(P:Program)(f:Field):Bool:=match P.info? f.type with | some i=>Nat.blt 0 i.size | none=>false
def qy(P:Program)(ti:TI):TypeDesc->Bool
 | .struct fs=>ti.agg&&xk ti.pV fs.toList&&fs.toList.all (PL P)
 | .slice e=> !ti.agg&&(match ti.ks with | [.sl e' _]=>Nat.beq e' e&&Nat.beq ti.elem e | _=>false)
 | .int k=> !ti.agg&&(match ti.ks with | [.int k']=>k' == k | _=>false)
 | .bool=> !ti.agg&&(match ti.ks with | [.bool]=>true | _=>false)
 | .string=> !ti.agg&&(match ti.ks with | [.str]=>true | _=>false)
 | _=>false
def abf(P:Program)(t:Nat)(ti:TI):Bool:=match P.info? t,P.underlying t with
 | some i,some d=>Nat.beq i.size ti.ks.length&&Nat.beq i.bytes ti.bytes&&(match i.zero with | some z=>oE z.cells.toList ti.ks | none=>false)&&qy P ti d
 | _,_=>false
theorem ME{P:Program}{ti:TI}{d:TypeDesc}(h:qy P ti d=true):jE P ti d:=by
 cases d with
 | struct fs=>
   simp only[qy,ami]at h;refine⟨h.1.1,fun f o u hf=>?_,fun fi hfi=>?_⟩
   . obtain⟨fi,h1,h2⟩:=zO h.1.2 f o u hf;exact⟨fi,by rw[<- aml];exact h1,h2⟩
   . have:=amB.1 h.2 fi hfi;unfold PL at this;cases hi:P.info? fi.type with
     | none=>rw[hi]at this;simp at this
     | some i=>rw[hi]at this;exact⟨i,rfl,Nat.ne_of_gt (ann (amE this))⟩
 | slice e=>
   simp only[qy,ami,am4]at h;obtain⟨h1,h2⟩:=h;split at h2
   . rename_i e' ks hk;simp only[ami]at h2;have e1:=beq_eq h2.1;subst e1;exact⟨h1,ks,hk,beq_eq h2.2⟩
   . simp at h2
 | int k=>
   simp only[qy,ami,am4]at h;obtain⟨h1,h2⟩:=h;split at h2
   . rename_i k' hk;have:k'=k:=by simpa using h2
     subst this;exact⟨h1,hk⟩
   . simp at h2
 | bool=>
   simp only[qy,ami,am4]at h;obtain⟨h1,h2⟩:=h;split at h2
   . rename_i hk;exact⟨h1,hk⟩
   . simp at h2
 | string=>
   simp only[qy,ami,am4]at h;obtain⟨h1,h2⟩:=h;split at h2
   . rename_i hk;exact⟨h1,hk⟩
   . simp at h2
 | _=>simp[qy]at h
theorem X6{P:Program}{t:Nat}{ti:TI}(h:abf P t ti=true):rH P t ti:=by
 unfold abf at h;split at h
 . rename_i i d hi hd;simp only[ami]at h;obtain⟨⟨⟨h1,h2⟩,h3⟩,h4⟩:=h;refine⟨⟨i,hi,beq_eq h1,beq_eq h2,?_⟩,d,hd,ME h4⟩;split at h3
   . rename_i z hz;exact⟨z,hz,xU h3⟩
   . simp at h3
 . simp at h
def XS(P:Program):List (Nat×TI)->Bool
 | []=>true
 | (t,ti)::r=>abf P t ti&&XS P r
theorem G0{P:Program}:∀ {l:List (Nat×TI)},XS P l=true->∀ t ti,(t,ti)∈l->rH P t ti
 | [],_,_,_,h=>by simp at h
 | (t0,ti0)::r,h,t,ti,hm=>by
   simp only[XS,ami]at h;rcases ams.1 hm with hm | hm
   . cases hm;exact X6 h.1
   . exact G0 h.2 t ti hm
theorem Wp{P:Program}{E:En}(h:XS P E.tt=true):cH P E:=fun t ti ht=>G0 h t ti (ja _ _ _ ht)
def nL(lo:Nat->Bool):Code->Bool
 | .seq a b=>nL lo a&&nL lo b
 | .cond _ a b=>nL lo a&&nL lo b
 | .block id c=> !lo id&&nL lo c
 | .loop c=>nL lo c
 | _=>true
theorem bP{P:Program}{E:En}(Yo:∀ id,E.rg id=none:=by intro _;rfl):∀(c:Code),nL (fun id=>(E.lo id).isSome) c=true->dS P E c
 | .seq a b,h=>by simp only[nL,ami]at h;exact⟨bP Yo a h.1,bP Yo b h.2⟩
 | .cond _ a b,h=>by simp only[nL,ami]at h;exact⟨bP Yo a h.1,bP Yo b h.2⟩
 | .block id c,h=>by simp only[nL,ami,am4]at h;refine⟨fun L hL=>?_,fun _=>bP Yo c h.2⟩;rw[hL]at h;simp at h
 | .skip,_=>trivial
 | .region id _ _,_=>fun F hF=>by rw[Yo id]at hF;simp at hF
 | .loop c,h=>bP (E:=E) Yo c h
 | .rangeFunc _ _ _ _,_=>trivial
 | .exit _,_=>trivial
 | .scope _,_=>trivial
 | .label _,_=>trivial
 | .goto _,_=>trivial
 | .ret,_=>trivial
 | .refuse _,_=>trivial
def nC(rg:Nat->Bool)(lo:Nat->Bool):Code->List (Nat×Code)
 | .seq a b=>nC rg lo a++nC rg lo b
 | .cond _ a b=>nC rg lo a++nC rg lo b
 | .block id c=>bif lo id then []else nC rg lo c
 | .region id ops dr=>bif rg id then [(id,.region id ops dr)]else []
 | .loop c=>nC rg lo c
 | _=>[]
def fz(lo:Nat->Bool):Code->List (Nat×Code)
 | .seq a b=>fz lo a++fz lo b
 | .cond _ a b=>fz lo a++fz lo b
 | .block id c=>bif lo id then [(id,c)]else fz lo c
 | .loop c=>fz lo c
 | _=>[]
theorem ir{P:Program}{E:En}:∀(c:Code),(∀ id b F,(id,b)∈nC (fun id=>(E.rg id).isSome) (fun id=>(E.lo id).isSome) c->E.rg id=some F->dA P E b F)->(∀ id b L,(id,b)∈fz (fun id=>(E.lo id).isSome) c->E.lo id=some L->kl P E id b L)->dS P E c
 | .seq a b,hr,h=>⟨ir a (fun id b F hm=>hr id b F (an4 _ hm)) fun id b L hm=>h id b L (an4 _ hm),ir b (fun id b F hm=>hr id b F (aop _ hm)) fun id b L hm=>h id b L (aop _ hm)⟩
 | .cond _ a b,hr,h=>⟨ir a (fun id b F hm=>hr id b F (an4 _ hm)) fun id b L hm=>h id b L (an4 _ hm),ir b (fun id b F hm=>hr id b F (aop _ hm)) fun id b L hm=>h id b L (aop _ hm)⟩
 | .block id c,hr,h=>by
   refine⟨fun L hL=>h id c L ?_ hL,fun hn=>ir c (fun E7 b F hm hF=>hr E7 b F (by simp only[nC,hn,anD,oF];exact hm) hF) fun E7 b L hm hL=>h E7 b L ?_ hL⟩
   . simp[fz,hL]
   . simp only[fz,hn,anD,oF];exact hm
 | .skip,_,_=>trivial
 | .region id ops dr,hr,_=>fun F hF=>hr id _ F (by simp[nC,hF]) hF
 | .loop c,hr,h=>ir (E:=E) c hr h
 | .rangeFunc _ _ _ _,_,_=>trivial
 | .exit _,_,_=>trivial
 | .scope _,_,_=>trivial
 | .label _,_,_=>trivial
 | .goto _,_,_=>trivial
 | .ret,_,_=>trivial
 | .refuse _,_,_=>trivial
section
variable{X Y:Type}(step:X->Option (Sum X Y))
theorem C9{n m:Nat}{x:X}{y:Y}(h:iter step n x=some y)(hm:n<=m):iter step m x=some y:=by
 induction n generalizing m x with
 | zero=>simp[iter]at h
 | succ n ih=>
   obtain⟨k,rfl⟩:∃ k,m=k+1:=⟨m-1,by omega⟩;unfold iter at h ⊢;split at h
   . rename_i x' hx;exact ih h (by omega)
   . rename_i z hx;exact h
   . simp at h
noncomputable def aq(x:X):Option Y:=open Classical in if h:∃ n y,iter step n x=some y then some (Classical.choose (anK h))else none
theorem BF{x:X}{y:Y}(h:aq step x=some y):∃ n,iter step n x=some y:=by
 unfold aq at h;split at h
 . rename_i hh;simp only[amh]at h;subst h;exact⟨_,anK (anK hh)⟩
 . simp at h
theorem G6{n:Nat}{x:X}{y:Y}(h:iter step n x=some y):aq step x=some y:=by have hh:∃ n y,iter step n x=some y:=⟨n,y,h⟩;unfold aq;rw[dif_pos hh];have h1:=anK (anK hh);have e1:=C9 step h (Nat.le_max_left n (Classical.choose hh));have e2:=C9 step h1 (Nat.le_max_right n (Classical.choose hh));rw[e1]at e2;exact e2.symm
theorem ez{x x':X}{y:Y}(h:step x=some (.inl x'))(h':aq step x'=some y):aq step x=some y:=by obtain⟨n,hn⟩:=BF step h';refine G6 step (n:=n+1) ?_;unfold iter;rw[h];exact hn
theorem dK{x:X}{y:Y}(h:step x=some (.inr y)):aq step x=some y:=by refine G6 step (n:=1) ?_;unfold iter;rw[h]
end
abbrev Rd(A Q:Type):=Option (Sum A (Sum A Q))
abbrev yZ{A B Z:Type}(r:A->B->Z)(x:A×B×Unit):Z:=r x.1 x.2.1
abbrev U4{A B Z:Type}(φ:A×B×Unit->Z)(a:A)(b:B):Z:=φ (a,b,())
abbrev fJ{A B C Z:Type}(r:A->B->C->Z)(x:A×B×C×Unit):Z:=r x.1 x.2.1 x.2.2.1
abbrev pk{A B C Z:Type}(φ:A×B×C×Unit->Z)(a:A)(b:B)(c:C):Z:=φ (a,b,c,())
abbrev ep{A B C D Z:Type}(r:A->B->C->D->Z)(x:A×B×C×D×Unit):Z:=r x.1 x.2.1 x.2.2.1 x.2.2.2.1
abbrev rA{A B C D Z:Type}(φ:A×B×C×D×Unit->Z)(a:A)(b:B)(c:C)(d:D):Z:=φ (a,b,c,d,())
abbrev pY{A B C D E Z:Type}(r:A->B->C->D->E->Z)(x:A×B×C×D×E×Unit):Z:=r x.1 x.2.1 x.2.2.1 x.2.2.2.1 x.2.2.2.2.1
abbrev O6{A B C D E Z:Type}(φ:A×B×C×D×E×Unit->Z)(a:A)(b:B)(c:C)(d:D)(e:E):Z:=φ (a,b,c,d,e,())
abbrev Fo{A B C D E F Z:Type}(r:A->B->C->D->E->F->Z)(x:A×B×C×D×E×F×Unit):Z:=r x.1 x.2.1 x.2.2.1 x.2.2.2.1 x.2.2.2.2.1 x.2.2.2.2.2.1
abbrev cu6{A B C D E F Z:Type}(φ:A×B×C×D×E×F×Unit->Z)(a:A)(b:B)(c:C)(d:D)(e:E)(f:F):Z:=φ (a,b,c,d,e,f,())
abbrev Az{A B C D E F G Z:Type}(r:A->B->C->D->E->F->G->Z)(x:A×B×C×D×E×F×G×Unit):Z:=r x.1 x.2.1 x.2.2.1 x.2.2.2.1 x.2.2.2.2.1 x.2.2.2.2.2.1 x.2.2.2.2.2.2.1
abbrev cu7{A B C D E F G Z:Type}(φ:A×B×C×D×E×F×G×Unit->Z)(a:A)(b:B)(c:C)(d:D)(e:E)(f:F)(g:G):Z:=φ (a,b,c,d,e,f,g,())
abbrev X4{A B C D E F G H Z:Type}(r:A->B->C->D->E->F->G->H->Z)(x:A×B×C×D×E×F×G×H×Unit):Z:=r x.1 x.2.1 x.2.2.1 x.2.2.2.1 x.2.2.2.2.1 x.2.2.2.2.2.1 x.2.2.2.2.2.2.1 x.2.2.2.2.2.2.2.1
abbrev cu8{A B C D E F G H Z:Type}(φ:A×B×C×D×E×F×G×H×Unit->Z)(a:A)(b:B)(c:C)(d:D)(e:E)(f:F)(g:G)(h:H):Z:=φ (a,b,c,d,e,f,g,h,())
abbrev un9{A B C D E F G H I Z:Type}(r:A->B->C->D->E->F->G->H->I->Z)(x:A×B×C×D×E×F×G×H×I×Unit):Z:=r x.1 x.2.1 x.2.2.1 x.2.2.2.1 x.2.2.2.2.1 x.2.2.2.2.2.1 x.2.2.2.2.2.2.1 x.2.2.2.2.2.2.2.1 x.2.2.2.2.2.2.2.2.1
abbrev cu9{A B C D E F G H I Z:Type}(φ:A×B×C×D×E×F×G×H×I×Unit->Z)(a:A)(b:B)(c:C)(d:D)(e:E)(f:F)(g:G)(h:H)(i:I):Z:=φ (a,b,c,d,e,f,g,h,i,())
abbrev OK{A B C D E F G H I J Z:Type}(r:A->B->C->D->E->F->G->H->I->J->Z)(x:A×B×C×D×E×F×G×H×I×J×Unit):Z:=r x.1 x.2.1 x.2.2.1 x.2.2.2.1 x.2.2.2.2.1 x.2.2.2.2.2.1 x.2.2.2.2.2.2.1 x.2.2.2.2.2.2.2.1 x.2.2.2.2.2.2.2.2.1 x.2.2.2.2.2.2.2.2.2.1
abbrev ahh{A B C D E F G H I J Z:Type}(φ:A×B×C×D×E×F×G×H×I×J×Unit->Z)(a:A)(b:B)(c:C)(d:D)(e:E)(f:F)(g:G)(h:H)(i:I)(j:J):Z:=φ (a,b,c,d,e,f,g,h,i,j,())
def ak(k:IntKind)(a b:Int):Int:=k.wrap (a+b)
def bf(k:IntKind)(a b:Int):Int:=k.wrap (a-b)
def yj(k:IntKind)(a b:Int):Int:=k.wrap (a * b)
def kr(k:IntKind)(a b:Int):Int:=k.wrap (a.tdiv b)
def eH(a b:Int):Int:=a.tmod b
def Ng(k:IntKind)(a b:Int):Int:=k.wrap ((BitVec.ofInt k.bits a &&& BitVec.ofInt k.bits b).toNat:Int)
def U3(k:IntKind)(a b:Int):Int:=k.wrap ((BitVec.ofInt k.bits a ||| BitVec.ofInt k.bits b).toNat:Int)
def Xd(k:IntKind)(a b:Int):Int:=k.wrap (a * 2 ^ min b.toNat k.bits)
def rJ(k:IntKind)(a b:Int):Int:=a.fdiv (2 ^ min b.toNat k.bits)
def dC(k:IntKind)(a:Int):Int:=k.wrap a
def ae{α:Type}(xs:List α):Int:=(xs.length:Int)
def Kt(n:Nat)(i j:Int):Bool:=Nat.rec true (fun _ r=>Nat.beq i.toNat j.toNat&&r) n
def aX{α:Type}(i:Int)(xs:List α):Bool:=pQ i xs.length
def eY{α:Type}(lo hi:Int)(xs:List α):Bool:=jS lo hi xs.length
def ahq(lo hi:Int):Bool:=jS lo hi 0
def gt{α:Type}(d:α)(xs:List α)(i:Int):α:=xs.getD i.toNat d
def cZ{α:Type}(xs:List α)(i:Int)(x:α):List α:=List.set xs i.toNat x
def Wy{α:Type}(xs:List α)(n:Int):List α:=List.take n.toNat xs
def fE{α:Type}(xs ys:List α):List α:=xs++ys
def uz(s t:S8):S8:=s++t
def bk{α:Type}(bytes:Nat)(xs ys:List α):Bool:=Nat.ble ((xs.length+ys.length) * bytes) bQ
def ahu{α:Type}(bytes:Nat)(xs:List α):Bool:=Nat.ble (xs.length * bytes) bQ
def jx(s t:S8):Bool:=Nat.ble (s.length+t.length) bQ
def BX(s t:S8):Bool:=Op.bytesLess s t
def leS(s t:S8):Bool:=Op.bytesLess s t||bF s t
def fh(s:S8)(i:Int):Int:=FT s i.toNat
def xh{α:Type}(d:α)(n:Int):List α:=List.replicate n.toNat d
def WS(bytes:Nat)(n:Int):Bool:=cl 0 n&&(cl (n * bytes) bQ&&Nat.blt 0 bytes)
def aw(f:Func):Code:=match f.body with | some c=>c | none=> .skip
def ab6:Code->Code
 | .loop b=>b
 | _=> .skip
def pI(id:Nat):Code->Option Code
 | .seq a b=>match pI id a with | some c=>some c | none=>pI id b
 | .cond _ a b=>match pI id a with | some c=>some c | none=>pI id b
 | .block i c=>bif Nat.beq i id then some (ab6 c)else pI id c
 | .loop b=>pI id b
 | _=>none
def kI(id:Nat)(c:Code):Code:=(pI id c).getD .skip
abbrev SS:=Sum Su Sc
abbrev iS(s:Su):SS:= .inl s
abbrev iC(s:Sc):SS:= .inr s
def GG:List (Nat×SS)->Nat->List Su
 | [],_=>[]
 | (g,.inl s)::r,f=>bif Nat.beq g f then s::GG r f else GG r f
 | (_,.inr _)::r,f=>GG r f
def JX:List (Nat×SS)->Nat->Option Sc
 | [],_=>none
 | (g,.inr s)::r,f=>bif Nat.beq g f then some s else JX r f
 | _::r,f=>JX r f
def xL(n:Nat)(tt:List (Nat×TI))(l:List (Nat×SS))(ρ:List SE)(lo:Nat->Option (Lo ρ))(pins:List Nat)(rg:Nat->Option (St->Tr St)):En:=⟨n,tt,GG l,ρ,lo,pins,rg,JX l⟩
def afn(P:Program)(g:Nat):SS->Prop
 | .inl s=>lV P g s
 | .inr s=>Je P g s
def pS(P:Program):List (Nat×SS)->Prop
 | []=>True
 | (g,s)::r=>afn P g s/\pS P r
theorem vp{P:Program}:∀(l:List (Nat×SS)) (f:Nat) (s:Su),pS P l->s∈GG l f->lV P f s
 | [],_,_,_,h=>by simp[GG]at h
 | (_,.inr _)::r,f,s,hl,h=>vp r f s hl.2 h
 | (g,.inl s0)::r,f,s,hl,h=>by
   unfold GG at h;cases hb:Nat.beq g f with
   | false=>rw[hb]at h;exact vp r f s hl.2 h
   | true=>
     rw[hb]at h;have:=beq_eq hb;subst this;rcases ams.1 h with h | h
     . subst h;exact hl.1
     . exact vp r g s hl.2 h
theorem AH{P:Program}:∀(l:List (Nat×SS)) (f:Nat) (s:Sc),pS P l->JX l f=some s->Je P f s
 | [],_,_,_,h=>by simp[JX]at h
 | (_,.inl _)::r,f,s,hl,h=>AH r f s hl.2 h
 | (g,.inr s0)::r,f,s,hl,h=>by
   unfold JX at h;cases hb:Nat.beq g f with
   | false=>rw[hb]at h;exact AH r f s hl.2 h
   | true=>rw[hb]at h;cases beq_eq hb;cases h;exact hl.1
theorem cD{P:Program}{E:En}{l:List (Nat×SS)}(hl:pS P l)(h:E.ga=GG l:=by rfl)(hc:E.gc=JX l:=by rfl):dQ P E:=⟨fun f s hs=>vp l f s hl (h ▸ hs),fun f s hs=>AH l f s hl (hc ▸ hs)⟩
theorem rk{P:Program}{E E':En}(h:cH P E)(e:E'.tt=E.tt:=by rfl):cH P E':=fun t ti ht=>h t ti (by unfold En.ti at ht ⊢;rw[<- e];exact ht)
def zJ(P:Program)(E:En):List (Nat×Code)->Prop
 | []=>True
 | (id,b)::r=>(∀ L,E.lo id=some L->kl P E id b L)/\zJ P E r
theorem sg{P:Program}{E:En}:∀(l:List (Nat×Code)) (id:Nat) (b:Code) (L:Lo E.ρ),zJ P E l->(id,b)∈l->E.lo id=some L->kl P E id b L
 | [],_,_,_,_,h,_=>by simp at h
 | (i,c)::r,id,b,L,hl,h,hL=>by
   rcases ams.1 h with h | h
   . cases h;exact hl.1 L hL
   . exact sg r id b L hl.2 h hL
def Jk(P:Program)(E:En):List (Nat×Code)->Prop
 | []=>True
 | (id,b)::r=>(∀ F,E.rg id=some F->dA P E b F)/\Jk P E r
theorem AL{P:Program}{E:En}:∀(l:List (Nat×Code)) (id:Nat) (b:Code) (F:St->Tr St),Jk P E l->(id,b)∈l->E.rg id=some F->dA P E b F
 | [],_,_,_,_,h,_=>by simp at h
 | (i,c)::r,id,b,F,hl,h,hF=>by
   rcases ams.1 h with h | h
   . cases h;exact hl.1 F hF
   . exact AL r id b F hl.2 h hF
theorem tH{P:Program}{E:En}{id:Nat}{b:Code}{F0:St->Tr St}(h:E.rg id=some F0)(hs:dA P E b F0):∀ F,E.rg id=some F->dA P E b F:=fun F hF=>by rw[h]at hF;cases hF;exact hs
theorem xY{P:Program}{E:En}{c:Code}(bs:List (Nat×Code))(h:fz (fun id=>(E.lo id).isSome) c=bs)(hs:zJ P E bs)(Yo:∀ id,E.rg id=none:=by intro _;rfl):dS P E c:=
 ir c (fun id b F hm hF=>by rw[Yo id]at hF;simp at hF) fun id b L hm hL=>sg bs id b L hs (h ▸ hm) hL
theorem db{P:Program}{E:En}{c:Code}(bs:List (Nat×Code))(h:fz (fun id=>(E.lo id).isSome) c=bs)(hs:zJ P E bs)(rs:List (Nat×Code))(hr:nC (fun id=>(E.rg id).isSome) (fun id=>(E.lo id).isSome) c=rs)(hrs:Jk P E rs):dS P E c:=
 ir c (fun id b F hm hF=>AL rs id b F hrs (hr ▸ hm) hF) fun id b L hm hL=>sg bs id b L hs (h ▸ hm) hL
theorem WA{P:Program}{E:En}{id:Nat}{b:Code}{L0:Lo E.ρ}(h:E.lo id=some L0)(hs:kl P E id b L0):∀ L,E.lo id=some L->kl P E id b L:=fun L hL=>by rw[h]at hL;cases hL;exact hs
theorem EL{P:Program}{E:En}(hT:cH P E)(eF:dQ P E)(hm:P.follows .mixedOrders=true){id:Nat}{σ:List SE}{body:Code}{step:fg σ->Option (Sum (fg σ) (Sum (fg σ) (fg E.ρ)))}
 (ht:∀ x,(nE E id σ body x).run=step x)(hl:dS P E body):kl P E id (.loop body) ⟨σ,fun x=>aq step x⟩:=
 JL hT eF (xl hT eF) hm (x4 E) hl fun x r h=>by obtain⟨n,hn⟩:=BF step h;have e:(fun x=>(nE E id σ body x).run)=step:=funext ht;exact⟨n,by rw[e];exact hn⟩
theorem pP {P:Program} {E:En} (hT:cH P E) (eF:dQ P E) (hm:P.follows .mixedOrders = true) {f:Nat} {fn:Func} {c:Code} (hf:P.funcs[f]? = some fn) (iw:(fn.name == "runtime.NumGoroutine") = false) (hb:fn.body = some c) (Mj:E.nt = fn.ntmps) (hl:dS P E c)
 {s:Su} (hs:∀ x y,s.v7 x=some y->∃ z,(nh s.ps=true->z=y.1)/\(Ik E c fn.results.toList s.ps s.rs s.fresh x).run=some (z,y.2)):lV P f s:=
 Ru hT eF (xl hT eF) hm hf iw hb Mj hl hs
def dZ:Code->Code | .seq a _=>a | c=>c
def df:Code->Code | .seq _ b=>b | c=>c
def K5:Code->Nat | .region i _ _=>i | _=>0
def pU(c:Code)(i:Nat):Oper:=match c with | .region _ ops _=>ops.getD i default | _=>default
def uc(id:Nat):Code->Option Code
 | .seq a b=>match uc id a with | some c=>some c | none=>uc id b
 | .cond _ a b=>match uc id a with | some c=>some c | none=>uc id b
 | .block _ c=>uc id c
 | .loop b=>uc id b
 | .region i ops dr=>bif Nat.beq i id then some (.region i ops dr)else none
 | _=>none
def bq(id:Nat)(c:Code):Code:=(uc id c).getD .skip
def QX(o:Oper):Call:=match o.op with | .call c=>c | _=>⟨.builtin .len,#[],#[]⟩
def mzB(bytes:Nat)(n:Int):Bool:=cl 0 n&&cl (n * bytes) bQ
def afo{ρ:List SE}:List (Nat×Lo ρ)->Nat->Option (Lo ρ)
 | [],_=>none
 | (k,L)::r,i=>bif Nat.beq k i then some L else afo r i
def O2(n:Nat)(tt:List (Nat×TI))(l:List (Nat×SS))(ρ:List SE)(los:List (Nat×Lo ρ))(pins:List Nat):En:=xL n tt l ρ (afo los) pins fun _=>none
theorem ac{P:Program}{f:Nat}{s:Su}{l:List (Nat×SS)}(h:lV P f s)(r:pS P l):pS P ((f,iS s)::l):=⟨h,r⟩
theorem ack{P:Program}{f:Nat}{s:Sc}{l:List (Nat×SS)}(h:Je P f s)(r:pS P l):pS P ((f,iC s)::l):=⟨h,r⟩
theorem an{P:Program}:pS P []:=trivial
def GLo(P:Program)(E:En)(C c:Code):Prop:=cH P E->dQ P E->P.follows .mixedOrders=true->dS P E c
def Xq(P:Program)(E:En)(C:Code)(ks:List Nat):Prop:=cH P E->dQ P E->P.follows .mixedOrders=true->zJ P E (ks.map fun k=>(k,.loop (kI k C)))
theorem sn{P:Program}{E:En}{C:Code}:Xq P E C []:=fun _ _ _=>trivial
theorem dU{P:Program}{n:Nat}{tt:List (Nat×TI)}{l:List (Nat×SS)}{ρ:List SE}{los:List (Nat×Lo ρ)}{pins:List Nat}{C c:Code}
 (h:fz (fun id=>((O2 n tt l ρ los pins).lo id).isSome) c=[]:=by kernel_rfl):GLo P (O2 n tt l ρ los pins) C c:=fun _ _ _=>
 xY [] h trivial
theorem sc{P:Program}{E:En}{C:Code}{k:Nat}{ks:List Nat}{σ:List SE}{step:fg σ->Option (Sum (fg σ) (Sum (fg σ) (fg E.ρ)))}(hl:GLo P E C (kI k C))(r:Xq P E C ks)(h:E.lo k=some ⟨σ,fun x=>aq step x⟩:=by exact rfl)
 (ht:∀ x,(nE E k σ (kI k C) x).run=step x:=by intro x;kernel_rfl):Xq P E C (k::ks):=fun hT eF hm=>
 ⟨WA h (EL hT eF hm ht (hl hT eF hm)),r hT eF hm⟩
theorem lp{P:Program}{n:Nat}{tt:List (Nat×TI)}{l:List (Nat×SS)}{ρ:List SE}{los:List (Nat×Lo ρ)}{pins:List Nat}{C c:Code}(ks:List Nat)(hs:Xq P (O2 n tt l ρ los pins) C ks)
 (h:fz (fun id=>((O2 n tt l ρ los pins).lo id).isSome) c=ks.map fun k=>(k,.loop (kI k C)):=by kernel_rfl):GLo P (O2 n tt l ρ los pins) C c:=fun hT eF hm=>
 xY _ h (hs hT eF hm)
theorem flq{P:Program}{tt:List (Nat×TI)}{E0:En}(hT:cH P E0)(hm:P.follows .mixedOrders=true){f:Nat}{s:Su}{n:Nat}{l:List (Nat×SS)}(hl:pS P l){ρ:List SE}{los:List (Nat×Lo ρ)}{pins:List Nat}{fn:Func}
 (h:(P.funcs[f]?, (fn.name == "runtime.NumGoroutine"), fn.body.isSome, fn.ntmps) = (some fn, false, true, n)) (Pe:GLo P (O2 n tt l ρ los pins) (aw fn) (aw fn))
 (ht:∀ x,(Ik (O2 n tt l ρ los pins) (aw fn) fn.results.toList s.ps s.rs s.fresh x).run=s.v7 x)(e:tt=E0.tt:=by rfl):lV P f s:=by
 simp only[amO]at h;have hb:fn.body=some (aw fn):=by
  have h:=h.2.2.1;unfold aw;cases hb:fn.body with
  | none=>rw[hb]at h;simp at h
  | some c=>rfl
 have hT':cH P (O2 n tt l ρ los pins):=rk hT e;have eF:dQ P (O2 n tt l ρ los pins):=cD (l:=l) hl;exact pP hT' eF hm h.1 h.2.1 hb h.2.2.2.symm (Pe hT' eF hm) fun x y hy=>⟨y.1,fun _=>rfl,(ht x).trans hy⟩
end Go.Av
