/- Part of a proof that the law FnExactRestripe answers true for every input: the framework, an evaluator over symbolic data and why it is right. No conditions beyond the statement. -/
import Derived.Test.YtbgoaopannojjaaGreatDoorFw1
import Derived.Orders
import Derived.Conc.MuLone
namespace Go.Av
open Go.RowKit (Below)
def cellsOf:Bool->Value->List Value
 | true,.agg vs=>vs.toList
 | _,v=>[v]
theorem Ib.eq {gg:Bool} {v:Value} {cs:List Value} (h:Ib gg v cs):cellsOf gg v=cs:=by
 cases gg with
 | true=>have h:v= .agg cs.toArray:=h; subst h; simp [cellsOf]
 | false=>have h:cs=[v]:=h; subst h; cases v <;> rfl
def kR:List K->List Value->List Value
 | .sl _ _ :: ks,v :: vs=>v :: kR ks vs
 | .int _ :: ks,_ :: vs=>kR ks vs
 | .bool :: ks,_ :: vs=>kR ks vs
 | .str :: ks,_ :: vs=>kR ks vs
 | _,_=>[]
def ua:List (Bool×List K)->List Value->List Value
 | (gg,ks) :: rs,v :: vs=>kR ks (cellsOf gg v) ++ ua rs vs
 | _,_=>[]
theorem dR:∀ (ks:List K) (x:Tl ks),(kf ks x).length=bp ks
 | [],_=>rfl
 | .sl _ _ :: ks,x=>adU (· + 1) (dR ks x.2)
 | .int _ :: ks,x=>dR ks x.2
 | .bool :: ks,x=>dR ks x.2
 | .str :: ks,x=>dR ks x.2
section
variable {Z:Nat->Prop} {g:Gh} {st:St} {w:World}
theorem eD {H:Nat->Nat->Prop}:∀ (ks:List K) (x:Tl ks) (cs:List Value) (j:Nat),aQ true Z w H ks x cs j->(kR ks cs).length=bp ks /\
 ∀ (i:Nat) (c:RC),(kf ks x)[i]? = some c->∃ (e:TypeId) (ks':List K) (y:T (.sl e ks')) (v:Value),c=⟨0,0,.own (.sl e ks') y⟩/\(kR ks cs)[i]? = some v/\cO w (.sl e ks') y v (H (j + i))
 | [],_,[],_,_=>⟨rfl,fun i c h=>by simp [kf] at h⟩
 | .sl e ks' :: ks,x,v :: vs,j,h=>by
   obtain ⟨h1,h2⟩:=eD ks x.2 vs (j + 1) h.2;refine ⟨adU (· + 1) h1,fun i c hi => ?_⟩;cases i with
   | zero => simp only [kf,adf,ac3] at hi;exact ⟨e,ks',x.1,v,hi.symm,rfl,h.1⟩
   | succ i => simp only [kf,ad2] at hi;obtain ⟨e',k',y,u,g1,g2,g3⟩:=h2 i c hi;exact ⟨e',k',y,u,g1,g2,by rw [show j + (i + 1)=j + 1 + i by omega]; exact g3⟩
 | .int _ :: ks,x,v :: vs,j,h=>eD ks x.2 vs j h.2
 | .bool :: ks,x,v :: vs,j,h=>eD ks x.2 vs j h.2
 | .str :: ks,x,v :: vs,j,h=>eD ks x.2 vs j h.2
 | [],_,_ :: _,_,h=>h.elim
 | .sl _ _ :: _,_,[],_,h=>h.elim
 | .int _ :: _,_,[],_,h=>h.elim
 | .bool :: _,_,[],_,h=>h.elim
 | .str :: _,_,[],_,h=>h.elim
theorem nf {H:Nat->Nat->Prop}:∀ (rs:List (Bool×List K)) (y:CT rs) (vs:List Value) (j:Nat),lk true Z w H rs y vs j ->
 ∀ (i:Nat) (c:RC),(cU rs y)[i]? = some c->∃ (e:TypeId) (ks':List K) (y:T (.sl e ks')) (v:Value),c=⟨0,0,.own (.sl e ks') y⟩/\(ua rs vs)[i]? = some v/\cO w (.sl e ks') y v (H (j + i))
 | [],_,_,_,_,i,c,h=>by simp [cU] at h
 | (gg,ks) :: rs,y,v :: vs,j,h,i,c,hi=>by
   obtain ⟨⟨cs,e1,e2⟩,h3⟩:=h;obtain ⟨h1,h2⟩:=eD ks y.1 cs j e2;have hl:=dR ks y.1;simp only [cU] at hi;simp only [ua,e1.eq];rcases adj i (bp ks) with hlt | hge
   . rw [ad3 (by omega)] at hi;obtain ⟨e,k',z,u,g1,g2,g3⟩:=h2 i c hi;exact ⟨e,k',z,u,g1,by rw [ad3 (by omega)]; exact g2,g3⟩
   . rw [adV (by omega),hl] at hi;obtain ⟨e,k',z,u,g1,g2,g3⟩:=nf rs y.2 vs (j + bp ks) h3 (i - bp ks) c hi;exact ⟨e,k',z,u,g1,by rw [adV (by omega),h1]; exact g2,by rw [show j + i=j + bp ks + (i - bp ks) by omega]; exact g3⟩
 | _ :: _,_,[],_,h,_,_,_=>h.elim
theorem fU {Z':Nat->Prop} {H:Nat->Nat->Prop} {d:Nat}:∀ (ks:List K) (x:Tl ks) (cs:List Value) (j:Nat),aQ true Z w H ks x cs j ->
 (∀ (i:Nat) (c:RC),(kf ks x)[i]? = some c->st.cell d (j + i)=some c)->(∀ (i:Nat) (v:Value),(kR ks cs)[i]? = some v->g.cv d (j + i)=v)->aP Z' g st w (ea d true ks x j) cs
 | [],_,[],_,_,_,_=>trivial
 | .sl e ks' :: ks,x,v :: vs,j,h,h1,h2=>by
   refine ⟨⟨_,h1 0 _ rfl,ac7 _,fun _=>(h2 0 v rfl).symm⟩,fU ks x.2 vs (j + 1) h.2 (fun i c hi => ?_) (fun i u hi => ?_)⟩
   . rw [show j + 1 + i=j + (i + 1) by omega]; exact h1 (i + 1) c hi
   . rw [show j + 1 + i=j + (i + 1) by omega]; exact h2 (i + 1) u hi
 | .int _ :: ks,x,v :: vs,j,h,h1,h2=>⟨eN (Z':=Z') rfl h.1,fU ks x.2 vs j h.2 h1 h2⟩
 | .bool :: ks,x,v :: vs,j,h,h1,h2=>⟨eN (Z':=Z') (k:= .bool) rfl h.1,fU ks x.2 vs j h.2 h1 h2⟩
 | .str :: ks,x,v :: vs,j,h,h1,h2=>⟨eN (Z':=Z') (k:= .str) rfl h.1,fU ks x.2 vs j h.2 h1 h2⟩
 | [],_,_ :: _,_,h,_,_=>h.elim
 | .sl _ _ :: _,_,[],_,h,_,_=>h.elim
 | .int _ :: _,_,[],_,h,_,_=>h.elim
 | .bool :: _,_,[],_,h,_,_=>h.elim
 | .str :: _,_,[],_,h,_,_=>h.elim
theorem vd {gg:Bool} {l:List AV} {v:Value} {cs:List Value} (h:Ib gg v cs) (hr:aP Z g st w l cs):qV Z g st w (gg,l) v:=by
 cases gg with
 | true=>exact ⟨cs.toArray,h,by simpa using hr⟩
 | false =>
   have h:cs=[v]:=h;subst h
   match l,hr with
   | [a],hr=>exact hr.1
   | [],hr=>exact hr.elim
   | _ :: _ :: _,hr=>exact hr.2.elim
theorem wR {Z':Nat->Prop} {H:Nat->Nat->Prop} {d:Nat}:∀ (rs:List (Bool×List K)) (y:CT rs) (vs:List Value) (j:Nat),lk true Z w H rs y vs j ->
 (∀ (i:Nat) (c:RC),(cU rs y)[i]? = some c->st.cell d (j + i)=some c)->(∀ (i:Nat) (v:Value),(ua rs vs)[i]? = some v->g.cv d (j + i)=v)->fY Z' g st w (oR d true rs y j) vs
 | [],_,[],_,_,_,_=>trivial
 | (gg,ks) :: rs,y,v :: vs,j,h,h1,h2=>by
   obtain ⟨⟨cs,e1,e2⟩,h3⟩:=h;obtain ⟨l1,_⟩:=eD ks y.1 cs j e2;have hl:=dR ks y.1;refine ⟨vd e1 (fU ks y.1 cs j e2 (fun i c hi=>h1 i c ?_) (fun i u hi=>h2 i u ?_)),wR rs y.2 vs (j + bp ks) h3 (fun i c hi => ?_) (fun i u hi => ?_)⟩
   . have:i < bp ks:=by
      rw [<- hl];rcases adj i (kf ks y.1).length with hh | hh
      . exact hh
      . simp [adp hh] at hi
     simp only [cU];rw [ad3 (by omega)];exact hi
   . have:i < bp ks:=by
      rw [<- l1];rcases adj i (kR ks cs).length with hh | hh
      . exact hh
      . simp [adp hh] at hi
     simp only [ua,e1.eq];rw [ad3 (by omega)];exact hi
   . rw [show j + bp ks + i=j + (bp ks + i) by omega];refine h1 _ c ?_;simp only [cU];rw [adV (by omega),hl,aeo];exact hi
   . rw [show j + bp ks + i=j + (bp ks + i) by omega];refine h2 _ u ?_;simp only [ua,e1.eq];rw [adV (by omega),l1,aeo];exact hi
 | [],_,_ :: _,_,h,_,_=>h.elim
 | _ :: _,_,[],_,h,_,_=>h.elim
theorem gr {fresh:Bool} {Z':Nat->Prop} {H:Nat->Nat->Prop} {d:Nat}:∀ (ks:List K) (x:Tl ks) (cs:List Value) (j:Nat),aQ fresh Z w H ks x cs j->(fresh=false->Z'=Z)->(fresh=true->bp ks=0)->aP Z' g st w (ea d fresh ks x j) cs
 | [],_,[],_,_,_,_=>trivial
 | .sl e ks' :: ks,x,v :: vs,j,h,h1,h2=>by
   cases fresh with
   | true=>exact absurd (h2 rfl) (by simp [bp])
   | false => exact ⟨(show RO Z' w (.sl e ks') x.1 v from h1 rfl ▸ h.1),gr ks x.2 vs j h.2 h1 (fun hh=>by simp at hh)⟩
 | .int _ :: ks,x,v :: vs,j,h,h1,h2=>⟨eN (Z':=Z') rfl h.1,gr ks x.2 vs j h.2 h1 h2⟩
 | .bool :: ks,x,v :: vs,j,h,h1,h2=>⟨eN (Z':=Z') (k:= .bool) rfl h.1,gr ks x.2 vs j h.2 h1 h2⟩
 | .str :: ks,x,v :: vs,j,h,h1,h2=>⟨eN (Z':=Z') (k:= .str) rfl h.1,gr ks x.2 vs j h.2 h1 h2⟩
 | [],_,_ :: _,_,h,_,_=>h.elim
 | .sl _ _ :: _,_,[],_,h,_,_=>h.elim
 | .int _ :: _,_,[],_,h,_,_=>h.elim
 | .bool :: _,_,[],_,h,_,_=>h.elim
 | .str :: _,_,[],_,h,_,_=>h.elim
theorem kY {fresh:Bool} {Z':Nat->Prop} {H:Nat->Nat->Prop} {d:Nat}:∀ (rs:List (Bool×List K)) (y:CT rs) (vs:List Value) (j:Nat),lk fresh Z w H rs y vs j->(fresh=false->Z'=Z)->(fresh=true->mo rs=false)->fY Z' g st w (oR d fresh rs y j) vs
 | [],_,[],_,_,_,_=>trivial
 | (gg,ks) :: rs,y,v :: vs,j,h,h1,h2=>by
   obtain ⟨⟨cs,e1,e2⟩,h3⟩:=h;have h4:fresh=true->bp ks=0/\mo rs=false:=fun hf=>by have:=h2 hf;simp only [mo,aeL,afq] at this;exact ⟨beq_eq this.1,this.2⟩
   exact ⟨vd e1 (gr ks y.1 cs j e2 h1 fun hf=>(h4 hf).1),kY rs y.2 vs _ h3 h1 fun hf=>(h4 hf).2⟩
 | [],_,_ :: _,_,h,_,_=>h.elim
 | _ :: _,_,[],_,h,_,_=>h.elim
theorem gS {l:List (Bool×List AV)} {vs:List Value} {tv:TV} (h:fY Z g st w l vs) (hw:gu l=some tv):bD Z g st w tv (zN vs):=by
 match l,vs,h,hw with
 | [(true,l)],[v],h,hw=>simp only [gu,ac3] at hw; subst hw; exact h.1
 | [(false,[a])],[v],h,hw=>simp only [gu,ac3] at hw; subst hw; exact h.1
 | [(false,[])],[v],h,hw=>simp [gu] at hw
 | [(false,_ :: _ :: _)],[v],h,hw=>simp [gu] at hw
 | [],[],h,hw=>simp only [gu,ac3] at hw; subst hw; exact ⟨#[],rfl,trivial⟩
 | p :: q :: r,u :: v :: vs,h,hw =>
   have hw:some (TV.tup (p :: q :: r))=some tv:=by rw [<- hw];obtain ⟨b,l⟩:=p;cases b <;> (try cases l) <;> first | rfl | (rename_i _ l; cases l <;> rfl)
   simp only [ac3] at hw;subst hw;exact ⟨(u :: v :: vs).toArray,rfl,by simpa using h⟩
 | [],_ :: _,h,_=>exact h.elim
 | [_],[],h,_=>exact h.elim
 | [_],_ :: _ :: _,h,_=>exact h.2.elim
 | _ :: _ :: _,[],h,_=>exact h.elim
 | _ :: _ :: _,[_],h,_=>exact h.2.elim
end
section
variable {P:Program} {cx:Cx P} {Z:Nat->Prop} {g:Gh} {st:St} {a:Act} {w:World} {E:En}
theorem Bt {o:Oper} {next:Act->World->Prop} {Q:Exit->Act->World->Prop} {r:Result Next} {R:Value->World->Prop} (h:CW P R r) (hR:∀ v w',R v w'->next (a.put o.dst v) w'):o.upon P a next Q r:=by
 unfold CW at h;split at h
 . exact hR _ _ h
 . exact Calls.mono h fun e w' he=>by cases e <;> first | exact hR _ _ he | exact he.elim
 . exact h.elim
theorem wU {o:Oper} {c:Call} {f:Operand} {gid:Nat} {vs:Array Value} (ho:o.op= .call c) (hcal:c.callee= .value f) (hv:a.eval f= .func (.func gid) #[] vs) :
 (execOp a.eval o).run P w=(callFunc gid (c.args.map a.eval ++ vs)).run P w:=by
 simp only [execOp,ho,resolve,hcal,Deferred.ofValue,hv,adv,adN,adh,invoke,Array.empty_append]
theorem TX (hga:df P E) (h:Rel cx Z g st a w) (hc:Cons st) {o:Oper} {d:Nat} (hd:o.dst=some d) (hdn:jG cx a d) (hf:st.free d=true) {c:Call} {f:Operand} {gid:Nat} {caps:List (Bool×List AV)} {l:List TV} {s:Su} {x:PT s.ps} {z:uw s.ps} {y:CT s.rs} {p:TV×Option Rt}
 (ho:o.op= .call c) (hcal:c.callee= .value f) (hg:st.get f=some (.fn gid caps)) (hl:st.getAll c.args.toList=some l) (hs:s∈E.ga gid)
 (hx:st.args (!s.fresh) s.ps (l ++ caps.map fun p=>bif p.1 then .agg p.2 else (match p.2 with | [a]=> .v a | _=> .agg p.2))=some x) (hy:s.uA x=some (z,y)) (hp:fW d s y=some p):di P cx st a w o d p:=by
 obtain ⟨cv,ef,ec⟩:=aM h hc hg;intro next Q hk;unfold Oper.wp;rw [wU ho hcal ef];have hrel:=gb.app (kD h hc _ _ hl) (lD _ _ ec);have hvs:c.args.toList.map a.eval ++ cv.toList=(c.args.map a.eval ++ cv).toList:=by simp
 rw [hvs] at hrel;obtain ⟨Zc,hz1,hz2,hz3,hz4⟩:∃ Zc:Nat->Prop,(∀ b,Z b->b < w.heap.size->Zc b)/\((!s.fresh)=false->Zc=fZ w)/\(∀ b,Zc b->b < w.heap.size)/\(s.fresh=false->Zc=Z):=by
  cases hfr:s.fresh with
  | true=>exact ⟨fZ w,fun _ _ h=>h,fun _=>rfl,fun _ h=>h,fun h=>by simp at h⟩
  | false=>exact ⟨Z,fun _ h _=>h,fun h=>by simp at h,fun b hb=>(h.bS b hb).1,fun _=>rfl⟩
 have hargs:=rU h (!s.fresh) hz1 hz2 (F:=fun _ _=>False) s.ps _ _ x 0 hrel hx;have hsu:=hga gid s hs w Zc (fun _ _=>False) _ x (z,y) (h.gl.mono (ac7 _) fun b hb hl=>⟨hz1 b hb hl,rfl⟩) hargs hz3 (fun _ _ h=>h.elim) (fun _ _ _ h=>h.elim) hy;refine Bt hsu ?_;rintro v w' ⟨Z',H,vs,rfl,ha,_,hr⟩;rw [hd];have hblk:∀ b,b < w.heap.size->w'.heap[b]? = w.heap[b]? := fun b hb=>ha.block b hb (fun _ h=>h)
 have hnew:∀ n b,H n b->w.heap.size<=b/\b < w'.heap.size:=fun n b hb=>by
  obtain ⟨h1,_,h3⟩:=ha.fp n b hb;rcases h3 with ⟨_,h3⟩ | h3
  . exact h3.elim
  . exact ⟨h3,h1⟩
 unfold fW at hp;split at hp
 . rename_i tv hw;simp only [ac3] at hp;cases hb:s.fresh && mo s.rs with
   | false =>
     rw [hb] at hp;subst hp;have hn:s.fresh=true->mo s.rs=false:=fun hh=>by simpa [hh] using hb
     cases hfr:s.fresh with
     | false => have hzz:=hz4 hfr;subst hzz;have hrel':=Rel.Ac h ha.os ha.tape ha.output ha.size hblk ha.z (fun b hb=>by obtain ⟨h1,h2⟩:=ha.bS b hb;exact h2.imp id fun h2=>⟨h2,h1⟩);exact hk _ _ _ _ (hrel'.fA hdn (gS (kY _ _ _ _ hr (fun _=>rfl) hn) hw))
     | true => have hrel':=Rel.Ac h (Z':=Z) ha.os ha.tape ha.output ha.size hblk (fun _ h=>h) (fun b hb=> .inl hb);exact hk _ _ _ _ (hrel'.fA hdn (gS (kY _ _ _ _ hr (fun hh=>by rw [hfr] at hh; simp at hh) hn) hw))
   | true =>
     rw [hb] at hp;subst hp;simp only [ac5] at hb;have hfr:=hb.1;rw [hfr] at hr hw;have hlook:∀ (i:Nat) (c:RC),(cU s.rs y)[i]? = some c->(st.aE d (tv,some ⟨false,cU s.rs y⟩)).cell d (0 + i)=some c:=fun i c hi=>by show (match look ((d,_) :: st.rt) d with | some R=>R.cells[0 + i]? | none=>none)=_;rw [ba,if_pos rfl,adA];exact hi
     refine hk Z (g.at d 0 (fun j=>(ua s.rs vs).getD j undef) (fun j b=>j < (cU s.rs y).length/\H (2 * j + 1) b)) _ _ (Rel.AY h hdn hf ?_ ?_)
     . refine { os:=ha.os,tape:=ha.tape,output:=ha.output,size:=ha.size,block:=hblk,bS:=fun b hb=> .inl hb,zle:=fun _ h=>h,fp := ?_,disj := ?_,box:=fun hb=>by simp at hb,cell := ?_ }
       . intro j b hb;simp only [Gh.at,if_true] at hb;obtain ⟨h1,h2⟩:=hnew _ _ hb.2;obtain ⟨e,ks',x',v',g1,g2,g3⟩:=nf _ _ _ _ hr j _ (adi hb.1);exact ⟨h1,h2,fun hz=>by have:=(h.bS b hz).1; omega,_,_,x',adi hb.1,by rw [g1]⟩
       . intro j j' b h1 h2;simp only [Gh.at,if_true] at h1 h2;have:=ha.disj _ _ b h1.2 h2.2;omega
       . intro j c hj;obtain ⟨e,ks',x',v',g1,g2,g3⟩:=nf _ _ _ _ hr j c hj;subst g1;have hjl:j < (cU s.rs y).length:=by
          rcases adj j (cU s.rs y).length with hh | hh
          . exact hh
          . simp [adp hh] at hj
         show cO w' (.sl e ks') x' _ _;simp only [Gh.at,if_true,List.getD,g2,aeB];rw [adA] at g3;exact cO.frame _ _ _ _ _ (fun b hb=>⟨hjl,hb⟩) (fun _ _ _=>rfl) g3
     . refine gS (wR _ _ _ _ hr hlook fun i v hi => ?_) hw;simp [Gh.at,List.getD,hi]
 . simp at hp
theorem Ys (hT:bK P E) (h:Rel cx Z g st a w) (hc:Cons st) {o:Oper} {d:Nat} (hd:o.dst=some d) (hdn:jG cx a d) {c:Call} (ho:o.op= .call c) (hcal:c.callee= .builtin .cap) {x:Operand} {t:Nat} {ts:List Nat} (hargs:c.args.toList=[x]) (hts:c.argTypes.toList=t :: ts) {te:TI}
 (ht:E.sl t=some te) {tv:TV} (hx:st.get x=some tv) (hb:eG tv=true):di P cx st a w o d (.v (.d (.int .i64) (0:Int)),none):=by
 have ev:a.eval x= .slice none 0 0:=sy (aM h hc hx) hb;have hargs':c.args = #[x]:=by rw [<- aec (xs:=c.args),hargs]
 have hts0:c.argTypes[0]? = some t:=by rw [<- ac8,hts]; rfl
 obtain ⟨_,_,_,_,_,_,hu⟩:=dx hT ht;have hb:(Builtin.cap_ c.argTypes o.type #[.slice none 0 0]).run P w= .ok (.int .i64 0) w:=by simp [Builtin.cap_,hts0,adH hu,goInt]
 have hrun:(execOp a.eval o).run P w= .ok (.value (.int .i64 0)) w:=by simp only [execOp,ho,resolve,hcal,hargs',adv,adN,adh,invoke,builtin,aeC,ad4,ae1,ev,hb]
 exact cq h hd hdn hrun ⟨rfl,by unfold mq; decide⟩
end
end Go.Av
namespace Go.Av
open Go.RowKit (Below)
section
variable {st st':St}
theorem j8 {t:Tr AV} {p:TV×Option Rt} (h:(t.bind fun a=>Tr.ret (TV.v a,(none:Option Rt))).run=some p):∃ av,t.run=some av/\p=(.v av,none):=by
 rw [Tr.run_bind] at h;cases ht:t.run with
 | none=>simp [ht] at h
 | some av=>simp only [ht,adq,Tr.run,ac3] at h; exact ⟨av,rfl,h.symm⟩
theorem Ext.indexAddr (x:Ext st st') {sz:Nat} {tv:TV} {n:Int} {p:AV} (h:(st.indexAddr sz tv n).run=some p):(st'.indexAddr sz tv n).run=some p:=by
 unfold St.indexAddr at h ⊢;split at h
 . rename_i r j s;cases hc:st.cell r j with
   | none=>simp [hc,Tr.run] at h
   | some c=>rw [hc] at h; rw [x.cell hc]; exact h
 . exact h
 . rename_i r j s m e ks xs;cases hc:st.cell r j with
   | none=>simp [hc,Tr.run] at h
   | some c=>rw [hc] at h; rw [x.cell hc]; exact h
 . rename_i r j s m i c;cases hc:st.cell r j with
   | none=>simp [hc,Tr.run] at h
   | some c=>rw [hc] at h; rw [x.cell hc]; exact h
 . simp [Tr.run] at h
theorem Ext.tC {β:Type} (x:Ext st st') {lo hi:Option Operand} {n:Nat} {f:Int×Int->Tr β} {p:β} (h:(Tr.bu (Av.jY st lo hi n) f).run=some p):(Tr.bu (Av.jY st' lo hi n) f).run=some p:=by obtain ⟨q,h1,h2⟩:=Tr.af h;rw [x.jY h1];exact h2
theorem Ext.mY (x:Ext st st') {tv:TV} {lo hi:Option Operand} {p:AV} (h:(st.mY tv lo hi).run=some p):(st'.mY tv lo hi).run=some p:=by
 unfold St.mY at h ⊢;split at h
 . rename_i s hs;exact x.tC h
 . simp [Tr.run] at h
theorem Ext.mO (x:Ext st st') {sz:Nat} {tv:TV} {lo hi:Option Operand} {p:AV} (h:(st.mO sz tv lo hi).run=some p):(st'.mO sz tv lo hi).run=some p:=by
 unfold St.mO at h ⊢;split at h
 . exact x.tC h
 . rename_i e ks xs;cases hb:Nat.beq ks.length sz with
   | false=>simp [hb,Tr.run] at h
   | true=>simp only [hb,ac6] at h ⊢; exact x.tC h
 . rename_i r j s m e ks xs;cases hc:st.cell r j with
   | none=>simp [hc,Tr.run] at h
   | some rc =>
     simp only [hc] at h;simp only [x.cell hc];cases hb:Nat.beq rc.s s && Nat.beq rc.m m && Nat.beq ks.length sz with
     | false=>simp [hb,Tr.run] at h
     | true=>simp only [hb,ac6] at h ⊢; exact x.tC h
 . rename_i r j s m i c;cases hc:st.cell r j with
   | none=>simp [hc,Tr.run] at h
   | some rc =>
     simp only [hc] at h;simp only [x.cell hc];split at h
     . rename_i s' m' e0 ks0 x0 heq;simp only [ac3] at heq;subst heq;cases hb:Nat.beq s' s && Nat.beq m' m with
       | false=>simp [hb,Tr.run] at h
       | true =>
         simp only [hb,ac6] at h ⊢;split at h
         . rename_i e ks xs hcell;cases hb:Nat.beq ks.length sz with
           | false=>simp [hb,Tr.run] at h
           | true=>simp only [hb,ac6] at h ⊢; exact x.tC h
         . simp [Tr.run] at h
     . simp [Tr.run] at h
 . rename_i r j s;cases hc:st.cell r j with
   | none=>simp [hc,Tr.run] at h
   | some rc =>
     simp only [hc] at h;simp only [x.cell hc];split at h
     . rename_i s' m' e ks xs heq;simp only [ac3] at heq;subst heq;cases hb:Nat.beq s' s && Nat.beq ks.length sz with
       | false=>simp [hb,Tr.run] at h
       | true=>simp only [hb,ac6] at h ⊢; exact x.tC h
     . simp [Tr.run] at h
 . simp [Tr.run] at h
end
section
variable {P:Program} {cx:Cx P} {Z:Nat->Prop} {g:Gh} {st0 st:St} {a:Act} {w:World} {E:En}
theorem qX (hT:bK P E) {t:Nat} {te:TI} (h:E.sl t=some te) {ti:TI} (hti:E.ti t=some ti):∃ ks,E.ti t=some ti/\ti.agg=false/\ti.ks=[.sl ti.elem ks]/\E.ti ti.elem=some te:=by obtain ⟨tt,ks,t1,t2,t3,t4,_⟩:=dx hT h;rw [t1] at hti;simp only [ac3] at hti;subst hti;exact ⟨ks,t1,t2,t3,t4⟩
theorem oS {dst:Nat} {tvs:List TV}:∀ {l:List Su} {p:TV×Option Rt},(st0.uo dst l tvs).run=some p->∃ s x z y,s∈l/\st0.args (!s.fresh) s.ps tvs=some x/\s.uA x=some (z,y)/\fW dst s y=some p
 | [],p,h=>by simp [St.uo,Tr.run] at h
 | s :: r,p,h=>by
   have again:(st0.uo dst r tvs).run=some p->∃ s' x z y,s'∈s :: r/\st0.args (!s'.fresh) s'.ps tvs=some x/\s'.uA x=some (z,y)/\fW dst s' y=some p:=fun h=>by obtain ⟨s',x,z,y,h1,h2⟩:=oS h;exact ⟨s',x,z,y,adt _ h1,h2⟩
   unfold St.uo at h;cases hq:gN s.ps with
   | false=>simp only [hq,adm] at h; exact again h
   | true =>
     simp only [hq,ac6] at h;split at h
     . rename_i x hx;split at h
       . rename_i gg hg;obtain ⟨q,h1,h2⟩:=Tr.af h;simp only [Tr.run,ac3] at h2;subst h2;exact ⟨s,x,Pu s.ps,gg x,adu ..,hx,by simp [Su.uA,hg],h1⟩
       . rename_i f hf;simp only [Tr.run,aeM] at h;obtain ⟨⟨z,y⟩,h0,h⟩:=h;obtain ⟨q,h1,h2⟩:=Tr.af h;simp only [Tr.run,ac3] at h2;subst h2;exact ⟨s,x,z,y,adu ..,hx,by simp [Su.uA,hf,h0],h1⟩
     . exact again h
theorem zi (hT:bK P E) (hga:df P E) (x:Ext st0 st) (h:Rel cx Z g st a w) (hv:mH st) {o:Oper} {d:Nat} (hd:o.dst=some d) (hdn:jG cx a d) (hf:st.free d=true) {p:TV×Option Rt} (hq:(yG E st0 d o.op).run=some p):di P cx st a w o d p:=by
 have hc:=hv.cons;generalize hop:o.op=op at hq;unfold yG at hq;split at hq
 . obtain ⟨tv,h1,h2⟩:=Tr.af hq;simp only [Tr.run,ac3] at h2;subst h2;exact DF h hc hd hdn (.inl hop) (x.get h1)
 . obtain ⟨tv,h1,h2⟩:=Tr.af hq;simp only [Tr.run,ac3] at h2;subst h2;exact DF h hc hd hdn (.inr hop) (x.get h1)
 ·
  rename_i c y z;split at hq
  . rename_i hg;obtain ⟨tv,h1,h2⟩:=Tr.af hq;simp only [Tr.run,ac3] at h2;subst h2;exact zu h hv hd hdn hop (x.get hg) (x.get h1)
  . rename_i hg;obtain ⟨tv,h1,h2⟩:=Tr.af hq;simp only [Tr.run,ac3] at h2;subst h2;exact zu h hv hd hdn hop (x.get hg) (x.get h1)
  . rename_i gd hg;split at hq
    . rename_i k y1 k' z1 h1 h2;split at hq
      . rename_i z2 h3;simp only [Tr.run,ac3] at hq;subst hq;exact TQ h hv hd hdn hop (x.get hg) (x.side h1) (x.side h2) h3
      . simp [Tr.run] at hq
    . simp [Tr.run] at hq
  . simp [Tr.run] at hq
 . obtain ⟨ti,h1,h2⟩:=Tr.af hq;simp only [Tr.run,ac3] at h2;subst h2;exact MZ hT h hd hdn hf hop h1
 ·
  obtain ⟨ti,h1,hq⟩:=Tr.af hq;obtain ⟨tv,h2,hq⟩:=Tr.af hq;obtain ⟨q,h3,hq⟩:=Tr.af hq;cases hb:Nat.beq q.2.length ti.ks.length with
  | false=>simp [hb,Tr.run] at hq
  | true => simp only [hb,ac6] at hq;obtain ⟨l,h4,hq⟩:=Tr.af hq;simp only [Tr.run,ac3] at hq;subst hq;exact XY hT h hc hd hdn hf hop (x.get h2) h3 (x.j9 h4)
 ·
  obtain ⟨ti,h1,hq⟩:=Tr.af hq;cases hb:ti.agg with
  | false=>simp [hb,Tr.run] at hq
  | true => simp only [hb,adL,adm] at hq;obtain ⟨l,h4,hq⟩:=Tr.af hq;simp only [Tr.run,ac3] at hq;subst hq;exact Nz hT h hc hd hdn hop h1 hb (tw (fun _ _ _ hh=>x.rM hh) h4)
 ·
  rename_i t n parts;obtain ⟨ti,h1,hq⟩:=Tr.af hq;obtain ⟨te,h2,hq⟩:=Tr.af hq;obtain ⟨l,h3,hq⟩:=Tr.af hq;have h3':=tw (fun _ _ _ hh=>x.lv hh) h3;cases hb:Nat.ble (n * te.ks.length) 1000 && Nat.ble n 1000 with
  | false=>simp [hb,Tr.run] at hq
  | true =>
    simp only [hb,ac6] at hq;simp only [ac5] at hb;have hn:=adC hb.1;have hn':n<=aT:=ady (adC hb.2) (by decide);obtain ⟨xs,h4,hq⟩:=Tr.af hq;cases hfl:(flat te.ks || l.all nL) && !(kN E.pins 999999 && l.all AV.bP) with
    | true => simp only [hfl,ac6,Tr.run,ac3] at hq;subst hq;simp only [ac5] at hfl;exact C0 hT h hc hd hdn hf hop (qX hT h2 h1) h3' hn (x.chunks h4) (by simpa using hfl.1) hn'
    | false =>
      simp only [hfl,adm] at hq;cases hfa:l.all AV.bP with
      | true => simp only [hfa,ac6,Tr.run,ac3] at hq;subst hq;exact DX hT h hc hd hdn hop (qX hT h2 h1) h3' hn (x.chunks h4) hfa hn'
      | false => simp only [hfa,adm,Tr.run,ac3] at hq;subst hq;exact A8 hT h hc hd hdn hf hop (qX hT h2 h1) h3' hn
 ·
  obtain ⟨ti,h1,hq⟩:=Tr.af hq;obtain ⟨tx,h2,hq⟩:=Tr.af hq;obtain ⟨av,h3,hq⟩:=Tr.af hq;obtain ⟨l,h4,hq⟩:=Tr.af hq;obtain ⟨tv,h5,hq⟩:=Tr.af hq;simp only [Tr.run,ac3] at hq;subst hq;exact Ts hT h hc hd hdn hop h1 (x.get h2) h3 (x.load h4) h5
 ·
  obtain ⟨tv,h1,hq⟩:=Tr.af hq;split at hq
  . simp only [Tr.run,ac3] at hq;subst hq;exact xT h hc hd hdn hop (x.get h1) (.inl ⟨_,_,rfl⟩)
  . rename_i r j s i c;cases hl:st0.live (.pel r j s i c) with
    | false=>simp [hl,Tr.run] at hq
    | true => simp only [hl,ac6,Tr.run,ac3] at hq;subst hq;exact xT h hc hd hdn hop (x.get h1) (.inr ⟨⟨_,_,_,_,_,rfl⟩,x.live hl⟩)
  . simp [Tr.run] at hq
 ·
  obtain ⟨tx,h1,hq⟩:=Tr.af hq;obtain ⟨ty,h2,hq⟩:=Tr.af hq;obtain ⟨av,h3,rfl⟩:=j8 hq;exact Xg hT h hc hd hdn hop (x.get h1) (x.get h2) h3
 ·
  obtain ⟨tx,h1,hq⟩:=Tr.af hq;obtain ⟨av,h3,rfl⟩:=j8 hq;exact acv h hc hd hdn hop (x.get h1) h3
 ·
  obtain ⟨ts,h1,hq⟩:=Tr.af hq;obtain ⟨td,h2,hq⟩:=Tr.af hq;obtain ⟨tx,h3,hq⟩:=Tr.af hq;cases hb:ts.agg || td.agg with
  | true=>simp [hb,Tr.run] at hq
  | false =>
    simp only [hb,adm] at hq;simp only [aeL] at hb;split at hq
    . rename_i k0 k e1 e2;obtain ⟨q,h4,hq⟩:=Tr.af hq;obtain ⟨av,h5,rfl⟩:=j8 hq;simp only [Tr.run,ac3] at h5;subst h5;exact Eo hT h hc hd hdn hop h1 h2 hb.1 hb.2 e1 e2 (x.get h3) h4
    . rename_i e e1 e2;cases hu:E.u8 td.elem with
      | false=>simp [hu,Tr.run] at hq
      | true => simp only [hu,adL,adm] at hq;obtain ⟨q,h4,hq⟩:=Tr.af hq;simp only [Tr.run,ac3] at hq;subst hq;exact vV hT h hc hd hdn hf hop h1 h2 hb.1 hb.2 e1 e2 hu (x.get h3) h4
    . rename_i e e1 e2;cases hu:E.u8 ts.elem with
      | false=>simp [hu,Tr.run] at hq
      | true => simp only [hu,adL,adm] at hq;obtain ⟨q,h4,hq⟩:=Tr.af hq;obtain ⟨xs,h5,hq⟩:=Tr.af hq;obtain ⟨av,h6,rfl⟩:=j8 hq;simp only [Tr.run,ac3] at h6;subst h6;exact Ag hT h hc hd hdn hop h1 h2 hb.1 hb.2 e1 e2 hu (x.get h3) h4 (x.ct h5)
    . rename_i e1 e2;obtain ⟨q,h4,hq⟩:=Tr.af hq;obtain ⟨av,h5,rfl⟩:=j8 hq;simp only [Tr.run,ac3] at h5;subst h5;exact EL hT h hc hd hdn hop h1 h2 hb.1 hb.2 e1 e2 (x.get h3) h4
    . simp [Tr.run] at hq
 ·
  rename_i t n n';obtain ⟨ti,h1,hq⟩:=Tr.af hq;obtain ⟨te,h2,hq⟩:=Tr.af hq;obtain ⟨tv,h3,hq⟩:=Tr.af hq;obtain ⟨q,h4,hq⟩:=Tr.af hq;cases hb:Nat.beq n n' with
  | false=>simp [hb,Tr.run] at hq
  | true => simp only [hb,ac6] at hq;have hn:=beq_eq hb;obtain ⟨h5,hq⟩:=Tr.bo hq;simp only [Tr.run,ac3] at hq;subst hq;simp only [ac5,bL,aeg] at h5;obtain ⟨ev,_⟩:=cS (aM h hc (o:= .tmp n) (x.tv h3)) h4;exact Cr hT h hd hdn hf hop ev (hn ▸ ev) (qX hT h2 h1) h5.1 h5.2.1 (Nat.lt_of_not_le fun hh=>by have:=h5.2.2; simp [Nat.blt,Nat.ble_eq] at this; omega)
 ·
  rename_i t k n k' n';obtain ⟨ti,h1,hq⟩:=Tr.af hq;obtain ⟨te,h2,hq⟩:=Tr.af hq;cases hb:n == n' && (bL 0 n && (bL (n * te.bytes) aT && Nat.blt 0 te.bytes)) with
  | false=>simp [hb,Tr.run] at hq
  | true => simp only [hb,ac6,Tr.run,ac3] at hq;subst hq;simp only [ac5,bL,aeg,beq_iff_eq] at hb;obtain ⟨rfl,h5⟩:=hb;exact Cr hT h hd hdn hf hop rfl rfl (qX hT h2 h1) h5.1 h5.2.1 (Nat.lt_of_not_le fun hh=>by have:=h5.2.2; simp [Nat.blt,Nat.ble_eq] at this; omega)
 ·
  rename_i t y lo hi;obtain ⟨tv,h1,hq⟩:=Tr.af hq;split at hq
  . rename_i te h2;obtain ⟨av,h3,rfl⟩:=j8 hq;exact Ni hT h hc hd hdn hop h2 (x.get h1) (x.mO h3)
  . cases hs:E.str t with
    | false=>simp [hs,Tr.run] at hq
    | true => simp only [hs,ac6] at hq;obtain ⟨av,h3,rfl⟩:=j8 hq;exact Ji hT h hc hd hdn hop hs (x.get h1) (x.mY h3)
 ·
  obtain ⟨ti,h1,hq⟩:=Tr.af hq;obtain ⟨q,h2,hq⟩:=Tr.af hq;obtain ⟨tv,h3,hq⟩:=Tr.af hq;obtain ⟨av,h4,hq⟩:=Tr.af hq;cases hb:ti.agg && st0.live av with
  | false=>simp [hb,Tr.run] at hq
  | true => simp only [hb,ac6] at hq;simp only [ac5] at hb;obtain ⟨av',h5,hq⟩:=Tr.af hq;simp only [Tr.run,ac3] at hq;subst hq;exact BC hT h hc hd hdn hop h1 hb.1 h2 (x.get h3) h4 (x.live hb.2) h5
 ·
  obtain ⟨ti,h1,hq⟩:=Tr.af hq;obtain ⟨q,h2,hq⟩:=Tr.af hq;obtain ⟨tf,h3,hq⟩:=Tr.af hq;obtain ⟨tv,h4,hq⟩:=Tr.af hq;split at hq
  . rename_i l;cases hb:ti.agg && Nat.ble (q.1 + tf.ks.length) l.length with
    | false=>simp [hb,Tr.run] at hq
    | true => simp only [hb,ac6] at hq;simp only [ac5] at hb;obtain ⟨tv',h5,hq⟩:=Tr.af hq;simp only [Tr.run,ac3] at hq;subst hq;exact Ot hT h hc hd hdn hop h1 hb.1 h2 h3 (x.get h4) (adC hb.2) h5
  . simp [Tr.run] at hq
 ·
  obtain ⟨te,h1,hq⟩:=Tr.af hq;obtain ⟨tv,h2,hq⟩:=Tr.af hq;obtain ⟨ti,h3,hq⟩:=Tr.af hq;obtain ⟨q,h4,hq⟩:=Tr.af hq;obtain ⟨av,h5,rfl⟩:=j8 hq;exact Cv hT h hc hd hdn hop h1 (x.get h2) (x.get h3) h4 (x.indexAddr h5)
 ·
  rename_i t y i;cases hs:E.str t with
  | false=>simp [hs,Tr.run] at hq
  | true => simp only [hs,adL,adm] at hq;obtain ⟨tv,h2,hq⟩:=Tr.af hq;obtain ⟨ti,h3,hq⟩:=Tr.af hq;obtain ⟨q,h4,hq⟩:=Tr.af hq;obtain ⟨s,h5,hq⟩:=Tr.af hq;obtain ⟨h6,hq⟩:=Tr.bo hq;obtain ⟨av,h7,rfl⟩:=j8 hq;simp only [Tr.run,ac3] at h7;subst h7;exact ON hT h hc hd hdn hop hs (x.get h2) (x.get h3) h4 h5 h6
 ·
  obtain ⟨tv,h1,hq⟩:=Tr.af hq;split at hq
  . rename_i l;split at hq
    . rename_i gg l' h2;obtain ⟨tv',h3,hq⟩:=Tr.af hq;simp only [Tr.run,ac3] at hq;subst hq;exact HN h hc hd hdn hop (x.get h1) h2 h3
    . simp [Tr.run] at hq
  . simp [Tr.run] at hq
 ·
  rename_i f first caps
  cases hb:Nat.beq first.size 0 with
  | false=>simp [hb,Tr.run] at hq
  | true => simp only [hb,ac6] at hq;obtain ⟨l,h1,hq⟩:=Tr.af hq;obtain ⟨r,h2,hq⟩:=Tr.af hq;simp only [Tr.run,ac3] at hq;subst hq;exact Ey h hc hd hdn hop (beq_eq hb) (x.getAll h1) h2
 ·
  rename_i c;split at hq
  . rename_i hcal;split at hq
    . rename_i y t ts hargs hts;cases hs:E.str t with
      | true => simp only [hs,ac6] at hq;obtain ⟨tv,h1,hq⟩:=Tr.af hq;obtain ⟨n,h2,hq⟩:=Tr.af hq;obtain ⟨av,h3,rfl⟩:=j8 hq;simp only [Tr.run,ac3] at h3;subst h3;exact PD (isS:=true) hT h hc hd hdn hop hcal hargs hts hs (x.get h1) (x.len h2)
      | false => simp only [hs,adm] at hq;obtain ⟨te,h0,hq⟩:=Tr.af hq;obtain ⟨tv,h1,hq⟩:=Tr.af hq;obtain ⟨n,h2,hq⟩:=Tr.af hq;obtain ⟨av,h3,rfl⟩:=j8 hq;simp only [Tr.run,ac3] at h3;subst h3;exact PD (isS:=false) hT h hc hd hdn hop hcal hargs hts ⟨te,h0⟩ (x.get h1) (x.len h2)
    . simp [Tr.run] at hq
  . rename_i hcal;split at hq
    . rename_i y t ts hargs hts;obtain ⟨te,h0,hq⟩:=Tr.af hq;obtain ⟨tv,h1,hq⟩:=Tr.af hq;cases hb:eG tv with
      | false=>rw [hb] at hq; simp [Tr.run] at hq
      | true => rw [hb] at hq;simp only [ac6] at hq;obtain ⟨av,h3,rfl⟩:=j8 hq;simp only [Tr.run,ac3] at h3;subst h3;exact Ys hT h hc hd hdn hop hcal hargs hts h0 (x.get h1) hb
    . simp [Tr.run] at hq
  . rename_i hcal;split at hq
    . rename_i y z hargs;obtain ⟨tx,h1,hq⟩:=Tr.af hq;obtain ⟨ty,h2,hq⟩:=Tr.af hq;obtain ⟨p1,h3,hq⟩:=Tr.af hq;obtain ⟨p2,h4,hq⟩:=Tr.af hq;cases hk:(p1.1 == p2.1) with
      | false=>simp [hk,Tr.run] at hq
      | true => simp only [hk,ac6] at hq;obtain ⟨av,h5,rfl⟩:=j8 hq;simp only [Tr.run,ac3] at h5;subst h5;exact C6 (mn:=true) h hc hd hdn hop hcal hargs (x.get h1) (x.get h2) h3 h4 (by simpa using hk)
    . simp [Tr.run] at hq
  . rename_i hcal;split at hq
    . rename_i y z hargs;obtain ⟨tx,h1,hq⟩:=Tr.af hq;obtain ⟨ty,h2,hq⟩:=Tr.af hq;obtain ⟨p1,h3,hq⟩:=Tr.af hq;obtain ⟨p2,h4,hq⟩:=Tr.af hq;cases hk:(p1.1 == p2.1) with
      | false=>simp [hk,Tr.run] at hq
      | true => simp only [hk,ac6] at hq;obtain ⟨av,h5,rfl⟩:=j8 hq;simp only [Tr.run,ac3] at h5;subst h5;exact C6 (mn:=false) h hc hd hdn hop hcal hargs (x.get h1) (x.get h2) h3 h4 (by simpa using hk)
    . simp [Tr.run] at hq
  . rename_i f hcal;obtain ⟨tf,h1,hq⟩:=Tr.af hq;split at hq
    . rename_i gid caps;obtain ⟨l,h2,hq⟩:=Tr.af hq;obtain ⟨s,y,z,r,h3,h4,h5,h6⟩:=oS hq;exact TX hga h hc hd hdn hf hop hcal (x.get h1) (x.getAll h2) h3 (x.args h4) h5 h6
    . simp [Tr.run] at hq
  . simp [Tr.run] at hq
 . simp [Tr.run] at hq
end
end Go.Av
namespace Go.Av
open Go.RowKit (Below)
def TV.iq:TV->Prop
 | .may _ _ _ _ _=>True
 | _=>False
theorem CN {gg:Bool} {l:List AV} {tv:TV} (h:ff gg l=some tv):¬ tv.iq:=by unfold ff at h;split at h <;> simp at h <;> subst h <;> exact fun h=>h
theorem mI {l:List (Bool×List AV)} {tv:TV} (h:gu l=some tv):¬ tv.iq:=by unfold gu at h;split at h <;> simp at h <;> subst h <;> exact fun h=>h
theorem zc {st:St} {o:Operand} {tv:TV} (h:st.get o=some tv) (hm:tv.iq):∃ d,look st.tm d=some tv:=by
 cases tv with
 | may q want y gg l=>obtain ⟨d,hd,_⟩:=Gr h; exact ⟨d,hd⟩
 | _=>exact hm.elim
section
variable {st0:St} {E:En}
def NM (st0:St) (t:Tr (TV×Option Rt)):Prop:=∀ p,t.run=some p->p.1.iq->∃ d',look st0.tm d'=some p.1
theorem abe {α:Type} {o:Option α} {f:α->Tr (TV×Option Rt)} (h:∀ x,o=some x->NM st0 (f x)):NM st0 (Tr.bu o f):=fun p hp=>by obtain ⟨x,h1,h2⟩:=Tr.af hp;exact h x h1 p h2
theorem ack {c:Bool} {t u:Tr (TV×Option Rt)} (h:NM st0 t) (h':NM st0 u):NM st0 (bif c then t else u):=by cases c <;> assumption
theorem ab3 {c:Bool} {t:Tr (TV×Option Rt)} (h:NM st0 t):NM st0 (.need c t):=fun p hp=>h p (Tr.bo hp).2
theorem XU {p:TV×Option Rt} (h:¬ p.1.iq):NM st0 (.ret p):=fun q hq hm=>by simp only [Tr.run,ac3] at hq;subst hq;exact (h hm).elim
theorem ZV {t:Tr AV}:NM st0 (t.bind fun a=> .ret (.v a,none)):=fun p hp hm=>by obtain ⟨av,_,rfl⟩:=j8 hp;exact hm.elim
theorem Zx:NM st0 .fail:=fun p hp=>by simp [Tr.run] at hp
theorem acW {x:Operand} {tv:TV} (h:st0.get x=some tv):NM st0 (.ret (tv,none)):=fun p hp hm=>by simp only [Tr.run,ac3] at hp;subst hp;exact zc h hm
theorem abT {d:Nat} {l:List Su} {tvs:List TV}:NM st0 (st0.uo d l tvs):=fun p hq hm=>by
 obtain ⟨s,y,z,r,h3,h4,h5,h6⟩:=oS hq;unfold fW at h6;split at h6
 . rename_i tv hw;simp only [ac3] at h6;subst h6;exact (mI hw hm).elim
 . simp at h6
theorem F3 {d:Nat} {op:Op} {p:TV×Option Rt} (hq:(yG E st0 d op).run=some p) (hm:p.1.iq):∃ d',look st0.tm d'=some p.1:=by
 have h:NM st0 (yG E st0 d op):=by
  unfold yG
  repeat' first | exact ZV | exact Zx | exact abT | refine abe fun _ _ => ?_ | exact acW (by assumption) | refine ack ?_ ?_ | refine ab3 ?_ | exact XU (CN (by assumption)) | exact XU fun h=>h | split
 exact h p hq hm
end
theorem bd (st:St) (d:Nat) (p:TV×Option Rt) (t:Nat):look (st.aE d p).tm t=if d=t then some p.1 else look st.tm t:=ba _ _ _ _
theorem vw (st:St) (d:Nat) (p:TV×Option Rt) (r:Nat):look (st.aE d p).rt r=match p.2 with | some R=>if d=r then some R else look st.rt r | none=>look st.rt r:=by
 unfold St.aE;cases p.2 with
 | none=>rfl
 | some R=>exact ba _ _ _ _
def dw (nt:Nat->Prop) (base:St):Bd->Prop
 | []=>True
 | (i,t,p) :: r=>nt t/\look base.tm t=none/\look base.rt t=none/\(∀ e∈r,e.1≠i/\e.2.1≠t)/\dw nt base r
theorem dw.mem {nt:Nat->Prop} {base:St}:∀ {bs:Bd} {i t:Nat} {p:TV×Option Rt},dw nt base bs->(i,t,p)∈bs->nt t/\look base.tm t=none/\look base.rt t=none
 | [],_,_,_,_,h=>by simp at h
 | (i0,t0,p0) :: r,i,t,p,hb,h=>by
   obtain ⟨h1,h2,h3,h4,h5⟩:=hb;rcases adg.1 h with h | h
   . cases h; exact ⟨h1,h2,h3⟩
   . exact dw.mem h5 h
theorem dw.uniq {nt:Nat->Prop} {base:St}:∀ {bs:Bd} {i i' t t':Nat} {p p':TV×Option Rt},dw nt base bs->(i,t,p)∈bs->(i',t',p')∈bs->(i=i'∨t=t')->i=i'/\t=t'/\p=p'
 | [],_,_,_,_,_,_,_,h,_,_=>by simp at h
 | (i0,t0,p0) :: r,i,i',t,t',p,p',hb,h,h',he=>by
   obtain ⟨h1,h2,h3,h4,h5⟩:=hb;rcases adg.1 h with h | h
   . cases h;rcases adg.1 h' with h' | h'
     . cases h'; exact ⟨rfl,rfl,rfl⟩
     . have:=h4 _ h';rcases he with he | he
       . exact absurd he.symm this.1
       . exact absurd he.symm this.2
   . rcases adg.1 h' with h' | h'
     . cases h';have:=h4 _ h;rcases he with he | he
       . exact absurd he this.1
       . exact absurd he this.2
     . exact dw.uniq h5 h h' he
theorem eY {nt:Nat->Prop} {base:St} (m:Nat):∀ {bs:Bd},dw nt base bs->∀ (t:Nat) (tv:TV),look (view base m bs).tm t=some tv↔(∃ i p,(i,t,p)∈bs/\m.testBit i=true/\p.1=tv)∨look base.tm t=some tv
 | [],_,t,tv=>by simp [view]
 | (i0,t0,p0) :: r,hb,t,tv=>by
   obtain ⟨h1,h2,h3,h4,h5⟩:=hb;have ih:=eY m h5 t tv;unfold view;cases hm:m.testBit i0 with
   | false =>
     simp only [adm];rw [ih];constructor
     . rintro (⟨i,p,hp,hq⟩ | h)
       . exact .inl ⟨i,p,adt _ hp,hq⟩
       . exact .inr h
     . rintro (⟨i,p,hp,hq⟩ | h)
       . rcases adg.1 hp with hp | hp
         . cases hp; rw [hm] at hq; simp at hq
         . exact .inl ⟨i,p,hp,hq⟩
       . exact .inr h
   | true =>
     simp only [ac6];rw [bd];by_cases ht:t0=t
     . subst ht;rw [if_pos rfl];constructor
       . intro h;exact .inl ⟨i0,p0,adu ..,hm,by simpa using h⟩
       . rintro (⟨i,p,hp,hq,rfl⟩ | h)
         . rcases adg.1 hp with hp | hp
           . cases hp; rfl
           . exact absurd rfl (h4 _ hp).2
         . rw [h2] at h; simp at h
     . rw [if_neg ht,ih];constructor
       . rintro (⟨i,p,hp,hq⟩ | h)
         . exact .inl ⟨i,p,adt _ hp,hq⟩
         . exact .inr h
       . rintro (⟨i,p,hp,hq⟩ | h)
         . rcases adg.1 hp with hp | hp
           . cases hp; exact absurd rfl ht
           . exact .inl ⟨i,p,hp,hq⟩
         . exact .inr h
theorem gy {nt:Nat->Prop} {base:St} (m:Nat):∀ {bs:Bd},dw nt base bs->∀ (t:Nat) (R:Rt),look (view base m bs).rt t=some R↔(∃ i p,(i,t,p)∈bs/\m.testBit i=true/\p.2=some R)∨look base.rt t=some R
 | [],_,t,tv=>by simp [view]
 | (i0,t0,p0) :: r,hb,t,R=>by
   obtain ⟨h1,h2,h3,h4,h5⟩:=hb;have ih:=gy m h5 t R;have skip:((∃ i p,(i,t,p)∈r/\m.testBit i=true/\p.2=some R)∨look base.rt t=some R)->(∃ i p,(i,t,p)∈(i0,t0,p0) :: r/\m.testBit i=true/\p.2=some R)∨look base.rt t=some R:=by
    rintro (⟨i,p,hp,hq⟩ | h)
    . exact .inl ⟨i,p,adt _ hp,hq⟩
    . exact .inr h
   unfold view;cases hm:m.testBit i0 with
   | false =>
     simp only [adm];rw [ih];refine ⟨skip,?_⟩;rintro (⟨i,p,hp,hq⟩ | h)
     . rcases adg.1 hp with hp | hp
       . cases hp; rw [hm] at hq; simp at hq
       . exact .inl ⟨i,p,hp,hq⟩
     . exact .inr h
   | true =>
     simp only [ac6];rw [vw];cases hp0:p0.2 with
     | none =>
       simp only;rw [ih];refine ⟨skip,?_⟩;rintro (⟨i,p,hp,hq,hq'⟩ | h)
       . rcases adg.1 hp with hp | hp
         . cases hp; rw [hp0] at hq'; simp at hq'
         . exact .inl ⟨i,p,hp,hq,hq'⟩
       . exact .inr h
     | some R0 =>
       simp only;by_cases ht:t0=t
       . subst ht;rw [if_pos rfl];constructor
         . intro h;exact .inl ⟨i0,p0,adu ..,hm,by rw [hp0]; exact h⟩
         . rintro (⟨i,p,hp,hq,hq'⟩ | h)
           . rcases adg.1 hp with hp | hp
             . cases hp; rw [hp0] at hq'; exact hq'
             . exact absurd rfl (h4 _ hp).2
           . rw [h3] at h; simp at h
       . rw [if_neg ht,ih];refine ⟨skip,?_⟩;rintro (⟨i,p,hp,hq⟩ | h)
         . rcases adg.1 hp with hp | hp
           . cases hp; exact absurd rfl ht
           . exact .inl ⟨i,p,hp,hq⟩
         . exact .inr h
def bitsOf:Bd->Nat
 | []=>0
 | (i,_,_) :: r=>bitsOf r ||| 2 ^ i
theorem dT:∀ {bs:Bd} {i t:Nat} {p:TV×Option Rt},(i,t,p)∈bs->(bitsOf bs).testBit i=true
 | (i0,t0,p0) :: r,i,t,p,h=>by
   unfold bitsOf;rw [Nat.testBit_or];rcases adg.1 h with h | h
   . cases h; simp [Nat.testBit_two_pow_self]
   . rw [dT h]; rfl
theorem gL (base:St) (m:Nat):∀ (bs:Bd),(∀ i t p,(i,t,p)∈bs->m.testBit i=true)->aD base bs=view base m bs
 | [],_=>rfl
 | (i,t,p) :: r,h=>by unfold aD view;rw [h i t p (adu ..)];simp only [ac6];rw [gL base m r fun i' t' p' h'=>h i' t' p' (adt _ h')]
end Go.Av
namespace Go.Av
open Go.RowKit (Below)
def ew (tv tv':TV):Prop:=∀ (Z:Nat->Prop) (g:Gh) (st:St) (w:World) (v:Value),bD Z g st w tv v->bD Z g st w tv' v
theorem ew.refl (tv:TV):ew tv tv:=fun _ _ _ _ _ h=>h
theorem ew.trans {p q r:TV} (h:ew p q) (h':ew q r):ew p r:=fun Z g st w v x=>h' Z g st w v (h Z g st w v x)
def Alike (p p':TV×Option Rt):Prop:=p.2=p'.2/\ew p.1 p'.1/\ew p'.1 p.1
theorem Alike.refl (p:TV×Option Rt):Alike p p:=⟨rfl,ew.refl _,ew.refl _⟩
theorem Alike.trans {p q r:TV×Option Rt} (h:Alike p q) (h':Alike q r):Alike p r:=⟨h.1.trans h'.1,h.2.1.trans h'.2.1,h'.2.2.trans h.2.2⟩
def dt (bs bs':Bd):Prop:=∀ i t p,(i,t,p)∈bs->∃ p',(i,t,p')∈bs'/\Alike p p'
theorem dt.refl (bs:Bd):dt bs bs:=fun i t p h=>⟨p,h,Alike.refl p⟩
theorem dt.trans {a b c:Bd} (h:dt a b) (h':dt b c):dt a c:=fun i t p hp=>by obtain ⟨p',h1,h2⟩:=h i t p hp;obtain ⟨p'',h3,h4⟩:=h' i t p' h1;exact ⟨p'',h3,h2.trans h4⟩
theorem dt.cons {e:Nat×Nat×(TV×Option Rt)} {bs bs':Bd} (h:dt bs bs'):dt bs (e :: bs'):=fun i t p hp=>by obtain ⟨p',h1,h2⟩:=h i t p hp;exact ⟨p',adt _ h1,h2⟩
def MB (st:St):Prop:=∀ d q want y gg l,look st.tm d=some (.may q want y gg l)->∃ tq,look st.tm q=some tq/\fM tq y
theorem MB.cons {st:St} (h:MB st):mH st:=fun d q want y gg l hl tq htq=>by obtain ⟨tq',h1,h2⟩:=h d q want y gg l hl;rw [htq] at h1;simp only [ac3] at h1;exact h1 ▸ h2
theorem fM.of {tv tv':TV} {y:Bool} (h:ew tv' tv) (ht:fM tv y):fM tv' y:=fun Z g st w v hr=>ht Z g st w v (h Z g st w v hr)
theorem bN {nt:Nat->Prop} {base:St} {bs:Bd} (hb:dw nt base bs) (t:Nat) (tv:TV):look (aD base bs).tm t=some tv↔(∃ i p,(i,t,p)∈bs/\p.1=tv)∨look base.tm t=some tv:=by
 rw [gL base (bitsOf bs) bs (fun i t p h=>dT h),eY _ hb];constructor
 . rintro (⟨i,p,h1,_,h3⟩ | h)
   . exact .inl ⟨i,p,h1,h3⟩
   . exact .inr h
 . rintro (⟨i,p,h1,h3⟩ | h)
   . exact .inl ⟨i,p,h1,dT h1,h3⟩
   . exact .inr h
section
variable {P:Program} {cx:Cx P} {Z:Nat->Prop} {g:Gh} {st:St} {a:Act} {w:World} {E:En}
theorem Rel.swap (h:Rel cx Z g st a w) {st':St} (hr:∀ r,look st'.rt r=look st.rt r) (ht:∀ t tv,look st'.tm t=some tv->t < a.tmps.size/\bD Z g st w tv (a.tmps.getD t undef)):Rel cx Z g st' a w:=by
 have hcell:∀ r j,st'.cell r j=st.cell r j:=fun r j=>by simp only [St.cell,hr]
 have k:l8 Z Z w w g g st st' :=
  { size:=ac7 _,z:=fun b hb _=>⟨hb,rfl⟩,root:=fun r R hR=>⟨R,by rw [hr]; exact hR,rfl,fun _=>rfl⟩
    cell:=fun r j c hc=>⟨c,by rw [hcell]; exact hc,Fx.refl w g r j c⟩
    own:=fun r j b hb=>(h.fp r j b hb).1
    block:=(eO h (st':=st) (w':=w) rfl rfl).block }
 exact { os:=h.os,tape:=h.tape,output:=h.output,size:=h.size,block:=h.block,bS:=h.bS,z0:=h.z0
         fp:=fun r j b hb=>by rw [hcell]; exact h.fp r j b hb
         disj:=h.disj
         box:=fun r R hR hb=>by rw [hr] at hR;obtain ⟨b1,b2,b3,b4,b5⟩:=h.box r R hR hb;exact ⟨b1,b2,b3,fun r' R' hR'=>by rw [hr] at hR'; exact b4 r' R' hR',b5⟩
         cell:=fun r j c hc=>by rw [hcell] at hc;exact jo.bZ k _ _ _ _ (h.cell r j c hc) (fun _ h=>h) (fun _ _ _=>rfl)
         tm:=fun t tv htt=>⟨(ht t tv htt).1,bD.bZ k _ _ (ht t tv htt).2⟩
         defers:=h.defers,pin:=h.pin }
theorem Cc {β:Type} (l l':List (Nat×β)) (n:Nat):look (l ++ l') n=match look l n with | some x=>some x | none=>look l' n:=by
 induction l with
 | nil=>rfl
 | cons p l ih => obtain ⟨m,x⟩:=p;simp only [afK,look];cases Nat.beq m n <;> simp [ih]
def over (st0 stS:St):St:=⟨st0.tm ++ stS.tm,stS.rt⟩
theorem rH (st0 stS:St) (t:Nat):look (over st0 stS).tm t=match look st0.tm t with | some x=>some x | none=>look stS.tm t:=by show look (st0.tm ++ stS.tm) t=_;rw [Cc];cases look st0.tm t <;> rfl
structure Fits (st0 stS:St) (a:Act):Prop where
 rt:∀ r R,look st0.rt r=some R->look stS.rt r=some R
 tm:∀ t tv0,look st0.tm t=some tv0->∃ tv,look stS.tm t=some tv/\ew tv0 tv/\∀ (Z:Nat->Prop) (g:Gh) (st:St) (w:World),bD Z g st w tv (a.tmps.getD t undef)->bD Z g st w tv0 (a.tmps.getD t undef)
 may:∀ d q want y gg l,look st0.tm d=some (.may q want y gg l)->∀ tq,look stS.tm q=some tq->fM tq y
 mayS:mH stS
theorem Fits.ext {st0 stS:St} (f:Fits st0 stS a):Ext st0 (over st0 stS) where
 tm:=fun t tv h=>by rw [rH,h]
 rt:=f.rt
theorem Fits.rel {st0 stS:St} (f:Fits st0 stS a) (h:Rel cx Z g stS a w):Rel cx Z g (over st0 stS) a w:=by
 refine h.swap (fun _=>rfl) fun t tv ht => ?_
 rw [rH] at ht;cases h0:look st0.tm t with
 | none=>rw [h0] at ht; exact h.tm t tv ht
 | some tv0 => rw [h0] at ht;simp only [ac3] at ht;subst ht;obtain ⟨tv,h1,h2,h3⟩:=f.tm t tv0 h0;exact ⟨(h.tm t tv h1).1,h3 _ _ _ _ (h.tm t tv h1).2⟩
theorem Fits.cons {st0 stS:St} (f:Fits st0 stS a):mH (over st0 stS):=by
 intro d q want y gg l hl tq htq;have key:∀ tqS,look stS.tm q=some tqS->fM tqS y:=by
  rw [rH] at hl;cases h0:look st0.tm d with
  | none=>rw [h0] at hl; exact f.mayS d q want y gg l hl
  | some tv0 => rw [h0] at hl;simp only [ac3] at hl;subst hl;exact f.may d q want y gg l h0
 rw [rH] at htq;cases h0:look st0.tm q with
 | none=>rw [h0] at htq; exact key _ htq
 | some tv0 => rw [h0] at htq;simp only [ac3] at htq;subst htq;obtain ⟨tv,h1,h2,_⟩:=f.tm q tv0 h0;exact fM.of h2 (key tv h1)
theorem Fits.back {st0 stS:St} (f:Fits st0 stS a) {t:Nat} {tv:TV} (h:look stS.tm t=some tv):∃ tv',look (over st0 stS).tm t=some tv'/\ew tv' tv:=by
 rw [rH];cases h0:look st0.tm t with
 | none=>exact ⟨tv,h,ew.refl _⟩
 | some tv0 => obtain ⟨tv1,h1,h2,_⟩:=f.tm t tv0 h0;rw [h] at h1;simp only [ac3] at h1;subst h1;exact ⟨tv0,rfl,h2⟩
variable {nt:Nat->Prop} {base:St} {bs bsF:Bd} {mask S:Nat}
theorem HQ (hb:dw nt base bs) (hF:dw nt base bsF) (hl:dt bs bsF) (hm:MB (aD base bs)) (hmF:MB (aD base bsF)) (hs:∀ i t p,(i,t,p)∈bs->mask.testBit i=true->S.testBit i=true):Fits (view base mask bs) (view base S bsF) a where
 rt:=fun r R h=>by
  rw [gy _ hb] at h;rw [gy _ hF];rcases h with ⟨i,p,h1,h2,h3⟩ | h
  . obtain ⟨p',h4,h5⟩:=hl i r p h1;exact .inl ⟨i,p',h4,hs i r p h1 h2,by rw [<- h5.1]; exact h3⟩
  . exact .inr h
 tm:=fun t tv0 h=>by
  rw [eY _ hb] at h;rcases h with ⟨i,p,h1,h2,rfl⟩ | h
  . obtain ⟨p',h4,h5⟩:=hl i t p h1;exact ⟨p'.1,(eY _ hF _ _).2 (.inl ⟨i,p',h4,hs i t p h1 h2,rfl⟩),h5.2.1,fun Z g st w hr=>h5.2.2 Z g st w _ hr⟩
  . exact ⟨tv0,(eY _ hF _ _).2 (.inr h),ew.refl _,fun _ _ _ _ h=>h⟩
 may:=fun d q want y gg l h tq htq=>by
  have h1:look (aD base bs).tm d=some (.may q want y gg l):=by
   rw [bN hb];rw [eY _ hb] at h;rcases h with ⟨i,p,h1,h2,h3⟩ | h
   . exact .inl ⟨i,p,h1,h3⟩
   . exact .inr h
  obtain ⟨tq0,h2,h3⟩:=hm d q want y gg l h1;rw [bN hb] at h2;rw [eY _ hF] at htq;rcases h2 with ⟨i,p,g1,rfl⟩ | h2
  . obtain ⟨p',g2,g3⟩:=hl i q p g1;rcases htq with ⟨i',p'',k1,_,rfl⟩ | htq
    . obtain ⟨_,_,rfl⟩:=hF.uniq g2 k1 (.inr rfl);exact fM.of g3.2.2 h3
    . rw [(hF.mem g2).2.1] at htq; simp at htq
  . rcases htq with ⟨i',p'',k1,_,rfl⟩ | htq
    . rw [(hF.mem k1).2.1] at h2; simp at h2
    . rw [h2] at htq;simp only [ac3] at htq;exact htq ▸ h3
 mayS:=by
  intro d q want y gg l h tq htq;have up:∀ t tv,look (view base S bsF).tm t=some tv->look (aD base bsF).tm t=some tv:=fun t tv h=>by
   rw [bN hF];rw [eY _ hF] at h;rcases h with ⟨i,p,h1,h2,h3⟩ | h
   . exact .inl ⟨i,p,h1,h3⟩
   . exact .inr h
  exact hmF.cons d q want y gg l (up _ _ h) tq (up _ _ htq)
theorem bl (S j i:Nat):(S ||| 2 ^ j).testBit i=(S.testBit i || decide (j=i)):=by rw [Nat.testBit_or,Nat.testBit_two_pow]
theorem Cj (hF:dw nt base bsF) {j d:Nat} {p p':TV×Option Rt} (hj:(j,d,p')∈bsF) {stX:St} (h:Rel cx Z g (stX.aE d p) a w) (hrt:∀ r,look stX.rt r=look (view base S bsF).rt r)
 (htm:∀ t tv,look (view base S bsF).tm t=some tv->∃ tv',look stX.tm t=some tv'/\ew tv' tv) (hp2:p.2=p'.2) (hp1:ew p.1 p'.1):Rel cx Z g (view base (S ||| 2 ^ j) bsF) a w:=by
 obtain ⟨_,n1,n2⟩:=hF.mem hj;refine h.swap (fun r => ?_) fun t tv ht => ?_
 . apply Option.ext;intro R;show look _ r=some R↔look _ r=some R;rw [gy _ hF,vw,hrt];constructor
   . rintro (⟨i,p'',h1,h2,h3⟩ | h1)
     . rw [bl] at h2;by_cases hij:j=i
       . obtain ⟨_,e1,e2⟩:=hF.uniq hj h1 (.inl hij);subst e1; subst e2;rw [hp2,h3];simp
       . have hS:S.testBit i=true:=by simpa [hij] using h2
         have hdr:¬ d=r:=fun e=>hij ((hF.uniq hj h1 (.inr e)).1)
         have:look (view base S bsF).rt r=some R:=(gy _ hF _ _).2 (.inl ⟨i,p'',h1,hS,h3⟩);cases p.2 <;> simp [hdr,this]
     . have hdr:¬ d=r:=fun e=>by rw [<- e,n2] at h1; simp at h1
       have:look (view base S bsF).rt r=some R:=(gy _ hF _ _).2 (.inr h1);cases p.2 <;> simp [hdr,this]
   . intro h1;have old:look (view base S bsF).rt r=some R->(∃ i p,(i,r,p)∈bsF/\(S ||| 2 ^ j).testBit i=true/\p.2=some R)∨look base.rt r=some R:=fun h1=>by
      rw [gy _ hF] at h1;rcases h1 with ⟨i,p'',k1,k2,k3⟩ | h1
      . exact .inl ⟨i,p'',k1,by rw [bl,k2]; rfl,k3⟩
      . exact .inr h1
     cases hp:p.2 with
     | none=>rw [hp] at h1; exact old h1
     | some R0 =>
       rw [hp] at h1;simp only at h1;by_cases hdr:d=r
       . rw [if_pos hdr] at h1;subst hdr;exact .inl ⟨j,p',hj,by rw [bl]; simp,by rw [<- hp2,hp]; exact h1⟩
       . rw [if_neg hdr] at h1; exact old h1
 . have old:¬ d=t->look (view base S bsF).tm t=some tv->t < a.tmps.size/\bD Z g (stX.aE d p) w tv (a.tmps.getD t undef):=fun hdt h1=>by
    obtain ⟨tv',k1,k2⟩:=htm t tv h1;have:=h.tm t tv' (by rw [bd,if_neg hdt]; exact k1);exact ⟨this.1,k2 _ _ _ _ _ this.2⟩
   rw [eY _ hF] at ht;rcases ht with ⟨i,p'',h1,h2,rfl⟩ | h1
   . rw [bl] at h2;by_cases hij:j=i
     . obtain ⟨_,e1,e2⟩:=hF.uniq hj h1 (.inl hij);subst e1; subst e2;have:=h.tm d p.1 (by rw [bd,if_pos rfl]);exact ⟨this.1,hp1 _ _ _ _ _ this.2⟩
     . have hS:S.testBit i=true:=by simpa [hij] using h2
       exact old (fun e=>hij ((hF.uniq hj h1 (.inr e)).1)) ((eY _ hF _ _).2 (.inl ⟨i,p'',h1,hS,rfl⟩))
   . exact old (fun e=>by rw [<- e,n1] at h1; simp at h1) ((eY _ hF _ _).2 (.inr h1))
theorem Hy (hF:dw nt base bsF) {j d:Nat} {p':TV×Option Rt} (hj:(j,d,p')∈bsF) (hS:S.testBit j=false) {st0:St}:(over st0 (view base S bsF)).free d=true:=by
 have:look (view base S bsF).rt d=none:=by
  cases hl:look (view base S bsF).rt d with
  | none=>rfl
  | some R =>
    rw [gy _ hF] at hl;rcases hl with ⟨i,p'',h1,h2,_⟩ | hl
    . rw [(hF.uniq hj h1 (.inr rfl)).1,h2] at hS; simp at hS
    . rw [(hF.mem hj).2.2] at hl; simp at hl
 show (match look (view base S bsF).rt d with | none=>true | some _=>false)=true;rw [this]
def En.zf (E:En) (t:Nat):Prop:=E.dB t=true
def Fit {P:Program} (cx:Cx P) (E:En) (a:Act):Prop:=E.nt<=a.tmps.size/\∀ t v,cx.pin t=some v->kN E.pins t=true
theorem Fit.dst {P:Program} {cx:Cx P} {a:Act} (h:Fit cx E a) {d:Nat} (hd:E.zf d):jG cx a d:=by
 unfold En.zf En.dB at hd;simp only [ac5,adK] at hd;refine ⟨adw (aen (adC hd.1)) h.1,?_⟩;cases hp:cx.pin d with
 | none=>rfl
 | some v=>rw [h.2 d v hp] at hd; simp at hd
theorem Fit.put {P:Program} {cx:Cx P} {a:Act} (h:Fit cx E a) (d:Option Nat) (v:Value):Fit cx E (a.put d v):=⟨by rw [ru]; exact h.1,h.2⟩
def pZ (P:Program) (E:En) (ops:Array Oper) (ns:List Nat) (base:St) (bsF:Bd) (i0 j:Nat):Prop :=
 ∀ (cx:Cx P) (S:Nat) (a:Act) (w:World) (Z:Nat->Prop) (g:Gh) (next:Act->World->Prop) (Q:Exit->Act->World->Prop),
  (∀ i,i0<=i->i < j->(ns.getD j cG).testBit i=true->S.testBit i=true)->S.testBit j=false->Rel cx Z g (view base S bsF) a w->Fit cx E a ->
  (∀ Z' g' a' w',Rel cx Z' g' (view base (S ||| 2 ^ j) bsF) a' w'->Fit cx E a'->next a' w')->wpOp P ops Q j next a w
variable {ops:Array Oper} {ns:List Nat} {i0:Nat}
theorem Dd (hT:bK P E) (hga:df P E) {j d:Nat} {o:Oper} {p p':TV×Option Rt} (ho:ops[j]? = some o) (hd:o.dst=some d) (hF:dw E.zf base bsF) (hj:(j,d,p')∈bsF) (hp2:p.2=p'.2) (hp1:ew p.1 p'.1)
 {st0:St} (hq:(yG E st0 d o.op).run=some p) {cx:Cx P} {S:Nat} {a:Act} {w:World} {Z:Nat->Prop} {g:Gh} {next:Act->World->Prop} {Q:Exit->Act->World->Prop} (hS:S.testBit j=false) (h:Rel cx Z g (view base S bsF) a w) (hsz:Fit cx E a)
 (f:Fits st0 (view base S bsF) a) (hw:Region.wanted o (yielded ops a.tmps)=true) (hn:∀ Z' g' a' w',Rel cx Z' g' (view base (S ||| 2 ^ j) bsF) a' w'->Fit cx E a'->next a' w'):wpOp P ops Q j next a w:=by
 unfold wpOp;simp only [ho,hw,if_true];refine .inl ?_;have hdn:jG cx a d:=hsz.dst (hF.mem hj).1;refine zi hT hga f.ext (f.rel h) f.cons hd hdn (Hy hF hj hS) hq _ _ fun Z' g' v w' hr=>hn Z' g' _ w' ?_ (hsz.put _ _)
 exact Cj hF hj hr (fun _=>rfl) (fun t tv ht=>f.back ht) hp2 hp1
theorem zj {j d:Nat} {o:Oper} {p':TV×Option Rt} (ho:ops[j]? = some o) (hd:o.dst=some d) (hF:dw E.zf base bsF) (hj:(j,d,p')∈bsF) (hp2:p'.2=none)
 {cx:Cx P} {S:Nat} {a:Act} {w:World} {Z:Nat->Prop} {g:Gh} {next:Act->World->Prop} {Q:Exit->Act->World->Prop} (h:Rel cx Z g (view base S bsF) a w) (hsz:Fit cx E a)
 (hp1:∀ (Z:Nat->Prop) (g:Gh) (st:St) (w:World),bD Z g st w p'.1 undef) (hw:Region.wanted o (yielded ops a.tmps)=false) (hn:∀ Z' g' a' w',Rel cx Z' g' (view base (S ||| 2 ^ j) bsF) a' w'->Fit cx E a'->next a' w'):wpOp P ops Q j next a w:=by
 unfold wpOp;simp only [ho,hw,adQ,aek];have hdn:jG cx a d:=hsz.dst (hF.mem hj).1;rw [hd];refine hn Z g _ w ?_ (hsz.put _ _);exact Cj hF hj (h.fA hdn (tv:=p'.1) (hp1 _ _ _ _)) (fun _=>rfl) (fun t tv ht=>⟨tv,ht,ew.refl _⟩) hp2.symm (ew.refl _)
theorem zP {o:Oper} {j:Nat} {want x:Bool} {og:Oper} {gt:Nat} (hg:o.guard=some (j,want)) (ho:ops[j]? = some og) (hd:og.dst=some gt) {a:Act} (hv:a.tmps.getD gt undef= .bool x):Region.wanted o (yielded ops a.tmps)=(x == want):=by
 have:a.tmps[gt]? = some (.bool x):=by
  rw [adb] at hv;cases hh:a.tmps[gt]? with
  | none=>rw [hh] at hv; simp [undef] at hv
  | some v=>rw [hh] at hv; simpa using hv
 simp only [Region.wanted,hg,yielded,ho,adq,hd,this];cases x <;> cases want <;> rfl
end
end Go.Av
namespace Go.Av
open Go.RowKit (Below)
section
variable {Z:Nat->Prop} {g:Gh} {st:St} {w:World}
theorem qy {gg:Bool} {l:List AV} {v:Value}:bD Z g st w (dV gg l) v↔(match dV gg l with | .v a=>bj Z g st w a v | .agg l=>∃ vs:Array Value,v= .agg vs/\aP Z g st w l vs.toList | _=>True):=by unfold dV;split <;> simp [bD]
end
theorem AH {q:Nat} {want y gg:Bool} {l:List AV} (hy:y=want):ew (.may q want y gg l) (dV gg l)/\ew (dV gg l) (.may q want y gg l) :=
 ⟨fun Z g st w v h=>qy.2 (h hy),fun Z g st w v h _=>qy.1 h⟩
theorem Dh {q:Nat} {want y gg:Bool} {l:List AV}:ew (dV gg l) (.may q want y gg l):=fun Z g st w v h _=>qy.1 h
theorem yz (x:Bool):ew (.v (.d .bool x)) (.v (.lb x))/\ew (.v (.lb x)) (.v (.d .bool x)):=⟨fun _ _ _ _ _ h=>h,fun _ _ _ _ _ h=>h⟩
theorem JK (x:Bool):fM (.v (.lb x)) x:=fun _ _ _ _ _ h=>h
theorem Aq {st:St} (hc:mH st) {t:Nat} {tv:TV} (h:st.tv t=some tv):∃ tq,look st.tm t=some tq/\ew tq tv/\ew tv tq:=by
 unfold St.tv at h;cases hl:look st.tm t with
 | none=>simp [hl] at h
 | some tv0 =>
   rw [hl] at h;refine ⟨tv0,rfl,?_⟩;cases tv0 with
   | may q want y gg l =>
     simp only at h;cases hq:look st.tm q with
     | none=>simp [hq] at h
     | some tq =>
       simp only [hq] at h;have ht:=hc t q want y gg l hl tq hq;split at h
       . rename_i x he;have he:tq= .v (.lb x):=by simpa using he
         subst he;have:=ht.lb;subst this;split at h
         . simp only [ac3] at h; subst h; exact AH rfl
         . simp only [ac3] at h; subst h; exact AH rfl
         . simp at h
       . simp only [ac3] at h; subst h; exact ⟨ew.refl _,ew.refl _⟩
       . simp at h
   | _=>simp only [ac3] at h; subst h; exact ⟨ew.refl _,ew.refl _⟩
theorem nF {gt:Nat} {x:Bool}:∀ {bs:Bd} {i t:Nat} {p:TV×Option Rt},(i,t,p)∈fF gt x bs->∃ p0,(i,t,p0)∈bs
 | [],_,_,_,h=>by simp [fF] at h
 | (i0,t0,p0) :: r,i,t,p,h=>by
   unfold fF at h;cases hb:Nat.beq t0 gt with
   | true =>
     simp only [hb,ac6] at h;rcases adg.1 h with h | h
     . cases h; exact ⟨p0,adu ..⟩
     . exact ⟨p,adt _ h⟩
   | false =>
     simp only [hb,adm] at h;rcases adg.1 h with h | h
     . cases h; exact ⟨p0,adu ..⟩
     . obtain ⟨p1,h1⟩:=nF h;exact ⟨p1,adt _ h1⟩
theorem yC {nt:Nat->Prop} {base:St} {gt:Nat} {x:Bool}:∀ {bs:Bd},dw nt base bs->dw nt base (fF gt x bs)
 | [],h=>h
 | (i0,t0,p0) :: r,h=>by
   obtain ⟨h1,h2,h3,h4,h5⟩:=h;unfold fF;cases hb:Nat.beq t0 gt with
   | true=>exact ⟨h1,h2,h3,h4,h5⟩
   | false => refine ⟨h1,h2,h3,fun e he => ?_,yC h5⟩;obtain ⟨i,t,p⟩:=e;obtain ⟨p1,hp⟩:=nF he;exact h4 (i,t,p1) hp
theorem nK {nt:Nat->Prop} {base:St} {gt:Nat} {x:Bool}:∀ {bs:Bd},dw nt base bs->∀ {i t:Nat} {p:TV×Option Rt},(i,t,p)∈fF gt x bs↔(t≠gt/\(i,t,p)∈bs)∨(t=gt/\∃ p0,(i,gt,p0)∈bs/\p=(.v (.lb x),p0.2))
 | [],_,i,t,p=>by simp [fF]
 | (i0,t0,p0) :: r,hb,i,t,p=>by
   obtain ⟨h1,h2,h3,h4,h5⟩:=hb;have ih:=nK (gt:=gt) (x:=x) h5 (i:=i) (t:=t) (p:=p);unfold fF;cases hb:Nat.beq t0 gt with
   | true =>
     have e:=beq_eq hb;subst e;simp only [ac6];constructor
     . intro h;rcases adg.1 h with h | h
       . cases h; exact .inr ⟨rfl,p0,adu ..,rfl⟩
       . exact .inl ⟨(h4 _ h).2,adt _ h⟩
     . rintro (⟨hne,h⟩ | ⟨rfl,p1,h,rfl⟩)
       . rcases adg.1 h with h | h
         . cases h; exact absurd rfl hne
         . exact adt _ h
       . rcases adg.1 h with h | h
         . cases h; exact adu ..
         . exact absurd rfl (h4 _ h).2
   | false =>
     have hne:t0≠gt:=fun e=>by subst e; simp at hb
     simp only [adm];constructor
     . intro h;rcases adg.1 h with h | h
       . cases h; exact .inl ⟨hne,adu ..⟩
       . rcases ih.1 h with ⟨h6,h7⟩ | ⟨rfl,p1,h6,rfl⟩
         . exact .inl ⟨h6,adt _ h7⟩
         . exact .inr ⟨rfl,p1,adt _ h6,rfl⟩
     . rintro (⟨hne',h⟩ | ⟨rfl,p1,h,rfl⟩)
       . rcases adg.1 h with h | h
         . cases h; exact adu ..
         . exact adt _ (ih.2 (.inl ⟨hne',h⟩))
       . rcases adg.1 h with h | h
         . cases h; exact absurd rfl hne
         . exact adt _ (ih.2 (.inr ⟨rfl,p1,h,rfl⟩))
section
variable {nt:Nat->Prop} {base:St} {bs:Bd} {gt d:Nat} {x:Bool}
def nr (base:St) (bs:Bd) (gt:Nat) (x:Bool):Prop:=∃ tq,look (aD base bs).tm gt=some tq/\ew tq (.v (.lb x))/\ew (.v (.lb x)) tq
theorem uH (hb:dw nt base bs) (hk:nr base bs gt x):dt bs (fF gt x bs):=fun i t p h=>by
 by_cases ht:t=gt
 . subst ht;refine ⟨(.v (.lb x),p.2),(nK hb).2 (.inr ⟨rfl,p,h,rfl⟩),rfl,?_⟩;obtain ⟨tq,h1,h2,h3⟩:=hk;have:look (aD base bs).tm t=some p.1:=(bN hb _ _).2 (.inl ⟨i,p,h,rfl⟩);rw [this] at h1;simp only [ac3] at h1;subst h1;exact ⟨h2,h3⟩
 . exact ⟨p,(nK hb).2 (.inl ⟨ht,h⟩),Alike.refl p⟩
theorem KN (hb:dw nt base bs) (hm:MB (aD base bs)) (hk:nr base bs gt x):MB (aD base (fF gt x bs)):=by
 have hb':=yC (gt:=gt) (x:=x) hb;intro d q want y gg l hl;have old:look (aD base bs).tm d=some (.may q want y gg l):=by
  rw [bN hb'] at hl;rw [bN hb];rcases hl with ⟨i,p,h1,h2⟩ | hl
  . rcases (nK hb).1 h1 with ⟨h3,h4⟩ | ⟨rfl,p0,h3,rfl⟩
    . exact .inl ⟨i,p,h4,h2⟩
    . simp at h2
  . exact .inr hl
 obtain ⟨tq,h1,h2⟩:=hm d q want y gg l old;have h1':=h1;rw [bN hb] at h1;rcases h1 with ⟨i,p,h3,rfl⟩ | h1
 . obtain ⟨p',h4,h5⟩:=uH hb hk i q p h3;exact ⟨p'.1,(bN hb' _ _).2 (.inl ⟨i,p',h4,rfl⟩),fM.of h5.2.2 h2⟩
 . exact ⟨tq,(bN hb' _ _).2 (.inr h1),h2⟩
theorem su:∀ {bs:Bd} {gt:Nat},jr gt bs=false->∀ e∈bs,e.2.1≠gt
 | [],_,_,_,h=>by simp at h
 | (i0,t0,p0) :: r,gt,h,e,he=>by
   simp only [jr,aeL] at h;rcases adg.1 he with he | he
   . subst he; intro h'; subst h'; have:=h.1; simp at this
   . exact su h.2 e he
theorem dw.uO {b:Bool} (hnt:b=true->nt d) (hb:dw nt base bs) {i:Nat} {p:TV×Option Rt} (h1:(b && tX base d && base.free d && !jr d bs)=true) (hi:∀ e∈bs,e.1≠i):dw nt base ((i,d,p) :: bs):=by
 simp only [ac5,adK] at h1;obtain ⟨⟨⟨h1,h2⟩,h3⟩,h4⟩:=h1;refine ⟨?_,?_,lE h3,fun e he=>⟨hi e he,su h4 e he⟩,hb⟩
 . exact hnt h1
 . unfold tX at h2;split at h2
   . assumption
   . simp at h2
theorem MB.uO (hm:MB (aD base bs)) {i d:Nat} {p:TV×Option Rt} (hb:dw nt base ((i,d,p) :: bs)) (hp:∀ q want y gg l,p.1= .may q want y gg l->∃ tq,look (aD base bs).tm q=some tq/\fM tq y):MB (aD base ((i,d,p) :: bs)):=by
 have hne:∀ q tq,look (aD base bs).tm q=some tq->¬ d=q:=fun q tq hq e=>by
  subst e;rw [bN hb.2.2.2.2] at hq;rcases hq with ⟨i',p',h1,_⟩ | hq
  . exact absurd rfl (hb.2.2.2.1 _ h1).2
  . rw [hb.2.1] at hq; simp at hq
 intro t q want y gg l hl;have hl:look ((aD base bs).aE d p).tm t=_:=hl;rw [bd] at hl;have fin:(∃ tq,look (aD base bs).tm q=some tq/\fM tq y)->∃ tq,look (aD base ((i,d,p) :: bs)).tm q=some tq/\fM tq y:=by rintro ⟨tq,h1,h2⟩;refine ⟨tq,?_,h2⟩;show look ((aD base bs).aE d p).tm q=_;rw [bd,if_neg (hne q tq h1)];exact h1
 by_cases ht:d=t
 . rw [if_pos ht] at hl;exact fin (hp q want y gg l (by simpa using hl))
 . rw [if_neg ht] at hl;exact fin (hm t q want y gg l hl)
end
theorem Cq (f:Nat×TV->Nat×TV) (hf:∀ p,(f p).1=p.1):∀ (l:List (Nat×TV)) (t:Nat),look (l.map f) t=(look l t).map fun tv=>(f (t,tv)).2
 | [],t=>rfl
 | (m,x) :: l,t=>by
   have h1:(f (m,x)).1=m:=hf _;show look (f (m,x) :: l.map f) t=_;have:f (m,x)=(m,(f (m,x)).2):=Prod.ext h1 rfl;rw [this,ba,ba];by_cases h:m=t
   . subst h; simp
   . simp [h,Cq f hf l t]
def qR (gt:Nat) (want:Bool):TV->TV
 | .may t w' y g' l=>bif Nat.beq t gt && bU w' want then dV g' l else .may t w' y g' l
 | tv=>tv
theorem Dm (st:St) (gt:Nat) (want:Bool) (t:Nat):look (st.under gt want).tm t=(look st.tm t).map (qR gt want):=by
 unfold St.under;rw [Cq]
 . cases look st.tm t with
   | none=>rfl
   | some tv =>
     cases tv with
     | may q w' y g' l => simp only [adG,qR];cases Nat.beq q gt && bU w' want <;> rfl
     | _=>rfl
 . rintro ⟨t,tv⟩;cases tv with
   | may q w' y g' l => simp only;cases Nat.beq q gt && bU w' want <;> rfl
   | _=>rfl
theorem Fits.under {st0 stS:St} {a:Act} (f:Fits st0 stS a) {gt:Nat} {want:Bool} (hy:∀ tq,look stS.tm gt=some tq->∀ y,fM tq y->y=want) (hg:∃ tq,look stS.tm gt=some tq):Fits (st0.under gt want) stS a where
 rt:=f.rt
 tm:=fun t tv0 h=>by
  rw [Dm] at h;cases hl:look st0.tm t with
  | none=>simp [hl] at h
  | some tv1 =>
    rw [hl] at h;simp only [adG,ac3] at h;subst h;obtain ⟨tv,h1,h2,h3⟩:=f.tm t tv1 hl;cases tv1 with
    | may q w' y g' l =>
      simp only [qR];cases hb:Nat.beq q gt && bU w' want with
      | false=>exact ⟨tv,h1,h2,h3⟩
      | true => simp only [ac6];simp only [ac5] at hb;have e1:=beq_eq hb.1;have e2:=eo hb.2;subst e1; subst e2;obtain ⟨tq,htq⟩:=hg;have hyy:=hy tq htq y (f.may t q w' y g' l hl tq htq);have hs:=AH (q:=q) (gg:=g') (l:=l) hyy;exact ⟨tv,h1,hs.2.trans h2,fun Z g st w hr=>hs.1 _ _ _ _ _ (h3 Z g st w hr)⟩
    | _=>exact ⟨tv,h1,h2,h3⟩
 may:=fun d q w' y gg l h=>by
  rw [Dm] at h;cases hl:look st0.tm d with
  | none=>simp [hl] at h
  | some tv1 =>
    rw [hl] at h;simp only [adG,ac3] at h;cases tv1 with
    | may q1 w1 y1 g1 l1 =>
      simp only [qR] at h;cases hb:Nat.beq q1 gt && bU w1 want with
      | true=>rw [hb] at h; exact (jF h).elim
      | false => rw [hb] at h;simp only [adm,TV.may.injEq] at h;obtain ⟨rfl,rfl,rfl,rfl,rfl⟩:=h;exact f.may d _ _ _ _ _ hl
    | _=>simp [qR] at h
 mayS:=f.mayS
theorem Ed {gt:Nat} {want x:Bool} {t:Tr (TV×Option Rt)} {tv:TV} (h:Cs gt want x t=some tv):∃ gg l,t.run=some (dV gg l,none)/\tv= .may gt want x gg l:=by
 unfold Cs at h;split at h
 . rename_i a;simp only [ac3] at h;exact ⟨false,[a],rfl,h.symm⟩
 . rename_i l;simp only [ac3] at h;exact ⟨true,l,by cases l <;> rfl,h.symm⟩
 . simp at h
end Go.Av
namespace Go.Av
open Go.RowKit (Below)
def bt (st:St):Prop:=∀ t tv,look st.tm t=some tv->¬ tv.iq
theorem bt.cons {st:St} (h:bt st):mH st:=fun d q want y gg l hl=>(h d _ hl trivial).elim
theorem bt.MB {st:St} (h:bt st):MB st:=fun d q want y gg l hl=>(h d _ hl trivial).elim
section
variable {P:Program} {E:En} {ops:Array Oper} {ns:List Nat} {base:St} {i0:Nat}
def Sv (ops:Array Oper) (i t:Nat):Prop:=∃ o,ops[i]? = some o/\o.dst=some t
def js (P:Program) (E:En) (dr:Bool) (ops:Array Oper) (ns:List Nat) (base:St) (i0 i:Nat) (bs:Bd) (stF:St):Prop :=
 ∃ (i1:Nat) (bsF:Bd),i<=i1/\dw E.zf base bsF/\MB (aD base bsF)/\(∀ e∈bsF,i0<=e.1/\e.1 < i1/\Sv ops e.1 e.2.1)/\(bm ops.toList=false->∀ i t p,(i,t,p)∈bsF->¬ p.1.iq)/\dt bs bsF /\
  (∀ j,i<=j->j < i1->pZ P E ops ns base bsF i0 j) /\
  ((i1=ops.size/\stF=jm (bm ops.toList) (aD base bsF)) ∨
    ∃ (o:Oper) (st':St),ops[i1]? = some o/\o.guard=none/\(dr=true->gO ns i1=true)/\zt E o.dst=true/\(PF E (jm (bm ops.toList) (aD base bsF)) o.dst o.op).run=some st'/\(dO E dr ops.toList ns (ops.toList.drop (i1 + 1)) (i1 + 1) st' []).run=some stF)
theorem js.step {dr:Bool} {i:Nat} {d:Nat} {p:TV×Option Rt} {bs bs':Bd} {stF:St} (h:js P E dr ops ns base i0 (i + 1) ((i,d,p) :: bs') stF) (hl:dt bs bs')
 (hs:∀ bsF,dw E.zf base bsF->MB (aD base bsF)->dt ((i,d,p) :: bs') bsF->pZ P E ops ns base bsF i0 i):js P E dr ops ns base i0 i bs stF:=by
 obtain ⟨i1,bsF,h1,h2,h3,h4,h5,h6,h7,h8⟩:=h;refine ⟨i1,bsF,by omega,h2,h3,h4,h5,(hl.trans (dt.cons (dt.refl bs'))).trans h6,fun j hj hj1 => ?_,h8⟩;by_cases hji:i=j
 . subst hji; exact hs bsF h2 h3 h6
 . exact h7 j (by omega) hj1
theorem lN {e:Nat×Nat×(TV×Option Rt)} {bs bsF:Bd} (h:dt (e :: bs) bsF):dt bs bsF:=fun i t p hp=>h i t p (adt _ hp)
theorem nr.of {nt:Nat->Prop} {bs:Bd} {mask gt:Nat} {x:Bool} {tv:TV} (hb:dw nt base bs) (hm:MB (aD base bs)) (h:(view base mask bs).tv gt=some tv) (hx:ew tv (.v (.lb x))/\ew (.v (.lb x)) tv):nr base bs gt x:=by
 have up:Ext (view base mask bs) (aD base bs):=by
  refine ⟨fun t tv h => ?_,fun r R h => ?_⟩
  . rw [bN hb];rw [eY _ hb] at h;rcases h with ⟨i,p,h1,h2,h3⟩ | h
    . exact .inl ⟨i,p,h1,h3⟩
    . exact .inr h
  . rw [gL base (bitsOf bs) bs (fun i t p h=>dT h),gy _ hb];rw [gy _ hb] at h;rcases h with ⟨i,p,h1,h2,h3⟩ | h
    . exact .inl ⟨i,p,h1,dT h1,h3⟩
    . exact .inr h
 obtain ⟨tq,h1,h2,h3⟩:=Aq hm.cons (up.tv h);exact ⟨tq,h1,h2.trans hx.1,hx.2.trans h3⟩
theorem nr.Vl {bs:Bd} {gt:Nat} {x:Bool} (h:nr base bs gt x):∃ tq,look (aD base bs).tm gt=some tq/\fM tq x:=by obtain ⟨tq,h1,h2,h3⟩:=h;exact ⟨tq,h1,fM.of h2 (JK x)⟩
theorem D4 {j gt:Nat} (h:q8 ops.toList j=some gt):∃ og,ops[j]? = some og/\og.dst=some gt:=by
 unfold q8 at h;split at h
 . rename_i o ho;rw [ac8] at ho;exact ⟨o,ho,h⟩
 . simp at h
theorem CE {P:Program} {cx:Cx P} {Z:Nat->Prop} {g:Gh} {st0 stS:St} {a:Act} {w:World} (f:Fits st0 stS a) (h:Rel cx Z g stS a w) {gt:Nat} {tv:TV} {x:Bool} (ht:st0.tv gt=some tv) (hx:ew tv (.v (.lb x))):a.tmps.getD gt undef= .bool x :=
 hx _ _ _ _ _ (ic (f.rel h) f.cons.cons (f.ext.tv ht))
theorem D5 {P:Program} {cx:Cx P} {Z:Nat->Prop} {g:Gh} {st0 stS:St} {a:Act} {w:World} (f:Fits st0 stS a) (h:Rel cx Z g stS a w) {gt:Nat} (ht:st0.tv gt=some (.tup [])):a.tmps.getD gt undef=undef:=by
 obtain ⟨vs,e,hv⟩:=(ic (f.rel h) f.cons.cons (f.ext.tv ht):bD Z g _ w (.tup []) _);cases hl:vs.toList with
 | nil =>
   have:vs = #[]:=by cases vs; simp_all
   rw [e,this]; rfl
 | cons _ _=>rw [hl] at hv; exact hv.elim
theorem Jc {nt:Nat->Prop} {bs:Bd} {mask d:Nat} {op:Op} {p:TV×Option Rt} (hb:dw nt base bs) (hm:MB (aD base bs)) (hq:(yG E (view base mask bs) d op).run=some p):∀ q want y gg l,p.1= .may q want y gg l->∃ tq,look (aD base bs).tm q=some tq/\fM tq y:=by
 intro q want y gg l hp;obtain ⟨d',hd'⟩:=F3 hq (by rw [hp]; trivial);rw [hp] at hd';refine hm d' q want y gg l ?_;rw [bN hb];rw [eY _ hb] at hd';rcases hd' with ⟨i,p',h1,h2,h3⟩ | h
 . exact .inl ⟨i,p',h1,h3⟩
 . exact .inr h
theorem kt {i:Nat} {o:Oper} {gd:Nat×Bool} (h:ops[i]? = some o) (hg:o.guard=some gd):bm ops.toList=true:=by unfold bm;rw [aey];refine ⟨o,?_,by rw [hg]⟩;rw [<- ac8] at h;exact ade h
structure gR (E:En) (ops:Array Oper) (base:St) (i0 i:Nat) (bs:Bd):Prop where
 ok:dw E.zf base bs
 mb:MB (aD base bs)
 idx:∀ e∈bs,i0<=e.1/\e.1 < i/\Sv ops e.1 e.2.1
 ng:bm ops.toList=false->∀ i t p,(i,t,p)∈bs->¬ p.1.iq
def re (E:En) (base:St) (d:Nat) (bs:Bd):Bool:=E.dB d && tX base d && base.free d && !jr d bs
theorem gR.fits {i:Nat} {bs bsF:Bd} (hs:gR E ops base i0 i bs) (hF:dw E.zf base bsF) (hmF:MB (aD base bsF)) (hl:dt bs bsF) {S:Nat} (hS:∀ i',i0<=i'->i' < i->(ns.getD i cG).testBit i'=true->S.testBit i'=true) {a:Act}:Fits (view base (ns.getD i cG) bs) (view base S bsF) a :=
 HQ hs.ok hF hl hs.mb hmF fun i' t' p' h1 h2=>hS i' (hs.idx _ h1).1 (hs.idx _ h1).2.1 h2
theorem vL {dr:Bool} {i:Nat} {r:List Oper} (ih:∀ (bs:Bd) (stF:St),gR E ops base i0 (i + 1) bs->(dO E dr ops.toList ns r (i + 1) base bs).run=some stF->js P E dr ops ns base i0 (i + 1) bs stF) (hi0:i0<=i)
 {bs bs':Bd} {d:Nat} {p:TV×Option Rt} {stF:St} (hs:gR E ops base i0 i bs') (hl:dt bs bs') (hd:re E base d bs'=true) (hp:∀ q want y gg l,p.1= .may q want y gg l->∃ tq,look (aD base bs').tm q=some tq/\fM tq y) (hpm:bm ops.toList=false->¬ p.1.iq) (hdd:Sv ops i d)
 (hrun:(dO E dr ops.toList ns r (i + 1) base ((i,d,p) :: bs')).run=some stF) (hstep:∀ bsF,dw E.zf base bsF->MB (aD base bsF)->dt ((i,d,p) :: bs') bsF->pZ P E ops ns base bsF i0 i):js P E dr ops ns base i0 i bs stF:=by
 have hbc:dw E.zf base ((i,d,p) :: bs'):=dw.uO (fun h=>h) hs.ok hd fun e he=>Nat.ne_of_lt (hs.idx e he).2.1
 refine js.step (ih ((i,d,p) :: bs') stF ⟨hbc,hs.mb.uO hbc hp,fun e he => ?_,fun h0 i' t' p' hmem => ?_⟩ hrun) hl hstep
 . rcases adg.1 he with he | he
   . subst he; exact ⟨hi0,ael i,hdd⟩
   . have:=hs.idx e he; exact ⟨this.1,afZ this.2.1,this.2.2⟩
 . rcases adg.1 hmem with he | he
   . cases he; exact hpm h0
   . exact hs.ng h0 i' t' p' he
theorem FT (hT:bK P E) (hga:df P E) {i:Nat} {o:Oper} (ho:ops[i]? = some o) {bs':Bd} {d:Nat} {p:TV×Option Rt} (hs:gR E ops base i0 i bs') (hd:o.dst=some d) (hq:(yG E (view base (ns.getD i cG) bs') d o.op).run=some p)
 (hw:∀ (cx:Cx P) (a:Act) (w:World) (Z:Nat->Prop) (g:Gh) (bsF:Bd) (S:Nat),dw E.zf base bsF->MB (aD base bsF)->dt bs' bsF->(∀ i',i0<=i'->i' < i->(ns.getD i cG).testBit i'=true->S.testBit i'=true)->Rel cx Z g (view base S bsF) a w->Region.wanted o (yielded ops a.tmps)=true) :
 ∀ bsF,dw E.zf base bsF->MB (aD base bsF)->dt ((i,d,p) :: bs') bsF->pZ P E ops ns base bsF i0 i:=by
 intro bsF hF hmF hl cx S a w Z g next Q hS hSi h hsz hn;obtain ⟨p',hj,hal⟩:=hl i d p (adu ..);exact Dd hT hga ho hd hF hj hal.1 hal.2.1 hq hSi h hsz (hs.fits hF hmF (lN hl) hS) (hw cx a w Z g bsF S hF hmF (lN hl) hS h) hn
theorem Co {i:Nat} {o:Oper} (ho:ops[i]? = some o) {bs':Bd} {d:Nat} (hs:gR E ops base i0 i bs') (hd:o.dst=some d)
 (hw:∀ (cx:Cx P) (a:Act) (w:World) (Z:Nat->Prop) (g:Gh) (bsF:Bd) (S:Nat),dw E.zf base bsF->MB (aD base bsF)->dt bs' bsF->(∀ i',i0<=i'->i' < i->(ns.getD i cG).testBit i'=true->S.testBit i'=true)->Rel cx Z g (view base S bsF) a w->Region.wanted o (yielded ops a.tmps)=false) :
 ∀ bsF,dw E.zf base bsF->MB (aD base bsF)->dt ((i,d,(.tup [],none)) :: bs') bsF->pZ P E ops ns base bsF i0 i:=by
 intro bsF hF hmF hl cx S a w Z g next Q hS hSi h hsz hn;obtain ⟨p',hj,hal⟩:=hl i d _ (adu ..);exact zj ho hd hF hj hal.1.symm h hsz (fun Z g st w=>hal.2.1 _ _ _ _ _ ⟨#[],rfl,trivial⟩) (hw cx a w Z g bsF S hF hmF (lN hl) hS h) hn
theorem B5 {d:Nat}:∀ {bs:Bd},jr d bs=true->∃ i p,(i,d,p)∈bs
 | [],h=>by simp [jr] at h
 | (i0,t0,p0) :: r,h=>by
   simp only [jr,ad8] at h;rcases h with h | h
   . have:=beq_eq h; subst this; exact ⟨i0,p0,adu ..⟩
   . obtain ⟨i,p,h⟩:=B5 h; exact ⟨i,p,adt _ h⟩
theorem Ci {d gt:Nat} {x:Bool} {bs:Bd} (h:re E base d bs=true):re E base d (fF gt x bs)=true:=by
 unfold re at h ⊢;simp only [ac5,adK] at h ⊢;refine ⟨h.1,?_⟩;cases h3:jr d (fF gt x bs) with
 | false=>rfl
 | true => obtain ⟨i',p',h4⟩:=B5 h3;obtain ⟨p0,h5⟩:=nF h4;exact absurd rfl (su h.2 _ h5)
theorem gR.fF {i:Nat} {bs:Bd} (hs:gR E ops base i0 i bs) {gt:Nat} {x:Bool} (hk:nr base bs gt x) (hg:bm ops.toList=true):gR E ops base i0 i (Av.fF gt x bs) where
 ok:=yC hs.ok
 mb:=KN hs.ok hs.mb hk
 idx:=fun e he=>by obtain ⟨i',t',p'⟩:=e;obtain ⟨p0,h1⟩:=nF he;exact hs.idx (i',t',p0) h1
 ng:=fun h0=>by rw [hg] at h0; simp at h0
theorem Ga (hT:bK P E) (hga:df P E) {dr:Bool} {i:Nat} {r:List Oper} {o:Oper} (ih:∀ (bs:Bd) (stF:St),gR E ops base i0 (i + 1) bs->(dO E dr ops.toList ns r (i + 1) base bs).run=some stF->js P E dr ops ns base i0 (i + 1) bs stF) (hi0:i0<=i)
 (ho:ops[i]? = some o) {bs:Bd} {stF:St} (hs:gR E ops base i0 i bs) {jg:Nat} {want x:Bool} (hgd:o.guard=some (jg,want)) {og:Oper} {gt d:Nat} (hog:ops[jg]? = some og) (hogd:og.dst=some gt) (hdst:o.dst=some d) (hc1:re E base d bs=true) {tv:TV}
 (htv:(view base (ns.getD i cG) bs).tv gt=some tv) (hx:ew tv (.v (.lb x))/\ew (.v (.lb x)) tv) {bs':Bd} (hs':gR E ops base i0 i bs') (hl':dt bs bs') (hc':re E base d bs'=true)
 (hrun:(bif bU x want then ((yG E (view base (ns.getD i cG) bs') d o.op).bind fun p=>dO E dr ops.toList ns r (i + 1) base ((i,d,p) :: bs')).run else (dO E dr ops.toList ns r (i + 1) base ((i,d,(.tup [],none)) :: bs')).run)=some stF):js P E dr ops ns base i0 i bs stF:=by
 have hg1:bm ops.toList=true:=kt ho hgd;have hval:∀ (cx:Cx P) (a:Act) (w:World) (Z:Nat->Prop) (g:Gh) (bsF:Bd) (S:Nat),dw E.zf base bsF->MB (aD base bsF)->dt bs' bsF->(∀ i',i0<=i'->i' < i->(ns.getD i cG).testBit i'=true->S.testBit i'=true)->Rel cx Z g (view base S bsF) a w->Region.wanted o (yielded ops a.tmps)=(x == want):=fun cx a w Z g bsF S hF hmF hl hS h =>
  zP hgd hog hogd (CE (hs.fits hF hmF (hl'.trans hl) hS) h htv hx.1)
 cases hxx:bU x want with
 | true =>
   simp only [hxx,ac6] at hrun;rw [Tr.run_bind] at hrun;cases hq:(yG E (view base (ns.getD i cG) bs') d o.op).run with
   | none=>rw [hq] at hrun; simp at hrun
   | some p => rw [hq] at hrun;exact vL ih hi0 hs' hl' hc' (Jc hs'.ok hs'.mb hq) (fun h0=>by rw [hg1] at h0; simp at h0) ⟨o,ho,hdst⟩ hrun (FT hT hga ho hs' hdst hq fun cx a w Z g bsF S hF hmF hl hS h=>by rw [hval cx a w Z g bsF S hF hmF hl hS h,eo hxx]; simp)
 | false => simp only [hxx,adm] at hrun;refine vL ih hi0 hs' hl' hc' (fun q want y gg l h=>by simp at h) (fun h0=>by rw [hg1] at h0; simp at h0) ⟨o,ho,hdst⟩ hrun (Co ho hs' hdst fun cx a w Z g bsF S hF hmF hl hS h => ?_);rw [hval cx a w Z g bsF S hF hmF hl hS h];cases x <;> cases want <;> simp_all [bU]
theorem OM (hT:bK P E) (hga:df P E) {dr:Bool} {i:Nat} {r:List Oper} {o:Oper} (ih:∀ (bs:Bd) (stF:St),gR E ops base i0 (i + 1) bs->(dO E dr ops.toList ns r (i + 1) base bs).run=some stF->js P E dr ops ns base i0 (i + 1) bs stF) (hi0:i0<=i)
 (ho:ops[i]? = some o) {bs:Bd} {stF:St} (hs:gR E ops base i0 i bs) {jg:Nat} {want x:Bool} (hgd:o.guard=some (jg,want)) {og:Oper} {gt d:Nat} (hog:ops[jg]? = some og) (hogd:og.dst=some gt) (hdst:o.dst=some d) (hc1:re E base d bs=true)
 (htv:(view base (ns.getD i cG) bs).tv gt=some (.v (.d .bool x))) {tv:TV} (hasm:Cs gt want x (yG E ((view base (ns.getD i cG) bs).under gt want) d o.op)=some tv)
 (hrun:(dO E dr ops.toList ns r (i + 1) base ((i,d,(tv,none)) :: bs)).run=some stF):js P E dr ops ns base i0 i bs stF:=by
 have hg1:bm ops.toList=true:=kt ho hgd;have hk:nr base bs gt x:=nr.of hs.ok hs.mb htv (yz x);obtain ⟨gg,l,hq,rfl⟩:=Ed hasm;refine vL ih hi0 hs (dt.refl _) hc1 (fun q want' y gg' l' h => ?_) (fun h0=>by rw [hg1] at h0; simp at h0) ⟨o,ho,hdst⟩ hrun ?_
 . simp only [TV.may.injEq] at h;obtain ⟨rfl,rfl,rfl,rfl,rfl⟩:=h;exact hk.Vl
 . intro bsF hF hmF hl cx S a w Z g next Q hS hSi h hsz hn;obtain ⟨p',hj,hal⟩:=hl i d _ (adu ..);have f:Fits (view base (ns.getD i cG) bs) (view base S bsF) a:=hs.fits hF hmF (lN hl) hS;have hv:a.tmps.getD gt undef= .bool x:=CE f h htv (yz x).1;have hw:=zP hgd hog hogd hv;by_cases hxw:x=want
   . subst hxw;obtain ⟨tq,htq⟩:∃ tq,look (view base S bsF).tm gt=some tq:=by
      have htv':=htv;unfold St.tv at htv';cases hl0:look (view base (ns.getD i cG) bs).tm gt with
      | none=>rw [hl0] at htv'; simp at htv'
      | some tv0 => obtain ⟨tv1,h1,_⟩:=f.tm gt tv0 hl0;exact ⟨tv1,h1⟩
     have fu:=f.under (gt:=gt) (want:=x) (fun tq' htq' y ht=>by have:=ht _ _ _ _ _ (h.tm gt tq' htq').2;rw [hv] at this;simpa using this.symm) ⟨tq,htq⟩;exact Dd hT hga ho hdst hF hj (p:=(dV gg l,none)) hal.1 (Dh.trans hal.2.1) hq hSi h hsz fu (by rw [hw]; simp) hn
   . refine zj ho hdst hF hj hal.1.symm h hsz (fun Z g st w=>hal.2.1 _ _ _ _ _ ?_) (by rw [hw]; simpa using hxw) hn;exact fun e=>absurd e hxw
theorem Hz (hT:bK P E) (hga:df P E) {dr:Bool} {i:Nat} {r:List Oper} {o:Oper} (ih:∀ (bs:Bd) (stF:St),gR E ops base i0 (i + 1) bs->(dO E dr ops.toList ns r (i + 1) base bs).run=some stF->js P E dr ops ns base i0 (i + 1) bs stF) (hi0:i0<=i)
 (ho:ops[i]? = some o) {bs:Bd} {stF:St} (hs:gR E ops base i0 i bs) {jg:Nat} {want:Bool} (hgd:o.guard=some (jg,want)) (hrun:(dO E dr ops.toList ns (o :: r) i base bs).run=some stF):js P E dr ops ns base i0 i bs stF:=by
 unfold dO at hrun;rw [hgd] at hrun;simp only at hrun;split at hrun
 . rename_i gt d hgt hdst;obtain ⟨og,hog,hogd⟩:=D4 hgt;cases hc:E.dB d && tX base d && base.free d && !jr d bs && !mN o.op with
   | false=>rw [hc] at hrun; simp [Tr.run] at hrun
   | true =>
     rw [hc] at hrun;simp only [ac6] at hrun;have hc1:re E base d bs=true:=by unfold re;simp only [ac5] at hc ⊢;exact hc.1
     split at hrun
     . rename_i x htv;refine Ga hT hga ih hi0 ho hs hgd hog hogd hdst hc1 htv (x:=x) ⟨ew.refl _,ew.refl _⟩ hs (dt.refl _) hc1 ?_;rw [<- hrun];cases bU x want <;> rfl
     . rename_i x htv;have hk:nr base bs gt x:=nr.of hs.ok hs.mb htv (yz x);split at hrun
       . rename_i tv hasm;have hasm:Cs gt want x (yG E ((view base (ns.getD i cG) bs).under gt want) d o.op)=some tv:=by
          cases hte:JA ops.toList i with
          | true=>rw [hte] at hasm; simp at hasm
          | false=>rw [hte] at hasm; exact hasm
         exact OM hT hga ih hi0 ho hs hgd hog hogd hdst hc1 htv hasm hrun
       . cases hbd:jr gt bs with
         | false=>rw [hbd] at hrun; simp [Tr.run] at hrun
         | true => rw [hbd] at hrun;simp only [ac6] at hrun;have hg1:bm ops.toList=true:=kt ho hgd;refine Ga hT hga ih hi0 ho hs hgd hog hogd hdst hc1 htv (x:=x) (yz x) (bs':=fF gt x bs) (hs.fF hk hg1) (uH hs.ok hk) (Ci hc1) ?_;rw [<- hrun];cases x <;> cases want <;> rfl
     . rename_i htv;have hg1:bm ops.toList=true:=kt ho hgd;refine vL ih hi0 hs (dt.refl _) hc1 (fun q want y gg l h=>by simp at h) (fun h0=>by rw [hg1] at h0; simp at h0) ⟨o,ho,hdst⟩ hrun (Co ho hs hdst fun cx a w Z g bsF S hF hmF hl hS h => ?_);have hv:=D5 (hs.fits hF hmF hl hS) h htv;unfold Region.wanted yielded;rw [hgd];simp only [hog,adq,hogd];rw [adb] at hv;cases hq:a.tmps[gt]? with
       | none=>rfl
       | some v => rw [hq] at hv;simp only [aeB] at hv;subst hv;rfl
     . simp [Tr.run] at hrun
 . simp [Tr.run] at hrun
theorem Fa {dr:Bool} {i:Nat} {r:List Oper} {o:Oper} (hr':r=ops.toList.drop (i + 1)) (ho:ops[i]? = some o) {bs:Bd} {stF:St} (hs:gR E ops base i0 i bs) (h0:o.guard=none) (hdr:(!dr || gO ns i)=true) (hdo:zt E o.dst=true)
 (hrun:((PF E (jm (bm ops.toList) (aD base bs)) o.dst o.op).bind fun st'=>dO E dr ops.toList ns r (i + 1) st' []).run=some stF):js P E dr ops ns base i0 i bs stF:=by
 rw [Tr.run_bind] at hrun;cases hw:(PF E (jm (bm ops.toList) (aD base bs)) o.dst o.op).run with
 | none=>rw [hw] at hrun; simp at hrun
 | some st' => rw [hw] at hrun;refine ⟨i,bs,ac7 _,hs.ok,hs.mb,hs.idx,hs.ng,dt.refl _,fun j h1 h2=>by omega,.inr ⟨o,st',ho,h0,fun h1=>by simpa [h1] using hdr,hdo,hw,?_⟩⟩;rw [<- hr'];exact hrun
theorem HK (hT:bK P E) (hga:df P E) {dr:Bool} (hnm:bt base) {i:Nat} {r:List Oper} {o:Oper} (ih:∀ (bs:Bd) (stF:St),gR E ops base i0 (i + 1) bs->(dO E dr ops.toList ns r (i + 1) base bs).run=some stF->js P E dr ops ns base i0 (i + 1) bs stF) (hi0:i0<=i)
 (hr':r=ops.toList.drop (i + 1)) (ho:ops[i]? = some o) {bs:Bd} {stF:St} (hs:gR E ops base i0 i bs) (hgd:o.guard=none) (hrun:(dO E dr ops.toList ns (o :: r) i base bs).run=some stF):js P E dr ops ns base i0 i bs stF:=by
 unfold dO at hrun;rw [hgd] at hrun;simp only at hrun;cases hdst:o.dst with
 | none =>
   rw [hdst] at hrun;simp only at hrun;cases hc:(!dr || gO ns i) with
   | false=>rw [hc] at hrun; simp [Tr.run] at hrun
   | true => rw [hc] at hrun;simp only [ac6] at hrun;exact Fa hr' ho hs hgd hc (by rw [hdst]; rfl) (by rw [hdst]; exact hrun)
 | some d =>
   rw [hdst] at hrun;simp only at hrun;split at hrun
   . cases hc:(!dr || gO ns i) && zt E (some d) with
     | false=>rw [hc] at hrun; simp [Tr.run] at hrun
     | true => rw [hc] at hrun;simp only [ac6] at hrun;simp only [ac5] at hc;exact Fa hr' ho hs hgd hc.1 (by rw [hdst]; exact hc.2) (by rw [hdst]; exact hrun)
   . rw [Tr.run_bind] at hrun;cases hq:(xf E (ns.getD i cG) o d base bs (dr && !gO ns i)).run with
     | none=>rw [hq] at hrun; simp at hrun
     | some p =>
       rw [hq] at hrun;simp only [adq] at hrun;unfold xf at hq;cases hia:(mN o.op && !(dr && !gO ns i)) with
       | true=>rw [hia] at hq; simp [Tr.run] at hq
       | false =>
         rw [hia] at hq;simp only [adm] at hq;cases hc:E.dB d && tX base d && base.free d && !jr d bs with
         | false=>rw [hc] at hq; simp [Tr.run] at hq
         | true =>
           rw [hc] at hq;simp only [ac6] at hq;refine vL ih hi0 hs (dt.refl _) hc (Jc hs.ok hs.mb hq) (fun h0 hpm => ?_) ⟨o,ho,hdst⟩ hrun (FT hT hga ho hs hdst hq fun cx a w Z g bsF S hF hmF hl hS h=>by simp [Region.wanted,hgd]);obtain ⟨d',hd'⟩:=F3 hq hpm;rw [eY _ hs.ok] at hd';rcases hd' with ⟨i',p',h1,h2,h3⟩ | h1
           . exact hs.ng h0 i' d' p' h1 (by rw [h3]; exact hpm)
           . exact hnm d' _ h1 hpm
theorem jI (hT:bK P E) (hga:df P E) {dr:Bool} (hnm:bt base):∀ (r:List Oper) (i:Nat),r=ops.toList.drop i->i<=ops.size->i0<=i->∀ (bs:Bd) (stF:St),gR E ops base i0 i bs->(dO E dr ops.toList ns r i base bs).run=some stF->js P E dr ops ns base i0 i bs stF
 | [],i,hr,hi,hi0,bs,stF,hs,hrun=>by
   simp only [dO,Tr.run,ac3] at hrun;have:ops.size<=i:=by have:=adU List.length hr;simp at this;omega
   exact ⟨i,bs,ac7 _,hs.ok,hs.mb,hs.idx,hs.ng,dt.refl _,fun j h1 h2=>by omega,.inl ⟨by omega,hrun.symm⟩⟩
 | o :: r,i,hr,hi,hi0,bs,stF,hs,hrun=>by
   have hlt:i < ops.size:=by
    rcases adj i ops.size with h | h
    . exact h
    . rw [List.drop_of_length_le (by simpa using h)] at hr; simp at hr
   have ho:ops[i]? = some o:=by have:=adU (·[0]?) hr;simp only [adf,aer,adO,ac8] at this;exact this.symm
   have hr':r=ops.toList.drop (i + 1):=by have:=adU List.tail hr;simpa using this
   have ih:=jI hT hga (dr:=dr) hnm r (i + 1) hr' hlt (Nat.le_succ_of_le hi0);cases hgd:o.guard with
   | none=>exact HK hT hga hnm ih hi0 hr' ho hs hgd hrun
   | some gd=>exact Hz hT hga ih hi0 ho hs (jg:=gd.1) (want:=gd.2) hgd hrun
end
end Go.Av
namespace Go.Av
open Go.RowKit (Below)
theorem uq (f:Nat×TV->Bool):∀ (l:List (Nat×TV)) (t:Nat) (tv:TV),look (l.filter f) t=some tv->(∀ tv',look l t=some tv'->f (t,tv')=true)->look l t=some tv
 | [],t,tv,h,_=>by simp [look] at h
 | (m,x) :: r,t,tv,h,hv=>by
   rw [ba] at hv ⊢;by_cases hm:m=t
   . subst hm;rw [if_pos rfl] at hv ⊢;have:=hv x rfl;rw [aep this,ba,if_pos rfl] at h;exact h
   . rw [if_neg hm] at hv ⊢;refine uq f r t tv ?_ hv;rw [aeS] at h;split at h
     . rw [ba,if_neg hm] at h; exact h
     . exact h
theorem gU {β:Type}:∀ (l:List (Nat×β)) (t:Nat) (x:β),look l t=some x->(t,x)∈l
 | [],t,x,h=>by simp [look] at h
 | (m,y) :: r,t,x,h=>by
   rw [ba] at h;split at h
   . rename_i e; subst e; simp only [ac3] at h; subst h; exact adu ..
   . exact adt _ (gU r t x h)
def wC (p:Nat×TV):Bool:=match p.2 with | .may _ _ _ _ _=>false | _=>true
theorem Px (st:St):st.sure=⟨st.tm.filter wC,st.rt⟩:=rfl
theorem xz {t:Nat} {tv:TV}:wC (t,tv)=true↔¬ tv.iq:=by cases tv <;> simp [wC,TV.iq]
theorem DV (st:St):bt st.sure:=fun t tv h=>by have:=gU _ _ _ h;rw [Px,ae2] at this;exact xz.1 this.2
theorem zS {nt:Nat->Prop} {base:St} (hnm:bt base):∀ {bs:Bd},dw nt base bs->∀ (t:Nat) (tv:TV),look (aD base bs).sure.tm t=some tv->look (aD base bs).tm t=some tv
 | [],_,t,tv,h=>uq wC _ t tv h fun tv' h'=>xz.2 (hnm t tv' h')
 | (i,d,p) :: r,hb,t,tv,h=>by
   have ih:=zS hnm hb.2.2.2.2;have h:look (((d,p.1) :: (aD base r).tm).filter wC) t=some tv:=h;show look ((d,p.1) :: (aD base r).tm) t=some tv;rw [ba];by_cases hd:d=t
   . subst hd;rw [if_pos rfl];rw [aeS] at h;split at h
     . rw [ba,if_pos rfl] at h; exact h
     . have:=ih d tv h;rw [bN hb.2.2.2.2] at this;rcases this with ⟨i',p',h1,_⟩ | h1
       . exact absurd rfl (hb.2.2.2.1 _ h1).2
       . rw [hb.2.1] at h1; simp at h1
   . rw [if_neg hd];refine ih t tv ?_;rw [aeS] at h;split at h
     . rw [ba,if_neg hd] at h; exact h
     . exact h
theorem mi {nt:Nat->Prop} {base:St} (hnm:bt base) {bs:Bd} (hb:dw nt base bs) {hg:Bool} (hng:hg=false->∀ i t p,(i,t,p)∈bs->¬ p.1.iq):bt (jm hg (aD base bs)):=by
 cases hg with
 | true=>exact DV _
 | false =>
   intro t tv h;have h:look (aD base bs).tm t=some tv:=h;rw [bN hb] at h;rcases h with ⟨i,p,h1,rfl⟩ | h
   . exact hng rfl i t p h1
   . exact hnm t tv h
theorem o8 {P:Program} {cx:Cx P} {Z:Nat->Prop} {g:Gh} {a:Act} {w:World} {nt:Nat->Prop} {base:St} (hnm:bt base) {bs:Bd} (hb:dw nt base bs) {hg:Bool} (h:Rel cx Z g (aD base bs) a w):Rel cx Z g (jm hg (aD base bs)) a w:=by
 cases hg with
 | false=>exact h
 | true=>exact h.swap (fun _=>rfl) fun t tv ht=>h.tm t tv (zS hnm hb t tv ht)
theorem iy {base:St} {S:Nat}:∀ {bs:Bd},(∀ e∈bs,S.testBit e.1=false)->view base S bs=base
 | [],_=>rfl
 | (i,t,p) :: r,h=>by unfold view;rw [h _ (adu ..)];exact iy fun e he=>h e (adt _ he)
def DB:Nat->Nat->Nat
 | 0,_=>0
 | n + 1,S=>DB n S + (match S.testBit n with | true=>0 | false=>1)
theorem mJ:∀ n,DB n 0=n
 | 0=>rfl
 | n + 1=>by simp [DB,mJ n]
theorem Ad:∀ (n j S:Nat),S.testBit j=false->DB n (S ||| 2 ^ j) + (if j < n then 1 else 0)=DB n S
 | 0,j,S,h=>by simp [DB]
 | n + 1,j,S,h=>by
   have ih:=Ad n j S h;simp only [DB,bl];by_cases hj:j=n
   . subst hj;simp [h] at ih ⊢;omega
   . have h1:decide (j=n)=false:=by simpa using hj
     rw [h1,Bool.or_false];by_cases hl:j < n
     . simp only [hl,if_true] at ih;simp only [show j < n + 1 by omega,if_true];omega
     . simp only [hl,aek] at ih;simp only [show ¬ j < n + 1 by omega,aek];omega
theorem AJ:∀ (n S:Nat),DB n S=0->∀ k,k < n->S.testBit k=true
 | 0,_,_,k,hk=>by omega
 | n + 1,S,h,k,hk=>by
   simp only [DB] at h;by_cases hn:k=n
   . subst hn;cases hb:S.testBit k with
     | true=>rfl
     | false=>rw [hb] at h; simp at h
   . exact AJ n S (by omega) k (by omega)
def FX (f:Nat->Nat) (o:Oper):Nat:=o.after.toList.foldl (fun s e=>bif bF e then s ||| 2 ^ e.on ||| f e.on else s) 0
theorem BD (f:Nat->Nat) (b:Nat):∀ (l:List Edge) (s:Nat),(l.foldl (fun s e=>bif bF e then s ||| 2 ^ e.on ||| f e.on else s) s).testBit b=true->s.testBit b=true∨∃ e∈l,bF e=true/\(e.on=b∨(f e.on).testBit b=true)
 | [],s,h=> .inl h
 | e :: l,s,h=>by
   rw [aes] at h;rcases BD f b l _ h with h | ⟨e',h1,h2⟩
   . cases hb:bF e with
     | false=>rw [hb] at h; exact .inl h
     | true =>
       rw [hb] at h;simp only [ac6,Nat.testBit_or,ad8,Nat.testBit_two_pow,aeg] at h;rcases h with (h | h) | h
       . exact .inl h
       . exact .inr ⟨e,adu ..,hb,.inl h⟩
       . exact .inr ⟨e,adu ..,hb,.inr h⟩
   . exact .inr ⟨e',adt _ h1,h2⟩
theorem lf:∀ (l:List Oper) (acc:List Nat),(bR l acc).length=acc.length + l.length
 | [],acc=>by simp [bR]
 | o :: r,acc=>by unfold bR;rw [lf];simp;omega
theorem tD:∀ (l:List Oper) (acc:List Nat) (k:Nat),k < acc.length->(bR l acc)[k]? = acc[k]?
 | [],acc,k,_=>rfl
 | o :: r,acc,k,h=>by unfold bR;rw [tD r _ k (by simp; omega),ad3 h]
theorem tL:∀ (l:List Oper) (acc:List Nat) (k:Nat) (o:Oper) (b:Nat),l[k]? = some o->((bR l acc).getD (acc.length + k) 0).testBit b=true ->
 ∃ e∈o.after.toList,bF e=true/\(e.on=b∨(e.on < acc.length + k/\((bR l acc).getD e.on 0).testBit b=true))
 | [],acc,k,o,b,h,_=>by simp at h
 | o0 :: r,acc,0,o,b,h,hb=>by
   simp only [adf,ac3] at h;subst h;have h1:(bR (o0 :: r) acc)[acc.length]? = some (FX (fun n=>acc.getD n 0) o0):=by unfold bR;rw [tD r _ _ (by simp),adV (ac7 _),aeh];rfl
   rw [List.getD,adO,h1] at hb;simp only [aeB] at hb;rcases BD (fun n=>acc.getD n 0) b o0.after.toList 0 hb with h2 | ⟨e,h2,h3,h4⟩
   . simp at h2
   . refine ⟨e,h2,h3,h4.imp id fun h4 => ?_⟩;have hlt:e.on < acc.length:=by
      rcases adj e.on acc.length with hh | hh
      . exact hh
      . simp [List.getD,adp hh] at h4
     refine ⟨hlt,?_⟩;rw [List.getD,tD _ _ _ hlt];exact h4
 | o0 :: r,acc,k + 1,o,b,h,hb=>by
   have hh:bR (o0 :: r) acc=bR r (acc ++ [FX (fun n=>acc.getD n 0) o0]):=by rw [bR]; rfl
   rw [hh] at hb ⊢;have hl:(acc ++ [FX (fun n=>acc.getD n 0) o0]).length=acc.length + 1:=by simp
   obtain ⟨e,h1,h2,h3⟩:=tL r (acc ++ [FX (fun n=>acc.getD n 0) o0]) k o b (by simpa using h) (by rw [hl,show acc.length + 1 + k=acc.length + (k + 1) by omega]; exact hb);exact ⟨e,h1,h2,h3.imp id fun h3=>⟨by omega,h3.2⟩⟩
theorem ib:∀ (l:List Oper) (i:Nat),gC l i=true->∀ (k:Nat) (o:Oper),l[k]? = some o->∀ e∈o.after.toList,bF e=true->e.on < i + k
 | [],i,_,k,o,h,_,_,_=>by simp at h
 | o0 :: r,i,h,k,o,ho,e,he,hb=>by
   simp only [gC,ac5] at h;cases k with
   | zero => simp only [adf,ac3] at ho;subst ho;have:=adx.1 h.1 e he;simp only [hb,adL,afY] at this;exact aen (adC this)
   | succ k => have:=ib r (i + 1) h.2 k o (by simpa using ho) e he hb;omega
section
variable {P:Program} {E:En}
def sZ (P:Program) (E:En):Prop:=∀ (cx:Cx P) (Z:Nat->Prop) (g:Gh) (st:St) (a:Act) (w:World) (o:Oper) (st':St),Rel cx Z g st a w->bt st->Fit cx E a->zt E o.dst=true->(PF E st o.dst o.op).run=some st' ->
 bt st'/\∀ (next:Act->World->Prop) (Q:Exit->Act->World->Prop),(∀ Z' g' a' w',Rel cx Z' g' st' a' w'->Fit cx E a'->next a' w')->o.wp P a w next Q
variable {ops:Array Oper} {ns:List Nat} {P:Program} {cx:Cx P} {Q:Exit->Act->World->Prop}
theorem jJ {base:St} {bs:Bd} {S:Nat} (h:∀ e∈bs,S.testBit e.1=true):aD base bs=view base S bs:=gL base S bs fun i t p hm=>h _ hm
theorem bz {o:Oper} {i:Nat} (ho:ops[i]? = some o) (hg:o.guard=none) {K:Act->World->Prop} {a:Act} {w:World} (h:o.wp P a w K Q):wpOp P ops Q i K a w:=by
 unfold wpOp;have:Region.wanted o (yielded ops a.tmps)=true:=by simp [Region.wanted,hg]
 simp only [ho,this,if_true];exact .inl h
theorem fN (j k:Nat):(2 ^ j - 1).testBit k=decide (k < j):=Nat.testBit_two_pow_sub_one j k
theorem Jr (j:Nat):(2 ^ j - 1) ||| 2 ^ j=2 ^ (j + 1) - 1:=by
 apply Nat.eq_of_testBit_eq;intro k;rw [bl,fN,fN];by_cases h:k < j
 . simp [h,afZ h]
 . by_cases h':j=k
   . simp [h']
   . simp [h,h']; omega
theorem PB (hT:bK P E) (hga:df P E) (hW:sZ P E) {stF:St} (hQ:∀ Z g a w,Rel cx Z g stF a w->bt stF->Fit cx E a->Q .normal a w) :
 ∀ (n i:Nat) (base:St) (a:Act) (w:World) (Z:Nat->Prop) (g:Gh),ops.size - i=n->i<=ops.size->bt base->Rel cx Z g base a w->Fit cx E a->(dO E false ops.toList ns (ops.toList.drop i) i base []).run=some stF->wpOps P ops Q (List.range' i (ops.size - i)) a w:=by
 intro n;induction n using Nat.strongRecOn with
 | _ n ih =>
   intro i base a w Z g hn hi hnm h hsz hrun;obtain ⟨i1,bsF,h1,h2,h3,h4,h5,h6,h7,h8⟩:=jI (ops:=ops) (ns:=ns) (i0:=i) hT hga hnm _ i rfl hi (ac7 i) [] stF ⟨trivial,hnm.MB,fun e he=>by simp at he,fun _ _ _ _ he=>by simp at he⟩ hrun;have hi1:i1<=ops.size:=by
    rcases h8 with ⟨h8,_⟩ | ⟨o,st',h8,_⟩
    . omega
    . exact afC (ado.1 h8).1
   have inner:∀ (m j:Nat) (a:Act) (w:World) (Z:Nat->Prop) (g:Gh),i1 - j=m->i<=j->j<=i1->Rel cx Z g (view base (2 ^ j - 1) bsF) a w->Fit cx E a->wpOps P ops Q (List.range' j (ops.size - j)) a w:=by
    intro m;induction m with
    | zero =>
      intro j a w Z g hm hij hj h hsz;have:j=i1:=by omega
      subst this;have hall:aD base bsF=view base (2 ^ j - 1) bsF:=jJ fun e he=>by rw [fN]; simpa using (h4 e he).2.1
      rw [<- hall] at h;have hs:=o8 (hg:=bm ops.toList) hnm h2 h;have hsn:=mi (hg:=bm ops.toList) hnm h2 h5;rcases h8 with ⟨e1,rfl⟩ | ⟨o,st',ho,hg,_,hdo,hw,hrun'⟩
      . rw [e1,aeh];exact hQ _ _ _ _ hs hsn hsz
      . have hlt:j < ops.size:=(ado.1 ho).1;obtain ⟨k,hk⟩:∃ k,ops.size - j=k + 1:=⟨ops.size - j - 1,by omega⟩;rw [hk,List.range'_succ,wpOps_cons];refine bz ho hg ?_;obtain ⟨hn',hw'⟩:=hW cx Z g _ a w o st' hs hsn hsz hdo hw;refine hw' _ _ fun Z' g' a' w' hr hsz' => ?_
        have hk':k=ops.size - (j + 1):=by omega
        rw [hk'];exact ih (ops.size - (j + 1)) (by omega) (j + 1) st' a' w' Z' g' rfl hlt hn' hr hsz' hrun'
    | succ m ihm =>
      intro j a w Z g hm hij hj h hsz;have hji:j < i1:=by omega
      have hlt:j < ops.size:=by omega
      obtain ⟨k,hk⟩:∃ k,ops.size - j=k + 1:=⟨ops.size - j - 1,by omega⟩;rw [hk,List.range'_succ,wpOps_cons];refine h7 j hij hji cx (2 ^ j - 1) a w Z g _ Q (fun i' _ hi' _=>by rw [fN]; simpa using hi') (by rw [fN]; simp) h hsz fun Z' g' a' w' hr hsz' => ?_
      have hk':k=ops.size - (j + 1):=by omega
      rw [hk'];rw [Jr] at hr;exact ihm (j + 1) a' w' Z' g' (by omega) (by omega) (by omega) hr hsz'
   refine inner (i1 - i) i a w Z g rfl (ac7 i) h1 ?_ hsz;rw [iy fun e he=>by rw [fN]; simpa using (h4 e he).1];exact h
theorem Gf (hT:bK P E) (hga:df P E) (hW:sZ P E) (hed:gC ops.toList 0=true) {stF:St} (hQ:∀ Z g a w,Rel cx Z g stF a w->bt stF->Fit cx E a->Q .normal a w) :
 ∀ (fuel:Nat) (listed:Array Bool) (S i i1:Nat) (base:St) (bsF:Bd) (a:Act) (w:World) (Z:Nat->Prop) (g:Gh),listed.size=ops.size->(∀ k,k < ops.size->listed.getD k false=S.testBit k)->DB ops.size S<=fuel->(∀ k,k < i->S.testBit k=true)->(∀ k,i1<=k->S.testBit k=false) ->
  (∀ k,S.testBit k=true->∀ b,((bR ops.toList []).getD k 0).testBit b=true->S.testBit b=true)->i<=i1->bt base->dw E.zf base bsF->(∀ e∈bsF,i<=e.1/\e.1 < i1)->(bm ops.toList=false->∀ i t p,(i,t,p)∈bsF->¬ p.1.iq) ->
  (∀ j,i<=j->j < i1->pZ P E ops (bR ops.toList []) base bsF i j) ->
  ((i1=ops.size/\stF=jm (bm ops.toList) (aD base bsF)) ∨
    ∃ (o:Oper) (st':St),ops[i1]? = some o/\o.guard=none/\(true=true->gO (bR ops.toList []) i1=true)/\zt E o.dst=true/\(PF E (jm (bm ops.toList) (aD base bsF)) o.dst o.op).run=some st'/\(dO E true ops.toList (bR ops.toList []) (ops.toList.drop (i1 + 1)) (i1 + 1) st' []).run=some stF) ->
  Rel cx Z g (view base S bsF) a w->Fit cx E a->wpAny P .any ops Q fuel listed a w:=by
 have hlen:(bR ops.toList []).length=ops.size:=by rw [lf]; simp
 intro fuel;induction fuel with
 | zero =>
   intro listed S i i1 base bsF a w Z g hls hS hfuel hlo hhi hcl hii hnm hb hidx hng hstep htail h hsz;have hall:=AJ _ _ (Nat.le_zero.1 hfuel);have hready:Region.ready .any ops listed=[]:=by apply aet.2;intro j hj;obtain ⟨hj0,o,ho,_⟩:=mem_ready.1 hj;have hlt:j < ops.size:=(ado.1 ho).1;have:=hS j hlt;rw [hall j hlt] at this;simp [adb,hls,hlt] at hj0 this;rw [hj0] at this;simp at this
   refine ⟨hready,?_⟩;rcases htail with ⟨e1,rfl⟩ | ⟨o,st',ho,_⟩
   . have hallv:aD base bsF=view base S bsF:=jJ fun e he=>hall e.1 (by have:=(hidx e he).2; omega)
     rw [<- hallv] at h;exact hQ _ _ _ _ (o8 hnm hb h) (mi hnm hb hng) hsz
   . have hlt:i1 < ops.size:=(ado.1 ho).1;have:=hall i1 hlt;rw [hhi i1 (ac7 _)] at this;simp at this
 | succ fuel ih =>
   intro listed S i i1 base bsF a w Z g hls hS hfuel hlo hhi hcl hii hnm hb hidx hng hstep htail h hsz;have hi1:i1<=ops.size:=by
    rcases htail with ⟨e1,_⟩ | ⟨o,st',ho,_⟩
    . omega
    . exact afC (ado.1 ho).1
   have hmask:∀ j,j∈Region.ready .any ops listed->j < ops.size/\S.testBit j=false/\∀ b,((bR ops.toList []).getD j 0).testBit b=true->S.testBit b=true:=by
    intro j hj;obtain ⟨hj0,o,ho,he⟩:=mem_ready.1 hj;have hlt:j < ops.size:=(ado.1 ho).1;refine ⟨hlt,?_,fun b hbit => ?_⟩
    . rw [<- hS j hlt];simp [adb,hls,hlt] at hj0 ⊢;exact hj0
    . obtain ⟨e,h1,h2,h3⟩:=tL ops.toList [] j o b (by rw [ac8]; exact ho) (by simpa using hbit);have hl:=he e (aeu.1 h1) h2;have hon:e.on < ops.size:=by
       rcases adj e.on ops.size with hh | hh
       . exact hh
       . simp [adb,hls,hh] at hl
      rw [hS _ hon] at hl;rcases h3 with h3 | ⟨_,h3⟩
      . rw [<- h3]; exact hl
      . exact hcl _ hl b h3
   have hnext:∀ k,k < ops.size->S.testBit k=false->∃ j,j∈Region.ready .any ops listed:=by
    intro k;induction k using Nat.strongRecOn with
    | _ k ihk =>
      intro hk hkS;obtain ⟨o,ho⟩:∃ o,ops[k]? = some o:=⟨ops[k],by simp [hk]⟩;by_cases hall:∀ e∈o.after,Region.binds .any e=true->listed.getD e.on false=true
      . refine ⟨k,mem_ready.2 ⟨?_,o,ho,hall⟩⟩;have:=hS k hk;rw [hkS] at this;simp [adb,hls,hk] at this ⊢;exact this
      . have hex:∃ e,e∈o.after/\Region.binds .any e=true/\¬ listed.getD e.on false=true:=by
         apply afB;intro hne;apply hall;intro e he hbe;apply afB;intro hnl;exact hne ⟨e,he,hbe,hnl⟩
        obtain ⟨e,he,hbe,hnl⟩:=hex;have hon:=ib ops.toList 0 hed k o (by rw [ac8]; exact ho) e (aeu.2 he) hbe;rw [adA] at hon;have hon':e.on < ops.size:=Nat.lt_trans hon hk;refine ihk e.on hon hon' ?_;rw [<- hS _ hon'];simpa using hnl
   have hset:∀ j,j < ops.size->(∀ k,k < ops.size->(listed.setIfInBounds j true).getD k false=(S ||| 2 ^ j).testBit k):=by
    intro j hj k hk;rw [bl,<- hS k hk];by_cases hjk:j=k
    . subst hjk;simp [adb,hls,hj]
    . simp [adb,afP hjk,hjk]
   have hcnt:∀ j,j < ops.size->S.testBit j=false->DB ops.size (S ||| 2 ^ j)<=fuel:=by intro j hj hSj;have:=Ad ops.size j S hSj;rw [if_pos hj] at this;omega
   have hclS:∀ j,j∈Region.ready .any ops listed->∀ k,(S ||| 2 ^ j).testBit k=true->∀ b,((bR ops.toList []).getD k 0).testBit b=true->(S ||| 2 ^ j).testBit b=true:=by
    intro j hj k hk b hbit;rw [bl] at hk ⊢;by_cases hjk:j=k
    . subst hjk;rw [(hmask j hj).2.2 b hbit]; rfl
    . have hk:S.testBit k=true:=by simpa [hjk] using hk
      rw [hcl k hk b hbit]; rfl
   by_cases hdone:∀ k,k < i1->S.testBit k=true
   ·
    have hallv:aD base bsF=view base S bsF:=jJ fun e he=>hdone e.1 (hidx e he).2
    have h':=h;rw [<- hallv] at h';have hs:=o8 (hg:=bm ops.toList) hnm hb h';have hsn:=mi (hg:=bm ops.toList) hnm hb hng;rcases htail with ⟨e1,rfl⟩ | ⟨o,st',ho,hg,hfence,hdo,hw,hrun'⟩
    . refine ⟨fun _=>hQ _ _ _ _ hs hsn hsz,fun j hj => ?_⟩;obtain ⟨h1,h2,_⟩:=hmask j hj;rw [hdone j (by omega)] at h2;simp at h2
    . have hlt:i1 < ops.size:=(ado.1 ho).1;refine ⟨fun hr => ?_,fun j hj => ?_⟩
      . obtain ⟨j,hj⟩:=hnext i1 hlt (hhi i1 (ac7 _));rw [hr] at hj;simp at hj
      . obtain ⟨hj1,hj2,hj3⟩:=hmask j hj;have hji:j=i1:=by
         have hge:i1<=j:=by
          rcases adj j i1 with hh | hh
          . rw [hdone j hh] at hj2; simp at hj2
          . exact hh
         rcases Nat.lt_or_eq_of_le hge with hgt | heq
         . have hf:=hfence rfl;unfold gO at hf;simp only [ac5,adx,ad9] at hf;have:=hf.2 (j - i1 - 1) (by rw [hlen]; omega);rw [show i1 + 1 + (j - i1 - 1)=j by omega] at this;have:=hj3 i1 this;rw [hhi i1 (ac7 _)] at this;simp at this
         . exact heq.symm
        subst hji;refine bz ho hg ?_;obtain ⟨hn',hw'⟩:=hW cx Z g _ a w o st' hs hsn hsz hdo hw;refine hw' _ _ fun Z' g' a' w' hr hsz' => ?_
        obtain ⟨i2,bsF',k1,k2,k3,k4,k5,k6,k7,k8⟩:=jI (ops:=ops) (ns:=bR ops.toList []) (i0:=j + 1) hT hga hn' _ (j + 1) rfl hlt (ac7 _) [] stF ⟨trivial,hn'.MB,fun e he=>by simp at he,fun _ _ _ _ he=>by simp at he⟩ hrun';have hlow:∀ k,j + 1<=k->(S ||| 2 ^ j).testBit k=false:=fun k hk=>by rw [bl,hhi k (by omega)];simp; omega
        refine ih (listed.setIfInBounds j true) (S ||| 2 ^ j) (j + 1) i2 st' bsF' a' w' Z' g' (by simp [hls]) (hset j hj1) (hcnt j hj1 hj2) (fun k hk => ?_) (fun k hk=>hlow k (by omega)) (hclS j hj) k1 hn' k2 (fun e he=>⟨(k4 e he).1,(k4 e he).2.1⟩) k5 k7 k8 ?_ hsz'
        . rw [bl];by_cases hjk:j=k
          . simp [hjk]
          . rw [hdone k (by omega)]; rfl
        . rw [iy fun e he=>hlow e.1 (k4 e he).1];exact hr
   ·
    have hex:∃ k,k < i1/\S.testBit k=false:=by
     apply afB;intro hne;apply hdone;intro k hk;cases hb:S.testBit k with
     | true=>rfl
     | false=>exact absurd ⟨k,hk,hb⟩ hne
    obtain ⟨k,hk,hkS⟩:=hex;refine ⟨fun hr => ?_,fun j hj => ?_⟩
    . obtain ⟨j,hj⟩:=hnext k (by omega) hkS;rw [hr] at hj;simp at hj
    . obtain ⟨hj1,hj2,hj3⟩:=hmask j hj;have hji:j < i1:=by
       rcases adj j i1 with hh | hh
       . exact hh
       . exfalso;rcases htail with ⟨e1,_⟩ | ⟨o,st',ho,hg,hfence,_⟩
         . omega
         . have hf:=hfence rfl;unfold gO at hf;simp only [ac5,adx,ad9] at hf;rcases Nat.lt_or_eq_of_le hh with hgt | heq
           . have:=hf.2 (j - i1 - 1) (by rw [hlen]; omega);rw [show i1 + 1 + (j - i1 - 1)=j by omega] at this;have:=hj3 i1 this;rw [hhi i1 (ac7 _)] at this;simp at this
           . subst heq;have:=hj3 k (hf.1 k hk);rw [hkS] at this;simp at this
      have hij:i<=j:=by
       rcases adj j i with hh | hh
       . rw [hlo j hh] at hj2; simp at hj2
       . exact hh
      have hget:∀ (x:Nat),(bR ops.toList []).getD j x=(bR ops.toList []).getD j 0:=fun x=>by
       have hjl:j < (bR ops.toList []).length:=by rw [hlen]; exact hj1
       simp [List.getD,hjl]
      refine hstep j hij hji cx S a w Z g _ Q (fun i' _ _ hbit=>hj3 i' (by rw [<- hget cG]; exact hbit)) hj2 h hsz fun Z' g' a' w' hr hsz' => ?_
      refine ih (listed.setIfInBounds j true) (S ||| 2 ^ j) i i1 base bsF a' w' Z' g' (by simp [hls]) (hset j hj1) (hcnt j hj1 hj2) (fun k hk => ?_) (fun k hk => ?_) (hclS j hj) hii hnm hb hidx hng hstep htail hr hsz'
      . rw [bl,hlo k hk]; rfl
      . rw [bl,hhi k hk];simp; omega
end
end Go.Av
namespace Go.Av
open Go.RowKit (Below)
def Good {P:Program} (cx:Cx P) (E:En) (st:St) (a:Act) (w:World):Prop:=bt st/\Fit cx E a/\∃ Z g,Rel cx Z g st a w
def QO {P:Program} (cx:Cx P) (E:En):Ou->Exit->Act->World->Prop
 | .nrm st,.normal,a,w=>Good cx E st a w
 | .ext id st,.exit id',a,w=>id'=id/\Good cx E st a w
 | .ret st,.ret,a,w=>Good cx E st a w
 | _,_,_,_=>False
def QL {P:Program} (cx:Cx P) (E:En) (L:Lo E.ρ):Sum (bJ L.σ) (bJ E.ρ)->Exit->Act->World->Prop
 | .inl y=>QO cx E (.nrm (enc L.σ y))
 | .inr z=>QO cx E (.ret (enc E.ρ z))
def cl (P:Program) (E:En) (id:Nat) (c:Code) (L:Lo E.ρ):Prop :=
 ∀ (cx:Cx P) (a:Act) (w:World) (x:bJ L.σ) (r:Sum (bJ L.σ) (bJ E.ρ)),Good cx E (enc L.σ x) a w->L.f x=some r->(Code.block id c).wp P (QL cx E L r) a w
def cH (P:Program) (E:En) (c:Code) (F:St->Tr St):Prop :=
 ∀ (cx:Cx P) (a:Act) (w:World) (st st':St),Good cx E st a w->(F st).run=some st'->c.wp P (QO cx E (.nrm st')) a w
def du (P:Program) (E:En):Code->Prop
 | .region id ops dr=>∀ F,E.rg id=some F->cH P E (.region id ops dr) F
 | .seq a b=>du P E a/\du P E b
 | .cond _ a b=>du P E a/\du P E b
 | .block id c=>(∀ L,E.lo id=some L->cl P E id c L)/\(E.lo id=none->du P E c)
 | .loop c=>du P E c
 | _=>True
def Lx (P:Program) (E:En):Prop:=∀ (cx:Cx P) (σ:List SE) (st:St) (a:Act) (w:World) (x:bJ σ),Good cx E st a w->dec σ st=some x->Good cx E (enc σ x) a w
section
variable {P:Program} {E:En} {cx:Cx P}
theorem D0 {st:St} {a:Act} {w:World} {t:Nat} {x:Bool} (h:Good cx E st a w) (hx:st.tv t=some (.v (.d .bool x))):Good cx E (st.Kt t x) a w:=by
 obtain ⟨h1,h2,Z,g,h3⟩:=h;refine ⟨fun t' tv h => ?_,h2,Z,g,h3.swap (fun _=>rfl) fun t' tv h => ?_⟩
 . have h:look ((t,.v (.lb x)) :: st.tm) t'=some tv:=h;rw [ba] at h;split at h
   . cases h; exact fun h=>h
   . exact h1 t' tv h
 . have hh:look ((t,.v (.lb x)) :: st.tm) t'=some tv:=h;clear h;rw [ba] at hh;split at hh
   . rename_i e;subst e;cases hh;refine ⟨?_,(yz x).1 _ _ _ _ _ (ic h3 h1.cons.cons hx)⟩;obtain ⟨tq,h4,_⟩:=Aq h1.cons hx;exact (h3.tm t tq h4).1
   . exact h3.tm t' tv hh
theorem least {p:Nat->Prop}:∀ n,p n->∃ m,p m/\∀ k,p k->m<=k:=by
 intro n;induction n using Nat.strongRecOn with
 | _ n ih =>
   intro h;by_cases hx:∃ k,k < n/\p k
   . obtain ⟨k,hk,hp⟩:=hx;exact ih k hk hp
   . exact ⟨n,h,fun k hp=>Nat.le_of_not_lt fun hk=>hx ⟨k,hk,hp⟩⟩
open Classical in
noncomputable def JE (I:Nat->Act->World->Prop) (a:Act) (w:World):Nat:=if h:∃ n,I n a w then Classical.choose (least (p:=fun n=>I n a w) (Classical.choose h) (ad7 h)) else 0
theorem zo {I:Nat->Act->World->Prop} {a:Act} {w:World} {n:Nat} (h:I n a w):I (JE I a w) a w/\∀ k,I k a w->JE I a w<=k:=by have he:∃ n,I n a w:=⟨n,h⟩;unfold JE;rw [dif_pos he];exact ad7 (least (p:=fun n=>I n a w) (Classical.choose he) (ad7 he))
theorem zk {Q:Exit->Act->World->Prop} {c:Code} (I:Nat->Act->World->Prop) (h0:∀ a w,¬ I 0 a w) (round:∀ n a w,I (n + 1) a w->c.wp P (Exit.then (I n) Q) a w) {n:Nat} {a:Act} {w:World} (h:I n a w):(Code.loop c).wp P Q a w:=by
 refine wp_loop (fun a w=>∃ n,I n a w) (JE I) ⟨n,h⟩ fun a w ⟨n,h⟩ => ?_
 obtain ⟨h1,h2⟩:=zo h;cases hm:JE I a w with
 | zero=>rw [hm] at h1; exact (h0 _ _ h1).elim
 | succ m =>
   rw [hm] at h1;refine wp_mono (round m a w h1) fun e a' w' hq => ?_
   cases e <;> first | exact hq | exact ⟨⟨m,hq⟩,Nat.lt_succ_of_le ((zo hq).2 m hq)⟩
theorem wp_loop_once {Q:Exit->Act->World->Prop} {c:Code} {a:Act} {w:World} (h:c.wp P (fun e a w=>(∀ x,e=x->x≠ .normal)/\Exit.then (fun _ _=>False) Q e a w) a w):(Code.loop c).wp P Q a w:=by
 refine zk (fun n a' w'=>n=1/\a'=a/\w'=w) (fun a w h=>by omega) (n:=1) (fun n a' w' ⟨h1,h2,h3⟩ => ?_) ⟨rfl,rfl,rfl⟩;subst h2 h3;refine wp_mono h fun e a1 w1 ⟨hn,hq⟩ => ?_
 cases e <;> first | exact hq | exact absurd rfl (hn _ rfl)
theorem cw (hT:bK P E) (hga:df P E) (hW:sZ P E) (hm:P.follows .mixedOrders=true) (hdec:Lx P E):∀ (c:Code) (st:St) (a:Act) (w:World) (ou:Ou),du P E c->Good cx E st a w->(cQ E c st).run=some ou->c.wp P (QO cx E ou) a w
 | .skip,st,a,w,ou,_,h,hr=>by have hr:some (Ou.nrm st)=some ou:=hr;simp only [ac3] at hr;subst hr;exact wp_skip h
 | .region id ops false,st,a,w,ou,hl,h,hr=>by
   simp only [cQ] at hr;split at hr
   . rename_i F hF;rw [Tr.run_bind] at hr;cases hrun:(F st).run with
     | none=>rw [hrun] at hr; simp at hr
     | some st' => rw [hrun] at hr;simp only [adq,Tr.run,ac3] at hr;subst hr;exact hl F hF cx a w st st' h hrun
   rw [Tr.run_bind] at hr;cases hrun:(dO E false ops.toList [] ops.toList 0 st []).run with
   | none=>rw [hrun] at hr; simp at hr
   | some st' => rw [hrun] at hr;simp only [adq,Tr.run,ac3] at hr;subst hr;obtain ⟨h1,h2,Z,g,h3⟩:=h;refine wp_region ?_;have:=PB (ns:=[]) (cx:=cx) (Q:=QO cx E (.nrm st')) hT hga hW (stF:=st') (fun Z g a w hr hn hs=>⟨hn,hs,Z,g,hr⟩) ops.size 0 st a w Z g rfl (adM _) h1 h3 h2 hrun;rw [Nat.sub_zero] at this;rw [List.range_eq_range'];exact this
 | .region id ops true,st,a,w,ou,hl,h,hr=>by
   simp only [cQ] at hr;split at hr
   . rename_i F hF;rw [Tr.run_bind] at hr;cases hrun:(F st).run with
     | none=>rw [hrun] at hr; simp at hr
     | some st' => rw [hrun] at hr;simp only [adq,Tr.run,ac3] at hr;subst hr;exact hl F hF cx a w st st' h hrun
   cases hed:gC ops.toList 0 with
   | false=>rw [hed] at hr; simp [Tr.run] at hr
   | true =>
     rw [hed] at hr;simp only [ac6] at hr;rw [Tr.run_bind] at hr;cases hrun:(dO E true ops.toList (bR ops.toList []) ops.toList 0 st []).run with
     | none=>rw [hrun] at hr; simp at hr
     | some st' =>
       rw [hrun] at hr;simp only [adq,Tr.run,ac3] at hr;subst hr;obtain ⟨h1,h2,Z,g,h3⟩:=h;refine wp_region_any hm ?_;obtain ⟨i1,bsF,k1,k2,k3,k4,k5,k6,k7,k8⟩:=jI (ops:=ops) (ns:=bR ops.toList []) (i0:=0) hT hga h1 _ 0 rfl (adM _) (ac7 _) [] st' ⟨trivial,h1.MB,fun e he=>by simp at he,fun _ _ _ _ he=>by simp at he⟩ hrun;refine Gf (cx:=cx) (Q:=QO cx E (.nrm st')) hT hga hW hed (stF:=st') (fun Z g a w hr hn hs=>⟨hn,hs,Z,g,hr⟩) ops.size (Array.replicate ops.size false) 0 0 i1 st bsF a _ Z g (by simp) (fun k hk => ?_) (by rw [mJ]; exact ac7 _) (fun k hk=>by omega) (fun k _=>ad5 k) (fun k hk=>by rw [ad5] at hk; simp at hk) k1 h1 k2 (fun e he=>⟨(k4 e he).1,(k4 e he).2.1⟩) k5 k7 k8 ?_ h2
       . rw [ad5];simp [adb,hk]
       . rw [iy fun e _=>ad5 _];exact h3.world rfl rfl rfl rfl
 | .seq x y,st,a,w,ou,hl,h,hr=>by
   simp only [cQ] at hr;rw [Tr.run_bind] at hr;cases hrun:(cQ E x st).run with
   | none=>rw [hrun] at hr; simp at hr
   | some o =>
     rw [hrun] at hr;simp only [adq] at hr;refine wp_seq (wp_mono (cw hT hga hW hm hdec x st a w o hl.1 h hrun) fun e a' w' hq => ?_);cases o with
     | nrm st' =>
       cases e <;> first | exact hq.elim | skip
       exact cw hT hga hW hm hdec y st' a' w' ou hl.2 hq hr
     | ext id st' => simp only [Tr.run,ac3] at hr;subst hr;cases e <;> first | exact hq.elim | exact hq
     | ret st' => simp only [Tr.run,ac3] at hr;subst hr;cases e <;> first | exact hq.elim | exact hq
 | .cond c x y,st,a,w,ou,hl,h,hr=>by
   obtain ⟨h1,h2,Z,g,h3⟩:=h;simp only [cQ] at hr;split at hr
   . rename_i c _ _ hg;have:a.eval c= .bool true:=aM h3 h1.cons.cons hg;exact wp_cond_true this (cw hT hga hW hm hdec x st a w ou hl.1 ⟨h1,h2,Z,g,h3⟩ hr)
   . rename_i c _ _ hg;have:a.eval c= .bool false:=aM h3 h1.cons.cons hg;exact wp_cond_false this (cw hT hga hW hm hdec y st a w ou hl.2 ⟨h1,h2,Z,g,h3⟩ hr)
   . rename_i v t hg;have hv:a.eval (.tmp t)= .bool v:=aM h3 h1.cons.cons hg;have hs:=D0 (x:=v) (t:=t) ⟨h1,h2,Z,g,h3⟩ hg;refine wp_cond_split hv (fun e => ?_) (fun e => ?_)
     . subst e;exact cw hT hga hW hm hdec x _ a w ou hl.1 hs hr
     . subst e;exact cw hT hga hW hm hdec y _ a w ou hl.2 hs hr
   . simp [Tr.run] at hr
 | .block id c,st,a,w,ou,hl,h,hr=>by
   simp only [cQ] at hr;split at hr
   . rename_i L hL;obtain ⟨x,hx,hr⟩:=Tr.af hr;simp only [Tr.run,aeM] at hr;obtain ⟨r,hf,hr⟩:=hr;have:=hl.1 L hL cx a w x r (hdec cx L.σ st a w x h hx) hf;refine wp_mono this fun e a' w' hq => ?_
     cases r with
     | inl y=>simp only [Sum.elim_inl,Tr.run,ac3] at hr; subst hr; exact hq
     | inr z=>simp only [Sum.elim_inr,Tr.run,ac3] at hr; subst hr; exact hq
   . rename_i hL;rw [Tr.run_bind] at hr;cases hrun:(cQ E c st).run with
     | none=>rw [hrun] at hr; simp at hr
     | some o =>
       rw [hrun] at hr;simp only [adq] at hr;refine wp_block (wp_mono (cw hT hga hW hm hdec c st a w o (hl.2 hL) h hrun) fun e a' w' hq => ?_);cases o with
       | nrm st' => simp only [Tr.run,ac3] at hr;subst hr;cases e <;> first | exact hq.elim | exact hq
       | ext id' st' =>
         cases e <;> first | exact hq.elim | skip
         obtain ⟨rfl,hq⟩:=hq;simp only at hr;simp only [Exit.inBlock];rename_i e';cases hb:Nat.beq e' id with
         | true => rw [hb] at hr;simp only [ac6,Tr.run,ac3] at hr;subst hr;rw [if_pos (beq_eq hb)];exact hq
         | false => rw [hb] at hr;simp only [adm,Tr.run,ac3] at hr;subst hr;rw [if_neg (aew hb)];exact ⟨rfl,hq⟩
       | ret st' => simp only [Tr.run,ac3] at hr;subst hr;cases e <;> first | exact hq.elim | exact hq
 | .exit id,st,a,w,ou,_,h,hr=>by simp only [cQ,Tr.run,ac3] at hr;subst hr;exact wp_exit ⟨rfl,h⟩
 | .ret,st,a,w,ou,_,h,hr=>by simp only [cQ,Tr.run,ac3] at hr;subst hr;exact wp_ret h
 | .loop c,st,a,w,ou,hl,h,hr=>by
   simp only [cQ] at hr;rw [Tr.run_bind] at hr;cases hrun:(cQ E c st).run with
   | none=>rw [hrun] at hr; simp at hr
   | some o =>
     rw [hrun] at hr;simp only [adq] at hr;refine wp_loop_once (wp_mono (cw hT hga hW hm hdec c st a w o hl h hrun) fun e a' w' hq => ?_);cases o with
     | nrm st'=>simp [Tr.run] at hr
     | ext id st' => simp only [Tr.run,ac3] at hr;subst hr;cases e <;> first | exact hq.elim | exact ⟨fun x e=>by subst e; simp,hq⟩
     | ret st' => simp only [Tr.run,ac3] at hr;subst hr;cases e <;> first | exact hq.elim | exact ⟨fun x e=>by subst e; simp,hq⟩
 | .goto _,_,_,_,_,_,_,hr=>by simp [cQ,Tr.run] at hr
 | .label _,_,_,_,_,_,_,hr=>by simp [cQ,Tr.run] at hr
 | .scope _,_,_,_,_,_,_,hr=>by simp [cQ,Tr.run] at hr
 | .rangeFunc _ _ _ _,_,_,_,_,_,_,hr=>by simp [cQ,Tr.run] at hr
theorem ES (hT:bK P E) (hga:df P E) (hW:sZ P E) (hm:P.follows .mixedOrders=true) (hdec:Lx P E) {id:Nat} {body:Code} {L:Lo E.ρ} (hl:du P E body)
 (hf:∀ x r,L.f x=some r->∃ n,iter (fun x=>(cZ E id L.σ body x).run) n x=some r):cl P E id (.loop body) L:=by
 intro cx a w x r h hr;obtain ⟨n,hn⟩:=hf x r hr;refine wp_block ?_;refine zk (fun n a w=>∃ x,Good cx E (enc L.σ x) a w/\iter (fun x=>(cZ E id L.σ body x).run) n x=some r) (fun a w ⟨x,_,h⟩=>by simp [iter] at h) (fun n a w ⟨x,hg,hi⟩ => ?_) ⟨x,h,hn⟩;unfold iter at hi
 have hround:∀ r',(cZ E id L.σ body x).run=some r'->∃ o,(cQ E body (enc L.σ x)).run=some o/\(match o with
  | .nrm st=>Tr.bu (dec L.σ st) fun y=>Tr.ret (Sum.inl y)
  | .ext id' st=>bif Nat.beq id' id then Tr.bu (dec L.σ st) fun y=> .ret (.inr (.inl y)) else .fail
  | .ret st=>Tr.bu (dec E.ρ st) fun y=> .ret (.inr (.inr y)):Tr (Sum (bJ L.σ) (Sum (bJ L.σ) (bJ E.ρ)))).run=some r':=fun r' hr'=>by
  unfold cZ at hr';rw [Tr.run_bind] at hr';cases ho:(cQ E body (enc L.σ x)).run with
  | none=>rw [ho] at hr'; simp at hr'
  | some o=>rw [ho] at hr'; exact ⟨o,rfl,hr'⟩
 split at hi
 . rename_i y hy;obtain ⟨o,ho,ho'⟩:=hround _ hy;refine wp_mono (cw hT hga hW hm hdec body _ a w o hl hg ho) fun e a' w' hq => ?_
   cases o with
   | nrm st => obtain ⟨z,hz,hz'⟩:=Tr.af ho';simp only [Tr.run,ac3,ads] at hz';subst hz';cases e <;> first | exact hq.elim | exact ⟨z,hdec cx _ st a' w' z hq hz,hi⟩
   | ext id' st =>
     simp only at ho';cases hb:Nat.beq id' id with
     | false=>rw [hb] at ho'; simp [Tr.run] at ho'
     | true => rw [hb] at ho';obtain ⟨z,hz,hz'⟩:=Tr.af ho';simp [Tr.run] at hz'
   | ret st => obtain ⟨z,hz,hz'⟩:=Tr.af ho';simp [Tr.run] at hz'
 . rename_i y hy;simp only [ac3] at hi;subst hi;obtain ⟨o,ho,ho'⟩:=hround _ hy;refine wp_mono (cw hT hga hW hm hdec body _ a w o hl hg ho) fun e a' w' hq => ?_
   cases o with
   | nrm st => obtain ⟨z,hz,hz'⟩:=Tr.af ho';simp [Tr.run] at hz'
   | ext id' st =>
     simp only at ho';cases hb:Nat.beq id' id with
     | false=>rw [hb] at ho'; simp [Tr.run] at ho'
     | true =>
       rw [hb] at ho';obtain ⟨z,hz,hz'⟩:=Tr.af ho';simp only [Tr.run,ac3,Sum.inr.injEq] at hz';subst hz';cases e <;> first | exact hq.elim | skip
       obtain ⟨rfl,hq⟩:=hq;have:=beq_eq hb;subst this;show Exit.then _ _ (.exit _) a' w';simp only [Exit.then,Exit.inBlock,if_true];exact hdec cx _ st a' w' z hq hz
   | ret st => obtain ⟨z,hz,hz'⟩:=Tr.af ho';simp only [Tr.run,ac3,Sum.inr.injEq] at hz';subst hz';cases e <;> first | exact hq.elim | exact hdec cx _ st a' w' z hq hz
 . simp at hi
end
end Go.Av
namespace Go.Av
open Go.RowKit (Below)
theorem B3 {α:Type}:∀ (l:List (Nat×α)) (n:Nat) (x:α) (m:Nat),look (RJ l n x) m=if n=m then (look l m).map (fun _=>x) else look l m
 | [],n,x,m=>by simp [RJ,look]
 | (k,y) :: r,n,x,m=>by
   unfold RJ;cases hb:Nat.beq k n with
   | true => have e:=beq_eq hb;subst e;simp only [ac6,ba];by_cases h:k=m <;> simp [h]
   | false =>
     have hne:k≠n:=fun e=>by subst e; simp at hb
     simp only [adm,ba];rw [B3 r n x m];by_cases h:k=m
     . have:¬ n=m:=fun e=>hne (h.trans e.symm)
       simp [h,this]
     . simp [h]
theorem xd {α:Type}:∀ (l:List α) (j:Nat) (x:α) (i:Nat),(jK l j x)[i]? = if j=i then (l[i]?).map (fun _=>x) else l[i]?
 | [],j,x,i=>by simp [jK]
 | y :: r,0,x,i=>by cases i <;> simp [jK]
 | y :: r,j + 1,x,i=>by
   cases i with
   | zero=>simp [jK]
   | succ i=>simp [jK,xd r j x i]
theorem iK {α:Type}:∀ (l:List α) (j:Nat) (x:α),(jK l j x).length=l.length
 | [],_,_=>rfl
 | _ :: _,0,_=>rfl
 | _ :: r,j + 1,x=>adU (· + 1) (iK r j x)
section
variable {st:St} {r j:Nat} {c:RC}
theorem fo (r':Nat):look (st.setCell r j c).rt r'=if r=r' then (look st.rt r').map (fun R=>⟨R.box,jK R.cells j c⟩) else look st.rt r':=by
 unfold St.setCell;cases h:look st.rt r with
 | none =>
   simp only;by_cases e:r=r'
   . subst e; simp [h]
   . simp [e]
 | some R =>
   simp only;rw [B3];by_cases e:r=r'
   . subst e; simp [h]
   . simp [e]
theorem cJ (r' j':Nat):(st.setCell r j c).cell r' j'=if r=r'/\j=j' then (st.cell r' j').map (fun _=>c) else st.cell r' j':=by
 simp only [St.cell,fo];by_cases e:r=r'
 . subst e;cases h:look st.rt r with
   | none=>simp [h]
   | some R=>simp only [h,if_true,adG,xd,true_and]
 . simp [e]
theorem dm:(st.setCell r j c).tm=st.tm:=by unfold St.setCell;cases look st.rt r <;> rfl
end
structure gK {P:Program} (cx:Cx P) (Z:Nat->Prop) (g:Gh) (st:St) (w:World) (F:Nat->Prop):Prop where
 lt:∀ b,F b->b < w.heap.size
 own:∀ b,F b->cx.F0 b∨cx.w0.heap.size<=b
 z:∀ b,F b->¬ Z b
 fp:∀ b,F b->∀ r j,¬ g.fp r j b
 box:∀ b,F b->∀ r R,look st.rt r=some R->R.box=true->g.be r≠b
theorem gK.none {P:Program} (cx:Cx P) (Z:Nat->Prop) (g:Gh) (st:St) (w:World):gK cx Z g st w (fun _=>False) :=
 ⟨fun _ h=>h.elim,fun _ h=>h.elim,fun _ h=>h.elim,fun _ h=>h.elim,fun _ h=>h.elim⟩
def Gh.ot (g:Gh) (r j:Nat) (F:Nat->Prop):Gh:=⟨g.be,g.cv,fun r' j' b=>if r'=r/\j'=j then F b else g.fp r' j' b⟩
structure j7 (Z:Nat->Prop) (w w':World) (g g':Gh) (st st':St):Prop where
 bZ:l8 Z Z w w' g g' st st'
 tm:st'.tm=st.tm
 be:g'.be=g.be
 box:∀ r R',look st'.rt r=some R'->∃ R,look st.rt r=some R/\R'.box=R.box
theorem j7.refl {P:Program} {cx:Cx P} {Z:Nat->Prop} {g:Gh} {st:St} {a:Act} {w:World} (h:Rel cx Z g st a w):j7 Z w w g g st st :=
 ⟨eO h rfl rfl,rfl,rfl,fun r R h=>⟨R,h,rfl⟩⟩
section
variable {P:Program} {cx:Cx P} {Z:Nat->Prop} {g:Gh} {st:St} {a:Act} {w:World} {E:En}
theorem Rel.kill (h:Rel cx Z g st a w) {r j:Nat} {c:RC} (hc:st.cell r j=some c):Rel cx Z (g.ot r j fun _=>False) (st.setCell r j ⟨c.s + 1,c.m + 1,.av .dead⟩) a w /\
 j7 Z w w g (g.ot r j fun _=>False) st (st.setCell r j ⟨c.s + 1,c.m + 1,.av .dead⟩)/\gK cx Z (g.ot r j fun _=>False) (st.setCell r j ⟨c.s + 1,c.m + 1,.av .dead⟩) w (g.fp r j):=by
 have hfp:∀ r' j' b,(g.ot r j fun _=>False).fp r' j' b->g.fp r' j' b/\¬ (r'=r/\j'=j):=fun r' j' b hb=>by
  simp only [Gh.ot] at hb;split at hb
  . exact hb.elim
  . rename_i hne; exact ⟨hb,hne⟩
 have hrt:∀ r' R',look (st.setCell r j ⟨c.s + 1,c.m + 1,.av .dead⟩).rt r'=some R'->∃ R,look st.rt r'=some R/\R'.box=R.box/\R'.cells.length=R.cells.length:=fun r' R' hR=>by
  rw [fo] at hR;split at hR
  . cases hl:look st.rt r' with
    | none=>rw [hl] at hR; simp at hR
    | some R => rw [hl] at hR;simp only [adG,ac3] at hR;subst hR;exact ⟨R,rfl,rfl,iK _ _ _⟩
  . exact ⟨R',hR,rfl,rfl⟩
 have k:l8 Z Z w w g (g.ot r j fun _=>False) st (st.setCell r j ⟨c.s + 1,c.m + 1,.av .dead⟩):=by
  refine { size:=ac7 _,z:=fun b hb _=>⟨hb,rfl⟩,root:=fun r' R hR => ?_,cell:=fun r' j' c' hc' => ?_,own:=fun r j b hb=>(h.fp r j b hb).1,block:=(eO h (st':=st) (w':=w) rfl rfl).block }
  . rw [fo];by_cases e:r=r'
    . rw [if_pos e,hR]; exact ⟨_,rfl,rfl,fun _=>rfl⟩
    . rw [if_neg e]; exact ⟨R,hR,rfl,fun _=>rfl⟩
  . rw [cJ];by_cases e:r=r'/\j=j'
    . obtain ⟨rfl,rfl⟩:=e;rw [hc'] at hc;simp only [ac3] at hc;subst hc;rw [if_pos ⟨rfl,rfl⟩,hc'];exact ⟨_,rfl,afi _,afi _,fun e=>absurd e (ae6 _),fun e=>absurd e (ae6 _),fun e=>absurd e (ae6 _)⟩
    . rw [if_neg e];refine ⟨c',hc',ac7 _,ac7 _,fun _=>rfl,fun _ e ks xs hh=>⟨xs,hh,rfl⟩,fun _ _=>⟨rfl,fun b hb _=>⟨?_,rfl⟩⟩⟩;simp only [Gh.ot];rw [if_neg (fun e'=>e ⟨e'.1.symm,e'.2.symm⟩)];exact hb
 refine ⟨?_,⟨k,dm,rfl,fun r' R' hR=>by obtain ⟨R,h1,h2,_⟩:=hrt r' R' hR; exact ⟨R,h1,h2⟩⟩,?_⟩
 . refine { os:=h.os,tape:=h.tape,output:=h.output,size:=h.size,block:=h.block,bS:=h.bS,z0:=h.z0,fp := ?_,disj := ?_,box := ?_,cell := ?_,tm := ?_,defers:=h.defers,pin:=h.pin }
   . intro r' j' b hb;obtain ⟨h1,hne⟩:=hfp r' j' b hb;obtain ⟨h2,h3,h4,c',kk,x,h5,h6⟩:=h.fp r' j' b h1;exact ⟨h2,h3,h4,c',kk,x,by rw [cJ,if_neg (fun e=>hne ⟨e.1.symm,e.2.symm⟩)]; exact h5,h6⟩
   . intro r1 j1 r2 j2 b h1 h2;exact h.disj r1 j1 r2 j2 b (hfp _ _ _ h1).1 (hfp _ _ _ h2).1
   . intro r' R' hR hb;obtain ⟨R,h1,h2,h3⟩:=hrt r' R' hR;obtain ⟨b1,b2,b3,b4,cs,e,fr,b5,b6,b7,b8⟩:=h.box r' R h1 (by rw [<- h2]; exact hb);refine ⟨b1,b2,fun r'' j'' hh=>b3 r'' j'' (hfp _ _ _ hh).1,fun r'' R'' hR'' hb'' he => ?_,cs,e,fr,b5,b6,by rw [h3]; exact b7,b8⟩;obtain ⟨R2,h4,h5,_⟩:=hrt r'' R'' hR'';exact b4 r'' R2 h4 (by rw [<- h5]; exact hb'') he
   . intro r' j' c' hc';rw [cJ] at hc';split at hc'
     . rename_i e;cases hl:st.cell r' j' with
       | none=>rw [hl] at hc'; simp at hc'
       | some c0 => rw [hl] at hc';simp only [adG,ac3] at hc';subst hc';trivial
     . rename_i e;refine jo.bZ k _ _ _ _ (h.cell r' j' c' hc') (fun b hb => ?_) (fun _ _ _=>rfl);simp only [Gh.ot];rw [if_neg (fun e'=>e ⟨e'.1.symm,e'.2.symm⟩)];exact hb
   . intro t tv ht;rw [dm] at ht;exact ⟨(h.tm t tv ht).1,bD.bZ k _ _ (h.tm t tv ht).2⟩
 . refine ⟨fun b hb=>(h.fp r j b hb).1,fun b hb=>(h.fp r j b hb).2.1,fun b hb=>(h.fp r j b hb).2.2.1,fun b hb r' j' hb' => ?_,fun b hb r' R' hR hbx he => ?_⟩
   . obtain ⟨h1,hne⟩:=hfp r' j' b hb';exact hne (h.disj r' j' r j b h1 hb)
   . obtain ⟨R,h1,h2,h3⟩:=hrt r' R' hR;obtain ⟨_,_,b3,_⟩:=h.box r' R h1 (by rw [<- h2]; exact hbx);have he:g.be r'=b:=he;exact b3 r j (by rw [he]; exact hb)
theorem I1 {w:World} {e:TypeId} {ks:List K} {xs:T (.sl e ks)} {aa:Option Addr} {l cap n:Nat} {F:Nat->Prop} (h:cO w (.sl e ks) xs (.slice aa l cap) F) (hn:n<=l):cO w (.sl e ks) (List.take n (aG xs)) (.slice aa n cap) F:=by
 obtain ⟨a',c',h1,h2,h3,h4,h5⟩:=h;simp only [adX] at h1;obtain ⟨rfl,rfl,rfl⟩:=h1;have hlen:(aG (e:=e) (ks:=ks) (List.take n (aG xs))).length=n:=(adJ (l:=aG xs) (i:=n)).trans (afb hn);refine ⟨aa,cap,by rw [hlen],by omega,by omega,h4,fun a' ha => ?_⟩;obtain ⟨b,o,cs,e',fr,g1,g2,g3,g4,g5,G,g6,g7,g8⟩:=h5 a' ha;refine ⟨b,o,cs,e',fr,g1,g2,g3,g4,g5,G,g6,g7,fun i x hx=>g8 i x ?_⟩;have hx':(List.take n (aG xs))[i]? = some x:=hx;rw [ad6] at hx';split at hx'
 . exact hx'
 . simp at hx'
theorem fw (h:Rel cx Z g st a w) {av:AV} {v:Value} (hr:bj Z g st w av v) {k:K} {st':St} {x:T k} (ht:st.dS k av=some (st',x)) :
 ∃ g' F,Rel cx Z g' st' a w/\j7 Z w w g g' st st'/\cO w k x v F/\gK cx Z g' st' w F/\(∀ r j b,g'.fp r j b->g.fp r j b)/\(∀ b,F b->∃ r j,g.fp r j b)/\g'.cv=g.cv:=by
 have nilc:∀ (e:TypeId) (ks:List K),av= .nil->k= .sl e ks->st'=st->HEq x ([]:List (Tl ks))->∃ g' F,Rel cx Z g' st' a w/\j7 Z w w g g' st st'/\cO w k x v F/\gK cx Z g' st' w F/\(∀ r j b,g'.fp r j b->g.fp r j b)/\(∀ b,F b->∃ r j,g.fp r j b)/\g'.cv=g.cv:=by intro e ks h1 h2 h3 h4;subst h1; subst h2; subst h3;have h4:=ae8 h4;subst h4;have hv:v= .slice none 0 0:=hr;subst hv;exact ⟨g,fun _=>False,h,j7.refl h,jx e ks,gK.none _ _ _ _ _,fun _ _ _ h=>h,fun _ h=>h.elim,rfl⟩
 have main:(∀ z,st.dS k av=some z->∃ q,st.take av=some q/\∃ y,gV q.2.1 k q.2.2=some y/\z=(q.1,y))->∃ g' F,Rel cx Z g' st' a w/\j7 Z w w g g' st st'/\cO w k x v F/\gK cx Z g' st' w F/\(∀ r j b,g'.fp r j b->g.fp r j b)/\(∀ b,F b->∃ r j,g.fp r j b)/\g'.cv=g.cv:=by
  intro hspec;obtain ⟨⟨st1,k',x'⟩,hq,y,hy,hz⟩:=hspec _ ht;simp only [adF] at hz;obtain ⟨rfl,rfl⟩:=hz;obtain ⟨e,hy⟩:=cF hy;subst e;subst hy;cases av with
  | ref r j s =>
    simp only [St.take] at hq;split at hq
    . rename_i s' m k1 x1 hc;cases hb:Nat.beq s' s with
      | false=>rw [hb] at hq; simp at hq
      | true =>
        rw [hb] at hq;simp only [ac6,ac3,adF] at hq;obtain ⟨rfl,hx⟩:=hq;cases hx;obtain ⟨k1,k2,k3⟩:=h.kill hc;obtain ⟨c,h1,h2,h3⟩:=hr;rw [hc] at h1;simp only [ac3] at h1;subst h1;refine ⟨_,g.fp r j,k1,k2,?_,k3,fun r' j' b hb => ?_,fun b hb=>⟨r,j,hb⟩,rfl⟩
        . rw [h3 (beq_eq hb)];exact dN h hc rfl
        . simp only [Gh.ot] at hb;split at hb
          . exact hb.elim
          . exact hb
    . simp at hq
  | cut r j s n =>
    simp only [St.take] at hq;split at hq
    . rename_i s' m e1 ks1 x1 hc;cases hb:Nat.beq s' s with
      | false=>rw [hb] at hq; simp at hq
      | true =>
        rw [hb] at hq;simp only [ac6,ac3,adF] at hq;obtain ⟨rfl,hx⟩:=hq;cases hx;obtain ⟨k1,k2,k3⟩:=h.kill hc;obtain ⟨c,h1,h2,h3⟩:=hr;rw [hc] at h1;simp only [ac3] at h1;subst h1;obtain ⟨aa,l,cap,e1,e2,e3⟩:=h3 (beq_eq hb);refine ⟨_,g.fp r j,k1,k2,?_,k3,fun r' j' b hb => ?_,fun b hb=>⟨r,j,hb⟩,rfl⟩
        . rw [e3];have:=dN h hc rfl;rw [e1] at this;exact I1 this e2
        . simp only [Gh.ot] at hb;split at hb
          . exact hb.elim
          . exact hb
    . simp at hq
  | _=>simp [St.take] at hq
 unfold St.dS at ht main;split at ht
 . rename_i e ks;cases ht;exact nilc e ks rfl rfl rfl HEq.rfl
 . rename_i hne;apply main;intro z hz;split at hz
   . rename_i e ks;exact (hne e ks rfl rfl).elim
   . split at hz
     . rename_i st2 k2 x2 hq;split at hz
       . rename_i y hy;simp only [ac3] at hz;exact ⟨_,hq,y,hy,hz.symm⟩
       . simp at hz
     . simp at hz
theorem Rel.qL (h:Rel cx Z g st a w) {r be:Nat} {R:Rt} {cv:Nat->Value} {fp:Nat->Nat->Prop} (hr:look st.rt r=none)
 (hfp:∀ j b,fp j b->b < w.heap.size/\(cx.F0 b∨cx.w0.heap.size<=b)/\¬ Z b/\(∀ r j,¬ g.fp r j b)/\(∀ r' R',look st.rt r'=some R'->R'.box=true->g.be r'≠b)/\∃ (c:RC) (k:K) (x:T k),R.cells[j]? = some c/\c.v= .own k x)
 (hd:∀ j j' b,fp j b->fp j' b->j=j')
 (hb:R.box=true->cx.w0.heap.size<=be/\¬ Z be/\(∀ r' j',¬ g.fp r' j' be)/\(∀ j,¬ fp j be)/\(∀ r' R',look st.rt r'=some R'->R'.box=true->g.be r'≠be)/\∃ cs e fr,w.heap[be]? = some (.cells cs e fr)/\(∀ q,q < cs.size->¬ (fr.1<=q/\q < fr.2))/\cs.size=R.cells.length/\∀ j,j < cs.size->cs[j]? = some (cv j))
 (hc:∀ (j:Nat) (c:RC),R.cells[j]? = some c->match c.v with | .own k x=>cO w k x (cv j) (fp j) | .av (.d k x)=>RO Z w k x (cv j) | .av _=>False) :
 Rel cx Z (g.at r be cv fp) ⟨st.tm,(r,R) :: st.rt⟩ a w:=by
 have hlook:∀ r',look ((r,R) :: st.rt) r'=if r=r' then some R else look st.rt r':=fun r'=>ba _ _ _ _
 have hcell:∀ r' j',St.cell ⟨st.tm,(r,R) :: st.rt⟩ r' j'=if r=r' then R.cells[j']? else st.cell r' j':=fun r' j'=>by simp only [St.cell,hlook];by_cases hh:r=r' <;> simp [hh]
 have hne:∀ r' R',look st.rt r'=some R'->¬ r'=r:=fun r' R' h1 e=>by rw [e,hr] at h1; simp at h1
 have hnc:∀ r' j' c',st.cell r' j'=some c'->¬ r'=r:=fun r' j' c' h1 e=>by simp [St.cell,e,hr] at h1
 have k:l8 Z Z w w g (g.at r be cv fp) st ⟨st.tm,(r,R) :: st.rt⟩:=by
  refine { size:=ac7 _,z:=fun b hb _=>⟨hb,rfl⟩,root:=fun r' R' hR => ?_,cell:=fun r' j' c' hc' => ?_,own:=fun r j b hb=>(h.fp r j b hb).1,block:=(eO h (st':=st) (w':=w) rfl rfl).block }
  . have:=hne r' R' hR;exact ⟨R',by rw [hlook,if_neg (fun e=>this e.symm)]; exact hR,rfl,fun _=>by simp [Gh.at,this]⟩
  . have:=hnc r' j' c' hc';exact ⟨c',by rw [hcell,if_neg (fun e=>this e.symm)]; exact hc',ac7 _,ac7 _,fun _=>by simp [Gh.at,this],fun _ e ks xs hh=>⟨xs,hh,rfl⟩,fun _ _=>⟨rfl,fun b hb _=>⟨by simp [Gh.at,this]; exact hb,rfl⟩⟩⟩
 have hf1:∀ r' j' b,(g.at r be cv fp).fp r' j' b->(r'=r/\fp j' b)∨(¬ r'=r/\g.fp r' j' b):=fun r' j' b hb=>by
  simp only [Gh.at] at hb;by_cases e:r'=r
  . simp [e] at hb; exact .inl ⟨e,hb⟩
  . simp [e] at hb; exact .inr ⟨e,hb⟩
 refine { os:=h.os,tape:=h.tape,output:=h.output,size:=h.size,block:=h.block,bS:=h.bS,z0:=h.z0,fp := ?_,disj := ?_,box := ?_,cell := ?_,tm:=fun t tv ht=>⟨(h.tm t tv ht).1,bD.bZ k _ _ (h.tm t tv ht).2⟩,defers:=h.defers,pin:=h.pin }
 . intro r' j' b hb;rcases hf1 r' j' b hb with ⟨rfl,h1⟩ | ⟨e,h1⟩
   . obtain ⟨k1,k2,k3,_,_,c,kk,x,k4,k5⟩:=hfp j' b h1;exact ⟨k1,k2,k3,c,kk,x,by rw [hcell,if_pos rfl]; exact k4,k5⟩
   . obtain ⟨k1,k2,k3,c,kk,x,k4,k5⟩:=h.fp r' j' b h1;exact ⟨k1,k2,k3,c,kk,x,by rw [hcell,if_neg (fun e'=>e e'.symm)]; exact k4,k5⟩
 . intro r1 j1 r2 j2 b h1 h2;rcases hf1 _ _ _ h1 with ⟨e1,k1⟩ | ⟨e1,k1⟩
   . rcases hf1 _ _ _ h2 with ⟨e2,k2⟩ | ⟨e2,k2⟩
     . exact ⟨e1.trans e2.symm,hd _ _ _ k1 k2⟩
     . exact absurd k2 ((hfp j1 b k1).2.2.2.1 r2 j2)
   . rcases hf1 _ _ _ h2 with ⟨e2,k2⟩ | ⟨e2,k2⟩
     . exact absurd k1 ((hfp j2 b k2).2.2.2.1 r1 j1)
     . exact h.disj _ _ _ _ _ k1 k2
 . intro r' R' hR hbx;rw [hlook] at hR;by_cases e:r=r'
   . subst e;rw [if_pos rfl] at hR;simp only [ac3] at hR;subst hR;obtain ⟨b1,b2,b3,b4,b5,cs,el,fr,b6,b7,b8,b9⟩:=hb hbx;have e1:(g.at r be cv fp).be r=be:=by simp [Gh.at]
     rw [e1];refine ⟨b1,b2,fun r' j' hh => ?_,fun r' R' hR' hb' he => ?_,cs,el,fr,b6,b7,b8,fun j hj=>by simp [Gh.at]; simpa using b9 j hj⟩
     . rcases hf1 _ _ _ hh with ⟨rfl,h1⟩ | ⟨e1,h1⟩
       . exact b4 j' h1
       . exact b3 r' j' h1
     . rw [hlook] at hR';by_cases e2:r=r'
       . exact e2.symm
       . rw [if_neg e2] at hR';have e3:(g.at r be cv fp).be r'=g.be r':=by
          have e4:¬ _=r:=fun e=>e2 (Eq.symm e)
          simp only [Gh.at];rw [if_neg e4]
         rw [e3] at he;exact absurd he (b5 r' R' hR' hb')
   . rw [if_neg e] at hR;obtain ⟨b1,b2,b3,b4,cs,el,fr,b5,b6,b7,b8⟩:=h.box r' R' hR hbx;have e':¬ r'=r:=fun x=>e x.symm
     have e1:(g.at r be cv fp).be r'=g.be r':=by simp [Gh.at,e']
     rw [e1];refine ⟨b1,b2,fun r'' j'' hh => ?_,fun r'' R'' hR'' hb'' he => ?_,cs,el,fr,b5,b6,b7,fun j hj=>by simp [Gh.at,e']; simpa using b8 j hj⟩
     . rcases hf1 _ _ _ hh with ⟨rfl,h1⟩ | ⟨_,h1⟩
       . exact (hfp j'' _ h1).2.2.2.2.1 r' R' hR hbx rfl
       . exact b3 r'' j'' h1
     . rw [hlook] at hR'';by_cases e2:r=r''
       . subst e2;rw [if_pos rfl] at hR'';simp only [ac3] at hR'';subst hR'';have e3:(g.at r be cv fp).be r=be:=by simp [Gh.at]
         rw [e3] at he;exact absurd he.symm ((hb hb'').2.2.2.2.1 r' R' hR hbx)
       . rw [if_neg e2] at hR'';have e3:(g.at r be cv fp).be r''=g.be r'':=by
          have e4:¬ _=r:=fun e=>e2 (Eq.symm e)
          simp only [Gh.at];rw [if_neg e4]
         rw [e3] at he;exact b4 r'' R'' hR'' hb'' he
 . intro r' j' c' hc';rw [hcell] at hc';by_cases e:r=r'
   . subst e;rw [if_pos rfl] at hc';have h1:=hc j' c' hc';have e1:(g.at r be cv fp).cv r j'=cv j':=by simp [Gh.at]
     have e2:(g.at r be cv fp).fp r j'=fp j':=by funext b; simp [Gh.at]
     rw [e1,e2];cases hv:c'.v with
     | own kk x=>rw [hv] at h1; exact h1
     | av x=>rw [hv] at h1; cases x <;> first | exact h1 | exact h1.elim
   . rw [if_neg e] at hc';have e':¬ r'=r:=fun x=>e x.symm
     have e1:(g.at r be cv fp).cv r' j'=g.cv r' j':=by simp [Gh.at,e']
     have e2:(g.at r be cv fp).fp r' j'=g.fp r' j':=by funext b; simp [Gh.at,e']
     rw [e1,e2];exact jo.bZ k _ _ _ _ (h.cell r' j' c' hc') (fun _ h=>h) (fun _ _ _=>rfl)
end
end Go.Av
namespace Go.Av
open Go.RowKit (Below)
theorem iE:∀ (σ:List SE) (x:bJ σ) (t:Nat) (tv:TV),(t,tv)∈mz σ x->¬ tv.iq
 | [],_,t,tv,h=>by simp [mz] at h
 | .d t k :: σ,x,t',tv,h=>by
   rcases adg.1 h with h | h
   . cases h; exact fun h=>h
   . exact iE σ x.2 t' tv h
 | .own t k :: σ,x,t',tv,h=>by
   rcases adg.1 h with h | h
   . cases h; exact fun h=>h
   . exact iE σ x.2 t' tv h
 | .fn t f caps :: σ,x,t',tv,h=>by
   rcases adg.1 h with h | h
   . cases h; exact fun h=>h
   . exact iE σ x.2 t' tv h
 | .ag t ks :: σ,x,t',tv,h=>by
   rcases adg.1 h with h | h
   . cases h; exact fun h=>h
   . exact iE σ x.2 t' tv h
 | .box r cs :: σ,x,t',tv,h=>by
   rcases adg.1 h with h | h
   . cases h; exact fun h=>h
   . exact iE σ x.2 t' tv h
 | .al t t2 :: σ,x,t',tv,h=>by
   rcases adg.1 h with h | h
   . cases h; exact fun h=>h
   . exact iE σ x.2 t' tv h
theorem zm (σ:List SE) (x:bJ σ):bt (enc σ x):=fun t tv h=>iE σ x t tv (gU _ _ _ h)
def xS (r:Nat):List SE->Prop
 | []=>False
 | .box r' _ :: σ=>r'=r∨xS r σ
 | _ :: σ=>xS r σ
theorem fE:∀ (σ:List SE) (x:bJ σ) (r:Nat) (R:Rt),(r,R)∈eK σ x->(∃ t,r=cn t/\ow t σ=true/\R.box=false)∨(xS r σ/\R.box=true)
 | [],_,r,R,h=>by simp [eK] at h
 | .d t k :: σ,x,r,R,h=>fE σ x.2 r R h
 | .fn t f caps :: σ,x,r,R,h=>fE σ x.2 r R h
 | .ag t ks :: σ,x,r,R,h=>fE σ x.2 r R h
 | .al _ _ :: σ,x,r,R,h=>fE σ x.2 r R h
 | .own t k :: σ,x,r,R,h=>by
   rcases adg.1 h with h | h
   . cases h; exact .inl ⟨t,rfl,by simp [ow],rfl⟩
   . rcases fE σ x.2 r R h with ⟨t',h1,h2,h3⟩ | h1
     . exact .inl ⟨t',h1,by simp [ow,h2],h3⟩
     . exact .inr h1
 | .box r' cs :: σ,x,r,R,h=>by
   rcases adg.1 h with h | h
   . cases h; exact .inr ⟨.inl rfl,rfl⟩
   . rcases fE σ x.2 r R h with h1 | ⟨h1,h2⟩
     . exact .inl h1
     . exact .inr ⟨.inr h1,h2⟩
theorem iF:∀ {σ:List SE} {r:Nat},yl r σ=true->¬ xS r σ/\∀ t,ow t σ=false
 | [],r,_=>⟨fun h=>h,fun _=>rfl⟩
 | .d _ _ :: σ,r,h=>iF (σ:=σ) h
 | .fn _ _ _ :: σ,r,h=>iF (σ:=σ) h
 | .ag _ _ :: σ,r,h=>iF (σ:=σ) h
 | .al _ _ :: σ,r,h=>iF (σ:=σ) h
 | .own _ _ :: σ,r,h=>by simp [yl] at h
 | .box r' cs :: σ,r,h=>by simp only [yl,ac5,adK] at h;obtain ⟨h1,h2⟩:=iF h.2;exact ⟨fun hh=>hh.elim (fun e=>by subst e; have:=h.1; simp at this) h1,h2⟩
theorem mM {st:St}:∀ (cs:List (Bool×K)) (l:List RC) (bx:BT cs),jM st cs l=some bx->l.length=(fL cs bx).length/\∀ (j:Nat) (c:RC),(fL cs bx)[j]? = some c ->
 (∃ (k:K) (x:T k) (c0:RC),cs[j]? = some (true,k)/\c=⟨0,0,.own k x⟩/\l[j]? = some c0/\c0.v= .own k x)∨(∃ (k:K) (x:T k) (c0:RC) (av:AV),c=⟨0,0,.av (.d k x)⟩/\l[j]? = some c0/\c0.v= .av av/\av.bP=true/\st.ct k av=some x)
 | [],[],bx,h=>⟨rfl,fun j c h=>by simp [fL] at h⟩
 | (true,k) :: cs,⟨s,m,.own k' x⟩ :: r,bx,h=>by
   simp only [jM] at h;split at h
   . rename_i y z hy hz;cases h;obtain ⟨e,hy⟩:=cF hy;subst e;subst hy;obtain ⟨h1,h2⟩:=mM cs r z hz;refine ⟨adU (· + 1) h1,fun j c hj => ?_⟩;cases j with
     | zero => simp only [fL,adf,ac3] at hj;exact .inl ⟨k',x,_,rfl,hj.symm,rfl,rfl⟩
     | succ j => simp only [fL,ad2] at hj ⊢;exact h2 j c hj
   . simp at h
 | (false,k) :: cs,⟨s,m,.av av⟩ :: r,bx,h=>by
   simp only [jM] at h;cases hf:av.bP with
   | false=>rw [hf] at h; simp at h
   | true =>
     rw [hf] at h;simp only [ac6] at h;split at h
     . rename_i y z hy hz;cases h;obtain ⟨h1,h2⟩:=mM cs r z hz;refine ⟨adU (· + 1) h1,fun j c hj => ?_⟩;cases j with
       | zero => simp only [fL,adf,ac3] at hj;exact .inr ⟨k,y,_,av,hj.symm,rfl,rfl,hf,hy⟩
       | succ j => simp only [fL,ad2] at hj ⊢;exact h2 j c hj
     . simp at h
 | [],_ :: _,bx,h=>by simp [jM] at h
 | (true,_) :: _,⟨_,_,.av _⟩ :: _,bx,h=>by simp [jM] at h
 | (false,_) :: _,⟨_,_,.own _ _⟩ :: _,bx,h=>by simp [jM] at h
 | (true,_) :: _,[],bx,h=>by simp [jM] at h
 | (false,_) :: _,[],bx,h=>by simp [jM] at h
theorem fK {Z:Nat->Prop} {g:Gh} {st:St} {w:World} {d:Nat}:∀ (ks:List K) (x:Tl ks) (cs:List Value) (j:Nat),ur Z w ks x cs->aP Z g st w (ea d false ks x j) cs
 | [],_,[],_,_=>trivial
 | .sl e ks' :: ks,x,v :: vs,j,h=>⟨h.1,fK ks x.2 vs j h.2⟩
 | .int _ :: ks,x,v :: vs,j,h=>⟨h.1,fK ks x.2 vs j h.2⟩
 | .bool :: ks,x,v :: vs,j,h=>⟨h.1,fK ks x.2 vs j h.2⟩
 | .str :: ks,x,v :: vs,j,h=>⟨h.1,fK ks x.2 vs j h.2⟩
 | [],_,_ :: _,_,h=>h.elim
 | .sl _ _ :: _,_,[],_,h=>h.elim
 | .int _ :: _,_,[],_,h=>h.elim
 | .bool :: _,_,[],_,h=>h.elim
 | .str :: _,_,[],_,h=>h.elim
theorem Qb {Z:Nat->Prop} {g:Gh} {st:St} {w:World} {ks:List K} {x:Tl ks} {v:Value} (h:YB Z w ks x v):bj Z g st w (.rp none 0 ks [x] 0 0) v:=by
 obtain ⟨b,o,h1,h2,h3,h4⟩:=h;refine ⟨by simp,b,o,h2,h3,by rw [h1]; simp,fun i y hy => ?_⟩;cases i with
 | zero=>simp only [adf,ac3] at hy; subst hy; simpa using h4
 | succ i=>simp at hy
theorem l4 {Z:Nat->Prop} {g:Gh} {st:St} {w:World}:∀ (cs:List MM) (x:MG cs) (vs:List Value),Mn Z w cs x vs->fY Z g st w (rh cs x) vs
 | [],_,[],_=>trivial
 | .c gg ks :: cs,x,v :: vs,⟨⟨us,e,h⟩,h'⟩=>⟨vd e (fK ks x.1 us 0 h),l4 cs x.2 vs h'⟩
 | .p ks :: cs,x,v :: vs,h=>⟨Qb (g:=g) (st:=st) h.1,l4 cs x.2 vs h.2⟩
 | [],_,_ :: _,h=>h.elim
 | .c _ _ :: _,_,[],h=>h.elim
 | .p _ :: _,_,[],h=>h.elim
section
variable {P:Program} {cx:Cx P} {Z:Nat->Prop} {a:Act} {w:World}
theorem zv {g:Gh} {st:St} (h:Rel cx Z g st a w) (hn:bt st) {t:Nat} {tv:TV} (ht:st.tv t=some tv):t < a.tmps.size:=by obtain ⟨tq,h1,_⟩:=Aq hn.cons ht;exact (h.tm t tq h1).1
theorem Rel.tell {g:Gh} {tm:List (Nat×TV)} {rt:List (Nat×Rt)} (h:Rel cx Z g ⟨tm,rt⟩ a w) {t:Nat} {tv:TV} (ht:t < a.tmps.size) (hr:bD Z g ⟨tm,rt⟩ w tv (a.tmps.getD t undef)):Rel cx Z g ⟨(t,tv) :: tm,rt⟩ a w:=by
 refine h.swap (fun _=>rfl) fun t' tv' hh => ?_
 have hh:look ((t,tv) :: tm) t'=some tv':=hh;rw [ba] at hh;split at hh
 . rename_i e;cases hh;rw [<- e];exact ⟨ht,hr⟩
 . exact h.tm t' tv' hh
theorem ml:∀ (σ:List SE) (st:St) (g:Gh) (x:bJ σ),Rel cx Z g st a w->bt st->dec σ st=some x->∃ gE,Rel cx Z gE (enc σ x) a w/\(∀ r j b,gE.fp r j b->∃ r0 j0,g.fp r0 j0 b)/\((∀ t,ow t σ=false)->∀ r j b,gE.fp r j b->g.fp r j b) /\
 (∀ r R',look (enc σ x).rt r=some R'->R'.box=true->gE.be r=g.be r/\∃ R,look st.rt r=some R/\R.box=true)/\(∀ r,xS r σ->r < 100000)
 | [],st,g,x,h,hn,hd=>by
   refine ⟨⟨g.be,g.cv,fun _ _ _=>False⟩,?_,fun _ _ _ h=>h.elim,fun _ _ _ _ h=>h.elim,fun r R' hR=>by simp [enc,eK,look] at hR,fun _ h=>h.elim⟩
   exact { os:=h.os,tape:=h.tape,output:=h.output,size:=h.size,block:=h.block,bS:=h.bS,z0:=h.z0,fp:=fun _ _ _ h=>h.elim,disj:=fun _ _ _ _ _ h=>h.elim
           box:=fun r R hR=>by simp [enc,eK,look] at hR
           cell:=fun r j c hc=>by simp [enc,eK,St.cell,look] at hc
           tm:=fun t tv ht=>by simp [enc,mz,look] at ht
           defers:=h.defers,pin:=h.pin }
 | .d t k :: σ,st,g,x,h,hn,hd=>by
   simp only [dec] at hd;split at hd
   . rename_i av htv;cases hf:av.bP with
     | false=>rw [hf] at hd; simp at hd
     | true =>
       rw [hf] at hd;simp only [ac6] at hd;split at hd
       . rename_i y z hy hz;cases hd;obtain ⟨gE,h1,h2,h3,h4,h5⟩:=ml σ st g z h hn hz;refine ⟨gE,h1.tell (zv h hn htv) ?_,h2,h3,h4,h5⟩;exact cu h (ic h hn.cons.cons htv) hf hy
       . simp at hd
   . simp at hd
 | .fn t f caps :: σ,st,g,x,h,hn,hd=>by
   simp only [dec] at hd;split at hd
   . rename_i f' l htv;cases hf:Nat.beq f f' with
     | false=>rw [hf] at hd; simp at hd
     | true =>
       rw [hf] at hd;simp only [ac6] at hd;split at hd
       . rename_i y z hy hz;cases hd;obtain ⟨gE,h1,h2,h3,h4,h5⟩:=ml σ st g z h hn hz;refine ⟨gE,h1.tell (zv h hn htv) ?_,h2,h3,h4,h5⟩;obtain ⟨vs,e1,e2⟩:=ic h hn.cons.cons htv;have:=beq_eq hf;subst this;exact ⟨vs,e1,l4 _ _ _ (nA h (fun _ h _=>h) (fun hh=>by simp at hh) caps l vs.toList y e2 hy)⟩
       . simp at hd
   . simp at hd
 | .ag t ks :: σ,st,g,x,h,hn,hd=>by
   simp only [dec] at hd;split at hd
   . rename_i l htv;cases hf:l.all AV.bP with
     | false=>rw [hf] at hd; simp at hd
     | true =>
       rw [hf] at hd;simp only [ac6] at hd;split at hd
       . rename_i y z hy hz;cases hd;obtain ⟨gE,h1,h2,h3,h4,h5⟩:=ml σ st g z h hn hz;refine ⟨gE,h1.tell (zv h hn htv) ?_,h2,h3,h4,h5⟩;obtain ⟨vs,e1,e2⟩:=ic h hn.cons.cons htv;exact ⟨vs,e1,fK ks y vs.toList 0 (dK h ks l vs.toList y e2 hf hy)⟩
       . simp at hd
   . simp at hd
 | .al t t2 :: σ,st,g,x,h,hn,hd=>by
   simp only [dec] at hd;split at hd
   . rename_i r j s r2 j2 s2 ht1 ht2;cases hb:Nat.beq r r2 && (Nat.beq j j2 && (Nat.beq s s2 && LR st r j s)) with
     | false=>rw [hb] at hd; simp at hd
     | true =>
       rw [hb] at hd;simp only [ac6] at hd;simp only [ac5] at hb;obtain ⟨e1,e2,e3,hv⟩:=hb;have e1:=beq_eq e1;have e2:=beq_eq e2;have e3:=beq_eq e3;subst e1 e2 e3;split at hd
       . rename_i z hz;cases hl:DR (mz σ z) t2 with
         | false=>rw [hl] at hd; simp at hd
         | true =>
           rw [hl] at hd;simp only [ac6] at hd;cases hd;obtain ⟨gE,h1,h2,h3,h4,h5⟩:=ml σ st g z h hn hz;refine ⟨gE,h1.tell (zv h hn ht1) ?_,h2,h3,h4,h5⟩;have hq:(enc σ z).tv t2=some (.v (.ref (cn t2) 0 0)):=by
            unfold DR at hl;split at hl
            . rename_i q hq;have:=beq_eq hl;subst this;have hq:look (enc σ z).tm t2=some (.v (.ref (cn t2) 0 0)):=hq;simp only [St.tv,hq]
            . simp at hl
           obtain ⟨c1,k1,k2,k3⟩:=(ic h hn.cons.cons ht1:bj Z g st w (.ref r j s) _);obtain ⟨c2,k4,k5,k6⟩:=(ic h hn.cons.cons ht2:bj Z g st w (.ref r j s) _);have hs:c1.s=s:=by unfold LR at hv;rw [k1] at hv;exact beq_eq hv
           have:c2=c1:=aeb (k4.symm.trans k1);subst this;have e:a.tmps.getD t undef=a.tmps.getD t2 undef:=(k3 hs).trans (k6 hs).symm;rw [e];exact (ic h1 (zm σ z).cons.cons hq:bj Z gE (enc σ z) w (.ref (cn t2) 0 0) _)
       . simp at hd
   . simp at hd
 | .own t k :: σ,st,g,x,h,hn,hd=>by
   simp only [dec] at hd;split at hd
   . rename_i av htv;cases ho:ow t σ with
     | true=>rw [ho] at hd; simp at hd
     | false =>
       rw [ho] at hd;simp only [adm] at hd;split at hd
       . rename_i st' y ht;split at hd
         . rename_i z hz;cases hd;obtain ⟨g1,F,k1,k2,k3,k4,k5,k6,k7⟩:=fw h (ic h hn.cons.cons htv) ht;have hn':bt st':=fun t tv ht=>hn t tv (by rw [<- k2.tm]; exact ht)
           obtain ⟨gE,h1,h2,h3,h4,h5⟩:=ml σ st' g1 z k1 hn' hz;have hnone:look (eK σ z) (cn t)=none:=by
            cases hl:look (eK σ z) (cn t) with
            | none=>rfl
            | some R =>
              rcases fE σ z _ R (gU _ _ _ hl) with ⟨t',e1,e2,_⟩ | ⟨e1,_⟩
              . have:t=t':=by unfold cn at e1; omega
                subst this;rw [ho] at e2; simp at e2
              . have:=h5 _ e1;unfold cn at this;omega
           have h6:=Rel.qL h1 (r:=cn t) (be:=0) (R:=⟨false,[⟨0,0,.own k y⟩]⟩) (cv:=fun _=>a.tmps.getD t undef) (fp:=fun j b=>j=0/\F b) hnone
            (fun j b hb=>⟨k4.lt b hb.2,k4.own b hb.2,k4.z b hb.2,fun r j hh=>by
              obtain ⟨r0,j0,hh⟩:=h2 r j b hh;exact k4.fp b hb.2 r0 j0 hh,fun r' R' hR' hb'=>by
              obtain ⟨e1,R,e2,e3⟩:=h4 r' R' hR' hb';rw [e1];exact k4.box b hb.2 r' R e2 e3,⟨0,0,.own k y⟩,k,y,by rw [hb.1]; rfl,rfl⟩)
            (fun j j' b h1 h2=>h1.1.trans h2.1.symm) (fun hb=>by simp at hb)
            (fun j c hj=>by
              cases j with
              | zero => simp only [adf,ac3] at hj;subst hj;exact cO.frame _ _ _ _ _ (fun b hb=>⟨rfl,hb⟩) (fun _ _ _=>rfl) k3
              | succ j=>simp at hj)
           have hlk:∀ r',look ((cn t,(⟨false,[⟨0,0,.own k y⟩]⟩:Rt)) :: eK σ z) r'=if cn t=r' then some ⟨false,[⟨0,0,.own k y⟩]⟩ else look (eK σ z) r':=fun r'=>ba _ _ _ _
           refine ⟨_,h6.tell (zv h hn htv) (tv:= .v (.ref (cn t) 0 0)) ?_,fun r j b hb => ?_,fun hno => ?_,fun r R' hR hbx => ?_,h5⟩
           . refine ⟨⟨0,0,.own k y⟩,?_,ac7 _,fun _=>by simp [Gh.at]⟩;simp only [St.cell];have:=hlk (cn t);rw [if_pos rfl] at this;show (match look ((cn t,(⟨false,[⟨0,0,.own k y⟩]⟩:Rt)) :: eK σ z) (cn t) with | some R=>R.cells[0]? | none=>none)=_;rw [this];rfl
           . simp only [Gh.at] at hb;split at hb
             . exact k6 b hb.2
             . obtain ⟨r0,j0,hh⟩:=h2 r j b hb;exact ⟨r0,j0,k5 _ _ _ hh⟩
           . have:=hno t;simp [ow] at this
           . have hR:look ((cn t,(⟨false,[⟨0,0,.own k y⟩]⟩:Rt)) :: eK σ z) r=some R':=hR;rw [hlk] at hR;split at hR
             . cases hR; simp at hbx
             . rename_i hne;obtain ⟨e1,R,e2,e3⟩:=h4 r R' hR hbx;refine ⟨?_,?_⟩
               . simp only [Gh.at];rw [if_neg (fun e=>hne e.symm),e1,k2.be]
               . obtain ⟨R0,e4,e5⟩:=k2.box r R e2;exact ⟨R0,e4,e5 ▸ e3⟩
         . simp at hd
       . simp at hd
   . simp at hd
 | .box r cs :: σ,st,g,x,h,hn,hd=>by
   simp only [dec] at hd;split at hd
   . rename_i r' l htv hlk0;cases hb:Nat.beq r r' && Nat.blt r 100000 && yl r σ with
     | false=>rw [hb] at hd; simp at hd
     | true =>
       rw [hb] at hd;simp only [ac6] at hd;simp only [ac5] at hb;obtain ⟨⟨hb1,hb2⟩,hb3⟩:=hb;have e:=beq_eq hb1;subst e;have hlt:r < 100000:=aen (adC hb2);obtain ⟨hnb,hno⟩:=iF hb3;split at hd
       . rename_i y z hy hz;cases hd;obtain ⟨gE,h1,h2,h3,h4,h5⟩:=ml σ st g z h hn hz;obtain ⟨d1,d2⟩:=mM cs l y hy;have hnone:look (eK σ z) r=none:=by
          cases hl:look (eK σ z) r with
          | none=>rfl
          | some R =>
            rcases fE σ z _ R (gU _ _ _ hl) with ⟨t',e1,e2,_⟩ | ⟨e1,_⟩
            . rw [hno t'] at e2; simp at e2
            . exact absurd e1 hnb
         obtain ⟨b1,b2,b3,b4,bcs,el,fr,b5,b6,b7,b8⟩:=h.box r _ hlk0 rfl;have hcellst:∀ j c,l[j]? = some c->st.cell r j=some c:=fun j c hj=>by simp only [St.cell,hlk0]; exact hj
         have h6:=Rel.qL h1 (r:=r) (be:=g.be r) (R:=⟨true,fL cs y⟩) (cv:=g.cv r) (fp:=fun j b=>g.fp r j b/\∃ (c:RC) (k:K) (x:T k),(fL cs y)[j]? = some c/\c.v= .own k x) hnone
          (fun j b hb=>⟨(h.fp r j b hb.1).1,(h.fp r j b hb.1).2.1,(h.fp r j b hb.1).2.2.1,fun r0 j0 hh=>by
            have hg:=h3 hno r0 j0 b hh;obtain ⟨e1,e2⟩:=h.disj _ _ _ _ _ hg hb.1;subst e1;obtain ⟨_,_,_,c,k,x,e3,_⟩:=h1.fp r0 j0 b hh;simp only [St.cell] at e3;have:look (enc σ z).rt r0=none:=hnone;rw [this] at e3;simp at e3,fun r' R' hR' hb'=>by
            obtain ⟨e1,R,e2,e3⟩:=h4 r' R' hR' hb';rw [e1];intro he;obtain ⟨_,_,c3,_⟩:=h.box r' R e2 e3;exact c3 r j (by rw [he]; exact hb.1),hb.2⟩)
          (fun j j' b hj hj'=>(h.disj _ _ _ _ _ hj.1 hj'.1).2)
          (fun _=>⟨b1,b2,fun r0 j0 hh=>b3 r0 j0 (h3 hno r0 j0 _ hh),fun j hh=>b3 r j hh.1,fun r' R' hR' hb' he=>by obtain ⟨e1,R,e2,e3⟩:=h4 r' R' hR' hb';rw [e1] at he;have:=b4 r' R e2 e3 he;subst this;have hh:look (eK σ z) r'=some R':=hR';rw [hnone] at hh;simp at hh,bcs,el,fr,b5,b6,by rw [b7]; exact d1,b8⟩)
          (fun j c hj=>by
            rcases d2 j c hj with ⟨k,x,c0,e1,e2,e3,e4⟩ | ⟨k,x,c0,av,e2,e3,e4,e5,e6⟩
            . subst e2;exact cO.frame _ _ _ _ _ (fun b hb=>⟨hb,_,k,x,hj,rfl⟩) (fun _ _ _=>rfl) (dN h (hcellst j c0 e3) e4)
            . subst e2;exact cu h (Bp h (hcellst j c0 e3) e4) e5 e6)
         have hlk:∀ r',look ((r,(⟨true,fL cs y⟩:Rt)) :: eK σ z) r'=if r=r' then some ⟨true,fL cs y⟩ else look (eK σ z) r':=fun r'=>ba _ _ _ _
         refine ⟨_,h6.tell (zv h hn htv) (tv:= .v (.ptr r 0)) ?_,fun r0 j0 b hb => ?_,fun _ r0 j0 b hb => ?_,fun r0 R' hR hbx => ?_,fun r0 hr0 => ?_⟩
         . obtain ⟨R,e1,e2,e3⟩:=(ic h hn.cons.cons htv:bj Z g st w (.ptr r 0) _);refine ⟨⟨true,fL cs y⟩,?_,rfl,?_⟩
           . show look ((r,(⟨true,fL cs y⟩:Rt)) :: eK σ z) r=_;rw [hlk,if_pos rfl]
           . simp only [Gh.at,if_true];exact e3
         . simp only [Gh.at] at hb;split at hb
           . exact ⟨r,j0,hb.1⟩
           . exact h2 r0 j0 b hb
         . simp only [Gh.at] at hb;split at hb
           . rename_i e; rw [e]; exact hb.1
           . exact h3 hno r0 j0 b hb
         . have hR:look ((r,(⟨true,fL cs y⟩:Rt)) :: eK σ z) r0=some R':=hR;rw [hlk] at hR;split at hR
           . rename_i e;refine ⟨by simp [Gh.at,e.symm],_,e ▸ hlk0,rfl⟩
           . rename_i hne;obtain ⟨e1,R,e2,e3⟩:=h4 r0 R' hR hbx;refine ⟨?_,R,e2,e3⟩;simp only [Gh.at];rw [if_neg (fun e=>hne e.symm),e1]
         . rcases hr0 with hr0 | hr0
           . rw [<- hr0]; exact hlt
           . exact h5 r0 hr0
       . simp at hd
   . simp at hd
end
theorem Dg {P:Program} (E:En):Lx P E:=fun cx σ st a w x ⟨h1,h2,Z,g,h3⟩ hd=>by obtain ⟨gE,h4,_⟩:=ml σ st g x h3 h1 hd;exact ⟨zm σ x,h2,Z,gE,h4⟩
end Go.Av
namespace Go.Av
open Go.RowKit (Below)
section
variable {P:Program} {cx:Cx P} {Z:Nat->Prop} {g:Gh} {st:St} {a:Act} {w:World} {E:En}
theorem xY {gg:Bool} {l:List AV} {cs:List Value} {v:Value} (e:Ib gg v cs) (h1:aP Z g st w l cs):bD Z g st w (dV gg l) v:=by
 have h2:=vd e h1;cases gg with
 | true=>unfold dV; cases hl:l <;> (rw [hl] at h2; exact h2)
 | false =>
   have e:cs=[v]:=e;subst e
   match hl:l,h1 with
   | [b],h1=>exact h1.1
   | [],h1=>exact h1.elim
   | _ :: _ :: _,h1=>exact h1.2.elim
theorem GA {gg:Bool} {ks:List K} {x:Tl ks} {v:Value} (h:Uo Z w gg ks x v):bD Z g st w (dV gg (ea 0 false ks x 0)) v:=by obtain ⟨cs,e,h⟩:=h;exact xY e (fK (g:=g) (st:=st) (d:=0) ks x cs 0 h)
theorem fC:∀ (ps:List PK) (x:PT ps) (i r:Nat) (R:Rt),(r,R)∈mC ps x i->∃ i',r=cn i'/\i<=i'/\R.box=false
 | [],_,_,_,_,h=>by simp [mC] at h
 | .c _ _ :: ps,x,i,r,R,h=>by obtain ⟨i',h1,h2,h3⟩:=fC ps x.2 (i + 1) r R h; exact ⟨i',h1,by omega,h3⟩
 | .fn _ _ :: ps,x,i,r,R,h=>by obtain ⟨i',h1,h2,h3⟩:=fC ps x.2 (i + 1) r R h; exact ⟨i',h1,by omega,h3⟩
 | .pt _ :: ps,x,i,r,R,h=>by obtain ⟨i',h1,h2,h3⟩:=fC ps x.2 (i + 1) r R h; exact ⟨i',h1,by omega,h3⟩
 | .nil :: ps,x,i,r,R,h=>by obtain ⟨i',h1,h2,h3⟩:=fC ps x (i + 1) r R h; exact ⟨i',h1,by omega,h3⟩
 | .io _ ks :: ps,x,i,r,R,h=>by
   rcases adg.1 h with h | h
   . cases h; exact ⟨i,rfl,ac7 _,rfl⟩
   . obtain ⟨i',h1,h2,h3⟩:=fC ps x.2 (i + 1) r R h; exact ⟨i',h1,by omega,h3⟩
 | .mv k :: ps,x,i,r,R,h=>by
   rcases adg.1 h with h | h
   . cases h; exact ⟨i,rfl,ac7 _,rfl⟩
   . obtain ⟨i',h1,h2,h3⟩:=fC ps x.2 (i + 1) r R h; exact ⟨i',h1,by omega,h3⟩
theorem fO:∀ (ps:List PK) (x:PT ps) (i t:Nat) (tv:TV),(t,tv)∈qI ps x i->¬ tv.iq
 | [],_,_,_,_,h=>by simp [qI] at h
 | .c gg ks :: ps,x,i,t,tv,h=>by
   rcases adg.1 h with h | h
   . cases h;intro hm;cases ho:dV gg (ea 0 false ks x.1 0) with
     | may q w y g' l=>exact jF ho
     | _=>rw [ho] at hm; exact hm
   . exact fO ps x.2 (i + 1) t tv h
 | .pt _ :: ps,x,i,t,tv,h=>by
   rcases adg.1 h with h | h
   . cases h; exact fun h=>h
   . exact fO ps x.2 (i + 1) t tv h
 | .nil :: ps,x,i,t,tv,h=>by
   rcases adg.1 h with h | h
   . cases h; exact fun h=>h
   . exact fO ps x (i + 1) t tv h
 | .fn _ _ :: ps,x,i,t,tv,h=>by
   rcases adg.1 h with h | h
   . cases h; exact fun h=>h
   . exact fO ps x.2 (i + 1) t tv h
 | .io gg ks :: ps,x,i,t,tv,h=>by
   rcases adg.1 h with h | h
   . cases h;intro hm;cases ho:dV gg (ea (cn i) true ks x.1 0) with
     | may q w y g' l=>exact jF ho
     | _=>rw [ho] at hm; exact hm
   . exact fO ps x.2 (i + 1) t tv h
 | .mv _ :: ps,x,i,t,tv,h=>by
   rcases adg.1 h with h | h
   . cases h; exact fun h=>h
   . exact fO ps x.2 (i + 1) t tv h
theorem aQ.ix {F:Nat->Nat->Prop} (n j0:Nat):∀ (ks:List K) (x:Tl ks) (cs:List Value),aQ true Z w F ks x cs n->aQ true Z w (fun m=>F (n + (m - j0))) ks x cs j0:=by
 suffices h:∀ (ks:List K) (x:Tl ks) (cs:List Value) (d:Nat),aQ true Z w F ks x cs (n + d)->aQ true Z w (fun m=>F (n + (m - j0))) ks x cs (j0 + d) by intro ks x cs h0;exact h ks x cs 0 h0
 intro ks;induction ks with
 | nil=>intro x cs d h; cases cs with | nil=>trivial | cons _ _=>exact h.elim
 | cons k ks ih =>
   intro x cs d h;cases cs with
   | nil=>cases k <;> exact h.elim
   | cons v vs =>
     cases k with
     | sl e ks'=>exact ⟨by show cO w _ x.1 v (F (n + (j0 + d - j0))); rw [show j0 + d - j0=d by omega]; exact h.1,ih x.2 vs (d + 1) h.2⟩
     | int _=>exact ⟨h.1,ih x.2 vs d h.2⟩
     | bool=>exact ⟨h.1,ih x.2 vs d h.2⟩
     | str=>exact ⟨h.1,ih x.2 vs d h.2⟩
theorem zU {Z0:Nat->Prop} {F:Nat->Nat->Prop} {pin:Nat->Option Value} {hgl:Gl P w Z0} {hzF:∀ b,Z0 b->b < w.heap.size->¬ ∃ i,F i b} (hcx:cx=⟨w,fun b=>∃ i,F i b,Z0,pin,hgl,hzF⟩) (hF:∀ i b,F i b->b < w.heap.size/\¬ Z0 b) (hd:∀ i j b,F i b->F j b->i=j) {ps:List PK} {x:PT ps} {i n m:Nat} {g:Gh} {cells:List RC} {vals:List Value} {v:Value} {tv:TV}
 (h1:Rel cx Z0 g ⟨qI ps x (i + 1),mC ps x (i + 1)⟩ a w) (h2:∀ r j b,g.fp r j b->∃ i' n',r=cn i'/\i + 1<=i'/\n + m<=n'/\F n' b) (hi:i < a.tmps.size) (hv:a.tmps.getD i undef=v)
 (hm:cells.length<=m)
 (hc:∀ j c,cells[j]? = some c->∃ k y u,c=⟨0,0,.own k y⟩/\vals[j]? = some u/\cO w k y u (F (n + j)))
 (ht:∀ (g':Gh) (st':St),(∀ j c,cells[j]? = some c->st'.cell (cn i) (0 + j)=some c)->(∀ j u,vals[j]? = some u->g'.cv (cn i) (0 + j)=u)->bD Z0 g' st' w tv v) :
 ∃ g,Rel cx Z0 g ⟨(i,tv) :: qI ps x (i + 1),(cn i,⟨false,cells⟩) :: mC ps x (i + 1)⟩ a w/\∀ r j b,g.fp r j b->∃ i' n',r=cn i'/\i<=i'/\n<=n'/\F n' b:=by
 have hnone:look (mC ps x (i + 1)) (cn i)=none:=by
  cases hl:look (mC ps x (i + 1)) (cn i) with
  | none=>rfl
  | some R => obtain ⟨i',e1,e2,_⟩:=fC _ _ _ _ _ (gU _ _ _ hl);unfold cn at e1;omega
 have h6:=Rel.qL h1 (r:=cn i) (be:=0) (R:=⟨false,cells⟩) (cv:=fun j=>vals.getD j undef) (fp:=fun j b=>j < cells.length/\F (n + j) b) hnone
  (fun j b hb=>⟨(hF _ b hb.2).1,.inl (by rw [hcx]; exact ⟨_,hb.2⟩),(hF _ b hb.2).2,fun r0 j0 hh=>by
    obtain ⟨i',n',_,k2,k4,k3⟩:=h2 r0 j0 b hh;have:=hd _ n' b hb.2 k3;omega,fun r' R' hR' hb'=>by
    obtain ⟨_,_,_,e3⟩:=fC _ _ _ _ _ (gU _ _ _ hR');rw [e3] at hb'; simp at hb',by
    obtain ⟨k,y,u,e1,e2,e3⟩:=hc j _ (adi hb.1);exact ⟨_,k,y,adi hb.1,by rw [e1]⟩⟩)
  (fun j j' b h1 h2=>by have:=hd _ _ b h1.2 h2.2; omega) (fun hb=>by simp at hb)
  (fun j c hj=>by
    obtain ⟨k,y,u,e1,e2,e3⟩:=hc j c hj;subst e1;have hjl:j < cells.length:=by
     rcases adj j cells.length with hh | hh
     . exact hh
     . simp [adp hh] at hj
    show cO w k y _ _;simp only [List.getD,e2,aeB];exact cO.frame _ _ _ _ _ (fun b hb=>⟨hjl,hb⟩) (fun _ _ _=>rfl) e3)
 refine ⟨_,h6.tell hi (tv:=tv) ?_,fun r j b hb => ?_⟩
 . rw [hv];refine ht _ _ (fun j c hj => ?_) fun j u hj => ?_
   . show (match look ((cn i,(⟨false,cells⟩:Rt)) :: mC ps x (i + 1)) (cn i) with | some R=>R.cells[0 + j]? | none=>none)=_;rw [ba,if_pos rfl,adA];exact hj
   . simp [Gh.at,List.getD,hj]
 . simp only [Gh.at] at hb;split at hb
   . rename_i e; exact ⟨i,n + j,e,ac7 _,by omega,hb.2⟩
   . obtain ⟨i',n',k1,k2,k4,k3⟩:=h2 r j b hb;exact ⟨i',n',k1,by omega,by omega,k3⟩
theorem iH {Z0:Nat->Prop} {F:Nat->Nat->Prop} {pin:Nat->Option Value} {hgl:Gl P w Z0} {hzF:∀ b,Z0 b->b < w.heap.size->¬ ∃ i,F i b} (hcx:cx=⟨w,fun b=>∃ i,F i b,Z0,pin,hgl,hzF⟩) (hpin:∀ t v,pin t=some v->a.tmps.getD t undef=v) (hdf:a.defers=[]) (hZ:∀ b,Z0 b->b < w.heap.size) (hF:∀ i b,F i b->b < w.heap.size/\¬ Z0 b) (hd:∀ i j b,F i b->F j b->i=j) :
 ∀ (ps:List PK) (x:PT ps) (vs:List Value) (i n:Nat),dz Z0 w F ps x vs n->(∀ j v,vs[j]? = some v->i + j < a.tmps.size/\a.tmps.getD (i + j) undef=v) ->
  ∃ g,Rel cx Z0 g ⟨qI ps x i,mC ps x i⟩ a w/\∀ r j b,g.fp r j b->∃ i' n',r=cn i'/\i<=i'/\n<=n'/\F n' b
 | [],x,[],i,n,_,_=>by
   subst hcx;refine ⟨⟨fun _=>0,fun _ _=>undef,fun _ _ _=>False⟩,?_,fun _ _ _ h=>h.elim⟩
   exact { os:=rfl,tape:=rfl,output:=rfl,size:=ac7 _,block:=fun _ _ _=>rfl,bS:=fun b hb=>⟨hZ b hb,.inl hb⟩,z0:=fun b hb _=>hb,fp:=fun _ _ _ h=>h.elim,disj:=fun _ _ _ _ _ h=>h.elim
           box:=fun r R hR=>by simp [mC,look] at hR
           cell:=fun r j c hc=>by simp [mC,St.cell,look] at hc
           tm:=fun t tv ht=>by simp [qI,look] at ht
           defers:=hdf
           pin:=hpin }
 | .c gg ks :: ps,x,v :: vs,i,n,h,ha=>by
   obtain ⟨g,h1,h2⟩:=iH hcx hpin hdf hZ hF hd ps x.2 vs (i + 1) n h.2 fun j v hj=>by rw [show i + 1 + j=i + (j + 1) by omega]; exact ha (j + 1) v (by simpa using hj)
   have hv:=ha 0 v rfl;rw [adO] at hv;exact ⟨g,h1.tell hv.1 (by rw [hv.2]; exact GA h.1),fun r j b hb=>by obtain ⟨i',n',k1,k2,k3⟩:=h2 r j b hb; exact ⟨i',n',k1,by omega,k3⟩⟩
 | .fn f caps :: ps,x,v :: vs,i,n,h,ha=>by
   obtain ⟨g,h1,h2⟩:=iH hcx hpin hdf hZ hF hd ps x.2 vs (i + 1) n h.2 fun j v hj=>by rw [show i + 1 + j=i + (j + 1) by omega]; exact ha (j + 1) v (by simpa using hj)
   have hv:=ha 0 v rfl;rw [adO] at hv;obtain ⟨cs,e1,e2⟩:=h.1;exact ⟨g,h1.tell hv.1 (by rw [hv.2]; exact ⟨cs,e1,l4 _ _ _ e2⟩),fun r j b hb=>by obtain ⟨i',n',k1,k2,k3⟩:=h2 r j b hb; exact ⟨i',n',k1,by omega,k3⟩⟩
 | .nil :: ps,x,v :: vs,i,n,h,ha=>by
   obtain ⟨g,h1,h2⟩:=iH hcx hpin hdf hZ hF hd ps x vs (i + 1) n h.2 fun j v hj=>by rw [show i + 1 + j=i + (j + 1) by omega]; exact ha (j + 1) v (by simpa using hj)
   have hv:=ha 0 v rfl;rw [adO] at hv;exact ⟨g,h1.tell hv.1 (tv:= .v .nil) (by rw [hv.2]; exact h.1),fun r j b hb=>by obtain ⟨i',n',k1,k2,k3⟩:=h2 r j b hb; exact ⟨i',n',k1,by omega,k3⟩⟩
 | .pt ks :: ps,x,v :: vs,i,n,h,ha=>by
   obtain ⟨g,h1,h2⟩:=iH hcx hpin hdf hZ hF hd ps x.2 vs (i + 1) n h.2 fun j v hj=>by rw [show i + 1 + j=i + (j + 1) by omega]; exact ha (j + 1) v (by simpa using hj)
   have hv:=ha 0 v rfl;rw [adO] at hv;exact ⟨g,h1.tell hv.1 (tv:= .v (.rp none 0 ks [x.1] 0 0)) (by rw [hv.2]; exact Qb (g:=g) (st:=⟨qI ps x.2 (i + 1),mC ps x.2 (i + 1)⟩) h.1),fun r j b hb=>by obtain ⟨i',n',k1,k2,k3⟩:=h2 r j b hb; exact ⟨i',n',k1,by omega,k3⟩⟩
 | .io gg ks :: ps,x,v :: vs,i,n,h,ha=>by
   obtain ⟨g,h1,h2⟩:=iH hcx hpin hdf hZ hF hd ps x.2 vs (i + 1) (n + bp ks) h.2 fun j v hj=>by rw [show i + 1 + j=i + (j + 1) by omega]; exact ha (j + 1) v (by simpa using hj)
   have hv:=ha 0 v rfl;rw [adO] at hv;obtain ⟨cs,e1,e2⟩:=h.1;have hlen:=dR ks x.1;obtain ⟨_,hown⟩:=eD ks x.1 cs n e2;refine zU hcx hF hd h1 h2 hv.1 hv.2 (by omega) (vals:=kR ks cs) (fun j c hj => ?_) fun g' st' q1 q2 => ?_
   . obtain ⟨e,ks',y,u,g1,g2,g3⟩:=hown j c hj;exact ⟨_,y,u,g1,g2,g3⟩
   . exact xY e1 (fU ks x.1 cs 0 (aQ.ix n 0 ks x.1 cs e2) q1 q2)
 | .mv k :: ps,x,v :: vs,i,n,h,ha=>by
   obtain ⟨g,h1,h2⟩:=iH hcx hpin hdf hZ hF hd ps x.2 vs (i + 1) (n + 1) h.2 fun j v hj=>by rw [show i + 1 + j=i + (j + 1) by omega]; exact ha (j + 1) v (by simpa using hj)
   have hv:=ha 0 v rfl;rw [adO] at hv;refine zU hcx hF hd h1 h2 hv.1 hv.2 (by simp) (vals:=[v]) (fun j c hj => ?_) fun g' st' q1 q2 => ?_
   . cases j with
     | zero => simp only [adf,ac3] at hj;subst hj;exact ⟨k,x.1,v,rfl,rfl,h.1⟩
     | succ j=>simp at hj
   . exact ⟨_,q1 0 _ rfl,ac7 _,fun _=>(q2 0 v rfl).symm⟩
 | [],_,_ :: _,_,_,h,_=>h.elim
 | .c _ _ :: _,_,[],_,_,h,_=>h.elim
 | .pt _ :: _,_,[],_,_,h,_=>h.elim
 | .nil :: _,_,[],_,_,h,_=>h.elim
 | .fn _ _ :: _,_,[],_,_,h,_=>h.elim
 | .io _ _ :: _,_,[],_,_,h,_=>h.elim
 | .mv _ :: _,_,[],_,_,h,_=>h.elim
def oU (tmps:Array Value):ResultVar->Sem Value
 | .tmp t=>pure (tmps.getD t undef)
 | .cell a t=>do loadVar t (<- asAddr (tmps.getD a undef))
theorem qc (hT:bK P E) (h:Rel cx Z g st a w) (hn:bt st):∀ (res:List ResultVar) (l:List (Bool×List AV)),jU E st res=some l->∃ vs,(res.mapM (oU a.tmps)).run P w= .ok vs w/\fY Z g st w l vs
 | [],l,hr=>by simp only [jU,ac3] at hr;subst hr;exact ⟨[],by simp [List.mapM_nil],trivial⟩
 | .tmp t :: r,l,hr=>by
   simp only [jU] at hr;split at hr
   . rename_i tv l' h1 h2;split at hr
     . rename_i p hp;simp only [ac3] at hr;subst hr;obtain ⟨vs,e1,e2⟩:=qc hT h hn r l' h2;exact ⟨a.tmps.getD t undef :: vs,by simp [List.mapM_cons,oU,e1],lX (ic h hn.cons.cons h1) hp,e2⟩
     . simp at hr
   . simp at hr
 | .cell t ty :: r,l,hr=>by
   simp only [jU] at hr;split at hr
   . rename_i r' j ti l' h1 h2 h3;split at hr
     . rename_i cs hl;simp only [ac3] at hr;subst hr;obtain ⟨vs,e1,e2⟩:=qc hT h hn r l' h3;obtain ⟨b,of,us,f1,f2,f3,f4⟩:=xJ h (v:=a.tmps.getD t undef) (p:= .ptr r' j) (ic h hn.cons.cons h1) hl;obtain ⟨v,f5,f6⟩:=uy (hT ty ti h2) f2 f3;refine ⟨v :: vs,by simp only [List.mapM_cons,oU,f1,asAddr,adv,adN,adh,f5,e1],?_,e2⟩;cases hag:ti.agg with
       | true=>rw [hag] at f6; exact ⟨us.toArray,f6,by simpa using f4⟩
       | false =>
         rw [hag] at f6;subst f6
         match cs,f4 with
         | [c],f4=>exact f4.1
         | [],f4=>exact f4.elim
         | _ :: _ :: _,f4=>exact f4.2.elim
     . simp at hr
   . simp at hr
theorem j7.trans {w w' w'':World} {g' g'':Gh} {st' st'':St} (h:j7 Z w w' g g' st st') (h':j7 Z w' w'' g' g'' st' st'') (hk:l8 Z Z w w'' g g'' st st''):j7 Z w w'' g g'' st st'' :=
 ⟨hk,h'.tm.trans h.tm,h'.be.trans h.be,fun r R' hR=>by obtain ⟨R1,e1,e2⟩:=h'.box r R' hR;obtain ⟨R,e3,e4⟩:=h.box r R1 e1;exact ⟨R,e3,e2.trans e4⟩⟩
structure kC {P:Program} (cx:Cx P) (Z:Nat->Prop) (w:World) (g g':Gh) (st st':St) (H:Nat->Nat->Prop) (j n:Nat):Prop where
 rel:∀ (p:Bool×List AV) (v:Value),qV Z g st w p v->qV Z g' st' w p v
 av:∀ (x:AV) (v:Value),bj Z g st w x v->bj Z g' st' w x v
 fp:∀ r j b,g'.fp r j b->g.fp r j b
 free:∀ n,gK cx Z g' st' w (H n)
 sub:∀ n b,H n b->∃ r j,g.fp r j b
 disj:∀ n m b,H n b->H m b->n=m
 ix:∀ i b,H i b->j<=i/\i < j + n
 be:g'.be=g.be
 box:∀ r R',look st'.rt r=some R'->∃ R,look st.rt r=some R/\R'.box=R.box
theorem kC.refl (j:Nat):kC cx Z w g g st st (fun _ _=>False) j 0 :=
 ⟨fun _ _ h=>h,fun _ _ h=>h,fun _ _ _ h=>h,fun _=>gK.none _ _ _ _ _,fun _ _ h=>h.elim,fun _ _ _ h=>h.elim,fun _ _ h=>h.elim,rfl,fun r R h=>⟨R,h,rfl⟩⟩
theorem gK.mono {F:Nat->Prop} {g':Gh} {st':St} (h:gK cx Z g st w F) (hfp:∀ r j b,g'.fp r j b->g.fp r j b) (hbe:g'.be=g.be) (hbx:∀ r R',look st'.rt r=some R'->∃ R,look st.rt r=some R/\R'.box=R.box):gK cx Z g' st' w F :=
 ⟨h.lt,h.own,h.z,fun b hb r j hh=>h.fp b hb r j (hfp r j b hh),fun b hb r R' hR hx=>by obtain ⟨R,e1,e2⟩:=hbx r R' hR;rw [hbe];exact h.box b hb r R e1 (by rw [<- e2]; exact hx)⟩
theorem kC.trans {g' g'':Gh} {st' st'':St} {H H':Nat->Nat->Prop} {j n m:Nat} (h:kC cx Z w g g' st st' H j n) (h':kC cx Z w g' g'' st' st'' H' (j + n) m):kC cx Z w g g'' st st'' (fun i b=>H i b∨H' i b) j (n + m) where
 rel:=fun p v hr=>h'.rel p v (h.rel p v hr)
 av:=fun x v hr=>h'.av x v (h.av x v hr)
 fp:=fun r j b hb=>h.fp r j b (h'.fp r j b hb)
 free:=fun i=>by have f1:=(h.free i).mono h'.fp h'.be h'.box;have f2:=h'.free i;exact ⟨fun b hb=>hb.elim (f1.lt b) (f2.lt b),fun b hb=>hb.elim (f1.own b) (f2.own b),fun b hb=>hb.elim (f1.z b) (f2.z b),fun b hb=>hb.elim (f1.fp b) (f2.fp b),fun b hb=>hb.elim (f1.box b) (f2.box b)⟩
 sub:=fun i b hb=>by
  rcases hb with hb | hb
  . exact h.sub i b hb
  . obtain ⟨r,j,hh⟩:=h'.sub i b hb;exact ⟨r,j,h.fp r j b hh⟩
 disj:=fun i i' b hb hb'=>by
  have cross:∀ i i',H i b->H' i' b->False:=fun i i' k1 k2=>by obtain ⟨r,j,hh⟩:=h'.sub i' b k2;exact (h.free i).fp b k1 r j hh
  rcases hb with hb | hb
  . rcases hb' with hb' | hb'
    . exact h.disj i i' b hb hb'
    . exact (cross i i' hb hb').elim
  . rcases hb' with hb' | hb'
    . exact (cross i' i hb' hb).elim
    . exact h'.disj i i' b hb hb'
 ix:=fun i b hb=>by
  rcases hb with hb | hb
  . have:=h.ix i b hb; omega
  . have:=h'.ix i b hb; omega
 be:=h'.be.trans h.be
 box:=fun r R' hR=>by obtain ⟨R1,e1,e2⟩:=h'.box r R' hR;obtain ⟨R,e3,e4⟩:=h.box r R1 e1;exact ⟨R,e3,e2.trans e4⟩
theorem aQ.mono {fresh:Bool} {H H':Nat->Nat->Prop} (hH:∀ n b,H n b->H' n b):∀ (ks:List K) (x:Tl ks) (cs:List Value) (j:Nat),aQ fresh Z w H ks x cs j->aQ fresh Z w H' ks x cs j
 | [],_,[],_,_=>trivial
 | .sl e ks' :: ks,x,v :: vs,j,h=>by
   refine ⟨?_,aQ.mono hH ks x.2 vs _ h.2⟩;cases fresh with
   | true=>exact cO.frame _ _ _ _ _ (hH j) (fun _ _ _=>rfl) h.1
   | false=>exact h.1
 | .int _ :: ks,x,v :: vs,j,h=>⟨h.1,aQ.mono hH ks x.2 vs j h.2⟩
 | .bool :: ks,x,v :: vs,j,h=>⟨h.1,aQ.mono hH ks x.2 vs j h.2⟩
 | .str :: ks,x,v :: vs,j,h=>⟨h.1,aQ.mono hH ks x.2 vs j h.2⟩
 | [],_,_ :: _,_,h=>h.elim
 | .sl _ _ :: _,_,[],_,h=>h.elim
 | .int _ :: _,_,[],_,h=>h.elim
 | .bool :: _,_,[],_,h=>h.elim
 | .str :: _,_,[],_,h=>h.elim
theorem lk.mono {fresh:Bool} {H H':Nat->Nat->Prop} (hH:∀ n b,H n b->H' n b):∀ (rs:List (Bool×List K)) (y:CT rs) (vs:List Value) (j:Nat),lk fresh Z w H rs y vs j->lk fresh Z w H' rs y vs j
 | [],_,[],_,_=>trivial
 | (gg,ks) :: rs,y,v :: vs,j,⟨⟨cs,e,h⟩,h'⟩=>⟨⟨cs,e,aQ.mono hH ks y.1 cs j h⟩,lk.mono hH rs y.2 vs _ h'⟩
 | [],_,_ :: _,_,h=>h.elim
 | _ :: _,_,[],_,h=>h.elim
def Rl (fresh:Bool) (ks:List K):Nat:=bif fresh then bp ks else 0
theorem j6 (fresh:Bool):∀ (ks:List K) (l:List AV) (cs:List Value) (st:St) (g:Gh) (st':St) (x:Tl ks) (j:Nat),Rel cx Z g st a w->aP Z g st w l cs->kH st fresh ks l=some (st',x) ->
 ∃ g' H,Rel cx Z g' st' a w/\kC cx Z w g g' st st' H j (Rl fresh ks)/\aQ fresh Z w H ks x cs j
 | [],[],cs,st,g,st',x,j,h,hr,ht=>by
   simp only [kH,ac3,adF] at ht;obtain ⟨rfl,_⟩:=ht;cases cs with
   | nil=>exact ⟨g,fun _ _=>False,h,by cases fresh <;> exact kC.refl j,trivial⟩
   | cons _ _=>exact hr.elim
 | .sl e ks' :: ks,av :: l,[],st,g,st',x,j,h,hr,ht=>hr.elim
 | .sl e ks' :: ks,av :: l,v :: vs,st,g,st',x,j,h,hr,ht=>by
   unfold kH at ht;split at ht
   . rename_i st1 y hy;split at ht
     . rename_i q hq;cases ht;cases fresh with
       | true =>
         simp only [ac6] at hy;obtain ⟨g1,F,k1,k2,k3,k4,k5,k6,k7⟩:=fw h hr.1 hy;have t1:kC cx Z w g g1 st st1 (fun n b=>n=j/\F b) j 1 :=
          ⟨fun p v=>qV.bZ k2.bZ p v,fun x v=>bj.bZ k2.bZ x v,k5,fun n=>⟨fun b hb=>k4.lt b hb.2,fun b hb=>k4.own b hb.2,fun b hb=>k4.z b hb.2,fun b hb=>k4.fp b hb.2,fun b hb=>k4.box b hb.2⟩,fun n b hb=>k6 b hb.2,fun n m b h1 h2=>h1.1.trans h2.1.symm,fun i b hb=>⟨by omega,by omega⟩,k2.be,k2.box⟩
         obtain ⟨g',H,m1,m2,m3⟩:=j6 true ks l vs st1 g1 q.1 q.2 (j + 1) k1 (aP.bZ k2.bZ _ _ hr.2) hq;refine ⟨g',fun n b=>(n=j/\F b)∨H n b,m1,?_,?_⟩
         . have:=t1.trans m2;have e:Rl true (.sl e ks' :: ks)=1 + Rl true ks:=by simp [Rl,bp]; omega
           rw [e];exact this
         . exact ⟨cO.frame _ _ _ _ _ (fun b hb=> .inl ⟨rfl,hb⟩) (fun _ _ _=>rfl) k3,aQ.mono (fun n b hb=> .inr hb) _ _ _ _ m3⟩
       | false =>
         simp only [adm] at hy;cases hf:av.bP || Ek (st.ct (.sl e ks') av) with
         | false=>rw [hf] at hy; simp at hy
         | true =>
           rw [hf] at hy;simp only [ac6] at hy;split at hy
           . rename_i y' hy';cases hy;obtain ⟨g',H,m1,m2,m3⟩:=j6 false ks l vs st g q.1 q.2 j h hr.2 hq;refine ⟨g',H,m1,m2,?_,m3⟩;show RO Z w (.sl e ks') y v;cases hf2:av.bP with
             | true=>exact cu h hr.1 hf2 hy'
             | false =>
               rw [hf2,hy'] at hf;have hnil:aG y=[]:=by
                simp only [afY,Ek] at hf;split at hf
                . rename_i hh; exact hh
                . simp at hf
               obtain ⟨a1,c1,q1,q2,q3,q4,_⟩:=(show RO (fZ w) w (.sl e ks') y v from lh h hr.1 hy');exact ⟨a1,c1,q1,q2,q3,q4,fun hne=>(hne hnil).elim⟩
           . simp at hy
     . simp at ht
   . simp at ht
 | .int k :: ks,av :: l,cs,st,g,st',x,j,h,hr,ht=>by
   unfold kH at ht;split at ht
   . rename_i y q hy hf hq;cases ht
     match cs,hr with
     | v :: vs,hr => obtain ⟨g',H,m1,m2,m3⟩:=j6 fresh ks l vs st g q.1 q.2 j h hr.2 hq;exact ⟨g',H,m1,m2,cu h hr.1 hf hy,m3⟩
   . simp at ht
 | .bool :: ks,av :: l,cs,st,g,st',x,j,h,hr,ht=>by
   unfold kH at ht;split at ht
   . rename_i y q hy hf hq;cases ht
     match cs,hr with
     | v :: vs,hr => obtain ⟨g',H,m1,m2,m3⟩:=j6 fresh ks l vs st g q.1 q.2 j h hr.2 hq;exact ⟨g',H,m1,m2,cu h hr.1 hf hy,m3⟩
   . simp at ht
 | .str :: ks,av :: l,cs,st,g,st',x,j,h,hr,ht=>by
   unfold kH at ht;split at ht
   . rename_i y q hy hf hq;cases ht
     match cs,hr with
     | v :: vs,hr => obtain ⟨g',H,m1,m2,m3⟩:=j6 fresh ks l vs st g q.1 q.2 j h hr.2 hq;exact ⟨g',H,m1,m2,cu h hr.1 hf hy,m3⟩
   . simp at ht
 | [],_ :: _,cs,st,g,st',x,j,h,hr,ht=>by simp [kH] at ht
 | .sl _ _ :: _,[],cs,st,g,st',x,j,h,hr,ht=>by simp [kH] at ht
 | .int _ :: _,[],cs,st,g,st',x,j,h,hr,ht=>by simp [kH] at ht
 | .bool :: _,[],cs,st,g,st',x,j,h,hr,ht=>by simp [kH] at ht
 | .str :: _,[],cs,st,g,st',x,j,h,hr,ht=>by simp [kH] at ht
def Ut (fresh:Bool):List (Bool×List K)->Nat
 | []=>0
 | (_,ks) :: rs=>Rl fresh ks + Ut fresh rs
theorem CY (fresh:Bool):∀ (rs:List (Bool×List K)) (l:List (Bool×List AV)) (vs:List Value) (st:St) (g:Gh) (st':St) (y:CT rs) (j:Nat),Rel cx Z g st a w->fY Z g st w l vs->xt st fresh rs l=some (st',y) ->
 ∃ g' H,Rel cx Z g' st' a w/\kC cx Z w g g' st st' H j (Ut fresh rs)/\lk fresh Z w H rs y vs j
 | [],[],vs,st,g,st',y,j,h,hr,ht=>by
   simp only [xt,ac3,adF] at ht;obtain ⟨rfl,_⟩:=ht;cases vs with
   | nil=>exact ⟨g,fun _ _=>False,h,kC.refl j,trivial⟩
   | cons _ _=>exact hr.elim
 | (gg,ks) :: rs,(gg',l) :: r,vs,st,g,st',y,j,h,hr,ht=>by
   unfold xt at ht;cases hb:bU gg gg' with
   | false=>rw [hb] at ht; simp at ht
   | true =>
     rw [hb] at ht;simp only [ac6] at ht;have:=eo hb;subst this;split at ht
     . rename_i st1 x hx;split at ht
       . rename_i q hq;cases ht
         match vs,hr with
         | v :: vs,hr =>
           obtain ⟨us,e1,e2⟩:=iC hr.1;obtain ⟨g1,H1,m1,m2,m3⟩:=j6 fresh ks l us st g st1 x j h e2 hx;have hr2:fY Z g1 st1 w r vs:=by
            have:∀ (r:List (Bool×List AV)) (vs:List Value),fY Z g st w r vs->fY Z g1 st1 w r vs:=by
             intro r;induction r with
             | nil=>intro vs h; cases vs with | nil=>trivial | cons _ _=>exact h.elim
             | cons p r ih=>intro vs h; cases vs with | nil=>exact h.elim | cons v vs=>exact ⟨m2.rel _ _ h.1,ih vs h.2⟩
            exact this r vs hr.2
           obtain ⟨g',H',n1,n2,n3⟩:=CY fresh rs r vs st1 g1 q.1 q.2 (j + Rl fresh ks) m1 hr2 hq;refine ⟨g',fun n b=>H1 n b∨H' n b,n1,m2.trans n2,⟨us,e1,aQ.mono (fun n b hb=> .inl hb) _ _ _ _ m3⟩,?_⟩;have e3:(bif fresh then j + bp ks else j)=j + Rl fresh ks:=by cases fresh <;> simp [Rl]
           rw [e3];exact lk.mono (fun n b hb=> .inr hb) _ _ _ _ n3
       . simp at ht
     . simp at ht
 | [],_ :: _,vs,st,g,st',y,j,h,hr,ht=>by simp [xt] at ht
 | (_,_) :: _,[],vs,st,g,st',y,j,h,hr,ht=>by simp [xt] at ht
end
def Fam (g:Gh) (NM:List (Nat×Nat)):Nat->Nat->Prop:=fun m b=>∃ nm,NM[m]? = some nm/\g.fp nm.1 nm.2 b
theorem iZ {Z:Nat->Prop} {P:Program} {cx:Cx P} {g:Gh} {st:St} {a:Act} {w:World} (h:Rel cx Z g st a w) (NM:List (Nat×Nat)):∀ (ks:List K) (l:List AV) (cs:List Value) (y:Tl ks) (pre post:List (Nat×Nat)),aP Z g st w l cs->eU st ks l=some y->NM=pre ++ (eS l ++ post) ->
 aQ true Z w (Fam g NM) ks y cs pre.length/\(eS l).length=bp ks
 | [],[],[],y,_,_,_,_,_=>⟨trivial,rfl⟩
 | [],[],_ :: _,_,_,_,h1,_,_=>h1.elim
 | [],_ :: _,_,_,_,_,_,h2,_=>by simp [eU] at h2
 | .sl e ks' :: ks,[],_,y,_,_,h1,h2,_=>by simp [eU] at h2
 | .sl e ks' :: ks,av :: l,[],y,_,_,h1,h2,_=>h1.elim
 | .sl e ks' :: ks,av :: l,v :: vs,y,pre,post,h1,h2,hN=>by
   cases av with
   | ref r j s =>
     simp only [eU] at h2;split at h2
     . rename_i s' m k' x y' hc hr;cases hb:Nat.beq s' s with
       | false=>rw [hb] at h2; simp at h2
       | true =>
         rw [hb] at h2;simp only [ac6] at h2;split at h2
         . rename_i x' hx;cases h2;obtain ⟨rfl,hx⟩:=cF hx;have hx:x=x':=hx;subst hx;have:=beq_eq hb;subst this;obtain ⟨c,q1,q2,q3⟩:=h1.1;rw [hc] at q1;cases q1;have q3:=q3 rfl;subst q3;simp only [eS] at hN ⊢;obtain ⟨k1,k2⟩:=iZ h NM ks l vs y' (pre ++ [(r,j)]) post h1.2 hr (by rw [hN]; simp);refine ⟨⟨?_,by rw [ac4] at k1; exact k1⟩,by simp [bp,k2]⟩;refine cO.frame _ _ _ _ _ (fun b hb=>⟨(r,j),?_,hb⟩) (fun _ _ _=>rfl) (h.cell r j _ hc);rw [hN]; simp
         . simp at h2
     . simp at h2
   | _=>simp [eU,lu] at h2
 | .int k :: ks,[],_,y,_,_,h1,h2,_=>by simp [eU] at h2
 | .int k :: ks,av :: l,[],y,_,_,h1,h2,_=>h1.elim
 | .int k :: ks,av :: l,v :: vs,y,pre,post,h1,h2,hN=>by
   unfold eU at h2;simp only [lu,adm] at h2;split at h2
   . rename_i x y' hx hf hr;cases h2;have hno:eS (av :: l)=eS l:=by cases av <;> first | rfl | simp [AV.bP] at hf
     rw [hno] at hN ⊢;obtain ⟨k1,k2⟩:=iZ h NM ks l vs y' pre post h1.2 hr hN;exact ⟨⟨cu h h1.1 hf hx,k1⟩,k2⟩
   . simp at h2
 | .bool :: ks,[],_,y,_,_,h1,h2,_=>by simp [eU] at h2
 | .bool :: ks,av :: l,[],y,_,_,h1,h2,_=>h1.elim
 | .bool :: ks,av :: l,v :: vs,y,pre,post,h1,h2,hN=>by
   unfold eU at h2;simp only [lu,adm] at h2;split at h2
   . rename_i x y' hx hf hr;cases h2;have hno:eS (av :: l)=eS l:=by cases av <;> first | rfl | simp [AV.bP] at hf
     rw [hno] at hN ⊢;obtain ⟨k1,k2⟩:=iZ h NM ks l vs y' pre post h1.2 hr hN;exact ⟨⟨cu h h1.1 hf hx,k1⟩,k2⟩
   . simp at h2
 | .str :: ks,[],_,y,_,_,h1,h2,_=>by simp [eU] at h2
 | .str :: ks,av :: l,[],y,_,_,h1,h2,_=>h1.elim
 | .str :: ks,av :: l,v :: vs,y,pre,post,h1,h2,hN=>by
   unfold eU at h2;simp only [lu,adm] at h2;split at h2
   . rename_i x y' hx hf hr;cases h2;have hno:eS (av :: l)=eS l:=by cases av <;> first | rfl | simp [AV.bP] at hf
     rw [hno] at hN ⊢;obtain ⟨k1,k2⟩:=iZ h NM ks l vs y' pre post h1.2 hr hN;exact ⟨⟨cu h h1.1 hf hx,k1⟩,k2⟩
   . simp at h2
theorem vF.mono {Z:Nat->Prop} {w:World} {G G':Nat->Nat->Prop} (hG:∀ m b,G m b->G' m b):∀ (ps:List PK) (y:uw ps) (vs:List Value) (n:Nat),vF Z w G ps y vs n->vF Z w G' ps y vs n
 | [],_,_,_,_=>trivial
 | .c _ _ :: ps,y,_ :: vs,n,h=>vF.mono hG ps y vs n h
 | .pt _ :: ps,y,_ :: vs,n,h=>vF.mono hG ps y vs n h
 | .nil :: ps,y,_ :: vs,n,h=>vF.mono hG ps y vs n h
 | .fn _ _ :: ps,y,_ :: vs,n,h=>vF.mono hG ps y vs n h
 | .mv _ :: ps,y,_ :: vs,n,h=>vF.mono hG ps y vs (n + 1) h
 | .io _ ks :: ps,y,_ :: vs,n,⟨⟨cs,e,h⟩,h'⟩=>⟨⟨cs,e,aQ.mono hG ks y.1 cs n h⟩,vF.mono hG ps y.2 vs _ h'⟩
 | .c _ _ :: _,_,[],_,h=>h.elim
 | .fn _ _ :: _,_,[],_,h=>h.elim
 | .io _ _ :: _,_,[],_,h=>h.elim
 | .pt _ :: _,_,[],_,h=>h.elim
 | .nil :: _,_,[],_,h=>h.elim
 | .mv _ :: _,_,[],_,h=>h.elim
theorem pL:∀ (l:List (Nat×Nat)) (r j m:Nat) (n:Nat×Nat),hasName r j l=false->l[m]? = some n->¬ (n.1=r/\n.2=j)
 | [],_,_,_,_,_,h=>by simp at h
 | n0 :: l,r,j,m,n,h,hm=>by
   simp only [hasName,aeL] at h;cases m with
   | zero => simp only [adf,ac3] at hm;subst hm;rintro ⟨rfl,rfl⟩;simp at h
   | succ m=>exact pL l r j m n h.2 (by simpa using hm)
theorem wi:∀ (l:List (Nat×Nat)) (m m':Nat) (n n':Nat×Nat),xq l=true->l[m]? = some n->l[m']? = some n'->n.1=n'.1->n.2=n'.2->m=m'
 | [],_,_,_,_,_,h,_,_,_=>by simp at h
 | n0 :: l,m,m',n,n',h,h1,h2,e1,e2=>by
   simp only [xq,ac5,adK] at h;cases m with
   | zero =>
     cases m' with
     | zero=>rfl
     | succ m' => simp only [adf,ac3] at h1;subst h1;exact (pL l n0.1 n0.2 m' n' h.1 (by simpa using h2) ⟨e1.symm,e2.symm⟩).elim
   | succ m =>
     cases m' with
     | zero => simp only [adf,ac3] at h2;subst h2;exact (pL l n0.1 n0.2 m n h.1 (by simpa using h1) ⟨e1,e2⟩).elim
     | succ m'=>exact adU (· + 1) (wi l m m' n n' h.2 (by simpa using h1) (by simpa using h2) e1 e2)
theorem fy {Z:Nat->Prop} {P:Program} {cx:Cx P} {g:Gh} {st:St} {a:Act} {w:World} {pins:List Nat} (h:Rel cx Z g st a w) (NM:List (Nat×Nat)):∀ (ps:List PK) (y:uw ps) (vs:List Value) (i:Nat) (pre:List (Nat×Nat)),jw pins st ps i=some y->vs.length=ps.length->(∀ j v,vs[j]? = some v->kN pins (i + j)=true->a.tmps.getD (i + j) undef=v)->NM=pre ++ la st ps i ->
 vF Z w (Fam g NM) ps y vs pre.length
 | [],_,_,i,_,_,_,_,_=>trivial
 | .c _ _ :: ps,y,[],i,_,_,hl,_,_=>by simp at hl
 | .pt _ :: ps,y,[],i,_,_,hl,_,_=>by simp at hl
 | .nil :: ps,y,[],i,_,_,hl,_,_=>by simp at hl
 | .fn _ _ :: ps,y,[],i,_,_,hl,_,_=>by simp at hl
 | .io _ _ :: ps,y,[],i,_,_,hl,_,_=>by simp at hl
 | .mv _ :: ps,y,[],i,_,_,hl,_,_=>by simp at hl
 | .c _ _ :: ps,y,v :: vs,i,pre,hy,hl,hp,hN =>
   fy h NM ps y vs (i + 1) pre hy (by simpa using hl) (fun j v hj hm=>by rw [show i + 1 + j=i + (j + 1) by omega] at hm ⊢; exact hp (j + 1) v (by simpa using hj) hm) hN
 | .nil :: ps,y,v :: vs,i,pre,hy,hl,hp,hN =>
   fy h NM ps y vs (i + 1) pre hy (by simpa using hl) (fun j v hj hm=>by rw [show i + 1 + j=i + (j + 1) by omega] at hm ⊢; exact hp (j + 1) v (by simpa using hj) hm) hN
 | .pt _ :: ps,y,v :: vs,i,pre,hy,hl,hp,hN =>
   fy h NM ps y vs (i + 1) pre hy (by simpa using hl) (fun j v hj hm=>by rw [show i + 1 + j=i + (j + 1) by omega] at hm ⊢; exact hp (j + 1) v (by simpa using hj) hm) hN
 | .fn _ _ :: ps,y,v :: vs,i,pre,hy,hl,hp,hN =>
   fy h NM ps y vs (i + 1) pre hy (by simpa using hl) (fun j v hj hm=>by rw [show i + 1 + j=i + (j + 1) by omega] at hm ⊢; exact hp (j + 1) v (by simpa using hj) hm) hN
 | .mv _ :: ps,y,v :: vs,i,pre,hy,hl,hp,hN=>by have:=fy h NM ps y vs (i + 1) (pre ++ [(300000 + i,0)]) hy (by simpa using hl) (fun j v hj hm=>by rw [show i + 1 + j=i + (j + 1) by omega] at hm ⊢; exact hp (j + 1) v (by simpa using hj) hm) (by rw [hN]; simp [la]);rw [ac4] at this;exact this
 | .io gg ks :: ps,y,v :: vs,i,pre,hy,hl,hp,hN=>by
   unfold jw at hy;split at hy
   . rename_i tv htv;split at hy
     . rename_i gg' l hl2;cases hb:bU gg gg' && kN pins i with
       | false=>rw [hb] at hy; simp at hy
       | true =>
         rw [hb] at hy;simp only [ac6] at hy;simp only [ac5] at hb;have hg:=eo hb.1;subst hg;split at hy
         . rename_i x y' hx hy';cases hy;have hv:=hp 0 v rfl hb.2;rw [adO] at hv;have hC:=lX (h.tm i tv htv).2 hl2;rw [hv] at hC;obtain ⟨cs,e1,e2⟩:=iC hC;have hN':NM=pre ++ (eS l ++ la st ps (i + 1)):=by rw [hN]; simp [la,htv,hl2]
           obtain ⟨k1,k2⟩:=iZ h NM ks l cs x pre _ e2 hx hN';have k3:=fy h NM ps y' vs (i + 1) (pre ++ eS l) hy' (by simpa using hl) (fun j v hj hm=>by rw [show i + 1 + j=i + (j + 1) by omega] at hm ⊢; exact hp (j + 1) v (by simpa using hj) hm) (by rw [hN']; simp);rw [ac4,k2] at k3;exact ⟨⟨cs,e1,k1⟩,k3⟩
         . simp at hy
     . simp at hy
   . simp at hy
theorem EG {Z:Nat->Prop} {P:Program} {cx:Cx P} {g:Gh} {st:St} {a:Act} {w:World} {pins:List Nat} (h:Rel cx Z g st a w) (ps:List PK) (y:uw ps) (vs:List Value) (hy:qw pins st ps 0=some y) (hl:vs.length=ps.length) (hp:∀ j v,vs[j]? = some v->kN pins (0 + j)=true->a.tmps.getD (0 + j) undef=v) :
 ∃ G:Nat->Nat->Prop,vF Z w G ps y vs 0/\(∀ m b,G m b->∃ r j,g.fp r j b)/\∀ m m' b,G m b->G m' b->m=m':=by
 unfold qw at hy;cases hn:xq (la st ps 0) with
 | false=>rw [hn] at hy; simp at hy
 | true => rw [hn] at hy;simp only [ac6] at hy;refine ⟨Fam g (la st ps 0),fy h _ ps y vs 0 [] hy hl hp rfl,fun m b ⟨nm,_,hb⟩=>⟨_,_,hb⟩,fun m m' b ⟨n1,q1,q2⟩ ⟨n2,q3,q4⟩ => ?_⟩;obtain ⟨e1,e2⟩:=h.disj _ _ _ _ b q2 q4;exact wi _ m m' n1 n2 hn q1 q3 e1 e2
theorem gP {Z:Nat->Prop} {w:World} {F:Nat->Nat->Prop}:∀ (ps:List PK) (x:PT ps) (vs:List Value) (i:Nat),dz Z w F ps x vs i->vs.length=ps.length
 | [],_,[],_,_=>rfl
 | .c _ _ :: ps,x,_ :: vs,i,h=>adU (· + 1) (gP ps x.2 vs _ h.2)
 | .pt _ :: ps,x,_ :: vs,i,h=>adU (· + 1) (gP ps x.2 vs _ h.2)
 | .nil :: ps,x,_ :: vs,i,h=>adU (· + 1) (gP ps x vs _ h.2)
 | .fn _ _ :: ps,x,_ :: vs,i,h=>adU (· + 1) (gP ps x.2 vs _ h.2)
 | .io _ _ :: ps,x,_ :: vs,i,h=>adU (· + 1) (gP ps x.2 vs _ h.2)
 | .mv _ :: ps,x,_ :: vs,i,h=>adU (· + 1) (gP ps x.2 vs _ h.2)
 | [],_,_ :: _,_,h=>h.elim
 | .pt _ :: _,_,[],_,h=>h.elim
 | .nil :: _,_,[],_,h=>h.elim
 | .c _ _ :: _,_,[],_,h=>h.elim
 | .fn _ _ :: _,_,[],_,h=>h.elim
 | .io _ _ :: _,_,[],_,h=>h.elim
 | .mv _ :: _,_,[],_,h=>h.elim
theorem vp:∀ (ps:List PK),lL ps=false->∀ (y z:uw ps),y=z
 | [],_,_,_=>rfl
 | .c _ _ :: ps,h,y,z=>vp ps h y z
 | .pt _ :: ps,h,y,z=>vp ps h y z
 | .nil :: ps,h,y,z=>vp ps h y z
 | .fn _ _ :: ps,h,y,z=>vp ps h y z
 | .mv _ :: ps,h,y,z=>vp ps h y z
 | .io _ _ :: ps,h,_,_=>by simp [lL] at h
def Cf (E:En) (res:List ResultVar) (ps:List PK) (rs:List (Bool×List K)) (fresh:Bool) (o:Ou):Tr (uw ps×CT rs):=match o with
 | .ext _ _=> .fail
 | .nrm st=>Tr.bu (jU E st res) fun l=>Tr.bu (xt st fresh rs l) fun p=>Tr.bu (qw E.pins p.1 ps 0) fun z=> .ret (z,p.2)
 | .ret st=>Tr.bu (jU E st res) fun l=>Tr.bu (xt st fresh rs l) fun p=>Tr.bu (qw E.pins p.1 ps 0) fun z=> .ret (z,p.2)
theorem zB {P : Program} {E : En} (hT : bK P E) {f : Nat} {fn : Func} {c : Code} (hf : P.funcs[f]? = some fn) (hname : (fn.name == "runtime.NumGoroutine") = false) (hb : fn.body = some c) (hnt : E.nt = fn.ntmps)
 {s:Su} (hs:∀ x y,s.uA x=some y->∃ z,(lL s.ps=true->z=y.1)/\∀ (cx:Cx P) (a:Act) (w:World),Good cx E (start s.ps x) a w->c.wp P (fun e a' w'=>∃ ou,QO cx E ou e a' w'/\(Cf E fn.results.toList s.ps s.rs s.fresh ou).run=some (z,y.2)) a w):ar P f s:=by
 intro w Z F args x y hgl hargs hZ hF hd hy;have hzF:∀ b,Z b->b < w.heap.size->¬ ∃ i,F i b:=fun b hb _ ⟨i,hi⟩=>(hF i b hi).2 hb
 rw [MuLone.run_callFunc_enter hf hname hb];obtain ⟨zio,hzio,hrun⟩:=hs x y hy;show Calls P f args w _;have hlen:=gP _ _ _ _ hargs;refine calls_of_wp hf hb ?_;have hsz:fn.ntmps<=(args ++ Array.replicate (fn.ntmps - args.size) undef).size:=by simp; omega
 have hget:∀ j v,args.toList[j]? = some v->0 + j < (args ++ Array.replicate (fn.ntmps - args.size) undef).size/\(args ++ Array.replicate (fn.ntmps - args.size) undef).getD (0 + j) undef=v:=fun j v hj=>by
  rw [ac8] at hj;have hlt:j < args.size:=by
   rcases adj j args.size with h | h
   . exact h
   . simp [adr h] at hj
  rw [adA];refine ⟨by simp; omega,?_⟩;rw [adb,aeD hlt,hj];rfl
 let pin:Nat->Option Value:=fun t=>bif kN E.pins t then some ((args ++ Array.replicate (fn.ntmps - args.size) undef).getD t undef) else none
 have hpin:∀ t v,pin t=some v->(args ++ Array.replicate (fn.ntmps - args.size) undef).getD t undef=v/\kN E.pins t=true:=fun t v ht=>by
  show _/\_;simp only [pin] at ht;cases hm:kN E.pins t with
  | false=>rw [hm] at ht; simp at ht
  | true=>rw [hm] at ht; simp only [ac6,ac3] at ht; exact ⟨ht,rfl⟩
 obtain ⟨g,hrel,_⟩:=iH (cx:=⟨w,fun b=>∃ i,F i b,Z,pin,hgl,hzF⟩) (a:={ tmps:=args ++ Array.replicate (fn.ntmps - args.size) undef,defers:=[] }) rfl (fun t v ht=>(hpin t v ht).1) rfl hZ hF hd s.ps x args.toList 0 0 hargs hget;have hgood:Good ⟨w,fun b=>∃ i,F i b,Z,pin,hgl,hzF⟩ E (start s.ps x) { tmps:=args ++ Array.replicate (fn.ntmps - args.size) undef,defers:=[] } w :=
  ⟨fun t tv ht=>fO s.ps x 0 t tv (gU _ _ _ ht),⟨by rw [hnt]; exact hsz,fun t v ht=>(hpin t v ht).2⟩,Z,g,hrel⟩
 have fin:∀ (st:St) (a:Act) (w':World),Good ⟨w,fun b=>∃ i,F i b,Z,pin,hgl,hzF⟩ E st a w'->(Tr.bu (jU E st fn.results.toList) fun l=>Tr.bu (xt st s.fresh s.rs l) fun p=>Tr.bu (qw E.pins p.1 s.ps 0) fun z=>Tr.ret (z,p.2)).run=some (zio,y.2) ->
  a.defers=[]/\∃ v,(results fn a.tmps).run P w'= .ok v w'/\∃ (Z':Nat->Prop) (H:Nat->Nat->Prop) (vs:List Value),v=zN vs/\Qx w w' F Z Z' H/\vF Z' w' (fun i=>H (2 * i)) s.ps y.1 args.toList 0/\lk s.fresh Z' w' (fun j=>H (2 * j + 1)) s.rs y.2 vs 0:=by
  intro st a w' ⟨h1,h2,Z',g',h3⟩ hr;obtain ⟨l,hl1,hr⟩:=Tr.af hr;obtain ⟨p,hl2,hr⟩:=Tr.af hr;obtain ⟨z,hl3,hr⟩:=Tr.af hr;simp only [Tr.run,ac3,adF] at hr;obtain ⟨rfl,hy2⟩:=hr;obtain ⟨vs,e1,e2⟩:=qc hT h3 h1 _ _ hl1;obtain ⟨g2,H,k1,k2,k3⟩:=CY s.fresh s.rs l vs st g' p.1 p.2 0 h3 e2 hl2;have hres:(results fn a.tmps).run P w'= .ok (zN vs) w':=by
   have hr0:results fn a.tmps=(do let vs <- fn.results.mapM (oU a.tmps); pure (if h:vs.size=1 then vs[0] else .tuple vs)):=by
    have:oU a.tmps=fun x=>(match x with
     | .tmp t=>pure (a.tmps.getD t undef)
     | .cell a' t=>do loadVar t (<- asAddr (a.tmps.getD a' undef)):Sem Value):=by funext x; cases x <;> rfl
    rw [this];rfl
   have hmm:fn.results.mapM (oU a.tmps)=(do let l <- fn.results.toList.mapM (oU a.tmps); pure l.toArray):=by rw [Array.mapM_eq_mapM_toList];rfl
   rw [hr0,hmm];simp only [adv,e1,adh,adN];congr 1
   match vs with
   | []=>rfl
   | [v]=>rfl
   | _ :: _ :: _=>simp [zN]
  have hzy:z=y.1:=by
   cases hh:lL s.ps with
   | true=>exact hzio hh
   | false=>exact vp _ hh _ _
  subst hzy;obtain ⟨G,m1,m2,m3⟩:=EG k1 s.ps _ args.toList hl3 hlen fun j v hj hm=>by rw [adA] at hm ⊢;refine k1.pin j v ?_;show (bif kN E.pins j then _ else none)=_;rw [hm];have:=(hget j v hj).2;rw [adA] at this;rw [this]; rfl
  have hG:∀ m b,G m b->b < w'.heap.size/\¬ Z' b/\((∃ i,F i b)∨w.heap.size<=b):=fun m b hb=>by obtain ⟨i',j,hh⟩:=m2 m b hb;obtain ⟨q1,q2,q3,_⟩:=k1.fp _ _ _ hh;exact ⟨q1,q3,q2⟩
  have cross:∀ j m b,H j b->G m b->False:=fun j m b h1 h2=>by obtain ⟨i',j',hh⟩:=m2 m b h2;exact (k2.free j).fp b h1 _ _ hh
  refine ⟨h3.defers,_,hres,Z',fun n b=>(∃ j,n=2 * j + 1/\H j b)∨∃ m,n=2 * m/\G m b,vs,rfl,?_,vF.mono (fun m b hb=> .inr ⟨m,rfl,hb⟩) _ _ _ _ m1,?_⟩
  . exact { os:=k1.os,tape:=k1.tape,output:=k1.output,size:=k1.size
            block:=fun b hb hf=>k1.block b hb (fun ⟨i,hi⟩=>hf i hi)
            z:=fun b hb=>k1.z0 b hb (hZ b hb)
            bS:=fun b hb=>k1.bS b hb
            fp:=fun n b hb=>by
             rcases hb with ⟨j,e,hb⟩ | ⟨m,e,hb⟩
             . exact ⟨(k2.free j).lt b hb,(k2.free j).z b hb,(k2.free j).own b hb⟩
             . exact hG m b hb
            disj:=fun n m b hb hb'=>by
             rcases hb with ⟨j,e,hb⟩ | ⟨q,e,hb⟩
             . rcases hb' with ⟨j',e',hb'⟩ | ⟨q',e',hb'⟩
               . have:=k2.disj j j' b hb hb'; omega
               . exact (cross _ _ b hb hb').elim
             . rcases hb' with ⟨j',e',hb'⟩ | ⟨q',e',hb'⟩
               . exact (cross _ _ b hb' hb).elim
               . have:=m3 q q' b hb hb'; omega }
  . rw [<- hy2];exact lk.mono (fun n b hb=> .inl ⟨n,rfl,hb⟩) _ _ _ _ k3
 refine wp_mono (hrun _ _ _ hgood) fun e a w' ⟨ou,hq,hfin⟩ => ?_
 cases ou with
 | ext id st=>simp [Cf,Tr.run] at hfin
 | nrm st => cases e <;> first | exact hq.elim | exact fin st a w' hq hfin
 | ret st => cases e <;> first | exact hq.elim | exact fin st a w' hq hfin
theorem Jv {P : Program} {E : En} (hT : bK P E) (hga : df P E) (hW : sZ P E) (hm : P.follows .mixedOrders = true) {f : Nat} {fn : Func} {c : Code} (hf : P.funcs[f]? = some fn) (hname : (fn.name == "runtime.NumGoroutine") = false) (hb : fn.body = some c) (hnt : E.nt = fn.ntmps) (hl : du P E c)
 {s:Su} (hs:∀ x y,s.uA x=some y->∃ z,(lL s.ps=true->z=y.1)/\(FK E c fn.results.toList s.ps s.rs s.fresh x).run=some (z,y.2)):ar P f s:=by
 refine zB hT hf hname hb hnt fun x y hy => ?_
 obtain ⟨z,h1,h2⟩:=hs x y hy;refine ⟨z,h1,fun cx a w hg => ?_⟩;have h2:((cQ E c (start s.ps x)).bind (Cf E fn.results.toList s.ps s.rs s.fresh)).run=some (z,y.2):=h2;rw [Tr.run_bind] at h2;cases ho:(cQ E c (start s.ps x)).run with
 | none=>rw [ho] at h2; simp at h2
 | some ou => rw [ho] at h2;exact wp_mono (cw hT hga hW hm (Dg E) c _ _ _ ou hl hg ho) fun e a' w' hq=>⟨ou,hq,h2⟩
end Go.Av
namespace Go.Av
open Go.RowKit (Below)
def Gh.jv (g:Gh) (r j:Nat) (v:Value) (F:Nat->Prop):Gh:=⟨g.be,fun r' j'=>if r'=r/\j'=j then v else g.cv r' j',fun r' j' b=>if r'=r/\j'=j then F b else g.fp r' j' b⟩
section
variable {P:Program} {cx:Cx P} {Z:Nat->Prop} {g:Gh} {st:St} {a:Act} {w:World} {E:En}
theorem jV {r j:Nat} {c:RC} {r':Nat} {R':Rt} (hR:look (st.setCell r j c).rt r'=some R'):∃ R,look st.rt r'=some R/\R'.box=R.box/\R'.cells.length=R.cells.length:=by
 rw [fo] at hR;split at hR
 . cases hl:look st.rt r' with
   | none=>rw [hl] at hR; simp at hR
   | some R => rw [hl] at hR;simp only [adG,ac3] at hR;subst hR;exact ⟨R,rfl,rfl,iK _ _ _⟩
 . exact ⟨R',hR,rfl,rfl⟩
theorem Rel.change (h:Rel cx Z g st a w) {r j:Nat} {c c':RC} (hc:st.cell r j=some c) {w':World} {v':Value} {F':Nat->Prop} (h1:w'.os=w.os) (h2:w'.tape=w.tape) (h3:w'.output=w.output) (hsz:w.heap.size<=w'.heap.size)
 (hs:c.s<=c'.s) (hm:c.m < c'.m) (hcv:c'.s=c.s->v'=g.cv r j) (hsl:c'.s=c.s->∀ e ks xs,c.v= .own (.sl e ks) xs->∃ xs',c'.v= .own (.sl e ks) xs'/\(aG xs').length=(aG xs).length)
 (hblk:∀ b,b < w.heap.size->¬ g.fp r j b->(∀ R,look st.rt r=some R->R.box=true->g.be r≠b)->w'.heap[b]? = w.heap[b]?)
 (hF:∀ b,F' b->b < w'.heap.size/\(cx.F0 b∨cx.w0.heap.size<=b)/\¬ Z b/\(∀ r' j',g.fp r' j' b->r'=r/\j'=j)/\(∀ r' R,look st.rt r'=some R->R.box=true->g.be r'≠b)/\∃ (k:K) (x:T k),c'.v= .own k x)
 (hbox:∀ R,look st.rt r=some R->R.box=true->∃ cs e fr cs',w.heap[g.be r]? = some (.cells cs e fr)/\w'.heap[g.be r]? = some (.cells cs' e fr)/\cs'.size=cs.size/\∀ i,i < cs.size->cs'[i]? = some (if i=j then v' else g.cv r i))
 (hv:∀ (k:l8 Z Z w w' g (g.jv r j v' F') st (st.setCell r j c')),jo Z (g.jv r j v' F') (st.setCell r j c') w' c'.v v' F') :
 Rel cx Z (g.jv r j v' F') (st.setCell r j c') a w'/\j7 Z w w' g (g.jv r j v' F') st (st.setCell r j c'):=by
 have hfpo:∀ r' j' b,g.fp r' j' b->¬ (r'=r/\j'=j)->w'.heap[b]? = w.heap[b]? := fun r' j' b hb hne=>hblk b (h.fp r' j' b hb).1 (fun hh=>hne (h.disj _ _ _ _ _ hb hh)) fun R hR hbx he=>(h.box r R hR hbx).2.2.1 r' j' (by rw [he]; exact hb)
 have hz:∀ b,Z b->b < w.heap.size->w'.heap[b]? = w.heap[b]? := fun b hb hlt=>hblk b hlt (fun hh=>(h.fp r j b hh).2.2.1 hb) fun R hR hbx he=>(h.box r R hR hbx).2.1 (by rw [he]; exact hb)
 have hfpi:∀ r' j' b,(g.jv r j v' F').fp r' j' b->(r'=r/\j'=j/\F' b)∨(¬ (r'=r/\j'=j)/\g.fp r' j' b):=fun r' j' b hb=>by
  simp only [Gh.jv] at hb;split at hb
  . rename_i e; exact .inl ⟨e.1,e.2,hb⟩
  . rename_i e; exact .inr ⟨e,hb⟩
 have k:l8 Z Z w w' g (g.jv r j v' F') st (st.setCell r j c'):=by
  refine { size:=hsz,z:=fun b hb hlt=>⟨hb,hz b hb hlt⟩,root:=fun r' R hR => ?_,cell:=fun r' j' c0 hc0 => ?_,own:=fun r j b hb=>(h.fp r j b hb).1,block:=(eO h (st':=st) (w':=w) rfl rfl).block }
  . rw [fo];by_cases e:r=r'
    . rw [if_pos e,hR]; exact ⟨_,rfl,rfl,fun _=>rfl⟩
    . rw [if_neg e]; exact ⟨R,hR,rfl,fun _=>rfl⟩
  . rw [cJ];by_cases e:r=r'/\j=j'
    . obtain ⟨rfl,rfl⟩:=e;rw [hc0] at hc;simp only [ac3] at hc;subst hc;rw [if_pos ⟨rfl,rfl⟩,hc0];refine ⟨_,rfl,hs,afC hm,fun e => ?_,hsl,fun _ e=>absurd e (Nat.ne_of_gt hm)⟩;simp only [Gh.jv,and_self,if_true];exact hcv e
    . rw [if_neg e];have e':¬ (r'=r/\j'=j):=fun x=>e ⟨x.1.symm,x.2.symm⟩
      refine ⟨c0,hc0,ac7 _,ac7 _,fun _=>by simp only [Gh.jv]; rw [if_neg e'],fun _ e ks xs hh=>⟨xs,hh,rfl⟩,fun _ _=>⟨rfl,fun b hb _=>⟨?_,hfpo r' j' b hb e'⟩⟩⟩;simp only [Gh.jv];rw [if_neg e'];exact hb
 refine ⟨?_,⟨k,dm,rfl,fun r' R' hR=>by obtain ⟨R,h1,h2,_⟩:=jV hR; exact ⟨R,h1,h2⟩⟩⟩;refine { os:=h1.trans h.os,tape:=h2.trans h.tape,output:=h3.trans h.output,size:=ady h.size hsz,block := ?_,bS:=fun b hb=>⟨adw (h.bS b hb).1 hsz,(h.bS b hb).2⟩,z0:=h.z0,fp := ?_,disj := ?_,box := ?_,cell := ?_,tm := ?_,defers:=h.defers,pin:=h.pin }
 . intro b hb hf;refine (hblk b (adw hb h.size) (fun hh => ?_) fun R hR hbx he => ?_).trans (h.block b hb hf)
   . rcases (h.fp r j b hh).2.1 with h4 | h4
     . exact hf h4
     . omega
   . have:=(h.box r R hR hbx).1;omega
 . intro r' j' b hb;rcases hfpi r' j' b hb with ⟨e1,e2,hb'⟩ | ⟨hne,hb⟩
   . obtain ⟨k1,k2,k3,_,_,kk,x,k4⟩:=hF b hb';exact ⟨k1,k2,k3,c',kk,x,by rw [cJ,if_pos ⟨e1.symm,e2.symm⟩,e1,e2,hc]; rfl,k4⟩
   . obtain ⟨k1,k2,k3,c0,kk,x,k4,k5⟩:=h.fp r' j' b hb;exact ⟨adw k1 hsz,k2,k3,c0,kk,x,by rw [cJ,if_neg (fun e=>hne ⟨e.1.symm,e.2.symm⟩)]; exact k4,k5⟩
 . intro r1 j1 r2 j2 b hb1 hb2;rcases hfpi _ _ _ hb1 with ⟨e1,e2,k1⟩ | ⟨hne1,k1⟩
   . rcases hfpi _ _ _ hb2 with ⟨e3,e4,k2⟩ | ⟨hne2,k2⟩
     . exact ⟨e1.trans e3.symm,e2.trans e4.symm⟩
     . exact absurd ((hF b k1).2.2.2.1 r2 j2 k2) hne2
   . rcases hfpi _ _ _ hb2 with ⟨e3,e4,k2⟩ | ⟨hne2,k2⟩
     . exact absurd ((hF b k2).2.2.2.1 r1 j1 k1) hne1
     . exact h.disj _ _ _ _ _ k1 k2
 . intro r' R' hR hbx;obtain ⟨R,e1,e2,e3⟩:=jV hR;obtain ⟨b1,b2,b3,b4,cs,el,fr,b5,b6,b7,b8⟩:=h.box r' R e1 (by rw [<- e2]; exact hbx);have hnf:∀ r0 j0,¬ (g.jv r j v' F').fp r0 j0 (g.be r'):=fun r0 j0 hh=>by
    rcases hfpi _ _ _ hh with ⟨_,_,hh⟩ | ⟨_,hh⟩
    . exact (hF _ hh).2.2.2.2.1 r' R e1 (by rw [<- e2]; exact hbx) rfl
    . exact b3 _ _ hh
   refine ⟨b1,b2,hnf,fun r'' R'' hR'' hb'' he => ?_,?_⟩
   . obtain ⟨R2,f1,f2,_⟩:=jV hR'';exact b4 r'' R2 f1 (by rw [<- f2]; exact hb'') he
   . by_cases e:r'=r
     . subst e;obtain ⟨cs0,el0,fr0,cs',f1,f2,f3,f4⟩:=hbox R e1 (by rw [<- e2]; exact hbx);rw [b5] at f1;simp only [ac3,Obj.cells.injEq] at f1;obtain ⟨rfl,rfl,rfl⟩:=f1;refine ⟨cs',el,fr,f2,fun q hq=>b6 q (by omega),by rw [f3,b7,e3],fun i hi => ?_⟩;rw [f4 i (by omega)];simp only [Gh.jv,true_and]
     . refine ⟨cs,el,fr,?_,b6,by rw [b7,e3],fun i hi => ?_⟩
       . have hlt:g.be r' < w.heap.size:=by
          rcases adj (g.be r') w.heap.size with hh | hh
          . exact hh
          . simp [adr hh] at b5
         show w'.heap[g.be r']? = _;rw [hblk _ hlt (b3 r j) fun R0 hR0 hb0 he=>e (b4 r R0 hR0 hb0 he).symm];exact b5
       . rw [b8 i hi];simp only [Gh.jv];rw [if_neg (fun x=>e x.1)]
 . intro r' j' c0 hc0;rw [cJ] at hc0;split at hc0
   . rename_i e;obtain ⟨rfl,rfl⟩:=e;rw [hc] at hc0;simp only [adG,ac3] at hc0;subst hc0;have e1:(g.jv r j v' F').cv r j=v':=by simp [Gh.jv]
     have e2:(g.jv r j v' F').fp r j=F':=by funext b; simp [Gh.jv]
     rw [e1,e2];exact hv k
   . rename_i e;have e':¬ (r'=r/\j'=j):=fun x=>e ⟨x.1.symm,x.2.symm⟩
     have e1:(g.jv r j v' F').cv r' j'=g.cv r' j':=by simp only [Gh.jv]; rw [if_neg e']
     have e2:(g.jv r j v' F').fp r' j'=g.fp r' j':=by funext b; simp only [Gh.jv]; rw [if_neg e']
     rw [e1,e2];exact jo.bZ k _ _ _ _ (h.cell r' j' c0 hc0) (fun _ h=>h) (fun b hb _=>hfpo r' j' b hb e')
 . intro t tv ht;rw [dm] at ht;exact ⟨(h.tm t tv ht).1,bD.bZ k _ _ (h.tm t tv ht).2⟩
theorem Bc {b o:Nat} {v:Value} (h:w.cell? ⟨b,o,none⟩=some v):w.setCell ⟨b,o,none⟩ v=w:=by
 have:(w.setCell ⟨b,o,none⟩ v).heap=w.heap:=by
  apply aeH;intro i;simp only [World.setCell,Array.getElem?_modify];by_cases e:b=i
  . subst e;rw [if_pos rfl];simp only [World.cell?] at h;split at h
    . rename_i c el fr hh;rw [hh];simp at h;simp only [adG,aed,adQ,aek,ac3,Obj.cells.injEq,aej];apply aeH;intro q;rw [ad1];by_cases e:o=q
      . subst e;rw [if_pos rfl];have hlt:o < c.size:=by
         rcases adj o c.size with hh | hh
         . exact hh
         . simp [adr hh] at h
        rw [if_pos hlt,h]
      . rw [if_neg e]
    . simp at h
  . rw [if_neg e]
 cases w;simp only [World.setCell] at this ⊢;congr 1
theorem cY (b o:Nat) (v:Value) (i:Nat):(w.setCell ⟨b,o,none⟩ v).heap[i]? = if b=i then (w.heap[i]?).map (fun | .cells c el fr=> .cells (c.setIfInBounds o v) el fr | x=>x) else w.heap[i]? := by
 simp only [World.setCell,Array.getElem?_modify];by_cases e:b=i
 . rw [if_pos e,if_pos e];cases w.heap[i]? with
   | none=>rfl
   | some x=>cases x <;> rfl
 . rw [if_neg e,if_neg e]
theorem Rel.Rx (h:Rel cx Z g st a w) {r j:Nat} {c:RC} (hc:st.cell r j=some c) {R:Rt} (hR:look st.rt r=some R) (hb:R.box=true) {rv:RV} {v:Value} {F:Nat->Prop} (hF:gK cx Z g st w F) (hrv:match rv with | .own k x=>cO w k x v F | .av x=>bj Z g st w x v) :
 ∃ g',Rel cx Z g' (st.setCell r j ⟨c.s + 1,c.m + 1,rv⟩) a (w.setCell ⟨g.be r,j,none⟩ v)/\j7 Z w (w.setCell ⟨g.be r,j,none⟩ v) g g' st (st.setCell r j ⟨c.s + 1,c.m + 1,rv⟩)/\g'.be=g.be:=by
 obtain ⟨b1,b2,b3,b4,cs,el,fr,b5,b6,b7,b8⟩:=h.box r R hR hb;have hjl:j < cs.size:=by
  rw [b7];simp only [St.cell,hR] at hc;rcases adj j R.cells.length with hh | hh
  . exact hh
  . simp [adp hh] at hc
 have hsz:(w.setCell ⟨g.be r,j,none⟩ v).heap.size=w.heap.size:=by simp [World.setCell]
 have hother:∀ i,i≠g.be r->(w.setCell ⟨g.be r,j,none⟩ v).heap[i]? = w.heap[i]? := fun i hi=>by rw [cY,if_neg (fun e=>hi e.symm)]
 have:=h.change hc (c':=⟨c.s + 1,c.m + 1,rv⟩) (w':=w.setCell ⟨g.be r,j,none⟩ v) (v':=v) (F':=fun b=>F b/\∃ (k:K) (x:T k),rv= .own k x) rfl rfl rfl (by rw [hsz]; exact ac7 _) (afi _) (ael _)
  (fun e=>absurd e (ae6 _)) (fun e=>absurd e (ae6 _)) (fun b _ _ hx=>hother b fun e=>hx R hR hb e.symm)
  (fun b hb'=>⟨by rw [hsz]; exact hF.lt b hb'.1,hF.own b hb'.1,hF.z b hb'.1,fun r' j' hh=>absurd hh (hF.fp b hb'.1 r' j'),fun r' R' hR' hx=>hF.box b hb'.1 r' R' hR' hx,hb'.2⟩)
  (fun R' hR' hx=>⟨cs,el,fr,cs.setIfInBounds j v,b5,by rw [cY,if_pos rfl,b5]; rfl,by simp,fun i hi=>by
    rw [ad1];by_cases e:i=j
    . subst e; simp [hi]
    . rw [if_neg (fun x=>e x.symm),if_neg e]; exact b8 i hi⟩)
  (fun k=>by
    cases rv with
    | own kk x=>exact cO.frame _ _ _ _ _ (fun b hb=>⟨hb,kk,x,rfl⟩) (fun b hb _=>hother b fun e=>hF.box b hb r R hR ‹_› e.symm) hrv
    | av x=>exact bj.bZ k _ _ hrv)
 exact ⟨_,this.1,this.2,rfl⟩
end
end Go.Av
namespace Go.Av
open Go.RowKit (Below)
def shape (st:St) (r:Nat):Option (Bool×Nat):=(look st.rt r).map fun R=>(R.box,R.cells.length)
theorem iI {st:St} {r j:Nat} {c:RC} (r':Nat):shape (st.setCell r j c) r'=shape st r':=by
 unfold shape;rw [fo];split
 . rename_i e;subst e;cases look st.rt r with
   | none=>rfl
   | some R=>simp [iK]
 . rfl
theorem Ez {st:St} {av:AV} {q:St×((k:K)×T k)} (h:st.take av=some q) (r':Nat):shape q.1 r'=shape st r'/\q.1.tm=st.tm:=by
 cases av with
 | ref r j s =>
   simp only [St.take] at h;split at h
   . rename_i s' m k x hc;cases hb:Nat.beq s' s with
     | false=>rw [hb] at h; simp at h
     | true=>rw [hb] at h; cases h; exact ⟨iI r',dm⟩
   . simp at h
 | cut r j s n =>
   simp only [St.take] at h;split at h
   . rename_i s' m e ks x hc;cases hb:Nat.beq s' s with
     | false=>rw [hb] at h; simp at h
     | true=>rw [hb] at h; cases h; exact ⟨iI r',dm⟩
   . simp at h
 | _=>simp [St.take] at h
theorem ri {st st':St} {k:K} {av:AV} {x:T k} (h:st.dS k av=some (st',x)) (r':Nat):shape st' r'=shape st r'/\st'.tm=st.tm:=by
 unfold St.dS at h;split at h
 . cases h; exact ⟨rfl,rfl⟩
 . split at h
   . rename_i st1 k1 x1 hq;split at h
     . cases h; exact Ez hq r'
     . simp at h
   . simp at h
theorem pn {st:St} {r n:Nat} {b:Bool} (h:shape st r=some (b,n)):∃ R,look st.rt r=some R/\R.box=b/\R.cells.length=n:=by
 unfold shape at h;cases hl:look st.rt r with
 | none=>rw [hl] at h; simp at h
 | some R=>rw [hl] at h; simp only [adG,ac3,adF] at h; exact ⟨R,rfl,h.1,h.2⟩
theorem Ax {st:St} {r j:Nat} {c:RC} (h:st.cell r j=some c) {R:Rt} (hR:look st.rt r=some R):j < R.cells.length:=by
 simp only [St.cell,hR] at h;rcases adj j R.cells.length with hh | hh
 . exact hh
 . simp [adp hh] at h
section
variable {P:Program} {cx:Cx P} {Z:Nat->Prop} {a:Act} {E:En}
theorem nU {r n:Nat}:∀ (ks:List K) (l:List AV) (vs:List Value) (st:St) (g:Gh) (w:World) (j:Nat) (st':St),Rel cx Z g st a w->shape st r=some (true,n)->aP Z g st w l vs->st.gQ r j ks l=some st' ->
 ∃ g',Rel cx Z g' st' a (w.setCells (g.be r) j vs)/\st'.tm=st.tm/\(vs=[]∨j + vs.length<=n)
 | [],[],[],st,g,w,j,st',h,hs,hr,ht=>by simp only [St.gQ,ac3] at ht;subst ht;exact ⟨g,h,rfl,.inl rfl⟩
 | [],[],_ :: _,st,g,w,j,st',h,hs,hr,ht=>hr.elim
 | k :: ks,av :: l,[],st,g,w,j,st',h,hs,hr,ht=>hr.elim
 | k :: ks,av :: l,v :: vs,st,g,w,j,st',h,hs,hr,ht=>by
   obtain ⟨R,hR,hb,hn⟩:=pn hs
   have put:∀ (st1:St) (g1:Gh) (rv:RV) (F:Nat->Prop) (c:RC),Rel cx Z g1 st1 a w->g1.be=g.be->st1.tm=st.tm->(∀ r',shape st1 r'=shape st r')->gK cx Z g1 st1 w F->(match rv with | .own k x=>cO w k x v F | .av x=>bj Z g1 st1 w x v)->aP Z g1 st1 w l vs->st1.cell r j=some c ->
    (st1.setCell r j ⟨c.s + 1,c.m + 1,rv⟩).gQ r (j + 1) ks l=some st'->∃ g',Rel cx Z g' st' a (w.setCells (g.be r) j (v :: vs))/\st'.tm=st.tm/\(v :: vs=[]∨j + (v :: vs).length<=n):=by
    intro st1 g1 rv F c h1 hbe htm hsh hF hrv hl hc hst;obtain ⟨R1,hR1,hb1,hn1⟩:=pn (show shape st1 r=some (true,n) by rw [hsh]; exact hs);obtain ⟨g2,k1,k2,k3⟩:=h1.Rx hc hR1 hb1 hF hrv;rw [hbe] at k1 k2;obtain ⟨g',m1,m2,m3⟩:=nU ks l vs _ g2 _ (j + 1) st' k1 (by rw [iI,hsh]; exact hs) (aP.bZ k2.bZ _ _ hl) hst;rw [k3,hbe] at m1;refine ⟨g',m1,m2.trans (dm.trans htm),.inr ?_⟩;have:=Ax hc hR1;rcases m3 with m3 | m3
    . subst m3; simp; omega
    . simp; omega
   have bump:∀ (st1:St) (rv:RV) (q:Option St),(match st1.bump r j rv with | some st'=>st'.gQ r (j + 1) ks l | none=>none)=some st'->∃ c,st1.cell r j=some c/\(st1.setCell r j ⟨c.s + 1,c.m + 1,rv⟩).gQ r (j + 1) ks l=some st':=by
    intro st1 rv _ hh;unfold St.bump at hh;cases hc:st1.cell r j with
    | none=>rw [hc] at hh; simp at hh
    | some c=>rw [hc] at hh; exact ⟨c,rfl,hh⟩
   have take:(match st.dS k av with | some (st',x)=>(match st'.bump r j (.own k x) with | some st'=>st'.gQ r (j + 1) ks l | none=>none) | none=>none)=some st'->∃ g',Rel cx Z g' st' a (w.setCells (g.be r) j (v :: vs))/\st'.tm=st.tm/\(v :: vs=[]∨j + (v :: vs).length<=n):=by
    intro hh;cases htk:st.dS k av with
    | none=>rw [htk] at hh; simp at hh
    | some q => obtain ⟨st1,x⟩:=q;rw [htk] at hh;simp only at hh;obtain ⟨c,hc,hst⟩:=bump st1 (.own k x) none hh;obtain ⟨g1,F,k1,k2,k3,k4,k5,k6,k7⟩:=fw h hr.1 htk;exact put st1 g1 (.own k x) F c k1 k2.be k2.tm (fun r'=>(ri htk r').1) k4 k3 (aP.bZ k2.bZ _ _ hr.2) hc hst
   have viaRC:(match st.kQ av with | some c=>(match st.bump r j c.v with | some st'=>st'.gQ r (j + 1) ks l | none=>none) | none=>none)=some st'->∃ g',Rel cx Z g' st' a (w.setCells (g.be r) j (v :: vs))/\st'.tm=st.tm/\(v :: vs=[]∨j + (v :: vs).length<=n):=by
    intro hh;cases htk:st.kQ av with
    | none=>rw [htk] at hh; simp at hh
    | some c1 => rw [htk] at hh;simp only at hh;obtain ⟨c,hc,hst⟩:=bump st c1.v none hh;have h1:aP Z g st w [av] [v]:=⟨hr.1,trivial⟩;obtain ⟨e1,e2,e3⟩:=sC h [av] [v] [c1] h1 (by simp [St.j9,htk]);obtain ⟨x,hx,hxr⟩:=e3 0 c1 v rfl rfl;rw [hx] at hst;exact put st g (.av x) (fun _=>False) c h rfl rfl (fun _=>rfl) (gK.none _ _ _ _ _) hxr hr.2 hc hst
   cases av with
   | ref r2 j2 s2 =>
     simp only [St.gQ] at ht;cases hb2:Nat.beq r r2 && Nat.beq j j2 with
     | true =>
       rw [hb2] at ht;simp only [ac6] at ht;simp only [ac5] at hb2;have e1:=beq_eq hb2.1;have e2:=beq_eq hb2.2;subst e1; subst e2;cases hc:st.cell r j with
       | none=>rw [hc] at ht; simp at ht
       | some c =>
         rw [hc] at ht;simp only at ht;cases hcs:Nat.beq c.s s2 with
         | false=>rw [hcs] at ht; simp at ht
         | true =>
           rw [hcs] at ht;simp only [ac6] at ht;obtain ⟨c',k1,k2,k3⟩:=hr.1;rw [hc] at k1;simp only [ac3] at k1;subst k1;have hv:=k3 (beq_eq hcs);have hlt:=Ax hc hR;obtain ⟨b1,b2,b3,b4,cs,el,fr,b5,b6,b7,b8⟩:=h.box r R hR hb;have hcell:w.cell? ⟨g.be r,j,none⟩=some v:=by simp only [World.cell?,b5,aed,adQ,aek];rw [b8 j (by omega),hv]
           obtain ⟨g',m1,m2,m3⟩:=nU ks l vs st g w (j + 1) st' h hs hr.2 ht;refine ⟨g',?_,m2,.inr ?_⟩
           . show Rel cx Z g' st' a ((w.setCell ⟨g.be r,j,none⟩ v).setCells (g.be r) (j + 1) vs);rw [Bc hcell];exact m1
           . rcases m3 with m3 | m3
             . subst m3; simp; omega
             . simp; omega
     | false => rw [hb2] at ht;exact take ht
   | cut r2 j2 s2 n2=>exact take ht
   | nil =>
     cases k with
     | sl e ks' => simp only [St.gQ] at ht;obtain ⟨c,hc,hst⟩:=bump st _ none ht;have hv:v= .slice none 0 0:=hr.1;exact put st g (.own (.sl e ks') ([]:List (Tl ks'))) (fun _=>False) c h rfl rfl (fun _=>rfl) (gK.none _ _ _ _ _) (by rw [hv]; exact jx e ks') hr.2 hc hst
     | _=>simp [St.gQ] at ht
   | _=>exact viaRC ht
 | [],_ :: _,_,st,g,w,j,st',h,hs,hr,ht=>by simp [St.gQ] at ht
 | _ :: _,[],_,st,g,w,j,st',h,hs,hr,ht=>by simp [St.gQ] at ht
theorem kE {t:TypeId} {ti:TI} (hT:qx P t ti) {w:World} {b o:Nat} {v:Value} {vs:List Value} (hv:v.cells.toList=vs) (hl:vs.length=ti.ks.length) (h1:∀ u∈vs,u.oneCell'=true) (hc:∀ j,j < vs.length->∃ cs el fr,w.heap[b]? = some (.cells cs el fr)/\o + j < cs.size/\¬ (fr.1<=o + j/\o + j < fr.2)) :
 (Instr.storeAt t (.pointer (some ⟨b,o,none⟩)) v).run P w= .ok () (w.setCells b o vs):=by
 have hsz:v.cells.size=ti.ks.length:=by rw [<- adW,hv,hl]
 have hst:=run_storeCells_cells (P:=P) b o vs 0 w (fun j hj=>by
  obtain ⟨cs,el,fr,e1,e2,_⟩:=hc j hj;simp [World.cell?,e1,e2]) (fun j hj=>by
  obtain ⟨cs,el,fr,e1,e2,e3⟩:=hc j hj;simp only [World.frozen?,adO,e1];simp only [afN,afk];by_cases h:fr.1<=o + j
  . exact .inr fun h'=>e3 ⟨h,h'⟩
  . exact .inl h) h1
 rw [adO] at hst;simp only [Instr.storeAt,Instr.sureAddr,adv,adN,adh,storeVar,bM hT,hsz,hv,ne_eq,not_true_eq_false,aek];simpa using hst
end
end Go.Av
namespace Go.Av
open Go.RowKit (Below)
section
variable {w w':World}
theorem uC:∀ (ks:List K) (x:Tl ks) (j:Nat) (G G':Nat->Nat->Prop) (cs cs':Array Value) (o:Nat),(∀ q,q < ks.length->cs'[o + q]? = cs[o + q]?)->(∀ j b,G j b->G' j b)->(∀ j b,G j b->b < w.heap.size->w'.heap[b]? = w.heap[b]?)->eP w ks x j G cs o->eP w' ks x j G' cs' o
 | [],_,_,_,_,_,_,_,_,_,_,_=>trivial
 | k :: ks,x,j,G,G',cs,cs',o,hc,hG,hw,⟨⟨v,h1,h2⟩,h3⟩ =>
   ⟨⟨v,by rw [<- h1]; exact hc 0 (by simp),cO.frame k _ v (G j) (G' j) (hG j) (hw j) h2⟩,uC ks _ (j + 1) G G' cs cs' (o + 1) (fun q hq=>by rw [show o + 1 + q=o + (q + 1) by omega]; exact hc (q + 1) (by simp; omega)) hG hw h3⟩
theorem qS:∀ (ks:List K) (x:Tl ks) (c:Nat) (k:K) (y:T k) (z:Tl ks),setAt ks x c k y=some z->c < ks.length
 | [],_,_,_,_,_,h=>by simp [setAt] at h
 | _ :: _,_,0,_,_,_,_=>by simp
 | k0 :: ks,x,c + 1,k,y,z,h=>by
   simp only [setAt] at h;split at h
   . rename_i z' hz;have:=qS ks x.2 c k y z' hz;simp; omega
   . simp at h
theorem sd:∀ (ks:List K) (x:Tl ks) (c:Nat) (k:K) (y:T k) (z:Tl ks) (j:Nat) (G G':Nat->Nat->Prop) (F:Nat->Prop) (cs cs':Array Value) (o:Nat) (v:Value),setAt ks x c k y=some z->cO w' k y v F->cs'[o + c]? = some v->(∀ q,q < ks.length->q≠c->cs'[o + q]? = cs[o + q]?) ->
 (∀ q b,q≠j + c->G q b->G' q b)->(∀ b,F b->G' (j + c) b)->(∀ q b,q≠j + c->G q b->b < w.heap.size->w'.heap[b]? = w.heap[b]?)->eP w ks x j G cs o->eP w' ks z j G' cs' o
 | [],_,_,_,_,_,_,_,_,_,_,_,_,_,h,_,_,_,_,_,_,_=>by simp [setAt] at h
 | k0 :: ks,x,0,k,y,z,j,G,G',F,cs,cs',o,v,h,hv,hc,hcs,hG,hF,hw,⟨⟨u,h1,h2⟩,h3⟩=>by
   simp only [setAt] at h;split at h
   . rename_i y' hy;cases h;obtain ⟨e,hy⟩:=cF hy;subst e;subst hy;refine ⟨⟨v,hc,cO.frame _ _ _ _ _ hF (fun _ _ _=>rfl) hv⟩,?_⟩;have key:∀ (ks:List K) (x:Tl ks) (q0:Nat) (o:Nat),j < q0->(∀ q,q < ks.length->cs'[o + q]? = cs[o + q]?)->eP w ks x q0 G cs o->eP w' ks x q0 G' cs' o:=by
      intro ks;induction ks with
      | nil=>intro x q0 o _ _ _; trivial
      | cons k1 ks ih => intro x q0 o hq hcs ⟨⟨u,g1,g2⟩,g3⟩;exact ⟨⟨u,by rw [<- g1]; exact hcs 0 (by simp),cO.frame _ _ _ _ _ (fun b hb=>hG q0 b (by omega) hb) (fun b hb=>hw q0 b (by omega) hb) g2⟩,ih x.2 (q0 + 1) (o + 1) (by omega) (fun q hq=>by rw [show o + 1 + q=o + (q + 1) by omega]; exact hcs (q + 1) (by simp; omega)) g3⟩
     exact key ks x.2 (j + 1) (o + 1) (by omega) (fun q hq=>by rw [show o + 1 + q=o + (q + 1) by omega]; exact hcs (q + 1) (by simp; omega) (by omega)) h3
   . simp at h
 | k0 :: ks,x,c + 1,k,y,z,j,G,G',F,cs,cs',o,v,h,hv,hc,hcs,hG,hF,hw,⟨⟨u,h1,h2⟩,h3⟩=>by
   simp only [setAt] at h;split at h
   . rename_i z' hz;cases h;refine ⟨⟨u,by rw [<- h1]; exact hcs 0 (by simp) (by omega),cO.frame _ _ _ _ _ (fun b hb=>hG j b (by omega) hb) (fun b hb=>hw j b (by omega) hb) h2⟩,?_⟩
     exact sd ks x.2 c k y z' (j + 1) G G' F cs cs' (o + 1) v hz hv (by rw [show o + 1 + c=o + (c + 1) by omega]; exact hc) (fun q hq hne=>by rw [show o + 1 + q=o + (q + 1) by omega]; exact hcs (q + 1) (by simp; omega) (by omega))
      (fun q b hne hb=>hG q b (by omega) hb) (fun b hb=>by rw [show j + 1 + c=j + (c + 1) by omega]; exact hF b hb) (fun q b hne hb=>hw q b (by omega) hb) h3
   . simp at h
end
section
variable {P:Program} {cx:Cx P} {Z:Nat->Prop} {g:Gh} {st:St} {a:Act} {w:World} {E:En}
theorem HE {i i' n q c:Nat} (hq:q < n) (hc:c < n) (h:¬ (i'=i/\q=c)):i' * n + q≠i * n + c:=by
 intro e;rcases afu i' i with hi | hi | hi
 . have:=adz n (show i' + 1<=i from hi);rw [adR,aeE] at this;omega
 . subst hi;exact h ⟨rfl,by omega⟩
 . have:=adz n (show i + 1<=i' from hi);rw [adR,aeE] at this;omega
theorem Rel.VJ (h:Rel cx Z g st a w) {r j s m:Nat} {e:TypeId} {ks:List K} {xs:T (.sl e ks)} (hc:st.cell r j=some ⟨s,m,.own (.sl e ks) xs⟩) {i:Nat} (hi:i < (aG xs).length) {b o l cap:Nat} (hcv:g.cv r j= .slice (some ⟨b,o,none⟩) l cap)
 {F:Nat->Prop} (hF:gK cx Z g st w F) {k:K} {y:T k} {v:Value} (hv:cO w k y v F) {c:Nat} {z:Tl ks} (hz:setAt ks (eC xs i) c k y=some z) :
 ∃ g',Rel cx Z g' (st.setCell r j ⟨s,m + 1,.own (.sl e ks) (List.set (aG xs) i z)⟩) a (w.setCell ⟨b,o + i * ks.length + c,none⟩ v)/\j7 Z w (w.setCell ⟨b,o + i * ks.length + c,none⟩ v) g g' st (st.setCell r j ⟨s,m + 1,.own (.sl e ks) (List.set (aG xs) i z)⟩)/\g'.be=g.be /\
  ∃ cs el fr,w.heap[b]? = some (.cells cs el fr)/\o + i * ks.length + c < cs.size/\(∀ q,q < cs.size->¬ (fr.1<=q/\q < fr.2)):=by
 have hcl:=qS _ _ _ _ _ _ hz;have hown:=dN h hc rfl;rw [hcv] at hown;obtain ⟨a',c0,h1,h2,h3,h4,h5⟩:=hown;simp only [adX] at h1;obtain ⟨rfl,rfl,rfl⟩:=h1;obtain ⟨b',o',cs,el,fr,g1,g2,g3,g4,g5,G,g6,g7,g8⟩:=h5 _ rfl;simp only [aei,aej] at g1;obtain ⟨rfl,rfl⟩:=g1;have hsz:(w.setCell ⟨b,o + i * ks.length + c,none⟩ v).heap.size=w.heap.size:=by simp [World.setCell]
 have hother:∀ q,q≠b->(w.setCell ⟨b,o + i * ks.length + c,none⟩ v).heap[q]? = w.heap[q]? := fun q hq=>by rw [cY,if_neg (fun e=>hq e.symm)]
 have hlt:o + i * ks.length + c < cs.size:=by have:=adz ks.length (show i + 1<=cap by omega);rw [adR,aeE] at this;omega
 have hlen:(aG (e:=e) (ks:=ks) (List.set (aG xs) i z)).length=(aG xs).length:=afr ..
 have hFb:∀ q,F q->q≠b:=fun q hq e=>hF.fp q hq r j (by rw [e]; exact g2)
 have:=h.change hc (c':=⟨s,m + 1,.own (.sl e ks) (List.set (aG xs) i z)⟩) (w':=w.setCell ⟨b,o + i * ks.length + c,none⟩ v) (v':=g.cv r j) (F':=fun q=>g.fp r j q∨F q) rfl rfl rfl (by rw [hsz]; exact ac7 _) (ac7 _) (ael _)
  (fun _=>rfl) (fun _ e' ks' xs' hx=>by simp only [RV.own.injEq,K.sl.injEq] at hx;obtain ⟨⟨rfl,rfl⟩,hx⟩:=hx;have hx:=ae8 hx;subst hx;exact ⟨_,rfl,hlen⟩)
  (fun q _ hq _=>hother q fun e=>hq (by rw [e]; exact g2))
  (fun q hq=>by
    rcases hq with hq | hq
    . obtain ⟨k1,k2,k3,_⟩:=h.fp r j q hq;exact ⟨by rw [hsz]; exact k1,k2,k3,fun r' j' hh=>h.disj _ _ _ _ _ hh hq,fun r' R' hR' hx he=>(h.box r' R' hR' hx).2.2.1 r j (by rw [he]; exact hq),_,_,rfl⟩
    . exact ⟨by rw [hsz]; exact hF.lt q hq,hF.own q hq,hF.z q hq,fun r' j' hh=>absurd hh (hF.fp q hq r' j'),fun r' R' hR' hx=>hF.box q hq r' R' hR' hx,_,_,rfl⟩)
  (fun R' hR' hx=>by
    obtain ⟨_,_,b3,_,cs1,el1,fr1,b5,_,_,b8⟩:=h.box r R' hR' hx;refine ⟨cs1,el1,fr1,cs1,b5,?_,rfl,fun q hq => ?_⟩
    . rw [hother _ fun e=>b3 r j (by rw [e]; exact g2)]; exact b5
    . rw [b8 q hq];by_cases e:q=j
      . subst e; rw [if_pos rfl]
      . rw [if_neg e])
  (fun kp=>by
    show cO _ (.sl e ks) (List.set (aG xs) i z) (g.cv r j) _;rw [hcv];refine ⟨_,cap,by rw [hlen],by rw [hlen]; exact h2,by rw [hlen]; exact h3,h4,fun a'' ha'' => ?_⟩;simp only [ac3] at ha'';subst ha'';refine ⟨b,o,cs.setIfInBounds (o + i * ks.length + c) v,el,fr,rfl,.inl g2,by rw [cY,if_pos rfl,g3]; rfl,fun q hq=>g4 q (by simpa using hq),by simpa using g5,fun i' j' q=>if i'=i/\j'=c then F q else G i' j' q,fun i' j' q hq => ?_,fun i1 j1 i2 j2 q hq1 hq2 => ?_,fun i' x hx => ?_⟩
    . dsimp only at hq;by_cases e:i'=i/\j'=c
      . rw [if_pos e] at hq; exact ⟨.inr hq,hFb q hq⟩
      . rw [if_neg e] at hq; exact ⟨.inl (g6 i' j' q hq).1,(g6 i' j' q hq).2⟩
    . dsimp only at hq1 hq2;by_cases e1:i1=i/\j1=c
      . rw [if_pos e1] at hq1;by_cases e2:i2=i/\j2=c
        . exact ⟨e1.1.trans e2.1.symm,e1.2.trans e2.2.symm⟩
        . rw [if_neg e2] at hq2;exact absurd (g6 i2 j2 q hq2).1 (hF.fp q hq1 r j)
      . rw [if_neg e1] at hq1;by_cases e2:i2=i/\j2=c
        . rw [if_pos e2] at hq2;exact absurd (g6 i1 j1 q hq1).1 (hF.fp q hq2 r j)
        . rw [if_neg e2] at hq2;exact g7 i1 j1 i2 j2 q hq1 hq2
    . have hx':(List.set (aG xs) i z)[i']? = some x:=hx;rw [ae5] at hx';have hwf:∀ (i' q p:Nat),G i' q p->p < w.heap.size->(w.setCell ⟨b,o + i * ks.length + c,none⟩ v).heap[p]? = w.heap[p]? := fun i' q p hp _=>hother p (g6 i' q p hp).2
      by_cases ei:i=i'
      . subst ei;rw [if_pos rfl,if_pos hi] at hx';simp only [ac3] at hx';subst hx';refine sd ks (eC xs i) c k y z 0 (G i) _ F cs _ _ v hz (cO.frame _ _ _ _ _ (fun _ h=>h) (fun p hp _=>hother p (hFb p hp)) hv) ?_ (fun q hq hne => ?_) (fun q p hne hp => ?_) (fun p hp => ?_) (fun q p _ hp=>hwf i q p hp) (g8 i _ (ij xs hi))
        . rw [ad1,if_pos rfl,if_pos hlt]
        . rw [ad1,if_neg (by omega)]
        . show (if i=i/\q=c then F p else G i q p);rw [if_neg (fun e=>hne (by omega))];exact hp
        . show (if i=i/\0 + c=c then F p else G i (0 + c) p);rw [if_pos ⟨rfl,by omega⟩];exact hp
      . rw [if_neg ei] at hx';refine uC ks x 0 (G i') _ cs _ _ (fun q hq => ?_) (fun q p hp => ?_) (hwf i') (g8 i' x hx')
        . have:=HE (i:=i) (i':=i') hq hcl (fun e=>ei e.1.symm);rw [ad1,if_neg (by omega)]
        . show (if i'=i/\q=c then F p else G i' q p);rw [if_neg (fun e=>ei e.1.symm)];exact hp)
 exact ⟨_,this.1,this.2,rfl,cs,el,fr,g3,hlt,fun q hq=>g4 q (afL _ hq)⟩
theorem iD {k:K} {x:T k} {v:Value} {F:Nat->Prop} (hk:lu k=false) (h:RO Z w k x v):cO w k x v F:=by
 cases k with
 | sl e ks=>simp [lu] at hk
 | _=>exact h
theorem Ea {w:World} {b o:Nat} {v:Value} (h:w.cell? ⟨b,o,none⟩=some v):w.setCell ⟨b,o,none⟩ v=w:=by
 have e:(w.setCell ⟨b,o,none⟩ v).heap=w.heap:=by
  apply aeH;intro i;rw [cY];split
  . rename_i e;subst e;simp only [World.cell?,aed,adQ,aek] at h;cases ho:w.heap[b]? with
    | none=>rfl
    | some x =>
      rw [ho] at h;cases x with
      | cells cs el fr =>
        simp only [adG,ac3,Obj.cells.injEq,aej];have h:cs[o]? = some v:=h;have ho:=(ado.1 h);apply aeH;intro k;rw [ad1];split
        . rename_i e; subst e; rw [if_pos ho.1,h]
        . rfl
      | _=>rfl
  . rfl
 show ({ w with heap:=(w.setCell ⟨b,o,none⟩ v).heap }:World)=w;rw [e]
def mW (w:World) (r j s m0 b p:Nat) (c:Nat) (l:List AV) (vs:List Value):Prop:=∀ (q:Nat) (a:AV) (v:Value),l[q]? = some a->vs[q]? = some v->oY r j s m0 (c + q) a=true->w.cell? ⟨b,p + c + q,none⟩=some v
theorem mW.tail {w:World} {r j s m0 b p c:Nat} {a:AV} {l:List AV} {v:Value} {vs:List Value} (h:mW w r j s m0 b p c (a :: l) (v :: vs)):mW w r j s m0 b p (c + 1) l vs:=fun q a' v' h1 h2 h3=>by have:=h (q + 1) a' v' (by simpa using h1) (by simpa using h2) (by rw [show c + (q + 1)=c + 1 + q by omega]; exact h3);rw [show p + (c + 1) + q=p + c + (q + 1) by omega];exact this
theorem mW.put {w:World} {r j s m0 b p c:Nat} {l:List AV} {vs:List Value} {v:Value} (h:mW w r j s m0 b p (c + 1) l vs):mW (w.setCell ⟨b,p + c,none⟩ v) r j s m0 b p (c + 1) l vs:=fun q a' v' h1 h2 h3=>by rw [World.cell?_setCell_other _ _ _ _ (by intro e; simp at e; omega)];exact h q a' v' h1 h2 h3
theorem xN {r j s i m0:Nat} {b p:Nat}:∀ (ks':List K) (l:List AV) (vs:List Value) (st:St) (g:Gh) (w:World) (c:Nat) (st':St),Rel cx Z g st a w->bj Z g st w (.pel r j s i c) (.pointer (some ⟨b,p + c,none⟩))->aP Z g st w l vs->mW w r j s m0 b p c l vs->st.rf r j s i m0 c ks' l=some st' ->
 ∃ g',Rel cx Z g' st' a (w.setCells b (p + c) vs)/\st'.tm=st.tm/\(∀ q,q < vs.length->∃ cs el fr,w.heap[b]? = some (.cells cs el fr)/\p + c + q < cs.size/\¬ (fr.1<=p + c + q/\p + c + q < fr.2))
 | [],[],[],st,g,w,c,st',h,hp,hr,hso,ht=>by simp only [St.rf,ac3] at ht;subst ht;exact ⟨g,h,rfl,fun q hq=>by simp at hq⟩
 | [],[],_ :: _,st,g,w,c,st',h,hp,hr,_,ht=>hr.elim
 | k :: ks',av :: l,[],st,g,w,c,st',h,hp,hr,_,ht=>hr.elim
 | k :: ks',av :: l,v :: vs,st,g,w,c,st',h,hp,hr,hso,ht=>by
   have put:∀ (st1:St) (g1:Gh) (x:T k) (F:Nat->Prop),Rel cx Z g1 st1 a w->st1.tm=st.tm->gK cx Z g1 st1 w F->cO w k x v F->bj Z g1 st1 w (.pel r j s i c) (.pointer (some ⟨b,p + c,none⟩))->aP Z g1 st1 w l vs ->
    (match st1.cell r j with
      | some ⟨s',m,.own (.sl e ks) xs⟩=>bif Nat.beq s' s then (match setAt ks (eC xs i) c k x with
        | some y=>(st1.setCell r j ⟨s',m + 1,.own (.sl e ks) (List.set (aG xs) i y)⟩).rf r j s i m0 (c + 1) ks' l
        | none=>none) else none
      | _=>none)=some st' ->
    ∃ g',Rel cx Z g' st' a (w.setCells b (p + c) (v :: vs))/\st'.tm=st.tm/\(∀ q,q < (v :: vs).length->∃ cs el fr,w.heap[b]? = some (.cells cs el fr)/\p + c + q < cs.size/\¬ (fr.1<=p + c + q/\p + c + q < fr.2)):=by
    intro st1 g1 x F h1 htm hF hv hp hl hst;split at hst
    . rename_i s' m e ks xs hc;cases hs:Nat.beq s' s with
      | false=>rw [hs] at hst; simp at hst
      | true =>
        rw [hs] at hst;simp only [ac6] at hst;have es:=beq_eq hs;subst es;split at hst
        . rename_i y hy;obtain ⟨c0,k1,k2,k3⟩:=hp;rw [hc] at k1;simp only [ac3] at k1;subst k1;obtain ⟨e',ks2,xs2,f1,f2,b2,o2,l2,cap2,f3,f4⟩:=k3 rfl;simp only [RV.own.injEq,K.sl.injEq] at f1;obtain ⟨⟨rfl,rfl⟩,f1⟩:=f1;have f1:=ae8 f1;subst f1;simp only [Value.pointer.injEq,ac3,aei,aej] at f4;obtain ⟨rfl,f4⟩:=f4;obtain ⟨g2,m1,m2,m3,cs,el,fr,n1,n2,n3⟩:=h1.VJ hc f2 f3 hF hv hy;rw [<- f4] at m1 m2 n2;have hpel:bj Z g1 st1 w (.pel r j s' i (c + 1)) (.pointer (some ⟨b,p + (c + 1),none⟩)) :=
           ⟨_,hc,ac7 _,fun _=>⟨e,ks,xs,rfl,f2,b,o2,l2,cap2,f3,by rw [show p + (c + 1)=o2 + i * ks.length + (c + 1) by omega]⟩⟩
          obtain ⟨g',q1,q2,q3⟩:=xN ks' l vs _ g2 _ (c + 1) st' m1 (bj.bZ m2.bZ _ _ hpel) (aP.bZ m2.bZ _ _ hl) hso.tail.put hst;refine ⟨g',?_,q2.trans (dm.trans htm),fun q hq => ?_⟩
          . rw [show p + (c + 1)=p + c + 1 by omega] at q1;exact q1
          . cases q with
            | zero=>exact ⟨cs,el,fr,n1,n2,n3 _ n2⟩
            | succ q =>
              obtain ⟨cs',el',fr',t1,t2,t3⟩:=q3 q (by simpa using hq);rw [cY,if_pos rfl,n1] at t1;simp only [adG,ac3,Obj.cells.injEq] at t1;obtain ⟨rfl,rfl,rfl⟩:=t1;refine ⟨cs,el,fr,n1,?_,?_⟩
              . have:=t2; simp at this; omega
              . rw [show p + c + (q + 1)=p + (c + 1) + q by omega]; exact t3
        . simp at hst
    . simp at hst
   have scalar:lu k=false->(match (match st.ct k av with | some x=>bif av.bP then some (st,x) else none | none=>none) with
    | some (st1,x)=>(match st1.cell r j with
      | some ⟨s',m,.own (.sl e ks) xs⟩=>bif Nat.beq s' s then (match setAt ks (eC xs i) c k x with
        | some y=>(st1.setCell r j ⟨s',m + 1,.own (.sl e ks) (List.set (aG xs) i y)⟩).rf r j s i m0 (c + 1) ks' l
        | none=>none) else none
      | _=>none)
    | none=>none)=some st'->∃ g',Rel cx Z g' st' a (w.setCells b (p + c) (v :: vs))/\st'.tm=st.tm/\(∀ q,q < (v :: vs).length->∃ cs el fr,w.heap[b]? = some (.cells cs el fr)/\p + c + q < cs.size/\¬ (fr.1<=p + c + q/\p + c + q < fr.2)):=by
    intro hk hh;cases hra:st.ct k av with
    | none=>rw [hra] at hh; simp at hh
    | some x =>
      rw [hra] at hh;cases hf:av.bP with
      | false=>rw [hf] at hh; simp at hh
      | true => rw [hf] at hh;simp only [ac6] at hh;exact put st g x (fun _=>False) h rfl (gK.none _ _ _ _ _) (iD hk (cu h hr.1 hf hra)) hp hr.2 hh
   unfold St.rf at ht;cases hsf:st.BM r j s m0 c av with
   | true =>
     rw [hsf] at ht;simp only [ac6] at ht;unfold St.BM at hsf;simp only [ac5] at hsf;obtain ⟨hsf1,hsf2⟩:=hsf;have hv:=hso 0 av v rfl rfl hsf1;rw [adO] at hv;obtain ⟨c0,k1,k2,k3⟩:=hp;have es:c0.s=s:=by
      rw [k1] at hsf2;split at hsf2
      . rename_i s' m' e' ks2 x2 hc0;cases hc0;exact beq_eq hsf2
      . simp at hsf2
     obtain ⟨e,ks,xs,f1,f2,b2,o2,l2,cap2,f3,f4⟩:=k3 es;simp only [Value.pointer.injEq,ac3,aei,aej] at f4;obtain ⟨rfl,f4⟩:=f4;have hp':bj Z g st w (.pel r j s i (c + 1)) (.pointer (some ⟨b,p + (c + 1),none⟩)) :=
      ⟨c0,k1,k2,fun _=>⟨e,ks,xs,f1,f2,b,o2,l2,cap2,f3,by rw [show p + (c + 1)=o2 + i * ks.length + (c + 1) by omega]⟩⟩
     obtain ⟨g',q1,q2,q3⟩:=xN ks' l vs st g w (c + 1) st' h hp' hr.2 hso.tail ht;refine ⟨g',?_,q2,fun q hq => ?_⟩
     . show Rel cx Z g' st' a ((w.setCell ⟨b,p + c,none⟩ v).setCells b (p + c + 1) vs);rw [Ea hv];exact q1
     . cases q with
       | zero => have hown:=h.cell r j c0 k1;rw [f1] at hown;obtain ⟨a0,cp,g1,_,_,_,g2⟩:=(show cO w (.sl e ks) xs (g.cv r j) (g.fp r j) from hown);rw [f3] at g1;simp only [adX] at g1;obtain ⟨b3,o3,cs,el,fr,n1,_,n2,n3,_⟩:=g2 _ g1.1.symm;simp only [aei,aej] at n1;obtain ⟨rfl,_⟩:=n1;simp only [World.cell?,aed,adQ,aek,n2] at hv;have hlt:=(ado.1 hv).1;exact ⟨cs,el,fr,n2,hlt,n3 _ (by omega)⟩
       | succ q => obtain ⟨cs',el',fr',t1,t2,t3⟩:=q3 q (by simpa using hq);exact ⟨cs',el',fr',t1,by omega,by rw [show p + c + (q + 1)=p + (c + 1) + q by omega]; exact t3⟩
   | false =>
   rw [hsf] at ht;simp only [adm] at ht;cases k with
   | sl e ks1 =>
     simp only at ht;cases htk:st.dS (.sl e ks1) av with
     | none=>rw [htk] at ht; simp at ht
     | some q => obtain ⟨st1,x⟩:=q;rw [htk] at ht;simp only at ht;obtain ⟨g1,F,k1,k2,k3,k4,k5,k6,k7⟩:=fw h hr.1 htk;exact put st1 g1 x F k1 k2.tm k4 k3 (bj.bZ k2.bZ _ _ hp) (aP.bZ k2.bZ _ _ hr.2) ht
   | int _=>exact scalar rfl ht
   | bool=>exact scalar rfl ht
   | str=>exact scalar rfl ht
 | [],_ :: _,_,st,g,w,c,st',h,hp,hr,_,ht=>by simp [St.rf] at ht
 | _ :: _,[],_,st,g,w,c,st',h,hp,hr,_,ht=>by simp [St.rf] at ht
end
end Go.Av
namespace Go.Av
def kg (st st':St):Prop:=∀ r j c,st.cell r j=some c->∃ c',st'.cell r j=some c'/\c.s<=c'.s/\c.m<=c'.m/\(c'.s=c.s->c'.m=c.m->c'=c)
theorem kg.refl (st:St):kg st st:=fun r j c h=>⟨c,h,ac7 _,ac7 _,fun _ _=>rfl⟩
theorem kg.trans {a b c:St} (h1:kg a b) (h2:kg b c):kg a c:=fun r j x hx=>by obtain ⟨y,hy,s1,m1,e1⟩:=h1 r j x hx;obtain ⟨z,hz,s2,m2,e2⟩:=h2 r j y hy;exact ⟨z,hz,ady s1 s2,ady m1 m2,fun es em=>by have ey:=e1 (by omega) (by omega);subst ey;exact e2 es em⟩
theorem kg.set {st:St} {r j:Nat} {c c0:RC} (h0:st.cell r j=some c0) (hs:c0.s<=c.s) (hm:c0.m < c.m):kg st (st.setCell r j c):=fun r' j' x hx=>by
 rw [cJ];by_cases h:r=r'/\j=j'
 . obtain ⟨rfl,rfl⟩:=h;rw [if_pos ⟨rfl,rfl⟩,hx];rw [h0] at hx;cases hx;exact ⟨c,rfl,hs,afC hm,fun _ e=>by omega⟩
 . rw [if_neg h];exact ⟨x,hx,ac7 _,ac7 _,fun _ _=>rfl⟩
theorem xu {α:Type} {c:Bool} {x:Option α} {y:α} (h:(bif c then x else none)=some y):c=true/\x=some y:=by cases c <;> simp_all
theorem I4 {st st':St} {a:AV} {p:(k:K)×T k} (h:st.take a=some (st',p)):kg st st':=by
 unfold St.take at h;split at h
 . split at h
   . rename_i hc;obtain ⟨_,h⟩:=xu h;simp only [ac3,adF] at h;obtain ⟨rfl,_⟩:=h;exact kg.set hc (afi _) (ael _)
   . simp at h
 . split at h
   . rename_i hc;obtain ⟨_,h⟩:=xu h;simp only [ac3,adF] at h;obtain ⟨rfl,_⟩:=h;exact kg.set hc (afi _) (ael _)
   . simp at h
 . simp at h
theorem El {st st':St} {k:K} {a:AV} {x:T k} (h:st.dS k a=some (st',x)):kg st st':=by
 unfold St.dS at h;split at h
 . simp only [ac3,adF] at h;obtain ⟨rfl,_⟩:=h;exact kg.refl _
 . split at h
   . rename_i st1 k' y hy;split at h
     . simp only [ac3,adF] at h;obtain ⟨rfl,_⟩:=h;exact I4 hy
     . simp at h
   . simp at h
mutual
theorem zC:∀ k:K,K.same k k=true
 | .int a=>by simp [K.same]
 | .bool=>rfl
 | .str=>rfl
 | .sl e ks=>by simp [K.same,yo ks]
theorem yo:∀ ks:List K,K.jW ks ks=true
 | []=>rfl
 | k :: ks=>by simp [K.jW,zC k,yo ks]
end
theorem CH (k:K) (x:T k):gV k k x=some x:=by
 unfold gV;split
 . rfl
 . rename_i h; rw [zC] at h; simp at h
theorem wQ:∀ (ks:List K) (z:Tl ks) (c:Nat) (k:K) (x:T k),cellAt ks z c=some ⟨k,x⟩->setAt ks z c k x=some z
 | [],_,_,_,_,h=>by simp [cellAt] at h
 | k :: ks,z,0,k',x,h=>by simp only [cellAt,ac3,Sigma.mk.injEq] at h;obtain ⟨rfl,h⟩:=h;have h:=ae8 h;subst h;simp only [setAt,CH];rfl
 | k :: ks,z,c + 1,k',x,h=>by simp only [setAt,wQ ks z.2 c k' x h];rfl
theorem wM:∀ (ks:List K) (z y:Tl ks) (c q:Nat) (k:K) (x:T k),setAt ks z c k x=some y->q≠c->cellAt ks y q=cellAt ks z q
 | [],_,_,_,_,_,_,h,_=>by simp [setAt] at h
 | k0 :: ks,z,y,0,q,k,x,h,hq=>by
   simp only [setAt] at h;split at h
   . cases h;cases q with
     | zero=>exact absurd rfl hq
     | succ q=>rfl
   . simp at h
 | k0 :: ks,z,y,c + 1,q,k,x,h,hq=>by
   simp only [setAt] at h;split at h
   . rename_i z' hz;cases h;cases q with
     | zero=>rfl
     | succ q=>exact wM ks z.2 z' c q k x hz (by omega)
   . simp at h
def MI (ks0:List K):Tl ks0->Nat->(ks:List K)->Tl ks->Option (Tl ks0)
 | z,_,[],_=>some z
 | z,c,k :: ks,y=>match setAt ks0 z c k y.1 with | some z'=>MI ks0 z' (c + 1) ks y.2 | none=>none
theorem Cb {k0:K} {ks0:List K}:∀ (ks:List K) (z z':Tl (k0 :: ks0)) (c:Nat) (y:Tl ks),MI (k0 :: ks0) z (c + 1) ks y=some z'->∃ u,z'=(z.1,u)/\MI ks0 z.2 c ks y=some u
 | [],z,z',c,y,h=>by simp only [MI,ac3] at h;subst h;exact ⟨z.2,rfl,rfl⟩
 | k :: ks,z,z',c,y,h=>by
   simp only [MI,setAt] at h ⊢;cases hs:setAt ks0 z.2 c k y.1 with
   | none=>rw [hs] at h; simp at h
   | some u => rw [hs] at h;exact Cb ks (z.1,u) z' (c + 1) y.2 h
theorem Cd:∀ (ks:List K) (z y z':Tl ks),MI ks z 0 ks y=some z'->z'=y
 | [],_,_,_,_=>rfl
 | k :: ks,z,y,z',h=>by simp only [MI,setAt,CH] at h;obtain ⟨u,e1,e2⟩:=Cb ks (y.1,z.2) z' 0 y.2 h;have:=Cd ks z.2 y.2 u e2;subst this;exact e1
theorem C1 {e:TypeId} {ks:List K} (xs:T (.sl e ks)) (i:Nat) (y:Tl ks):(aG (e:=e) (List.set (aG xs) i y)).length=(aG xs).length:=afr
theorem Cm {e:TypeId} {ks:List K} (xs:T (.sl e ks)) {i:Nat} (y:Tl ks) (h:i < (aG xs).length):eC (e:=e) (List.set (aG xs) i y) i=y:=by show (List.set (aG xs) i y).getD i _=y;simp [List.getD,h]
theorem Jz {st:St} {r j:Nat} {c c':RC} (h:st.cell r j=some c):(st.setCell r j c').cell r j=some c':=by rw [cJ,if_pos ⟨rfl,rfl⟩,h]; rfl
section
variable {r j s i m0:Nat} {e:TypeId} {ks0:List K} {z0:Tl ks0}
theorem p9:∀ (ks:List K) (l:List AV) (c:Nat) (st stf:St) (y:Tl ks) (xc:T (.sl e ks0)) (m:Nat),st.cell r j=some ⟨s,m,.own (.sl e ks0) xc⟩->i < (aG xc).length->(∀ q,c<=q->cellAt ks0 (eC xc i) q=cellAt ks0 z0 q) ->
 st.uI r j s i m0 ks0 z0 c ks l=some (stf,y)->st.rf r j s i m0 c ks l=some stf/\∃ (mf:Nat) (z:Tl ks0),MI ks0 (eC xc i) c ks y=some z/\stf.cell r j=some ⟨s,mf,.own (.sl e ks0) (List.set (aG xc) i z)⟩
 | [],[],c,st,stf,y,xc,m,hc,hi,hq,h=>by
   simp only [St.uI,ac3,adF] at h;obtain ⟨rfl,_⟩:=h;refine ⟨rfl,m,eC xc i,rfl,?_⟩;rw [hc];have:List.set (aG xc) i (eC xc i)=aG xc:=by
    apply afG;intro n;rw [ae5];split
    . rename_i e; subst e;simp [eC,List.getD,hi]
    . rfl
   rw [this];rfl
 | [],_ :: _,_,_,_,_,_,_,_,_,_,h=>by simp [St.uI] at h
 | _ :: _,[],_,_,_,_,_,_,_,_,_,h=>by simp [St.uI] at h
 | k :: ks,a :: l,c,st,stf,y,xc,m,hc,hi,hq,h=>by
   unfold St.uI at h;unfold St.rf;cases hsf:st.BM r j s m0 c a with
   | true =>
     rw [hsf] at h;simp only [ac6] at h ⊢;split at h
     . rename_i z hz;split at h
       . rename_i x q hx hrec;simp only [ac3,adF] at h;obtain ⟨rfl,rfl⟩:=h;obtain ⟨h1,mf,z1,h2,h3⟩:=p9 ks l (c + 1) st q.1 q.2 xc m hc hi (fun q hq'=>hq q (by omega)) hrec;refine ⟨h1,mf,z1,?_,h3⟩;obtain ⟨ek,hx⟩:=cF hx;obtain ⟨k',z⟩:=z;simp only at ek hx;subst ek;subst hx;have:=hq c (ac7 _);rw [hz] at this;simp only [MI,wQ ks0 (eC xc i) c k' z this];exact h2
       . simp at h
     . simp at h
   | false =>
     rw [hsf] at h;simp only [adm] at h ⊢;split at h;rotate_left
     . simp at h
     . rename_i st1 x hx;have hver:kg st st1:=by
        split at hx
        . exact El hx
        . split at hx
          . obtain ⟨_,hx⟩:=xu hx;simp only [ac3,adF] at hx;obtain ⟨rfl,_⟩:=hx;exact kg.refl _
          . simp at hx
       obtain ⟨c1,hc1,v1,v2,v3⟩:=hver r j _ hc;split at h
       . rename_i s' m' e' ks' xs hcc;rw [hc1] at hcc;cases hcc;obtain ⟨hb,h⟩:=xu h;simp only [ac5] at hb;have es:=beq_eq hb.1;have em:=beq_eq hb.2;have em':st.IA r j=m:=by unfold St.IA; rw [hc]
         have:=v3 es (em.trans em');simp only [RC.mk.injEq,RV.own.injEq,K.sl.injEq] at this;obtain ⟨_,_,⟨he,hk⟩,hx⟩:=this;have he:=he.symm;have hk:=hk.symm;subst he;subst hk;have hx:=ae8 hx;subst hx;split at h
         . rename_i y1 hy1;split at h
           . rename_i q hrec;simp only [ac3,adF] at h;obtain ⟨rfl,rfl⟩:=h;have es2:=es.symm;subst es2;obtain ⟨h1,mf,z1,h2,h3⟩:=p9 ks l (c + 1) _ q.1 q.2 (List.set (aG xs) i y1) _ (Jz hc1) (by rw [C1]; exact hi) (fun q hq'=>by
              rw [Cm xs y1 hi,wM ks0 _ _ c q k x hy1 (by omega)];exact hq q (by omega)) hrec
             refine ⟨?_,mf,z1,?_,?_⟩
             . rw [hb.1];exact h1
             . rw [Cm xs y1 hi] at h2;simp only [MI,hy1];exact h2
             . rw [h3];have:List.set (aG (e:=e) (List.set (aG xs) i y1)) i z1=List.set (aG xs) i z1:=List.set_set ..
               rw [this]
           . simp at h
         . simp at h
       . simp at h
end
theorem CG {α:Type}:∀ (l:List (Nat×α)) (n:Nat) (x:α),look l n=some x->RJ l n x=l
 | [],n,x,h=>by simp [look] at h
 | (k,y) :: r,n,x,h=>by
   unfold RJ;rw [ba] at h;cases hb:Nat.beq k n with
   | true => have e:=beq_eq hb;subst e;rw [if_pos rfl] at h;cases h;rfl
   | false =>
     have hne:k≠n:=fun e=>by subst e; simp at hb
     rw [if_neg hne] at h;simp only [adm];rw [CG r n x h]
theorem uD {α:Type}:∀ (l:List α) (j:Nat) (x:α),l[j]? = some x->jK l j x=l
 | [],j,x,h=>by simp at h
 | y :: r,0,x,h=>by simp at h; subst h; rfl
 | y :: r,j + 1,x,h=>by simp only [jK]; rw [uD r j x (by simpa using h)]
theorem BO {st:St} {r j:Nat} {c:RC} (h:st.cell r j=some c):st.setCell r j c=st:=by
 unfold St.setCell;unfold St.cell at h;cases hl:look st.rt r with
 | none=>rfl
 | some R => rw [hl] at h;simp only at h ⊢;rw [uD _ _ _ h,CG _ _ _ hl]
theorem LM {st st':St} {r j s i m:Nat} {e:TypeId} {ks0 ks:List K} {xs:T (.sl e ks0)} {l:List AV} (hc:st.cell r j=some ⟨s,m,.own (.sl e ks0) xs⟩) (hi:i < (aG xs).length) (h:st.LZ r j s i ks l=some st'):st.rf r j s i (st.IA r j) 0 ks l=some st':=by
 unfold St.LZ at h;rw [hc] at h;simp only at h;have em:st.IA r j=m:=by unfold St.IA; rw [hc]
 rw [em];split at h
 . rename_i q hq;obtain ⟨h1,mf,z,h2,h3⟩:=p9 ks l 0 st q.1 q.2 xs m hc hi (fun _ _=>rfl) hq;split at h
   . rename_i y c1 hy hc1;obtain ⟨_,h⟩:=xu h;simp only [ac3] at h;obtain ⟨ek,hy⟩:=uz hy;subst ek;subst hy;rw [h3] at hc1;cases hc1;rw [Cd _ _ _ _ h2] at h3;rw [BO h3] at h;rw [<- h];exact h1
   . simp at h
 . simp at h
end Go.Av
