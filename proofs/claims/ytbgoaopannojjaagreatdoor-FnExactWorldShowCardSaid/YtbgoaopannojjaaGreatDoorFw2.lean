/- Part of a proof that the law FnExactWorldShow answers true for every input: the framework, an evaluator over symbolic data and why it is right. No conditions beyond the statement. -/
import Derived.Test.YtbgoaopannojjaaGreatDoorFw1
import Derived.Orders
import Derived.Conc.MuLone
namespace Go.Av
open Go.RowKit (Below)
def cellsOf:Bool->Value->List Value
 | true,.agg vs=>vs.toList
 | _,v=>[v]
theorem GW.eq {gg:Bool} {v:Value} {cs:List Value} (h:GW gg v cs):cellsOf gg v=cs:=by
 cases gg with
 | true=>have h:v= .agg cs.toArray:=h; subst h; simp [cellsOf]
 | false=>have h:cs=[v]:=h; subst h; cases v <;> rfl
def kf:List K->List Value->List Value
 | .sl _ _ :: ks,v :: vs=>v :: kf ks vs
 | .int _ :: ks,_ :: vs=>kf ks vs
 | .bool :: ks,_ :: vs=>kf ks vs
 | .str :: ks,_ :: vs=>kf ks vs
 | _,_=>[]
def tk:List (Bool×List K)->List Value->List Value
 | (gg,ks) :: rs,v :: vs=>kf ks (cellsOf gg v) ++ tk rs vs
 | _,_=>[]
theorem dD:∀ (ks:List K) (x:Tl ks),(jr ks x).length=bf ks
 | [],_=>rfl
 | .sl _ _ :: ks,x=>acT (· + 1) (dD ks x.2)
 | .int _ :: ks,x=>dD ks x.2
 | .bool :: ks,x=>dD ks x.2
 | .str :: ks,x=>dD ks x.2
section
variable {Z:Nat->Prop} {g:Gh} {st:St} {w:World}
theorem eb {H:Nat->Nat->Prop}:∀ (ks:List K) (x:Tl ks) (cs:List Value) (j:Nat),aM true Z w H ks x cs j->(kf ks cs).length=bf ks /\
 ∀ (i:Nat) (c:RC),(jr ks x)[i]? = some c->∃ (e:TypeId) (ks':List K) (y:T (.sl e ks')) (v:Value),c=⟨0,0,.own (.sl e ks') y⟩/\(kf ks cs)[i]? = some v/\cK w (.sl e ks') y v (H (j + i))
 | [],_,[],_,_=>⟨rfl,fun i c h=>by simp [jr] at h⟩
 | .sl e ks' :: ks,x,v :: vs,j,h=>by
   obtain ⟨h1,h2⟩:=eb ks x.2 vs (j + 1) h.2;refine ⟨acT (· + 1) h1,fun i c hi => ?_⟩;cases i with
   | zero => simp only [jr,acj,ab6] at hi;exact ⟨e,ks',x.1,v,hi.symm,rfl,h.1⟩
   | succ i => simp only [jr,ada] at hi;obtain ⟨e',k',y,u,g1,g2,g3⟩:=h2 i c hi;exact ⟨e',k',y,u,g1,g2,by rw [show j + (i + 1)=j + 1 + i by omega]; exact g3⟩
 | .int _ :: ks,x,v :: vs,j,h=>eb ks x.2 vs j h.2
 | .bool :: ks,x,v :: vs,j,h=>eb ks x.2 vs j h.2
 | .str :: ks,x,v :: vs,j,h=>eb ks x.2 vs j h.2
 | [],_,_ :: _,_,h=>h.elim
 | .sl _ _ :: _,_,[],_,h=>h.elim
 | .int _ :: _,_,[],_,h=>h.elim
 | .bool :: _,_,[],_,h=>h.elim
 | .str :: _,_,[],_,h=>h.elim
theorem mg {H:Nat->Nat->Prop}:∀ (rs:List (Bool×List K)) (y:CT rs) (vs:List Value) (j:Nat),kn true Z w H rs y vs j ->
 ∀ (i:Nat) (c:RC),(cI rs y)[i]? = some c->∃ (e:TypeId) (ks':List K) (y:T (.sl e ks')) (v:Value),c=⟨0,0,.own (.sl e ks') y⟩/\(tk rs vs)[i]? = some v/\cK w (.sl e ks') y v (H (j + i))
 | [],_,_,_,_,i,c,h=>by simp [cI] at h
 | (gg,ks) :: rs,y,v :: vs,j,h,i,c,hi=>by
   obtain ⟨⟨cs,e1,e2⟩,h3⟩:=h;obtain ⟨h1,h2⟩:=eb ks y.1 cs j e2;have hl:=dD ks y.1;simp only [cI] at hi;simp only [tk,e1.eq];rcases acn i (bf ks) with hlt | hge
   . rw [ac7 (by omega)] at hi;obtain ⟨e,k',z,u,g1,g2,g3⟩:=h2 i c hi;exact ⟨e,k',z,u,g1,by rw [ac7 (by omega)]; exact g2,g3⟩
   . rw [ac1 (by omega),hl] at hi;obtain ⟨e,k',z,u,g1,g2,g3⟩:=mg rs y.2 vs (j + bf ks) h3 (i - bf ks) c hi;exact ⟨e,k',z,u,g1,by rw [ac1 (by omega),h1]; exact g2,by rw [show j + i=j + bf ks + (i - bf ks) by omega]; exact g3⟩
 | _ :: _,_,[],_,h,_,_,_=>h.elim
theorem fm {Z':Nat->Prop} {H:Nat->Nat->Prop} {d:Nat}:∀ (ks:List K) (x:Tl ks) (cs:List Value) (j:Nat),aM true Z w H ks x cs j ->
 (∀ (i:Nat) (c:RC),(jr ks x)[i]? = some c->st.cell d (j + i)=some c)->(∀ (i:Nat) (v:Value),(kf ks cs)[i]? = some v->g.cv d (j + i)=v)->aN Z' g st w (dO d true ks x j) cs
 | [],_,[],_,_,_,_=>trivial
 | .sl e ks' :: ks,x,v :: vs,j,h,h1,h2=>by
   refine ⟨⟨_,h1 0 _ rfl,acb _,fun _=>(h2 0 v rfl).symm⟩,fm ks x.2 vs (j + 1) h.2 (fun i c hi => ?_) (fun i u hi => ?_)⟩
   . rw [show j + 1 + i=j + (i + 1) by omega]; exact h1 (i + 1) c hi
   . rw [show j + 1 + i=j + (i + 1) by omega]; exact h2 (i + 1) u hi
 | .int _ :: ks,x,v :: vs,j,h,h1,h2=>⟨ej (Z':=Z') rfl h.1,fm ks x.2 vs j h.2 h1 h2⟩
 | .bool :: ks,x,v :: vs,j,h,h1,h2=>⟨ej (Z':=Z') (k:= .bool) rfl h.1,fm ks x.2 vs j h.2 h1 h2⟩
 | .str :: ks,x,v :: vs,j,h,h1,h2=>⟨ej (Z':=Z') (k:= .str) rfl h.1,fm ks x.2 vs j h.2 h1 h2⟩
 | [],_,_ :: _,_,h,_,_=>h.elim
 | .sl _ _ :: _,_,[],_,h,_,_=>h.elim
 | .int _ :: _,_,[],_,h,_,_=>h.elim
 | .bool :: _,_,[],_,h,_,_=>h.elim
 | .str :: _,_,[],_,h,_,_=>h.elim
theorem ux {gg:Bool} {l:List AV} {v:Value} {cs:List Value} (h:GW gg v cs) (hr:aN Z g st w l cs):p9 Z g st w (gg,l) v:=by
 cases gg with
 | true=>exact ⟨cs.toArray,h,by simpa using hr⟩
 | false =>
   have h:cs=[v]:=h;subst h
   match l,hr with
   | [a],hr=>exact hr.1
   | [],hr=>exact hr.elim
   | _ :: _ :: _,hr=>exact hr.2.elim
theorem xi {Z':Nat->Prop} {H:Nat->Nat->Prop} {d:Nat}:∀ (rs:List (Bool×List K)) (y:CT rs) (vs:List Value) (j:Nat),kn true Z w H rs y vs j ->
 (∀ (i:Nat) (c:RC),(cI rs y)[i]? = some c->st.cell d (j + i)=some c)->(∀ (i:Nat) (v:Value),(tk rs vs)[i]? = some v->g.cv d (j + i)=v)->fw Z' g st w (om d true rs y j) vs
 | [],_,[],_,_,_,_=>trivial
 | (gg,ks) :: rs,y,v :: vs,j,h,h1,h2=>by
   obtain ⟨⟨cs,e1,e2⟩,h3⟩:=h;obtain ⟨l1,_⟩:=eb ks y.1 cs j e2;have hl:=dD ks y.1;refine ⟨ux e1 (fm ks y.1 cs j e2 (fun i c hi=>h1 i c ?_) (fun i u hi=>h2 i u ?_)),xi rs y.2 vs (j + bf ks) h3 (fun i c hi => ?_) (fun i u hi => ?_)⟩
   . have:i < bf ks:=by
      rw [<- hl];rcases acn i (jr ks y.1).length with hh | hh
      . exact hh
      . simp [acq hh] at hi
     simp only [cI];rw [ac7 (by omega)];exact hi
   . have:i < bf ks:=by
      rw [<- l1];rcases acn i (kf ks cs).length with hh | hh
      . exact hh
      . simp [acq hh] at hi
     simp only [tk,e1.eq];rw [ac7 (by omega)];exact hi
   . rw [show j + bf ks + i=j + (bf ks + i) by omega];refine h1 _ c ?_;simp only [cI];rw [ac1 (by omega),hl,adp];exact hi
   . rw [show j + bf ks + i=j + (bf ks + i) by omega];refine h2 _ u ?_;simp only [tk,e1.eq];rw [ac1 (by omega),l1,adp];exact hi
 | [],_,_ :: _,_,h,_,_=>h.elim
 | _ :: _,_,[],_,h,_,_=>h.elim
theorem fC {fresh:Bool} {Z':Nat->Prop} {H:Nat->Nat->Prop} {d:Nat}:∀ (ks:List K) (x:Tl ks) (cs:List Value) (j:Nat),aM fresh Z w H ks x cs j->(fresh=false->Z'=Z)->(fresh=true->bf ks=0)->aN Z' g st w (dO d fresh ks x j) cs
 | [],_,[],_,_,_,_=>trivial
 | .sl e ks' :: ks,x,v :: vs,j,h,h1,h2=>by
   cases fresh with
   | true=>exact absurd (h2 rfl) (by simp [bf])
   | false => exact ⟨(show RO Z' w (.sl e ks') x.1 v from h1 rfl ▸ h.1),fC ks x.2 vs j h.2 h1 (fun hh=>by simp at hh)⟩
 | .int _ :: ks,x,v :: vs,j,h,h1,h2=>⟨ej (Z':=Z') rfl h.1,fC ks x.2 vs j h.2 h1 h2⟩
 | .bool :: ks,x,v :: vs,j,h,h1,h2=>⟨ej (Z':=Z') (k:= .bool) rfl h.1,fC ks x.2 vs j h.2 h1 h2⟩
 | .str :: ks,x,v :: vs,j,h,h1,h2=>⟨ej (Z':=Z') (k:= .str) rfl h.1,fC ks x.2 vs j h.2 h1 h2⟩
 | [],_,_ :: _,_,h,_,_=>h.elim
 | .sl _ _ :: _,_,[],_,h,_,_=>h.elim
 | .int _ :: _,_,[],_,h,_,_=>h.elim
 | .bool :: _,_,[],_,h,_,_=>h.elim
 | .str :: _,_,[],_,h,_,_=>h.elim
theorem kx {fresh:Bool} {Z':Nat->Prop} {H:Nat->Nat->Prop} {d:Nat}:∀ (rs:List (Bool×List K)) (y:CT rs) (vs:List Value) (j:Nat),kn fresh Z w H rs y vs j->(fresh=false->Z'=Z)->(fresh=true->lQ rs=false)->fw Z' g st w (om d fresh rs y j) vs
 | [],_,[],_,_,_,_=>trivial
 | (gg,ks) :: rs,y,v :: vs,j,h,h1,h2=>by
   obtain ⟨⟨cs,e1,e2⟩,h3⟩:=h;have h4:fresh=true->bf ks=0/\lQ rs=false:=fun hf=>by have:=h2 hf;simp only [lQ,adN,aeo] at this;exact ⟨beq_eq this.1,this.2⟩
   exact ⟨ux e1 (fC ks y.1 cs j e2 h1 fun hf=>(h4 hf).1),kx rs y.2 vs _ h3 h1 fun hf=>(h4 hf).2⟩
 | [],_,_ :: _,_,h,_,_=>h.elim
 | _ :: _,_,[],_,h,_,_=>h.elim
theorem gn {l:List (Bool×List AV)} {vs:List Value} {tv:TV} (h:fw Z g st w l vs) (hw:fK l=some tv):bl Z g st w tv (yM vs):=by
 match l,vs,h,hw with
 | [(true,l)],[v],h,hw=>simp only [fK,ab6] at hw; subst hw; exact h.1
 | [(false,[a])],[v],h,hw=>simp only [fK,ab6] at hw; subst hw; exact h.1
 | [(false,[])],[v],h,hw=>simp [fK] at hw
 | [(false,_ :: _ :: _)],[v],h,hw=>simp [fK] at hw
 | [],[],h,hw=>simp only [fK,ab6] at hw; subst hw; exact ⟨#[],rfl,trivial⟩
 | p :: q :: r,u :: v :: vs,h,hw =>
   have hw:some (TV.tup (p :: q :: r))=some tv:=by rw [<- hw];obtain ⟨b,l⟩:=p;cases b <;> (try cases l) <;> first | rfl | (rename_i _ l; cases l <;> rfl)
   simp only [ab6] at hw;subst hw;exact ⟨(u :: v :: vs).toArray,rfl,by simpa using h⟩
 | [],_ :: _,h,_=>exact h.elim
 | [_],[],h,_=>exact h.elim
 | [_],_ :: _ :: _,h,_=>exact h.2.elim
 | _ :: _ :: _,[],h,_=>exact h.elim
 | _ :: _ :: _,[_],h,_=>exact h.2.elim
end
section
variable {P:Program} {cx:Cx P} {Z:Nat->Prop} {g:Gh} {st:St} {a:Act} {w:World} {E:En}
theorem Ae {o:Oper} {next:Act->World->Prop} {Q:Exit->Act->World->Prop} {r:Result Next} {R:Value->World->Prop} (h:BV P R r) (hR:∀ v w',R v w'->next (a.put o.dst v) w'):o.upon P a next Q r:=by
 unfold BV at h;split at h
 . exact hR _ _ h
 . exact Calls.mono h fun e w' he=>by cases e <;> first | exact hR _ _ he | exact he.elim
 . exact h.elim
theorem wv {o:Oper} {c:Call} {f:Operand} {gid:Nat} {vs:Array Value} (ho:o.op= .call c) (hcal:c.callee= .value f) (hv:a.eval f= .func (.func gid) #[] vs) :
 (execOp a.eval o).run P w=(callFunc gid (c.args.map a.eval ++ vs)).run P w:=by
 simp only [execOp,ho,resolve,hcal,Deferred.ofValue,hv,acy,acR,ack,invoke,Array.empty_append]
theorem QG (hga:de P E) (h:Rel cx Z g st a w) (hc:Cons st) {o:Oper} {d:Nat} (hd:o.dst=some d) (hdn:iX cx a d) (hf:st.free d=true) {c:Call} {f:Operand} {gid:Nat} {caps:List (Bool×List AV)} {l:List TV} {s:Su} {x:PT s.ps} {z:tz s.ps} {y:CT s.rs} {p:TV×Option Rt}
 (ho:o.op= .call c) (hcal:c.callee= .value f) (hg:st.get f=some (.fn gid caps)) (hl:st.getAll c.args.toList=some l) (hs:s∈E.ga gid)
 (hx:st.args (!s.fresh) s.ps (l ++ caps.map fun p=>bif p.1 then .agg p.2 else (match p.2 with | [a]=> .v a | _=> .agg p.2))=some x) (hy:s.tQ x=some (z,y)) (hp:fh d s y=some p):cR P cx st a w o d p:=by
 obtain ⟨cv,ef,ec⟩:=aK h hc hg;intro next Q hk;unfold Oper.wp;rw [wv ho hcal ef];have hrel:=fz.app (jS h hc _ _ hl) (kX _ _ ec);have hvs:c.args.toList.map a.eval ++ cv.toList=(c.args.map a.eval ++ cv).toList:=by simp
 rw [hvs] at hrel;obtain ⟨Zc,hz1,hz2,hz3,hz4⟩:∃ Zc:Nat->Prop,(∀ b,Z b->b < w.heap.size->Zc b)/\((!s.fresh)=false->Zc=fx w)/\(∀ b,Zc b->b < w.heap.size)/\(s.fresh=false->Zc=Z):=by
  cases hfr:s.fresh with
  | true=>exact ⟨fx w,fun _ _ h=>h,fun _=>rfl,fun _ h=>h,fun h=>by simp at h⟩
  | false=>exact ⟨Z,fun _ h _=>h,fun h=>by simp at h,fun b hb=>(h.bN b hb).1,fun _=>rfl⟩
 have hargs:=rk h (!s.fresh) hz1 hz2 (F:=fun _ _=>False) s.ps _ _ x 0 hrel hx;have hsu:=hga gid s hs w Zc (fun _ _=>False) _ x (z,y) (h.gl.mono (acb _) fun b hb hl=>⟨hz1 b hb hl,rfl⟩) hargs hz3 (fun _ _ h=>h.elim) (fun _ _ _ h=>h.elim) hy;refine Ae hsu ?_;rintro v w' ⟨Z',H,vs,rfl,ha,_,hr⟩;rw [hd];have hblk:∀ b,b < w.heap.size->w'.heap[b]? = w.heap[b]? := fun b hb=>ha.block b hb (fun _ h=>h)
 have hnew:∀ n b,H n b->w.heap.size<=b/\b < w'.heap.size:=fun n b hb=>by
  obtain ⟨h1,_,h3⟩:=ha.fp n b hb;rcases h3 with ⟨_,h3⟩ | h3
  . exact h3.elim
  . exact ⟨h3,h1⟩
 unfold fh at hp;split at hp
 . rename_i tv hw;simp only [ab6] at hp;cases hb:s.fresh && lQ s.rs with
   | false =>
     rw [hb] at hp;subst hp;have hn:s.fresh=true->lQ s.rs=false:=fun hh=>by simpa [hh] using hb
     cases hfr:s.fresh with
     | false => have hzz:=hz4 hfr;subst hzz;have hrel':=Rel.zS h ha.os ha.tape ha.output ha.size hblk ha.z (fun b hb=>by obtain ⟨h1,h2⟩:=ha.bN b hb;exact h2.imp id fun h2=>⟨h2,h1⟩);exact hk _ _ _ _ (hrel'.gj hdn (gn (kx _ _ _ _ hr (fun _=>rfl) hn) hw))
     | true => have hrel':=Rel.zS h (Z':=Z) ha.os ha.tape ha.output ha.size hblk (fun _ h=>h) (fun b hb=> .inl hb);exact hk _ _ _ _ (hrel'.gj hdn (gn (kx _ _ _ _ hr (fun hh=>by rw [hfr] at hh; simp at hh) hn) hw))
   | true =>
     rw [hb] at hp;subst hp;simp only [ab8] at hb;have hfr:=hb.1;rw [hfr] at hr hw;have hlook:∀ (i:Nat) (c:RC),(cI s.rs y)[i]? = some c->(st.az d (tv,some ⟨false,cI s.rs y⟩)).cell d (0 + i)=some c:=fun i c hi=>by show (match look ((d,_) :: st.rt) d with | some R=>R.cells[0 + i]? | none=>none)=_;rw [aW,if_pos rfl,acz];exact hi
     refine hk Z (g.at d 0 (fun j=>(tk s.rs vs).getD j undef) (fun j b=>j < (cI s.rs y).length/\H (2 * j + 1) b)) _ _ (Rel.zn h hdn hf ?_ ?_)
     . refine { os:=ha.os,tape:=ha.tape,output:=ha.output,size:=ha.size,block:=hblk,bN:=fun b hb=> .inl hb,zle:=fun _ h=>h,fp := ?_,disj := ?_,box:=fun hb=>by simp at hb,cell := ?_ }
       . intro j b hb;simp only [Gh.at,if_true] at hb;obtain ⟨h1,h2⟩:=hnew _ _ hb.2;obtain ⟨e,ks',x',v',g1,g2,g3⟩:=mg _ _ _ _ hr j _ (acm hb.1);exact ⟨h1,h2,fun hz=>by have:=(h.bN b hz).1; omega,_,_,x',acm hb.1,by rw [g1]⟩
       . intro j j' b h1 h2;simp only [Gh.at,if_true] at h1 h2;have:=ha.disj _ _ b h1.2 h2.2;omega
       . intro j c hj;obtain ⟨e,ks',x',v',g1,g2,g3⟩:=mg _ _ _ _ hr j c hj;subst g1;have hjl:j < (cI s.rs y).length:=by
          rcases acn j (cI s.rs y).length with hh | hh
          . exact hh
          . simp [acq hh] at hj
         show cK w' (.sl e ks') x' _ _;simp only [Gh.at,if_true,List.getD,g2,adW];rw [acz] at g3;exact cK.frame _ _ _ _ _ (fun b hb=>⟨hjl,hb⟩) (fun _ _ _=>rfl) g3
     . refine gn (xi _ _ _ _ hr hlook fun i v hi => ?_) hw;simp [Gh.at,List.getD,hi]
 . simp at hp
theorem Tw (hT:bG P E) (h:Rel cx Z g st a w) (hc:Cons st) {o:Oper} {d:Nat} (hd:o.dst=some d) (hdn:iX cx a d) {c:Call} (ho:o.op= .call c) (hcal:c.callee= .builtin .cap) {x:Operand} {t:Nat} {ts:List Nat} (hargs:c.args.toList=[x]) (hts:c.argTypes.toList=t :: ts) {te:TI}
 (ht:E.sl t=some te) {tv:TV} (hx:st.get x=some tv) (hb:ea tv=true):cR P cx st a w o d (.v (.d (.int .i64) (0:Int)),none):=by
 have ev:a.eval x= .slice none 0 0:=rV (aK h hc hx) hb;have hargs':c.args = #[x]:=by rw [<- adb (xs:=c.args),hargs]
 have hts0:c.argTypes[0]? = some t:=by rw [<- acf,hts]; rfl
 obtain ⟨_,_,_,_,_,_,hu⟩:=dX hT ht;have hb:(Builtin.cap_ c.argTypes o.type #[.slice none 0 0]).run P w= .ok (.int .i64 0) w:=by simp [Builtin.cap_,hts0,acK hu,goInt]
 have hrun:(execOp a.eval o).run P w= .ok (.value (.int .i64 0)) w:=by simp only [execOp,ho,resolve,hcal,hargs',acy,acR,ack,invoke,builtin,adJ,ads,ad6,ev,hb]
 exact bQ h hd hdn hrun ⟨rfl,by unfold kZ; decide⟩
end
end Go.Av
namespace Go.Av
open Go.RowKit (Below)
section
variable {st st':St}
theorem jn {t:Tr AV} {p:TV×Option Rt} (h:(t.bind fun a=>Tr.ret (TV.v a,(none:Option Rt))).run=some p):∃ av,t.run=some av/\p=(.v av,none):=by
 rw [Tr.run_bind] at h;cases ht:t.run with
 | none=>simp [ht] at h
 | some av=>simp only [ht,acE,Tr.run,ab6] at h; exact ⟨av,rfl,h.symm⟩
theorem Ext.indexAddr (x:Ext st st') {sz:Nat} {tv:TV} {n:Int} {p:AV} (h:(st.indexAddr sz tv n).run=some p):(st'.indexAddr sz tv n).run=some p:=by
 unfold St.indexAddr at h ⊢;split at h
 . rename_i r j s;cases hc:st.cell r j with
   | none=>simp [hc,Tr.run] at h
   | some c=>rw [hc] at h; rw [x.cell hc]; exact h
 . exact h
 . rename_i r j s m e ks xs;cases hc:st.cell r j with
   | none=>simp [hc,Tr.run] at h
   | some c=>rw [hc] at h; rw [x.cell hc]; exact h
 . rename_i r j s m i c;cases hc:st.cell r j with
   | none=>simp [hc,Tr.run] at h
   | some c=>rw [hc] at h; rw [x.cell hc]; exact h
 . simp [Tr.run] at h
theorem Ext.rF {β:Type} (x:Ext st st') {lo hi:Option Operand} {n:Nat} {f:Int×Int->Tr β} {p:β} (h:(Tr.bo (Av.jJ st lo hi n) f).run=some p):(Tr.bo (Av.jJ st' lo hi n) f).run=some p:=by obtain ⟨q,h1,h2⟩:=Tr.af h;rw [x.jJ h1];exact h2
theorem Ext.lZ (x:Ext st st') {tv:TV} {lo hi:Option Operand} {p:AV} (h:(st.lZ tv lo hi).run=some p):(st'.lZ tv lo hi).run=some p:=by
 unfold St.lZ at h ⊢;split at h
 . rename_i s hs;exact x.rF h
 . simp [Tr.run] at h
theorem Ext.l4 (x:Ext st st') {sz:Nat} {tv:TV} {lo hi:Option Operand} {p:AV} (h:(st.l4 sz tv lo hi).run=some p):(st'.l4 sz tv lo hi).run=some p:=by
 unfold St.l4 at h ⊢;split at h
 . exact x.rF h
 . rename_i e ks xs;cases hb:Nat.beq ks.length sz with
   | false=>simp [hb,Tr.run] at h
   | true=>simp only [hb,ab9] at h ⊢; exact x.rF h
 . rename_i r j s m e ks xs;cases hc:st.cell r j with
   | none=>simp [hc,Tr.run] at h
   | some rc =>
     simp only [hc] at h;simp only [x.cell hc];cases hb:Nat.beq rc.s s && Nat.beq rc.m m && Nat.beq ks.length sz with
     | false=>simp [hb,Tr.run] at h
     | true=>simp only [hb,ab9] at h ⊢; exact x.rF h
 . rename_i r j s m i c;cases hc:st.cell r j with
   | none=>simp [hc,Tr.run] at h
   | some rc =>
     simp only [hc] at h;simp only [x.cell hc];split at h
     . rename_i s' m' e0 ks0 x0 heq;simp only [ab6] at heq;subst heq;cases hb:Nat.beq s' s && Nat.beq m' m with
       | false=>simp [hb,Tr.run] at h
       | true =>
         simp only [hb,ab9] at h ⊢;split at h
         . rename_i e ks xs hcell;cases hb:Nat.beq ks.length sz with
           | false=>simp [hb,Tr.run] at h
           | true=>simp only [hb,ab9] at h ⊢; exact x.rF h
         . simp [Tr.run] at h
     . simp [Tr.run] at h
 . rename_i r j s;cases hc:st.cell r j with
   | none=>simp [hc,Tr.run] at h
   | some rc =>
     simp only [hc] at h;simp only [x.cell hc];split at h
     . rename_i s' m' e ks xs heq;simp only [ab6] at heq;subst heq;cases hb:Nat.beq s' s && Nat.beq ks.length sz with
       | false=>simp [hb,Tr.run] at h
       | true=>simp only [hb,ab9] at h ⊢; exact x.rF h
     . simp [Tr.run] at h
 . simp [Tr.run] at h
end
section
variable {P:Program} {cx:Cx P} {Z:Nat->Prop} {g:Gh} {st0 st:St} {a:Act} {w:World} {E:En}
theorem sJ (hT:bG P E) {t:Nat} {te:TI} (h:E.sl t=some te) {ti:TI} (hti:E.ti t=some ti):∃ ks,E.ti t=some ti/\ti.agg=false/\ti.ks=[.sl ti.elem ks]/\E.ti ti.elem=some te:=by obtain ⟨tt,ks,t1,t2,t3,t4,_⟩:=dX hT h;rw [t1] at hti;simp only [ab6] at hti;subst hti;exact ⟨ks,t1,t2,t3,t4⟩
theorem pG {dst:Nat} {tvs:List TV}:∀ {l:List Su} {p:TV×Option Rt},(st0.tj dst l tvs).run=some p->∃ s x z y,s∈l/\st0.args (!s.fresh) s.ps tvs=some x/\s.tQ x=some (z,y)/\fh dst s y=some p
 | [],p,h=>by simp [St.tj,Tr.run] at h
 | s :: r,p,h=>by
   have again:(st0.tj dst r tvs).run=some p->∃ s' x z y,s'∈s :: r/\st0.args (!s'.fresh) s'.ps tvs=some x/\s'.tQ x=some (z,y)/\fh dst s' y=some p:=fun h=>by obtain ⟨s',x,z,y,h1,h2⟩:=pG h;exact ⟨s',x,z,y,acr _ h1,h2⟩
   unfold St.tj at h;cases hq:fS s.ps with
   | false=>simp only [hq,aco] at h; exact again h
   | true =>
     simp only [hq,ab9] at h;split at h
     . rename_i x hx;split at h
       . rename_i gg hg;obtain ⟨q,h1,h2⟩:=Tr.af h;simp only [Tr.run,ab6] at h2;subst h2;exact ⟨s,x,MQ s.ps,gg x,acu ..,hx,by simp [Su.tQ,hg],h1⟩
       . rename_i f hf;simp only [Tr.run,adO] at h;obtain ⟨⟨z,y⟩,h0,h⟩:=h;obtain ⟨q,h1,h2⟩:=Tr.af h;simp only [Tr.run,ab6] at h2;subst h2;exact ⟨s,x,z,y,acu ..,hx,by simp [Su.tQ,hf,h0],h1⟩
     . exact again h
theorem yk (hT:bG P E) (hga:de P E) (x:Ext st0 st) (h:Rel cx Z g st a w) (hv:mu st) {o:Oper} {d:Nat} (hd:o.dst=some d) (hdn:iX cx a d) (hf:st.free d=true) {p:TV×Option Rt} (hq:(xH E st0 d o.op).run=some p):cR P cx st a w o d p:=by
 have hc:=hv.cons;generalize hop:o.op=op at hq;unfold xH at hq;split at hq
 . obtain ⟨tv,h1,h2⟩:=Tr.af hq;simp only [Tr.run,ab6] at h2;subst h2;exact DD h hc hd hdn (.inl hop) (x.get h1)
 . obtain ⟨tv,h1,h2⟩:=Tr.af hq;simp only [Tr.run,ab6] at h2;subst h2;exact DD h hc hd hdn (.inr hop) (x.get h1)
 ·
  rename_i c y z;split at hq
  . rename_i hg;obtain ⟨tv,h1,h2⟩:=Tr.af hq;simp only [Tr.run,ab6] at h2;subst h2;exact yb h hv hd hdn hop (x.get hg) (x.get h1)
  . rename_i hg;obtain ⟨tv,h1,h2⟩:=Tr.af hq;simp only [Tr.run,ab6] at h2;subst h2;exact yb h hv hd hdn hop (x.get hg) (x.get h1)
  . rename_i gd hg;split at hq
    . rename_i k y1 k' z1 h1 h2;split at hq
      . rename_i z2 h3;simp only [Tr.run,ab6] at hq;subst hq;exact Sh h hv hd hdn hop (x.get hg) (x.side h1) (x.side h2) h3
      . simp [Tr.run] at hq
    . simp [Tr.run] at hq
  . simp [Tr.run] at hq
 . obtain ⟨ti,h1,h2⟩:=Tr.af hq;simp only [Tr.run,ab6] at h2;subst h2;exact Mc hT h hd hdn hf hop h1
 ·
  obtain ⟨ti,h1,hq⟩:=Tr.af hq;obtain ⟨tv,h2,hq⟩:=Tr.af hq;obtain ⟨q,h3,hq⟩:=Tr.af hq;cases hb:Nat.beq q.2.length ti.ks.length with
  | false=>simp [hb,Tr.run] at hq
  | true => simp only [hb,ab9] at hq;obtain ⟨l,h4,hq⟩:=Tr.af hq;simp only [Tr.run,ab6] at hq;subst hq;exact WC hT h hc hd hdn hf hop (x.get h2) h3 (x.jm h4)
 ·
  obtain ⟨ti,h1,hq⟩:=Tr.af hq;cases hb:ti.agg with
  | false=>simp [hb,Tr.run] at hq
  | true => simp only [hb,acY,aco] at hq;obtain ⟨l,h4,hq⟩:=Tr.af hq;simp only [Tr.run,ab6] at hq;subst hq;exact NK hT h hc hd hdn hop h1 hb (rH (fun _ _ _ hh=>x.qT hh) h4)
 ·
  rename_i t n parts;obtain ⟨ti,h1,hq⟩:=Tr.af hq;obtain ⟨te,h2,hq⟩:=Tr.af hq;obtain ⟨l,h3,hq⟩:=Tr.af hq;have h3':=rH (fun _ _ _ hh=>x.kB hh) h3;cases hb:Nat.ble (n * te.ks.length) 1000 && Nat.ble n 1000 with
  | false=>simp [hb,Tr.run] at hq
  | true =>
    simp only [hb,ab9] at hq;simp only [ab8] at hb;have hn:=acF hb.1;have hn':n<=aS:=acv (acF hb.2) (by decide);obtain ⟨xs,h4,hq⟩:=Tr.af hq;cases hfl:(flat te.ks || l.all nd) && !(j4 E.pins 999999 && l.all AV.bC) with
    | true => simp only [hfl,ab9,Tr.run,ab6] at hq;subst hq;simp only [ab8] at hfl;exact BO hT h hc hd hdn hf hop (sJ hT h2 h1) h3' hn (x.chunks h4) (by simpa using hfl.1) hn'
    | false =>
      simp only [hfl,aco] at hq;cases hfa:l.all AV.bC with
      | true => simp only [hfa,ab9,Tr.run,ab6] at hq;subst hq;exact Db hT h hc hd hdn hop (sJ hT h2 h1) h3' hn (x.chunks h4) hfa hn'
      | false => simp only [hfa,aco,Tr.run,ab6] at hq;subst hq;exact Ak hT h hc hd hdn hf hop (sJ hT h2 h1) h3' hn
 ·
  obtain ⟨ti,h1,hq⟩:=Tr.af hq;obtain ⟨tx,h2,hq⟩:=Tr.af hq;obtain ⟨av,h3,hq⟩:=Tr.af hq;obtain ⟨l,h4,hq⟩:=Tr.af hq;obtain ⟨tv,h5,hq⟩:=Tr.af hq;simp only [Tr.run,ab6] at hq;subst hq;exact RE hT h hc hd hdn hop h1 (x.get h2) h3 (x.load h4) h5
 ·
  obtain ⟨tv,h1,hq⟩:=Tr.af hq;split at hq
  . simp only [Tr.run,ab6] at hq;subst hq;exact vq h hc hd hdn hop (x.get h1) (.inl ⟨_,_,rfl⟩)
  . rename_i r j s i c;cases hl:st0.live (.pel r j s i c) with
    | false=>simp [hl,Tr.run] at hq
    | true => simp only [hl,ab9,Tr.run,ab6] at hq;subst hq;exact vq h hc hd hdn hop (x.get h1) (.inr ⟨⟨_,_,_,_,_,rfl⟩,x.live hl⟩)
  . simp [Tr.run] at hq
 ·
  obtain ⟨tx,h1,hq⟩:=Tr.af hq;obtain ⟨ty,h2,hq⟩:=Tr.af hq;obtain ⟨av,h3,rfl⟩:=jn hq;exact Tm hT h hc hd hdn hop (x.get h1) (x.get h2) h3
 ·
  obtain ⟨tx,h1,hq⟩:=Tr.af hq;obtain ⟨av,h3,rfl⟩:=jn hq;exact aai h hc hd hdn hop (x.get h1) h3
 ·
  obtain ⟨ts,h1,hq⟩:=Tr.af hq;obtain ⟨td,h2,hq⟩:=Tr.af hq;obtain ⟨tx,h3,hq⟩:=Tr.af hq;cases hb:ts.agg || td.agg with
  | true=>simp [hb,Tr.run] at hq
  | false =>
    simp only [hb,aco] at hq;simp only [adN] at hb;split at hq
    . rename_i k0 k e1 e2;obtain ⟨q,h4,hq⟩:=Tr.af hq;obtain ⟨av,h5,rfl⟩:=jn hq;simp only [Tr.run,ab6] at h5;subst h5;exact CM hT h hc hd hdn hop h1 h2 hb.1 hb.2 e1 e2 (x.get h3) h4
    . rename_i e e1 e2;cases hu:E.u8 td.elem with
      | false=>simp [hu,Tr.run] at hq
      | true => simp only [hu,acY,aco] at hq;obtain ⟨q,h4,hq⟩:=Tr.af hq;simp only [Tr.run,ab6] at hq;subst hq;exact wb hT h hc hd hdn hf hop h1 h2 hb.1 hb.2 e1 e2 hu (x.get h3) h4
    . rename_i e e1 e2;cases hu:E.u8 ts.elem with
      | false=>simp [hu,Tr.run] at hq
      | true => simp only [hu,acY,aco] at hq;obtain ⟨q,h4,hq⟩:=Tr.af hq;obtain ⟨xs,h5,hq⟩:=Tr.af hq;obtain ⟨av,h6,rfl⟩:=jn hq;simp only [Tr.run,ab6] at h6;subst h6;exact zv hT h hc hd hdn hop h1 h2 hb.1 hb.2 e1 e2 hu (x.get h3) h4 (x.bR h5)
    . rename_i e1 e2;obtain ⟨q,h4,hq⟩:=Tr.af hq;obtain ⟨av,h5,rfl⟩:=jn hq;simp only [Tr.run,ab6] at h5;subst h5;exact Du hT h hc hd hdn hop h1 h2 hb.1 hb.2 e1 e2 (x.get h3) h4
    . simp [Tr.run] at hq
 ·
  rename_i t n n';obtain ⟨ti,h1,hq⟩:=Tr.af hq;obtain ⟨te,h2,hq⟩:=Tr.af hq;obtain ⟨tv,h3,hq⟩:=Tr.af hq;obtain ⟨q,h4,hq⟩:=Tr.af hq;cases hb:Nat.beq n n' with
  | false=>simp [hb,Tr.run] at hq
  | true => simp only [hb,ab9] at hq;have hn:=beq_eq hb;obtain ⟨h5,hq⟩:=Tr.bj hq;simp only [Tr.run,ab6] at hq;subst hq;simp only [ab8,bz,adg] at h5;obtain ⟨ev,_⟩:=cP (aK h hc (o:= .tmp n) (x.tv h3)) h4;exact Cp hT h hd hdn hf hop ev (hn ▸ ev) (sJ hT h2 h1) h5.1 h5.2.1 (Nat.lt_of_not_le fun hh=>by have:=h5.2.2; simp [Nat.blt,Nat.ble_eq] at this; omega)
 ·
  rename_i t k n k' n';obtain ⟨ti,h1,hq⟩:=Tr.af hq;obtain ⟨te,h2,hq⟩:=Tr.af hq;cases hb:n == n' && (bz 0 n && (bz (n * te.bytes) aS && Nat.blt 0 te.bytes)) with
  | false=>simp [hb,Tr.run] at hq
  | true => simp only [hb,ab9,Tr.run,ab6] at hq;subst hq;simp only [ab8,bz,adg,beq_iff_eq] at hb;obtain ⟨rfl,h5⟩:=hb;exact Cp hT h hd hdn hf hop rfl rfl (sJ hT h2 h1) h5.1 h5.2.1 (Nat.lt_of_not_le fun hh=>by have:=h5.2.2; simp [Nat.blt,Nat.ble_eq] at this; omega)
 ·
  rename_i t y lo hi;obtain ⟨tv,h1,hq⟩:=Tr.af hq;split at hq
  . rename_i te h2;obtain ⟨av,h3,rfl⟩:=jn hq;exact NA hT h hc hd hdn hop h2 (x.get h1) (x.l4 h3)
  . cases hs:E.str t with
    | false=>simp [hs,Tr.run] at hq
    | true => simp only [hs,ab9] at hq;obtain ⟨av,h3,rfl⟩:=jn hq;exact HS hT h hc hd hdn hop hs (x.get h1) (x.lZ h3)
 ·
  obtain ⟨ti,h1,hq⟩:=Tr.af hq;obtain ⟨q,h2,hq⟩:=Tr.af hq;obtain ⟨tv,h3,hq⟩:=Tr.af hq;obtain ⟨av,h4,hq⟩:=Tr.af hq;cases hb:ti.agg && st0.live av with
  | false=>simp [hb,Tr.run] at hq
  | true => simp only [hb,ab9] at hq;simp only [ab8] at hb;obtain ⟨av',h5,hq⟩:=Tr.af hq;simp only [Tr.run,ab6] at hq;subst hq;exact Bn hT h hc hd hdn hop h1 hb.1 h2 (x.get h3) h4 (x.live hb.2) h5
 ·
  obtain ⟨ti,h1,hq⟩:=Tr.af hq;obtain ⟨q,h2,hq⟩:=Tr.af hq;obtain ⟨tf,h3,hq⟩:=Tr.af hq;obtain ⟨tv,h4,hq⟩:=Tr.af hq;split at hq
  . rename_i l;cases hb:ti.agg && Nat.ble (q.1 + tf.ks.length) l.length with
    | false=>simp [hb,Tr.run] at hq
    | true => simp only [hb,ab9] at hq;simp only [ab8] at hb;obtain ⟨tv',h5,hq⟩:=Tr.af hq;simp only [Tr.run,ab6] at hq;subst hq;exact N2 hT h hc hd hdn hop h1 hb.1 h2 h3 (x.get h4) (acF hb.2) h5
  . simp [Tr.run] at hq
 ·
  obtain ⟨te,h1,hq⟩:=Tr.af hq;obtain ⟨tv,h2,hq⟩:=Tr.af hq;obtain ⟨ti,h3,hq⟩:=Tr.af hq;obtain ⟨q,h4,hq⟩:=Tr.af hq;obtain ⟨av,h5,rfl⟩:=jn hq;exact BJ hT h hc hd hdn hop h1 (x.get h2) (x.get h3) h4 (x.indexAddr h5)
 ·
  rename_i t y i;cases hs:E.str t with
  | false=>simp [hs,Tr.run] at hq
  | true => simp only [hs,acY,aco] at hq;obtain ⟨tv,h2,hq⟩:=Tr.af hq;obtain ⟨ti,h3,hq⟩:=Tr.af hq;obtain ⟨q,h4,hq⟩:=Tr.af hq;obtain ⟨s,h5,hq⟩:=Tr.af hq;obtain ⟨h6,hq⟩:=Tr.bj hq;obtain ⟨av,h7,rfl⟩:=jn hq;simp only [Tr.run,ab6] at h7;subst h7;exact LL hT h hc hd hdn hop hs (x.get h2) (x.get h3) h4 h5 h6
 ·
  obtain ⟨tv,h1,hq⟩:=Tr.af hq;split at hq
  . rename_i l;split at hq
    . rename_i gg l' h2;obtain ⟨tv',h3,hq⟩:=Tr.af hq;simp only [Tr.run,ab6] at hq;subst hq;exact Hd h hc hd hdn hop (x.get h1) h2 h3
    . simp [Tr.run] at hq
  . simp [Tr.run] at hq
 ·
  rename_i f first caps
  cases hb:Nat.beq first.size 0 with
  | false=>simp [hb,Tr.run] at hq
  | true => simp only [hb,ab9] at hq;obtain ⟨l,h1,hq⟩:=Tr.af hq;obtain ⟨r,h2,hq⟩:=Tr.af hq;simp only [Tr.run,ab6] at hq;subst hq;exact DM h hc hd hdn hop (beq_eq hb) (x.getAll h1) h2
 ·
  rename_i c;split at hq
  . rename_i hcal;split at hq
    . rename_i y t ts hargs hts;cases hs:E.str t with
      | true => simp only [hs,ab9] at hq;obtain ⟨tv,h1,hq⟩:=Tr.af hq;obtain ⟨n,h2,hq⟩:=Tr.af hq;obtain ⟨av,h3,rfl⟩:=jn hq;simp only [Tr.run,ab6] at h3;subst h3;exact P9 (isS:=true) hT h hc hd hdn hop hcal hargs hts hs (x.get h1) (x.len h2)
      | false => simp only [hs,aco] at hq;obtain ⟨te,h0,hq⟩:=Tr.af hq;obtain ⟨tv,h1,hq⟩:=Tr.af hq;obtain ⟨n,h2,hq⟩:=Tr.af hq;obtain ⟨av,h3,rfl⟩:=jn hq;simp only [Tr.run,ab6] at h3;subst h3;exact P9 (isS:=false) hT h hc hd hdn hop hcal hargs hts ⟨te,h0⟩ (x.get h1) (x.len h2)
    . simp [Tr.run] at hq
  . rename_i hcal;split at hq
    . rename_i y t ts hargs hts;obtain ⟨te,h0,hq⟩:=Tr.af hq;obtain ⟨tv,h1,hq⟩:=Tr.af hq;cases hb:ea tv with
      | false=>rw [hb] at hq; simp [Tr.run] at hq
      | true => rw [hb] at hq;simp only [ab9] at hq;obtain ⟨av,h3,rfl⟩:=jn hq;simp only [Tr.run,ab6] at h3;subst h3;exact Tw hT h hc hd hdn hop hcal hargs hts h0 (x.get h1) hb
    . simp [Tr.run] at hq
  . rename_i hcal;split at hq
    . rename_i y z hargs;obtain ⟨tx,h1,hq⟩:=Tr.af hq;obtain ⟨ty,h2,hq⟩:=Tr.af hq;obtain ⟨p1,h3,hq⟩:=Tr.af hq;obtain ⟨p2,h4,hq⟩:=Tr.af hq;cases hk:(p1.1 == p2.1) with
      | false=>simp [hk,Tr.run] at hq
      | true => simp only [hk,ab9] at hq;obtain ⟨av,h5,rfl⟩:=jn hq;simp only [Tr.run,ab6] at h5;subst h5;exact BZ (mn:=true) h hc hd hdn hop hcal hargs (x.get h1) (x.get h2) h3 h4 (by simpa using hk)
    . simp [Tr.run] at hq
  . rename_i hcal;split at hq
    . rename_i y z hargs;obtain ⟨tx,h1,hq⟩:=Tr.af hq;obtain ⟨ty,h2,hq⟩:=Tr.af hq;obtain ⟨p1,h3,hq⟩:=Tr.af hq;obtain ⟨p2,h4,hq⟩:=Tr.af hq;cases hk:(p1.1 == p2.1) with
      | false=>simp [hk,Tr.run] at hq
      | true => simp only [hk,ab9] at hq;obtain ⟨av,h5,rfl⟩:=jn hq;simp only [Tr.run,ab6] at h5;subst h5;exact BZ (mn:=false) h hc hd hdn hop hcal hargs (x.get h1) (x.get h2) h3 h4 (by simpa using hk)
    . simp [Tr.run] at hq
  . rename_i f hcal;obtain ⟨tf,h1,hq⟩:=Tr.af hq;split at hq
    . rename_i gid caps;obtain ⟨l,h2,hq⟩:=Tr.af hq;obtain ⟨s,y,z,r,h3,h4,h5,h6⟩:=pG hq;exact QG hga h hc hd hdn hf hop hcal (x.get h1) (x.getAll h2) h3 (x.args h4) h5 h6
    . simp [Tr.run] at hq
  . simp [Tr.run] at hq
 . simp [Tr.run] at hq
end
end Go.Av
namespace Go.Av
open Go.RowKit (Below)
def TV.gL:TV->Prop
 | .may _ _ _ _ _=>True
 | _=>False
theorem AR {gg:Bool} {l:List AV} {tv:TV} (h:er gg l=some tv):¬ tv.gL:=by unfold er at h;split at h <;> simp at h <;> subst h <;> exact fun h=>h
theorem ma {l:List (Bool×List AV)} {tv:TV} (h:fK l=some tv):¬ tv.gL:=by unfold fK at h;split at h <;> simp at h <;> subst h <;> exact fun h=>h
theorem yO {st:St} {o:Operand} {tv:TV} (h:st.get o=some tv) (hm:tv.gL):∃ d,look st.tm d=some tv:=by
 cases tv with
 | may q want y gg l=>obtain ⟨d,hd,_⟩:=Es h; exact ⟨d,hd⟩
 | _=>exact hm.elim
section
variable {st0:St} {E:En}
def NM (st0:St) (t:Tr (TV×Option Rt)):Prop:=∀ p,t.run=some p->p.1.gL->∃ d',look st0.tm d'=some p.1
theorem Zg {α:Type} {o:Option α} {f:α->Tr (TV×Option Rt)} (h:∀ x,o=some x->NM st0 (f x)):NM st0 (Tr.bo o f):=fun p hp=>by obtain ⟨x,h1,h2⟩:=Tr.af hp;exact h x h1 p h2
theorem aaI {c:Bool} {t u:Tr (TV×Option Rt)} (h:NM st0 t) (h':NM st0 u):NM st0 (bif c then t else u):=by cases c <;> assumption
theorem abg {c:Bool} {t:Tr (TV×Option Rt)} (h:NM st0 t):NM st0 (.need c t):=fun p hp=>h p (Tr.bj hp).2
theorem WZ {p:TV×Option Rt} (h:¬ p.1.gL):NM st0 (.ret p):=fun q hq hm=>by simp only [Tr.run,ab6] at hq;subst hq;exact (h hm).elim
theorem Zo {t:Tr AV}:NM st0 (t.bind fun a=> .ret (.v a,none)):=fun p hp hm=>by obtain ⟨av,_,rfl⟩:=jn hp;exact hm.elim
theorem Zf:NM st0 .fail:=fun p hp=>by simp [Tr.run] at hp
theorem abA {x:Operand} {tv:TV} (h:st0.get x=some tv):NM st0 (.ret (tv,none)):=fun p hp hm=>by simp only [Tr.run,ab6] at hp;subst hp;exact yO h hm
theorem ZU {d:Nat} {l:List Su} {tvs:List TV}:NM st0 (st0.tj d l tvs):=fun p hq hm=>by
 obtain ⟨s,y,z,r,h3,h4,h5,h6⟩:=pG hq;unfold fh at h6;split at h6
 . rename_i tv hw;simp only [ab6] at h6;subst h6;exact (ma hw hm).elim
 . simp at h6
theorem Fj {d:Nat} {op:Op} {p:TV×Option Rt} (hq:(xH E st0 d op).run=some p) (hm:p.1.gL):∃ d',look st0.tm d'=some p.1:=by
 have h:NM st0 (xH E st0 d op):=by
  unfold xH
  repeat' first | exact Zo | exact Zf | exact ZU | refine Zg fun _ _ => ?_ | exact abA (by assumption) | refine aaI ?_ ?_ | refine abg ?_ | exact WZ (AR (by assumption)) | exact WZ fun h=>h | split
 exact h p hq hm
end
theorem a8 (st:St) (d:Nat) (p:TV×Option Rt) (t:Nat):look (st.az d p).tm t=if d=t then some p.1 else look st.tm t:=aW _ _ _ _
theorem wS (st:St) (d:Nat) (p:TV×Option Rt) (r:Nat):look (st.az d p).rt r=match p.2 with | some R=>if d=r then some R else look st.rt r | none=>look st.rt r:=by
 unfold St.az;cases p.2 with
 | none=>rfl
 | some R=>exact aW _ _ _ _
def dk (nt:Nat->Prop) (base:St):Bd->Prop
 | []=>True
 | (i,t,p) :: r=>nt t/\look base.tm t=none/\look base.rt t=none/\(∀ e∈r,e.1≠i/\e.2.1≠t)/\dk nt base r
theorem dk.mem {nt:Nat->Prop} {base:St}:∀ {bs:Bd} {i t:Nat} {p:TV×Option Rt},dk nt base bs->(i,t,p)∈bs->nt t/\look base.tm t=none/\look base.rt t=none
 | [],_,_,_,_,h=>by simp at h
 | (i0,t0,p0) :: r,i,t,p,hb,h=>by
   obtain ⟨h1,h2,h3,h4,h5⟩:=hb;rcases aci.1 h with h | h
   . cases h; exact ⟨h1,h2,h3⟩
   . exact dk.mem h5 h
theorem dk.uniq {nt:Nat->Prop} {base:St}:∀ {bs:Bd} {i i' t t':Nat} {p p':TV×Option Rt},dk nt base bs->(i,t,p)∈bs->(i',t',p')∈bs->(i=i'∨t=t')->i=i'/\t=t'/\p=p'
 | [],_,_,_,_,_,_,_,h,_,_=>by simp at h
 | (i0,t0,p0) :: r,i,i',t,t',p,p',hb,h,h',he=>by
   obtain ⟨h1,h2,h3,h4,h5⟩:=hb;rcases aci.1 h with h | h
   . cases h;rcases aci.1 h' with h' | h'
     . cases h'; exact ⟨rfl,rfl,rfl⟩
     . have:=h4 _ h';rcases he with he | he
       . exact absurd he.symm this.1
       . exact absurd he.symm this.2
   . rcases aci.1 h' with h' | h'
     . cases h';have:=h4 _ h;rcases he with he | he
       . exact absurd he this.1
       . exact absurd he this.2
     . exact dk.uniq h5 h h' he
theorem et {nt:Nat->Prop} {base:St} (m:Nat):∀ {bs:Bd},dk nt base bs->∀ (t:Nat) (tv:TV),look (view base m bs).tm t=some tv↔(∃ i p,(i,t,p)∈bs/\m.testBit i=true/\p.1=tv)∨look base.tm t=some tv
 | [],_,t,tv=>by simp [view]
 | (i0,t0,p0) :: r,hb,t,tv=>by
   obtain ⟨h1,h2,h3,h4,h5⟩:=hb;have ih:=et m h5 t tv;unfold view;cases hm:m.testBit i0 with
   | false =>
     simp only [aco];rw [ih];constructor
     . rintro (⟨i,p,hp,hq⟩ | h)
       . exact .inl ⟨i,p,acr _ hp,hq⟩
       . exact .inr h
     . rintro (⟨i,p,hp,hq⟩ | h)
       . rcases aci.1 hp with hp | hp
         . cases hp; rw [hm] at hq; simp at hq
         . exact .inl ⟨i,p,hp,hq⟩
       . exact .inr h
   | true =>
     simp only [ab9];rw [a8];by_cases ht:t0=t
     . subst ht;rw [if_pos rfl];constructor
       . intro h;exact .inl ⟨i0,p0,acu ..,hm,by simpa using h⟩
       . rintro (⟨i,p,hp,hq,rfl⟩ | h)
         . rcases aci.1 hp with hp | hp
           . cases hp; rfl
           . exact absurd rfl (h4 _ hp).2
         . rw [h2] at h; simp at h
     . rw [if_neg ht,ih];constructor
       . rintro (⟨i,p,hp,hq⟩ | h)
         . exact .inl ⟨i,p,acr _ hp,hq⟩
         . exact .inr h
       . rintro (⟨i,p,hp,hq⟩ | h)
         . rcases aci.1 hp with hp | hp
           . cases hp; exact absurd rfl ht
           . exact .inl ⟨i,p,hp,hq⟩
         . exact .inr h
theorem fO {nt:Nat->Prop} {base:St} (m:Nat):∀ {bs:Bd},dk nt base bs->∀ (t:Nat) (R:Rt),look (view base m bs).rt t=some R↔(∃ i p,(i,t,p)∈bs/\m.testBit i=true/\p.2=some R)∨look base.rt t=some R
 | [],_,t,tv=>by simp [view]
 | (i0,t0,p0) :: r,hb,t,R=>by
   obtain ⟨h1,h2,h3,h4,h5⟩:=hb;have ih:=fO m h5 t R;have skip:((∃ i p,(i,t,p)∈r/\m.testBit i=true/\p.2=some R)∨look base.rt t=some R)->(∃ i p,(i,t,p)∈(i0,t0,p0) :: r/\m.testBit i=true/\p.2=some R)∨look base.rt t=some R:=by
    rintro (⟨i,p,hp,hq⟩ | h)
    . exact .inl ⟨i,p,acr _ hp,hq⟩
    . exact .inr h
   unfold view;cases hm:m.testBit i0 with
   | false =>
     simp only [aco];rw [ih];refine ⟨skip,?_⟩;rintro (⟨i,p,hp,hq⟩ | h)
     . rcases aci.1 hp with hp | hp
       . cases hp; rw [hm] at hq; simp at hq
       . exact .inl ⟨i,p,hp,hq⟩
     . exact .inr h
   | true =>
     simp only [ab9];rw [wS];cases hp0:p0.2 with
     | none =>
       simp only;rw [ih];refine ⟨skip,?_⟩;rintro (⟨i,p,hp,hq,hq'⟩ | h)
       . rcases aci.1 hp with hp | hp
         . cases hp; rw [hp0] at hq'; simp at hq'
         . exact .inl ⟨i,p,hp,hq,hq'⟩
       . exact .inr h
     | some R0 =>
       simp only;by_cases ht:t0=t
       . subst ht;rw [if_pos rfl];constructor
         . intro h;exact .inl ⟨i0,p0,acu ..,hm,by rw [hp0]; exact h⟩
         . rintro (⟨i,p,hp,hq,hq'⟩ | h)
           . rcases aci.1 hp with hp | hp
             . cases hp; rw [hp0] at hq'; exact hq'
             . exact absurd rfl (h4 _ hp).2
           . rw [h3] at h; simp at h
       . rw [if_neg ht,ih];refine ⟨skip,?_⟩;rintro (⟨i,p,hp,hq⟩ | h)
         . rcases aci.1 hp with hp | hp
           . cases hp; exact absurd rfl ht
           . exact .inl ⟨i,p,hp,hq⟩
         . exact .inr h
def bitsOf:Bd->Nat
 | []=>0
 | (i,_,_) :: r=>bitsOf r ||| 2 ^ i
theorem dz:∀ {bs:Bd} {i t:Nat} {p:TV×Option Rt},(i,t,p)∈bs->(bitsOf bs).testBit i=true
 | (i0,t0,p0) :: r,i,t,p,h=>by
   unfold bitsOf;rw [Nat.testBit_or];rcases aci.1 h with h | h
   . cases h; simp [Nat.testBit_two_pow_self]
   . rw [dz h]; rfl
theorem fY (base:St) (m:Nat):∀ (bs:Bd),(∀ i t p,(i,t,p)∈bs->m.testBit i=true)->aA base bs=view base m bs
 | [],_=>rfl
 | (i,t,p) :: r,h=>by unfold aA view;rw [h i t p (acu ..)];simp only [ab9];rw [fY base m r fun i' t' p' h'=>h i' t' p' (acr _ h')]
end Go.Av
namespace Go.Av
open Go.RowKit (Below)
def dW (tv tv':TV):Prop:=∀ (Z:Nat->Prop) (g:Gh) (st:St) (w:World) (v:Value),bl Z g st w tv v->bl Z g st w tv' v
theorem dW.refl (tv:TV):dW tv tv:=fun _ _ _ _ _ h=>h
theorem dW.trans {p q r:TV} (h:dW p q) (h':dW q r):dW p r:=fun Z g st w v x=>h' Z g st w v (h Z g st w v x)
def Alike (p p':TV×Option Rt):Prop:=p.2=p'.2/\dW p.1 p'.1/\dW p'.1 p.1
theorem Alike.refl (p:TV×Option Rt):Alike p p:=⟨rfl,dW.refl _,dW.refl _⟩
theorem Alike.trans {p q r:TV×Option Rt} (h:Alike p q) (h':Alike q r):Alike p r:=⟨h.1.trans h'.1,h.2.1.trans h'.2.1,h'.2.2.trans h.2.2⟩
def db (bs bs':Bd):Prop:=∀ i t p,(i,t,p)∈bs->∃ p',(i,t,p')∈bs'/\Alike p p'
theorem db.refl (bs:Bd):db bs bs:=fun i t p h=>⟨p,h,Alike.refl p⟩
theorem db.trans {a b c:Bd} (h:db a b) (h':db b c):db a c:=fun i t p hp=>by obtain ⟨p',h1,h2⟩:=h i t p hp;obtain ⟨p'',h3,h4⟩:=h' i t p' h1;exact ⟨p'',h3,h2.trans h4⟩
theorem db.cons {e:Nat×Nat×(TV×Option Rt)} {bs bs':Bd} (h:db bs bs'):db bs (e :: bs'):=fun i t p hp=>by obtain ⟨p',h1,h2⟩:=h i t p hp;exact ⟨p',acr _ h1,h2⟩
def MB (st:St):Prop:=∀ d q want y gg l,look st.tm d=some (.may q want y gg l)->∃ tq,look st.tm q=some tq/\eY tq y
theorem MB.cons {st:St} (h:MB st):mu st:=fun d q want y gg l hl tq htq=>by obtain ⟨tq',h1,h2⟩:=h d q want y gg l hl;rw [htq] at h1;simp only [ab6] at h1;exact h1 ▸ h2
theorem eY.of {tv tv':TV} {y:Bool} (h:dW tv' tv) (ht:eY tv y):eY tv' y:=fun Z g st w v hr=>ht Z g st w v (h Z g st w v hr)
theorem bK {nt:Nat->Prop} {base:St} {bs:Bd} (hb:dk nt base bs) (t:Nat) (tv:TV):look (aA base bs).tm t=some tv↔(∃ i p,(i,t,p)∈bs/\p.1=tv)∨look base.tm t=some tv:=by
 rw [fY base (bitsOf bs) bs (fun i t p h=>dz h),et _ hb];constructor
 . rintro (⟨i,p,h1,_,h3⟩ | h)
   . exact .inl ⟨i,p,h1,h3⟩
   . exact .inr h
 . rintro (⟨i,p,h1,h3⟩ | h)
   . exact .inl ⟨i,p,h1,dz h1,h3⟩
   . exact .inr h
section
variable {P:Program} {cx:Cx P} {Z:Nat->Prop} {g:Gh} {st:St} {a:Act} {w:World} {E:En}
theorem Rel.swap (h:Rel cx Z g st a w) {st':St} (hr:∀ r,look st'.rt r=look st.rt r) (ht:∀ t tv,look st'.tm t=some tv->t < a.tmps.size/\bl Z g st w tv (a.tmps.getD t undef)):Rel cx Z g st' a w:=by
 have hcell:∀ r j,st'.cell r j=st.cell r j:=fun r j=>by simp only [St.cell,hr]
 have k:lD Z Z w w g g st st' :=
  { size:=acb _,z:=fun b hb _=>⟨hb,rfl⟩,root:=fun r R hR=>⟨R,by rw [hr]; exact hR,rfl,fun _=>rfl⟩
    cell:=fun r j c hc=>⟨c,by rw [hcell]; exact hc,EO.refl w g r j c⟩
    own:=fun r j b hb=>(h.fp r j b hb).1
    block:=(eh h (st':=st) (w':=w) rfl rfl).block }
 exact { os:=h.os,tape:=h.tape,output:=h.output,size:=h.size,block:=h.block,bN:=h.bN,z0:=h.z0
         fp:=fun r j b hb=>by rw [hcell]; exact h.fp r j b hb
         disj:=h.disj
         box:=fun r R hR hb=>by rw [hr] at hR;obtain ⟨b1,b2,b3,b4,b5⟩:=h.box r R hR hb;exact ⟨b1,b2,b3,fun r' R' hR'=>by rw [hr] at hR'; exact b4 r' R' hR',b5⟩
         cell:=fun r j c hc=>by rw [hcell] at hc;exact iL.bP k _ _ _ _ (h.cell r j c hc) (fun _ h=>h) (fun _ _ _=>rfl)
         tm:=fun t tv htt=>⟨(ht t tv htt).1,bl.bP k _ _ (ht t tv htt).2⟩
         defers:=h.defers,pin:=h.pin }
theorem AQ {β:Type} (l l':List (Nat×β)) (n:Nat):look (l ++ l') n=match look l n with | some x=>some x | none=>look l' n:=by
 induction l with
 | nil=>rfl
 | cons p l ih => obtain ⟨m,x⟩:=p;simp only [aeG,look];cases Nat.beq m n <;> simp [ih]
def over (st0 stS:St):St:=⟨st0.tm ++ stS.tm,stS.rt⟩
theorem qa (st0 stS:St) (t:Nat):look (over st0 stS).tm t=match look st0.tm t with | some x=>some x | none=>look stS.tm t:=by show look (st0.tm ++ stS.tm) t=_;rw [AQ];cases look st0.tm t <;> rfl
structure Fits (st0 stS:St) (a:Act):Prop where
 rt:∀ r R,look st0.rt r=some R->look stS.rt r=some R
 tm:∀ t tv0,look st0.tm t=some tv0->∃ tv,look stS.tm t=some tv/\dW tv0 tv/\∀ (Z:Nat->Prop) (g:Gh) (st:St) (w:World),bl Z g st w tv (a.tmps.getD t undef)->bl Z g st w tv0 (a.tmps.getD t undef)
 may:∀ d q want y gg l,look st0.tm d=some (.may q want y gg l)->∀ tq,look stS.tm q=some tq->eY tq y
 mayS:mu stS
theorem Fits.ext {st0 stS:St} (f:Fits st0 stS a):Ext st0 (over st0 stS) where
 tm:=fun t tv h=>by rw [qa,h]
 rt:=f.rt
theorem Fits.rel {st0 stS:St} (f:Fits st0 stS a) (h:Rel cx Z g stS a w):Rel cx Z g (over st0 stS) a w:=by
 refine h.swap (fun _=>rfl) fun t tv ht => ?_
 rw [qa] at ht;cases h0:look st0.tm t with
 | none=>rw [h0] at ht; exact h.tm t tv ht
 | some tv0 => rw [h0] at ht;simp only [ab6] at ht;subst ht;obtain ⟨tv,h1,h2,h3⟩:=f.tm t tv0 h0;exact ⟨(h.tm t tv h1).1,h3 _ _ _ _ (h.tm t tv h1).2⟩
theorem Fits.cons {st0 stS:St} (f:Fits st0 stS a):mu (over st0 stS):=by
 intro d q want y gg l hl tq htq;have key:∀ tqS,look stS.tm q=some tqS->eY tqS y:=by
  rw [qa] at hl;cases h0:look st0.tm d with
  | none=>rw [h0] at hl; exact f.mayS d q want y gg l hl
  | some tv0 => rw [h0] at hl;simp only [ab6] at hl;subst hl;exact f.may d q want y gg l h0
 rw [qa] at htq;cases h0:look st0.tm q with
 | none=>rw [h0] at htq; exact key _ htq
 | some tv0 => rw [h0] at htq;simp only [ab6] at htq;subst htq;obtain ⟨tv,h1,h2,_⟩:=f.tm q tv0 h0;exact eY.of h2 (key tv h1)
theorem Fits.back {st0 stS:St} (f:Fits st0 stS a) {t:Nat} {tv:TV} (h:look stS.tm t=some tv):∃ tv',look (over st0 stS).tm t=some tv'/\dW tv' tv:=by
 rw [qa];cases h0:look st0.tm t with
 | none=>exact ⟨tv,h,dW.refl _⟩
 | some tv0 => obtain ⟨tv1,h1,h2,_⟩:=f.tm t tv0 h0;rw [h] at h1;simp only [ab6] at h1;subst h1;exact ⟨tv0,rfl,h2⟩
variable {nt:Nat->Prop} {base:St} {bs bsF:Bd} {mask S:Nat}
theorem Hy (hb:dk nt base bs) (hF:dk nt base bsF) (hl:db bs bsF) (hm:MB (aA base bs)) (hmF:MB (aA base bsF)) (hs:∀ i t p,(i,t,p)∈bs->mask.testBit i=true->S.testBit i=true):Fits (view base mask bs) (view base S bsF) a where
 rt:=fun r R h=>by
  rw [fO _ hb] at h;rw [fO _ hF];rcases h with ⟨i,p,h1,h2,h3⟩ | h
  . obtain ⟨p',h4,h5⟩:=hl i r p h1;exact .inl ⟨i,p',h4,hs i r p h1 h2,by rw [<- h5.1]; exact h3⟩
  . exact .inr h
 tm:=fun t tv0 h=>by
  rw [et _ hb] at h;rcases h with ⟨i,p,h1,h2,rfl⟩ | h
  . obtain ⟨p',h4,h5⟩:=hl i t p h1;exact ⟨p'.1,(et _ hF _ _).2 (.inl ⟨i,p',h4,hs i t p h1 h2,rfl⟩),h5.2.1,fun Z g st w hr=>h5.2.2 Z g st w _ hr⟩
  . exact ⟨tv0,(et _ hF _ _).2 (.inr h),dW.refl _,fun _ _ _ _ h=>h⟩
 may:=fun d q want y gg l h tq htq=>by
  have h1:look (aA base bs).tm d=some (.may q want y gg l):=by
   rw [bK hb];rw [et _ hb] at h;rcases h with ⟨i,p,h1,h2,h3⟩ | h
   . exact .inl ⟨i,p,h1,h3⟩
   . exact .inr h
  obtain ⟨tq0,h2,h3⟩:=hm d q want y gg l h1;rw [bK hb] at h2;rw [et _ hF] at htq;rcases h2 with ⟨i,p,g1,rfl⟩ | h2
  . obtain ⟨p',g2,g3⟩:=hl i q p g1;rcases htq with ⟨i',p'',k1,_,rfl⟩ | htq
    . obtain ⟨_,_,rfl⟩:=hF.uniq g2 k1 (.inr rfl);exact eY.of g3.2.2 h3
    . rw [(hF.mem g2).2.1] at htq; simp at htq
  . rcases htq with ⟨i',p'',k1,_,rfl⟩ | htq
    . rw [(hF.mem k1).2.1] at h2; simp at h2
    . rw [h2] at htq;simp only [ab6] at htq;exact htq ▸ h3
 mayS:=by
  intro d q want y gg l h tq htq;have up:∀ t tv,look (view base S bsF).tm t=some tv->look (aA base bsF).tm t=some tv:=fun t tv h=>by
   rw [bK hF];rw [et _ hF] at h;rcases h with ⟨i,p,h1,h2,h3⟩ | h
   . exact .inl ⟨i,p,h1,h3⟩
   . exact .inr h
  exact hmF.cons d q want y gg l (up _ _ h) tq (up _ _ htq)
theorem bc (S j i:Nat):(S ||| 2 ^ j).testBit i=(S.testBit i || decide (j=i)):=by rw [Nat.testBit_or,Nat.testBit_two_pow]
theorem Cb (hF:dk nt base bsF) {j d:Nat} {p p':TV×Option Rt} (hj:(j,d,p')∈bsF) {stX:St} (h:Rel cx Z g (stX.az d p) a w) (hrt:∀ r,look stX.rt r=look (view base S bsF).rt r)
 (htm:∀ t tv,look (view base S bsF).tm t=some tv->∃ tv',look stX.tm t=some tv'/\dW tv' tv) (hp2:p.2=p'.2) (hp1:dW p.1 p'.1):Rel cx Z g (view base (S ||| 2 ^ j) bsF) a w:=by
 obtain ⟨_,n1,n2⟩:=hF.mem hj;refine h.swap (fun r => ?_) fun t tv ht => ?_
 . apply Option.ext;intro R;show look _ r=some R↔look _ r=some R;rw [fO _ hF,wS,hrt];constructor
   . rintro (⟨i,p'',h1,h2,h3⟩ | h1)
     . rw [bc] at h2;by_cases hij:j=i
       . obtain ⟨_,e1,e2⟩:=hF.uniq hj h1 (.inl hij);subst e1; subst e2;rw [hp2,h3];simp
       . have hS:S.testBit i=true:=by simpa [hij] using h2
         have hdr:¬ d=r:=fun e=>hij ((hF.uniq hj h1 (.inr e)).1)
         have:look (view base S bsF).rt r=some R:=(fO _ hF _ _).2 (.inl ⟨i,p'',h1,hS,h3⟩);cases p.2 <;> simp [hdr,this]
     . have hdr:¬ d=r:=fun e=>by rw [<- e,n2] at h1; simp at h1
       have:look (view base S bsF).rt r=some R:=(fO _ hF _ _).2 (.inr h1);cases p.2 <;> simp [hdr,this]
   . intro h1;have old:look (view base S bsF).rt r=some R->(∃ i p,(i,r,p)∈bsF/\(S ||| 2 ^ j).testBit i=true/\p.2=some R)∨look base.rt r=some R:=fun h1=>by
      rw [fO _ hF] at h1;rcases h1 with ⟨i,p'',k1,k2,k3⟩ | h1
      . exact .inl ⟨i,p'',k1,by rw [bc,k2]; rfl,k3⟩
      . exact .inr h1
     cases hp:p.2 with
     | none=>rw [hp] at h1; exact old h1
     | some R0 =>
       rw [hp] at h1;simp only at h1;by_cases hdr:d=r
       . rw [if_pos hdr] at h1;subst hdr;exact .inl ⟨j,p',hj,by rw [bc]; simp,by rw [<- hp2,hp]; exact h1⟩
       . rw [if_neg hdr] at h1; exact old h1
 . have old:¬ d=t->look (view base S bsF).tm t=some tv->t < a.tmps.size/\bl Z g (stX.az d p) w tv (a.tmps.getD t undef):=fun hdt h1=>by
    obtain ⟨tv',k1,k2⟩:=htm t tv h1;have:=h.tm t tv' (by rw [a8,if_neg hdt]; exact k1);exact ⟨this.1,k2 _ _ _ _ _ this.2⟩
   rw [et _ hF] at ht;rcases ht with ⟨i,p'',h1,h2,rfl⟩ | h1
   . rw [bc] at h2;by_cases hij:j=i
     . obtain ⟨_,e1,e2⟩:=hF.uniq hj h1 (.inl hij);subst e1; subst e2;have:=h.tm d p.1 (by rw [a8,if_pos rfl]);exact ⟨this.1,hp1 _ _ _ _ _ this.2⟩
     . have hS:S.testBit i=true:=by simpa [hij] using h2
       exact old (fun e=>hij ((hF.uniq hj h1 (.inr e)).1)) ((et _ hF _ _).2 (.inl ⟨i,p'',h1,hS,rfl⟩))
   . exact old (fun e=>by rw [<- e,n1] at h1; simp at h1) ((et _ hF _ _).2 (.inr h1))
theorem Gv (hF:dk nt base bsF) {j d:Nat} {p':TV×Option Rt} (hj:(j,d,p')∈bsF) (hS:S.testBit j=false) {st0:St}:(over st0 (view base S bsF)).free d=true:=by
 have:look (view base S bsF).rt d=none:=by
  cases hl:look (view base S bsF).rt d with
  | none=>rfl
  | some R =>
    rw [fO _ hF] at hl;rcases hl with ⟨i,p'',h1,h2,_⟩ | hl
    . rw [(hF.uniq hj h1 (.inr rfl)).1,h2] at hS; simp at hS
    . rw [(hF.mem hj).2.2] at hl; simp at hl
 show (match look (view base S bsF).rt d with | none=>true | some _=>false)=true;rw [this]
def En.yj (E:En) (t:Nat):Prop:=E.dB t=true
def Fit {P:Program} (cx:Cx P) (E:En) (a:Act):Prop:=E.nt<=a.tmps.size/\∀ t v,cx.pin t=some v->j4 E.pins t=true
theorem Fit.dst {P:Program} {cx:Cx P} {a:Act} (h:Fit cx E a) {d:Nat} (hd:E.yj d):iX cx a d:=by
 unfold En.yj En.dB at hd;simp only [ab8,acP] at hd;refine ⟨acA (adB (acF hd.1)) h.1,?_⟩;cases hp:cx.pin d with
 | none=>rfl
 | some v=>rw [h.2 d v hp] at hd; simp at hd
theorem Fit.put {P:Program} {cx:Cx P} {a:Act} (h:Fit cx E a) (d:Option Nat) (v:Value):Fit cx E (a.put d v):=⟨by rw [qC]; exact h.1,h.2⟩
def oz (P:Program) (E:En) (ops:Array Oper) (ns:List Nat) (base:St) (bsF:Bd) (i0 j:Nat):Prop :=
 ∀ (cx:Cx P) (S:Nat) (a:Act) (w:World) (Z:Nat->Prop) (g:Gh) (next:Act->World->Prop) (Q:Exit->Act->World->Prop),
  (∀ i,i0<=i->i < j->(ns.getD j cq).testBit i=true->S.testBit i=true)->S.testBit j=false->Rel cx Z g (view base S bsF) a w->Fit cx E a ->
  (∀ Z' g' a' w',Rel cx Z' g' (view base (S ||| 2 ^ j) bsF) a' w'->Fit cx E a'->next a' w')->wpOp P ops Q j next a w
variable {ops:Array Oper} {ns:List Nat} {i0:Nat}
theorem Bq (hT:bG P E) (hga:de P E) {j d:Nat} {o:Oper} {p p':TV×Option Rt} (ho:ops[j]? = some o) (hd:o.dst=some d) (hF:dk E.yj base bsF) (hj:(j,d,p')∈bsF) (hp2:p.2=p'.2) (hp1:dW p.1 p'.1)
 {st0:St} (hq:(xH E st0 d o.op).run=some p) {cx:Cx P} {S:Nat} {a:Act} {w:World} {Z:Nat->Prop} {g:Gh} {next:Act->World->Prop} {Q:Exit->Act->World->Prop} (hS:S.testBit j=false) (h:Rel cx Z g (view base S bsF) a w) (hsz:Fit cx E a)
 (f:Fits st0 (view base S bsF) a) (hw:Region.wanted o (yielded ops a.tmps)=true) (hn:∀ Z' g' a' w',Rel cx Z' g' (view base (S ||| 2 ^ j) bsF) a' w'->Fit cx E a'->next a' w'):wpOp P ops Q j next a w:=by
 unfold wpOp;simp only [ho,hw,if_true];refine .inl ?_;have hdn:iX cx a d:=hsz.dst (hF.mem hj).1;refine yk hT hga f.ext (f.rel h) f.cons hd hdn (Gv hF hj hS) hq _ _ fun Z' g' v w' hr=>hn Z' g' _ w' ?_ (hsz.put _ _)
 exact Cb hF hj hr (fun _=>rfl) (fun t tv ht=>f.back ht) hp2 hp1
theorem yP {j d:Nat} {o:Oper} {p':TV×Option Rt} (ho:ops[j]? = some o) (hd:o.dst=some d) (hF:dk E.yj base bsF) (hj:(j,d,p')∈bsF) (hp2:p'.2=none)
 {cx:Cx P} {S:Nat} {a:Act} {w:World} {Z:Nat->Prop} {g:Gh} {next:Act->World->Prop} {Q:Exit->Act->World->Prop} (h:Rel cx Z g (view base S bsF) a w) (hsz:Fit cx E a)
 (hp1:∀ (Z:Nat->Prop) (g:Gh) (st:St) (w:World),bl Z g st w p'.1 undef) (hw:Region.wanted o (yielded ops a.tmps)=false) (hn:∀ Z' g' a' w',Rel cx Z' g' (view base (S ||| 2 ^ j) bsF) a' w'->Fit cx E a'->next a' w'):wpOp P ops Q j next a w:=by
 unfold wpOp;simp only [ho,hw,acU,ado];have hdn:iX cx a d:=hsz.dst (hF.mem hj).1;rw [hd];refine hn Z g _ w ?_ (hsz.put _ _);exact Cb hF hj (h.gj hdn (tv:=p'.1) (hp1 _ _ _ _)) (fun _=>rfl) (fun t tv ht=>⟨tv,ht,dW.refl _⟩) hp2.symm (dW.refl _)
theorem yy {o:Oper} {j:Nat} {want x:Bool} {og:Oper} {gt:Nat} (hg:o.guard=some (j,want)) (ho:ops[j]? = some og) (hd:og.dst=some gt) {a:Act} (hv:a.tmps.getD gt undef= .bool x):Region.wanted o (yielded ops a.tmps)=(x == want):=by
 have:a.tmps[gt]? = some (.bool x):=by
  rw [ach] at hv;cases hh:a.tmps[gt]? with
  | none=>rw [hh] at hv; simp [undef] at hv
  | some v=>rw [hh] at hv; simpa using hv
 simp only [Region.wanted,hg,yielded,ho,acE,hd,this];cases x <;> cases want <;> rfl
end
end Go.Av
namespace Go.Av
open Go.RowKit (Below)
section
variable {Z:Nat->Prop} {g:Gh} {st:St} {w:World}
theorem nZ {gg:Bool} {l:List AV} {v:Value}:bl Z g st w (dG gg l) v↔(match dG gg l with | .v a=>ba Z g st w a v | .agg l=>∃ vs:Array Value,v= .agg vs/\aN Z g st w l vs.toList | _=>True):=by unfold dG;split <;> simp [bl]
end
theorem Az {q:Nat} {want y gg:Bool} {l:List AV} (hy:y=want):dW (.may q want y gg l) (dG gg l)/\dW (dG gg l) (.may q want y gg l) :=
 ⟨fun Z g st w v h=>nZ.2 (h hy),fun Z g st w v h _=>nZ.1 h⟩
theorem Ba {q:Nat} {want y gg:Bool} {l:List AV}:dW (dG gg l) (.may q want y gg l):=fun Z g st w v h _=>nZ.1 h
theorem vg (x:Bool):dW (.v (.d .bool x)) (.v (.lb x))/\dW (.v (.lb x)) (.v (.d .bool x)):=⟨fun _ _ _ _ _ h=>h,fun _ _ _ _ _ h=>h⟩
theorem KK (x:Bool):eY (.v (.lb x)) x:=fun _ _ _ _ _ h=>h
theorem zt {st:St} (hc:mu st) {t:Nat} {tv:TV} (h:st.tv t=some tv):∃ tq,look st.tm t=some tq/\dW tq tv/\dW tv tq:=by
 unfold St.tv at h;cases hl:look st.tm t with
 | none=>simp [hl] at h
 | some tv0 =>
   rw [hl] at h;refine ⟨tv0,rfl,?_⟩;cases tv0 with
   | may q want y gg l =>
     simp only at h;cases hq:look st.tm q with
     | none=>simp [hq] at h
     | some tq =>
       simp only [hq] at h;have ht:=hc t q want y gg l hl tq hq;split at h
       . rename_i x he;have he:tq= .v (.lb x):=by simpa using he
         subst he;have:=ht.lb;subst this;split at h
         . simp only [ab6] at h; subst h; exact Az rfl
         . simp only [ab6] at h; subst h; exact Az rfl
         . simp at h
       . simp only [ab6] at h; subst h; exact ⟨dW.refl _,dW.refl _⟩
       . simp at h
   | _=>simp only [ab6] at h; subst h; exact ⟨dW.refl _,dW.refl _⟩
theorem mP {gt:Nat} {x:Bool}:∀ {bs:Bd} {i t:Nat} {p:TV×Option Rt},(i,t,p)∈eU gt x bs->∃ p0,(i,t,p0)∈bs
 | [],_,_,_,h=>by simp [eU] at h
 | (i0,t0,p0) :: r,i,t,p,h=>by
   unfold eU at h;cases hb:Nat.beq t0 gt with
   | true =>
     simp only [hb,ab9] at h;rcases aci.1 h with h | h
     . cases h; exact ⟨p0,acu ..⟩
     . exact ⟨p,acr _ h⟩
   | false =>
     simp only [hb,aco] at h;rcases aci.1 h with h | h
     . cases h; exact ⟨p0,acu ..⟩
     . obtain ⟨p1,h1⟩:=mP h;exact ⟨p1,acr _ h1⟩
theorem uK {nt:Nat->Prop} {base:St} {gt:Nat} {x:Bool}:∀ {bs:Bd},dk nt base bs->dk nt base (eU gt x bs)
 | [],h=>h
 | (i0,t0,p0) :: r,h=>by
   obtain ⟨h1,h2,h3,h4,h5⟩:=h;unfold eU;cases hb:Nat.beq t0 gt with
   | true=>exact ⟨h1,h2,h3,h4,h5⟩
   | false => refine ⟨h1,h2,h3,fun e he => ?_,uK h5⟩;obtain ⟨i,t,p⟩:=e;obtain ⟨p1,hp⟩:=mP he;exact h4 (i,t,p1) hp
theorem mX {nt:Nat->Prop} {base:St} {gt:Nat} {x:Bool}:∀ {bs:Bd},dk nt base bs->∀ {i t:Nat} {p:TV×Option Rt},(i,t,p)∈eU gt x bs↔(t≠gt/\(i,t,p)∈bs)∨(t=gt/\∃ p0,(i,gt,p0)∈bs/\p=(.v (.lb x),p0.2))
 | [],_,i,t,p=>by simp [eU]
 | (i0,t0,p0) :: r,hb,i,t,p=>by
   obtain ⟨h1,h2,h3,h4,h5⟩:=hb;have ih:=mX (gt:=gt) (x:=x) h5 (i:=i) (t:=t) (p:=p);unfold eU;cases hb:Nat.beq t0 gt with
   | true =>
     have e:=beq_eq hb;subst e;simp only [ab9];constructor
     . intro h;rcases aci.1 h with h | h
       . cases h; exact .inr ⟨rfl,p0,acu ..,rfl⟩
       . exact .inl ⟨(h4 _ h).2,acr _ h⟩
     . rintro (⟨hne,h⟩ | ⟨rfl,p1,h,rfl⟩)
       . rcases aci.1 h with h | h
         . cases h; exact absurd rfl hne
         . exact acr _ h
       . rcases aci.1 h with h | h
         . cases h; exact acu ..
         . exact absurd rfl (h4 _ h).2
   | false =>
     have hne:t0≠gt:=fun e=>by subst e; simp at hb
     simp only [aco];constructor
     . intro h;rcases aci.1 h with h | h
       . cases h; exact .inl ⟨hne,acu ..⟩
       . rcases ih.1 h with ⟨h6,h7⟩ | ⟨rfl,p1,h6,rfl⟩
         . exact .inl ⟨h6,acr _ h7⟩
         . exact .inr ⟨rfl,p1,acr _ h6,rfl⟩
     . rintro (⟨hne',h⟩ | ⟨rfl,p1,h,rfl⟩)
       . rcases aci.1 h with h | h
         . cases h; exact acu ..
         . exact acr _ (ih.2 (.inl ⟨hne',h⟩))
       . rcases aci.1 h with h | h
         . cases h; exact absurd rfl hne
         . exact acr _ (ih.2 (.inr ⟨rfl,p1,h,rfl⟩))
section
variable {nt:Nat->Prop} {base:St} {bs:Bd} {gt d:Nat} {x:Bool}
def mG (base:St) (bs:Bd) (gt:Nat) (x:Bool):Prop:=∃ tq,look (aA base bs).tm gt=some tq/\dW tq (.v (.lb x))/\dW (.v (.lb x)) tq
theorem sT (hb:dk nt base bs) (hk:mG base bs gt x):db bs (eU gt x bs):=fun i t p h=>by
 by_cases ht:t=gt
 . subst ht;refine ⟨(.v (.lb x),p.2),(mX hb).2 (.inr ⟨rfl,p,h,rfl⟩),rfl,?_⟩;obtain ⟨tq,h1,h2,h3⟩:=hk;have:look (aA base bs).tm t=some p.1:=(bK hb _ _).2 (.inl ⟨i,p,h,rfl⟩);rw [this] at h1;simp only [ab6] at h1;subst h1;exact ⟨h2,h3⟩
 . exact ⟨p,(mX hb).2 (.inl ⟨ht,h⟩),Alike.refl p⟩
theorem Il (hb:dk nt base bs) (hm:MB (aA base bs)) (hk:mG base bs gt x):MB (aA base (eU gt x bs)):=by
 have hb':=uK (gt:=gt) (x:=x) hb;intro d q want y gg l hl;have old:look (aA base bs).tm d=some (.may q want y gg l):=by
  rw [bK hb'] at hl;rw [bK hb];rcases hl with ⟨i,p,h1,h2⟩ | hl
  . rcases (mX hb).1 h1 with ⟨h3,h4⟩ | ⟨rfl,p0,h3,rfl⟩
    . exact .inl ⟨i,p,h4,h2⟩
    . simp at h2
  . exact .inr hl
 obtain ⟨tq,h1,h2⟩:=hm d q want y gg l old;have h1':=h1;rw [bK hb] at h1;rcases h1 with ⟨i,p,h3,rfl⟩ | h1
 . obtain ⟨p',h4,h5⟩:=sT hb hk i q p h3;exact ⟨p'.1,(bK hb' _ _).2 (.inl ⟨i,p',h4,rfl⟩),eY.of h5.2.2 h2⟩
 . exact ⟨tq,(bK hb' _ _).2 (.inr h1),h2⟩
theorem rT:∀ {bs:Bd} {gt:Nat},iJ gt bs=false->∀ e∈bs,e.2.1≠gt
 | [],_,_,_,h=>by simp at h
 | (i0,t0,p0) :: r,gt,h,e,he=>by
   simp only [iJ,adN] at h;rcases aci.1 he with he | he
   . subst he; intro h'; subst h'; have:=h.1; simp at this
   . exact rT h.2 e he
theorem dk.uw {b:Bool} (hnt:b=true->nt d) (hb:dk nt base bs) {i:Nat} {p:TV×Option Rt} (h1:(b && sU base d && base.free d && !iJ d bs)=true) (hi:∀ e∈bs,e.1≠i):dk nt base ((i,d,p) :: bs):=by
 simp only [ab8,acP] at h1;obtain ⟨⟨⟨h1,h2⟩,h3⟩,h4⟩:=h1;refine ⟨?_,?_,kt h3,fun e he=>⟨hi e he,rT h4 e he⟩,hb⟩
 . exact hnt h1
 . unfold sU at h2;split at h2
   . assumption
   . simp at h2
theorem MB.uw (hm:MB (aA base bs)) {i d:Nat} {p:TV×Option Rt} (hb:dk nt base ((i,d,p) :: bs)) (hp:∀ q want y gg l,p.1= .may q want y gg l->∃ tq,look (aA base bs).tm q=some tq/\eY tq y):MB (aA base ((i,d,p) :: bs)):=by
 have hne:∀ q tq,look (aA base bs).tm q=some tq->¬ d=q:=fun q tq hq e=>by
  subst e;rw [bK hb.2.2.2.2] at hq;rcases hq with ⟨i',p',h1,_⟩ | hq
  . exact absurd rfl (hb.2.2.2.1 _ h1).2
  . rw [hb.2.1] at hq; simp at hq
 intro t q want y gg l hl;have hl:look ((aA base bs).az d p).tm t=_:=hl;rw [a8] at hl;have fin:(∃ tq,look (aA base bs).tm q=some tq/\eY tq y)->∃ tq,look (aA base ((i,d,p) :: bs)).tm q=some tq/\eY tq y:=by rintro ⟨tq,h1,h2⟩;refine ⟨tq,?_,h2⟩;show look ((aA base bs).az d p).tm q=_;rw [a8,if_neg (hne q tq h1)];exact h1
 by_cases ht:d=t
 . rw [if_pos ht] at hl;exact fin (hp q want y gg l (by simpa using hl))
 . rw [if_neg ht] at hl;exact fin (hm t q want y gg l hl)
end
theorem A7 (f:Nat×TV->Nat×TV) (hf:∀ p,(f p).1=p.1):∀ (l:List (Nat×TV)) (t:Nat),look (l.map f) t=(look l t).map fun tv=>(f (t,tv)).2
 | [],t=>rfl
 | (m,x) :: l,t=>by
   have h1:(f (m,x)).1=m:=hf _;show look (f (m,x) :: l.map f) t=_;have:f (m,x)=(m,(f (m,x)).2):=Prod.ext h1 rfl;rw [this,aW,aW];by_cases h:m=t
   . subst h; simp
   . simp [h,A7 f hf l t]
def qj (gt:Nat) (want:Bool):TV->TV
 | .may t w' y g' l=>bif Nat.beq t gt && bM w' want then dG g' l else .may t w' y g' l
 | tv=>tv
theorem Cj (st:St) (gt:Nat) (want:Bool) (t:Nat):look (st.under gt want).tm t=(look st.tm t).map (qj gt want):=by
 unfold St.under;rw [A7]
 . cases look st.tm t with
   | none=>rfl
   | some tv =>
     cases tv with
     | may q w' y g' l => simp only [acG,qj];cases Nat.beq q gt && bM w' want <;> rfl
     | _=>rfl
 . rintro ⟨t,tv⟩;cases tv with
   | may q w' y g' l => simp only;cases Nat.beq q gt && bM w' want <;> rfl
   | _=>rfl
theorem Fits.under {st0 stS:St} {a:Act} (f:Fits st0 stS a) {gt:Nat} {want:Bool} (hy:∀ tq,look stS.tm gt=some tq->∀ y,eY tq y->y=want) (hg:∃ tq,look stS.tm gt=some tq):Fits (st0.under gt want) stS a where
 rt:=f.rt
 tm:=fun t tv0 h=>by
  rw [Cj] at h;cases hl:look st0.tm t with
  | none=>simp [hl] at h
  | some tv1 =>
    rw [hl] at h;simp only [acG,ab6] at h;subst h;obtain ⟨tv,h1,h2,h3⟩:=f.tm t tv1 hl;cases tv1 with
    | may q w' y g' l =>
      simp only [qj];cases hb:Nat.beq q gt && bM w' want with
      | false=>exact ⟨tv,h1,h2,h3⟩
      | true => simp only [ab9];simp only [ab8] at hb;have e1:=beq_eq hb.1;have e2:=dU hb.2;subst e1; subst e2;obtain ⟨tq,htq⟩:=hg;have hyy:=hy tq htq y (f.may t q w' y g' l hl tq htq);have hs:=Az (q:=q) (gg:=g') (l:=l) hyy;exact ⟨tv,h1,hs.2.trans h2,fun Z g st w hr=>hs.1 _ _ _ _ _ (h3 Z g st w hr)⟩
    | _=>exact ⟨tv,h1,h2,h3⟩
 may:=fun d q w' y gg l h=>by
  rw [Cj] at h;cases hl:look st0.tm d with
  | none=>simp [hl] at h
  | some tv1 =>
    rw [hl] at h;simp only [acG,ab6] at h;cases tv1 with
    | may q1 w1 y1 g1 l1 =>
      simp only [qj] at h;cases hb:Nat.beq q1 gt && bM w1 want with
      | true=>rw [hb] at h; exact (ja h).elim
      | false => rw [hb] at h;simp only [aco,TV.may.injEq] at h;obtain ⟨rfl,rfl,rfl,rfl,rfl⟩:=h;exact f.may d _ _ _ _ _ hl
    | _=>simp [qj] at h
 mayS:=f.mayS
theorem DF {gt:Nat} {want x:Bool} {t:Tr (TV×Option Rt)} {tv:TV} (h:A9 gt want x t=some tv):∃ gg l,t.run=some (dG gg l,none)/\tv= .may gt want x gg l:=by
 unfold A9 at h;split at h
 . rename_i a;simp only [ab6] at h;exact ⟨false,[a],rfl,h.symm⟩
 . rename_i l;simp only [ab6] at h;exact ⟨true,l,by cases l <;> rfl,h.symm⟩
 . simp at h
end Go.Av
namespace Go.Av
open Go.RowKit (Below)
def bm (st:St):Prop:=∀ t tv,look st.tm t=some tv->¬ tv.gL
theorem bm.cons {st:St} (h:bm st):mu st:=fun d q want y gg l hl=>(h d _ hl trivial).elim
theorem bm.MB {st:St} (h:bm st):MB st:=fun d q want y gg l hl=>(h d _ hl trivial).elim
section
variable {P:Program} {E:En} {ops:Array Oper} {ns:List Nat} {base:St} {i0:Nat}
def SL (ops:Array Oper) (i t:Nat):Prop:=∃ o,ops[i]? = some o/\o.dst=some t
def iK (P:Program) (E:En) (dr:Bool) (ops:Array Oper) (ns:List Nat) (base:St) (i0 i:Nat) (bs:Bd) (stF:St):Prop :=
 ∃ (i1:Nat) (bsF:Bd),i<=i1/\dk E.yj base bsF/\MB (aA base bsF)/\(∀ e∈bsF,i0<=e.1/\e.1 < i1/\SL ops e.1 e.2.1)/\(bd ops.toList=false->∀ i t p,(i,t,p)∈bsF->¬ p.1.gL)/\db bs bsF /\
  (∀ j,i<=j->j < i1->oz P E ops ns base bsF i0 j) /\
  ((i1=ops.size/\stF=iC (bd ops.toList) (aA base bsF)) ∨
    ∃ (o:Oper) (st':St),ops[i1]? = some o/\o.guard=none/\(dr=true->gy ns i1=true)/\yx E o.dst=true/\(PU E (iC (bd ops.toList) (aA base bsF)) o.dst o.op).run=some st'/\(dH E dr ops.toList ns (ops.toList.drop (i1 + 1)) (i1 + 1) st' []).run=some stF)
theorem iK.step {dr:Bool} {i:Nat} {d:Nat} {p:TV×Option Rt} {bs bs':Bd} {stF:St} (h:iK P E dr ops ns base i0 (i + 1) ((i,d,p) :: bs') stF) (hl:db bs bs')
 (hs:∀ bsF,dk E.yj base bsF->MB (aA base bsF)->db ((i,d,p) :: bs') bsF->oz P E ops ns base bsF i0 i):iK P E dr ops ns base i0 i bs stF:=by
 obtain ⟨i1,bsF,h1,h2,h3,h4,h5,h6,h7,h8⟩:=h;refine ⟨i1,bsF,by omega,h2,h3,h4,h5,(hl.trans (db.cons (db.refl bs'))).trans h6,fun j hj hj1 => ?_,h8⟩;by_cases hji:i=j
 . subst hji; exact hs bsF h2 h3 h6
 . exact h7 j (by omega) hj1
theorem kY {e:Nat×Nat×(TV×Option Rt)} {bs bsF:Bd} (h:db (e :: bs) bsF):db bs bsF:=fun i t p hp=>h i t p (acr _ hp)
theorem mG.of {nt:Nat->Prop} {bs:Bd} {mask gt:Nat} {x:Bool} {tv:TV} (hb:dk nt base bs) (hm:MB (aA base bs)) (h:(view base mask bs).tv gt=some tv) (hx:dW tv (.v (.lb x))/\dW (.v (.lb x)) tv):mG base bs gt x:=by
 have up:Ext (view base mask bs) (aA base bs):=by
  refine ⟨fun t tv h => ?_,fun r R h => ?_⟩
  . rw [bK hb];rw [et _ hb] at h;rcases h with ⟨i,p,h1,h2,h3⟩ | h
    . exact .inl ⟨i,p,h1,h3⟩
    . exact .inr h
  . rw [fY base (bitsOf bs) bs (fun i t p h=>dz h),fO _ hb];rw [fO _ hb] at h;rcases h with ⟨i,p,h1,h2,h3⟩ | h
    . exact .inl ⟨i,p,h1,dz h1,h3⟩
    . exact .inr h
 obtain ⟨tq,h1,h2,h3⟩:=zt hm.cons (up.tv h);exact ⟨tq,h1,h2.trans hx.1,hx.2.trans h3⟩
theorem mG.T9 {bs:Bd} {gt:Nat} {x:Bool} (h:mG base bs gt x):∃ tq,look (aA base bs).tm gt=some tq/\eY tq x:=by obtain ⟨tq,h1,h2,h3⟩:=h;exact ⟨tq,h1,eY.of h2 (KK x)⟩
theorem DX {j gt:Nat} (h:qK ops.toList j=some gt):∃ og,ops[j]? = some og/\og.dst=some gt:=by
 unfold qK at h;split at h
 . rename_i o ho;rw [acf] at ho;exact ⟨o,ho,h⟩
 . simp at h
theorem Cv {P:Program} {cx:Cx P} {Z:Nat->Prop} {g:Gh} {st0 stS:St} {a:Act} {w:World} (f:Fits st0 stS a) (h:Rel cx Z g stS a w) {gt:Nat} {tv:TV} {x:Bool} (ht:st0.tv gt=some tv) (hx:dW tv (.v (.lb x))):a.tmps.getD gt undef= .bool x :=
 hx _ _ _ _ _ (gF (f.rel h) f.cons.cons (f.ext.tv ht))
theorem C5 {P:Program} {cx:Cx P} {Z:Nat->Prop} {g:Gh} {st0 stS:St} {a:Act} {w:World} (f:Fits st0 stS a) (h:Rel cx Z g stS a w) {gt:Nat} (ht:st0.tv gt=some (.tup [])):a.tmps.getD gt undef=undef:=by
 obtain ⟨vs,e,hv⟩:=(gF (f.rel h) f.cons.cons (f.ext.tv ht):bl Z g _ w (.tup []) _);cases hl:vs.toList with
 | nil =>
   have:vs = #[]:=by cases vs; simp_all
   rw [e,this]; rfl
 | cons _ _=>rw [hl] at hv; exact hv.elim
theorem Lj {nt:Nat->Prop} {bs:Bd} {mask d:Nat} {op:Op} {p:TV×Option Rt} (hb:dk nt base bs) (hm:MB (aA base bs)) (hq:(xH E (view base mask bs) d op).run=some p):∀ q want y gg l,p.1= .may q want y gg l->∃ tq,look (aA base bs).tm q=some tq/\eY tq y:=by
 intro q want y gg l hp;obtain ⟨d',hd'⟩:=Fj hq (by rw [hp]; trivial);rw [hp] at hd';refine hm d' q want y gg l ?_;rw [bK hb];rw [et _ hb] at hd';rcases hd' with ⟨i,p',h1,h2,h3⟩ | h
 . exact .inl ⟨i,p',h1,h3⟩
 . exact .inr h
theorem jX {i:Nat} {o:Oper} {gd:Nat×Bool} (h:ops[i]? = some o) (hg:o.guard=some gd):bd ops.toList=true:=by unfold bd;rw [ad2];refine ⟨o,?_,by rw [hg]⟩;rw [<- acf] at h;exact acg h
structure gm (E:En) (ops:Array Oper) (base:St) (i0 i:Nat) (bs:Bd):Prop where
 ok:dk E.yj base bs
 mb:MB (aA base bs)
 idx:∀ e∈bs,i0<=e.1/\e.1 < i/\SL ops e.1 e.2.1
 ng:bd ops.toList=false->∀ i t p,(i,t,p)∈bs->¬ p.1.gL
def qf (E:En) (base:St) (d:Nat) (bs:Bd):Bool:=E.dB d && sU base d && base.free d && !iJ d bs
theorem gm.fits {i:Nat} {bs bsF:Bd} (hs:gm E ops base i0 i bs) (hF:dk E.yj base bsF) (hmF:MB (aA base bsF)) (hl:db bs bsF) {S:Nat} (hS:∀ i',i0<=i'->i' < i->(ns.getD i cq).testBit i'=true->S.testBit i'=true) {a:Act}:Fits (view base (ns.getD i cq) bs) (view base S bsF) a :=
 Hy hs.ok hF hl hs.mb hmF fun i' t' p' h1 h2=>hS i' (hs.idx _ h1).1 (hs.idx _ h1).2.1 h2
theorem wk {dr:Bool} {i:Nat} {r:List Oper} (ih:∀ (bs:Bd) (stF:St),gm E ops base i0 (i + 1) bs->(dH E dr ops.toList ns r (i + 1) base bs).run=some stF->iK P E dr ops ns base i0 (i + 1) bs stF) (hi0:i0<=i)
 {bs bs':Bd} {d:Nat} {p:TV×Option Rt} {stF:St} (hs:gm E ops base i0 i bs') (hl:db bs bs') (hd:qf E base d bs'=true) (hp:∀ q want y gg l,p.1= .may q want y gg l->∃ tq,look (aA base bs').tm q=some tq/\eY tq y) (hpm:bd ops.toList=false->¬ p.1.gL) (hdd:SL ops i d)
 (hrun:(dH E dr ops.toList ns r (i + 1) base ((i,d,p) :: bs')).run=some stF) (hstep:∀ bsF,dk E.yj base bsF->MB (aA base bsF)->db ((i,d,p) :: bs') bsF->oz P E ops ns base bsF i0 i):iK P E dr ops ns base i0 i bs stF:=by
 have hbc:dk E.yj base ((i,d,p) :: bs'):=dk.uw (fun h=>h) hs.ok hd fun e he=>Nat.ne_of_lt (hs.idx e he).2.1
 refine iK.step (ih ((i,d,p) :: bs') stF ⟨hbc,hs.mb.uw hbc hp,fun e he => ?_,fun h0 i' t' p' hmem => ?_⟩ hrun) hl hstep
 . rcases aci.1 he with he | he
   . subst he; exact ⟨hi0,adA i,hdd⟩
   . have:=hs.idx e he; exact ⟨this.1,aeW this.2.1,this.2.2⟩
 . rcases aci.1 hmem with he | he
   . cases he; exact hpm h0
   . exact hs.ng h0 i' t' p' he
theorem Ew (hT:bG P E) (hga:de P E) {i:Nat} {o:Oper} (ho:ops[i]? = some o) {bs':Bd} {d:Nat} {p:TV×Option Rt} (hs:gm E ops base i0 i bs') (hd:o.dst=some d) (hq:(xH E (view base (ns.getD i cq) bs') d o.op).run=some p)
 (hw:∀ (cx:Cx P) (a:Act) (w:World) (Z:Nat->Prop) (g:Gh) (bsF:Bd) (S:Nat),dk E.yj base bsF->MB (aA base bsF)->db bs' bsF->(∀ i',i0<=i'->i' < i->(ns.getD i cq).testBit i'=true->S.testBit i'=true)->Rel cx Z g (view base S bsF) a w->Region.wanted o (yielded ops a.tmps)=true) :
 ∀ bsF,dk E.yj base bsF->MB (aA base bsF)->db ((i,d,p) :: bs') bsF->oz P E ops ns base bsF i0 i:=by
 intro bsF hF hmF hl cx S a w Z g next Q hS hSi h hsz hn;obtain ⟨p',hj,hal⟩:=hl i d p (acu ..);exact Bq hT hga ho hd hF hj hal.1 hal.2.1 hq hSi h hsz (hs.fits hF hmF (kY hl) hS) (hw cx a w Z g bsF S hF hmF (kY hl) hS h) hn
theorem Bb {i:Nat} {o:Oper} (ho:ops[i]? = some o) {bs':Bd} {d:Nat} (hs:gm E ops base i0 i bs') (hd:o.dst=some d)
 (hw:∀ (cx:Cx P) (a:Act) (w:World) (Z:Nat->Prop) (g:Gh) (bsF:Bd) (S:Nat),dk E.yj base bsF->MB (aA base bsF)->db bs' bsF->(∀ i',i0<=i'->i' < i->(ns.getD i cq).testBit i'=true->S.testBit i'=true)->Rel cx Z g (view base S bsF) a w->Region.wanted o (yielded ops a.tmps)=false) :
 ∀ bsF,dk E.yj base bsF->MB (aA base bsF)->db ((i,d,(.tup [],none)) :: bs') bsF->oz P E ops ns base bsF i0 i:=by
 intro bsF hF hmF hl cx S a w Z g next Q hS hSi h hsz hn;obtain ⟨p',hj,hal⟩:=hl i d _ (acu ..);exact yP ho hd hF hj hal.1.symm h hsz (fun Z g st w=>hal.2.1 _ _ _ _ _ ⟨#[],rfl,trivial⟩) (hw cx a w Z g bsF S hF hmF (kY hl) hS h) hn
theorem Bw {d:Nat}:∀ {bs:Bd},iJ d bs=true->∃ i p,(i,d,p)∈bs
 | [],h=>by simp [iJ] at h
 | (i0,t0,p0) :: r,h=>by
   simp only [iJ,adf] at h;rcases h with h | h
   . have:=beq_eq h; subst this; exact ⟨i0,p0,acu ..⟩
   . obtain ⟨i,p,h⟩:=Bw h; exact ⟨i,p,acr _ h⟩
theorem Cu {d gt:Nat} {x:Bool} {bs:Bd} (h:qf E base d bs=true):qf E base d (eU gt x bs)=true:=by
 unfold qf at h ⊢;simp only [ab8,acP] at h ⊢;refine ⟨h.1,?_⟩;cases h3:iJ d (eU gt x bs) with
 | false=>rfl
 | true => obtain ⟨i',p',h4⟩:=Bw h3;obtain ⟨p0,h5⟩:=mP h4;exact absurd rfl (rT h.2 _ h5)
theorem gm.eU {i:Nat} {bs:Bd} (hs:gm E ops base i0 i bs) {gt:Nat} {x:Bool} (hk:mG base bs gt x) (hg:bd ops.toList=true):gm E ops base i0 i (Av.eU gt x bs) where
 ok:=uK hs.ok
 mb:=Il hs.ok hs.mb hk
 idx:=fun e he=>by obtain ⟨i',t',p'⟩:=e;obtain ⟨p0,h1⟩:=mP he;exact hs.idx (i',t',p0) h1
 ng:=fun h0=>by rw [hg] at h0; simp at h0
theorem EK (hT:bG P E) (hga:de P E) {dr:Bool} {i:Nat} {r:List Oper} {o:Oper} (ih:∀ (bs:Bd) (stF:St),gm E ops base i0 (i + 1) bs->(dH E dr ops.toList ns r (i + 1) base bs).run=some stF->iK P E dr ops ns base i0 (i + 1) bs stF) (hi0:i0<=i)
 (ho:ops[i]? = some o) {bs:Bd} {stF:St} (hs:gm E ops base i0 i bs) {jg:Nat} {want x:Bool} (hgd:o.guard=some (jg,want)) {og:Oper} {gt d:Nat} (hog:ops[jg]? = some og) (hogd:og.dst=some gt) (hdst:o.dst=some d) (hc1:qf E base d bs=true) {tv:TV}
 (htv:(view base (ns.getD i cq) bs).tv gt=some tv) (hx:dW tv (.v (.lb x))/\dW (.v (.lb x)) tv) {bs':Bd} (hs':gm E ops base i0 i bs') (hl':db bs bs') (hc':qf E base d bs'=true)
 (hrun:(bif bM x want then ((xH E (view base (ns.getD i cq) bs') d o.op).bind fun p=>dH E dr ops.toList ns r (i + 1) base ((i,d,p) :: bs')).run else (dH E dr ops.toList ns r (i + 1) base ((i,d,(.tup [],none)) :: bs')).run)=some stF):iK P E dr ops ns base i0 i bs stF:=by
 have hg1:bd ops.toList=true:=jX ho hgd;have hval:∀ (cx:Cx P) (a:Act) (w:World) (Z:Nat->Prop) (g:Gh) (bsF:Bd) (S:Nat),dk E.yj base bsF->MB (aA base bsF)->db bs' bsF->(∀ i',i0<=i'->i' < i->(ns.getD i cq).testBit i'=true->S.testBit i'=true)->Rel cx Z g (view base S bsF) a w->Region.wanted o (yielded ops a.tmps)=(x == want):=fun cx a w Z g bsF S hF hmF hl hS h =>
  yy hgd hog hogd (Cv (hs.fits hF hmF (hl'.trans hl) hS) h htv hx.1)
 cases hxx:bM x want with
 | true =>
   simp only [hxx,ab9] at hrun;rw [Tr.run_bind] at hrun;cases hq:(xH E (view base (ns.getD i cq) bs') d o.op).run with
   | none=>rw [hq] at hrun; simp at hrun
   | some p => rw [hq] at hrun;exact wk ih hi0 hs' hl' hc' (Lj hs'.ok hs'.mb hq) (fun h0=>by rw [hg1] at h0; simp at h0) ⟨o,ho,hdst⟩ hrun (Ew hT hga ho hs' hdst hq fun cx a w Z g bsF S hF hmF hl hS h=>by rw [hval cx a w Z g bsF S hF hmF hl hS h,dU hxx]; simp)
 | false => simp only [hxx,aco] at hrun;refine wk ih hi0 hs' hl' hc' (fun q want y gg l h=>by simp at h) (fun h0=>by rw [hg1] at h0; simp at h0) ⟨o,ho,hdst⟩ hrun (Bb ho hs' hdst fun cx a w Z g bsF S hF hmF hl hS h => ?_);rw [hval cx a w Z g bsF S hF hmF hl hS h];cases x <;> cases want <;> simp_all [bM]
theorem MH (hT:bG P E) (hga:de P E) {dr:Bool} {i:Nat} {r:List Oper} {o:Oper} (ih:∀ (bs:Bd) (stF:St),gm E ops base i0 (i + 1) bs->(dH E dr ops.toList ns r (i + 1) base bs).run=some stF->iK P E dr ops ns base i0 (i + 1) bs stF) (hi0:i0<=i)
 (ho:ops[i]? = some o) {bs:Bd} {stF:St} (hs:gm E ops base i0 i bs) {jg:Nat} {want x:Bool} (hgd:o.guard=some (jg,want)) {og:Oper} {gt d:Nat} (hog:ops[jg]? = some og) (hogd:og.dst=some gt) (hdst:o.dst=some d) (hc1:qf E base d bs=true)
 (htv:(view base (ns.getD i cq) bs).tv gt=some (.v (.d .bool x))) {tv:TV} (hasm:A9 gt want x (xH E ((view base (ns.getD i cq) bs).under gt want) d o.op)=some tv)
 (hrun:(dH E dr ops.toList ns r (i + 1) base ((i,d,(tv,none)) :: bs)).run=some stF):iK P E dr ops ns base i0 i bs stF:=by
 have hg1:bd ops.toList=true:=jX ho hgd;have hk:mG base bs gt x:=mG.of hs.ok hs.mb htv (vg x);obtain ⟨gg,l,hq,rfl⟩:=DF hasm;refine wk ih hi0 hs (db.refl _) hc1 (fun q want' y gg' l' h => ?_) (fun h0=>by rw [hg1] at h0; simp at h0) ⟨o,ho,hdst⟩ hrun ?_
 . simp only [TV.may.injEq] at h;obtain ⟨rfl,rfl,rfl,rfl,rfl⟩:=h;exact hk.T9
 . intro bsF hF hmF hl cx S a w Z g next Q hS hSi h hsz hn;obtain ⟨p',hj,hal⟩:=hl i d _ (acu ..);have f:Fits (view base (ns.getD i cq) bs) (view base S bsF) a:=hs.fits hF hmF (kY hl) hS;have hv:a.tmps.getD gt undef= .bool x:=Cv f h htv (vg x).1;have hw:=yy hgd hog hogd hv;by_cases hxw:x=want
   . subst hxw;obtain ⟨tq,htq⟩:∃ tq,look (view base S bsF).tm gt=some tq:=by
      have htv':=htv;unfold St.tv at htv';cases hl0:look (view base (ns.getD i cq) bs).tm gt with
      | none=>rw [hl0] at htv'; simp at htv'
      | some tv0 => obtain ⟨tv1,h1,_⟩:=f.tm gt tv0 hl0;exact ⟨tv1,h1⟩
     have fu:=f.under (gt:=gt) (want:=x) (fun tq' htq' y ht=>by have:=ht _ _ _ _ _ (h.tm gt tq' htq').2;rw [hv] at this;simpa using this.symm) ⟨tq,htq⟩;exact Bq hT hga ho hdst hF hj (p:=(dG gg l,none)) hal.1 (Ba.trans hal.2.1) hq hSi h hsz fu (by rw [hw]; simp) hn
   . refine yP ho hdst hF hj hal.1.symm h hsz (fun Z g st w=>hal.2.1 _ _ _ _ _ ?_) (by rw [hw]; simpa using hxw) hn;exact fun e=>absurd e hxw
theorem GL (hT:bG P E) (hga:de P E) {dr:Bool} {i:Nat} {r:List Oper} {o:Oper} (ih:∀ (bs:Bd) (stF:St),gm E ops base i0 (i + 1) bs->(dH E dr ops.toList ns r (i + 1) base bs).run=some stF->iK P E dr ops ns base i0 (i + 1) bs stF) (hi0:i0<=i)
 (ho:ops[i]? = some o) {bs:Bd} {stF:St} (hs:gm E ops base i0 i bs) {jg:Nat} {want:Bool} (hgd:o.guard=some (jg,want)) (hrun:(dH E dr ops.toList ns (o :: r) i base bs).run=some stF):iK P E dr ops ns base i0 i bs stF:=by
 unfold dH at hrun;rw [hgd] at hrun;simp only at hrun;split at hrun
 . rename_i gt d hgt hdst;obtain ⟨og,hog,hogd⟩:=DX hgt;cases hc:E.dB d && sU base d && base.free d && !iJ d bs && !l0 o.op with
   | false=>rw [hc] at hrun; simp [Tr.run] at hrun
   | true =>
     rw [hc] at hrun;simp only [ab9] at hrun;have hc1:qf E base d bs=true:=by unfold qf;simp only [ab8] at hc ⊢;exact hc.1
     split at hrun
     . rename_i x htv;refine EK hT hga ih hi0 ho hs hgd hog hogd hdst hc1 htv (x:=x) ⟨dW.refl _,dW.refl _⟩ hs (db.refl _) hc1 ?_;rw [<- hrun];cases bM x want <;> rfl
     . rename_i x htv;have hk:mG base bs gt x:=mG.of hs.ok hs.mb htv (vg x);split at hrun
       . rename_i tv hasm;have hasm:A9 gt want x (xH E ((view base (ns.getD i cq) bs).under gt want) d o.op)=some tv:=by
          cases hte:J3 ops.toList i with
          | true=>rw [hte] at hasm; simp at hasm
          | false=>rw [hte] at hasm; exact hasm
         exact MH hT hga ih hi0 ho hs hgd hog hogd hdst hc1 htv hasm hrun
       . cases hbd:iJ gt bs with
         | false=>rw [hbd] at hrun; simp [Tr.run] at hrun
         | true => rw [hbd] at hrun;simp only [ab9] at hrun;have hg1:bd ops.toList=true:=jX ho hgd;refine EK hT hga ih hi0 ho hs hgd hog hogd hdst hc1 htv (x:=x) (vg x) (bs':=eU gt x bs) (hs.eU hk hg1) (sT hs.ok hk) (Cu hc1) ?_;rw [<- hrun];cases x <;> cases want <;> rfl
     . rename_i htv;have hg1:bd ops.toList=true:=jX ho hgd;refine wk ih hi0 hs (db.refl _) hc1 (fun q want y gg l h=>by simp at h) (fun h0=>by rw [hg1] at h0; simp at h0) ⟨o,ho,hdst⟩ hrun (Bb ho hs hdst fun cx a w Z g bsF S hF hmF hl hS h => ?_);have hv:=C5 (hs.fits hF hmF hl hS) h htv;unfold Region.wanted yielded;rw [hgd];simp only [hog,acE,hogd];rw [ach] at hv;cases hq:a.tmps[gt]? with
       | none=>rfl
       | some v => rw [hq] at hv;simp only [adW] at hv;subst hv;rfl
     . simp [Tr.run] at hrun
 . simp [Tr.run] at hrun
theorem Fq {dr:Bool} {i:Nat} {r:List Oper} {o:Oper} (hr':r=ops.toList.drop (i + 1)) (ho:ops[i]? = some o) {bs:Bd} {stF:St} (hs:gm E ops base i0 i bs) (h0:o.guard=none) (hdr:(!dr || gy ns i)=true) (hdo:yx E o.dst=true)
 (hrun:((PU E (iC (bd ops.toList) (aA base bs)) o.dst o.op).bind fun st'=>dH E dr ops.toList ns r (i + 1) st' []).run=some stF):iK P E dr ops ns base i0 i bs stF:=by
 rw [Tr.run_bind] at hrun;cases hw:(PU E (iC (bd ops.toList) (aA base bs)) o.dst o.op).run with
 | none=>rw [hw] at hrun; simp at hrun
 | some st' => rw [hw] at hrun;refine ⟨i,bs,acb _,hs.ok,hs.mb,hs.idx,hs.ng,db.refl _,fun j h1 h2=>by omega,.inr ⟨o,st',ho,h0,fun h1=>by simpa [h1] using hdr,hdo,hw,?_⟩⟩;rw [<- hr'];exact hrun
theorem Hc (hT:bG P E) (hga:de P E) {dr:Bool} (hnm:bm base) {i:Nat} {r:List Oper} {o:Oper} (ih:∀ (bs:Bd) (stF:St),gm E ops base i0 (i + 1) bs->(dH E dr ops.toList ns r (i + 1) base bs).run=some stF->iK P E dr ops ns base i0 (i + 1) bs stF) (hi0:i0<=i)
 (hr':r=ops.toList.drop (i + 1)) (ho:ops[i]? = some o) {bs:Bd} {stF:St} (hs:gm E ops base i0 i bs) (hgd:o.guard=none) (hrun:(dH E dr ops.toList ns (o :: r) i base bs).run=some stF):iK P E dr ops ns base i0 i bs stF:=by
 unfold dH at hrun;rw [hgd] at hrun;simp only at hrun;cases hdst:o.dst with
 | none =>
   rw [hdst] at hrun;simp only at hrun;cases hc:(!dr || gy ns i) with
   | false=>rw [hc] at hrun; simp [Tr.run] at hrun
   | true => rw [hc] at hrun;simp only [ab9] at hrun;exact Fq hr' ho hs hgd hc (by rw [hdst]; rfl) (by rw [hdst]; exact hrun)
 | some d =>
   rw [hdst] at hrun;simp only at hrun;split at hrun
   . cases hc:(!dr || gy ns i) && yx E (some d) with
     | false=>rw [hc] at hrun; simp [Tr.run] at hrun
     | true => rw [hc] at hrun;simp only [ab9] at hrun;simp only [ab8] at hc;exact Fq hr' ho hs hgd hc.1 (by rw [hdst]; exact hc.2) (by rw [hdst]; exact hrun)
   . rw [Tr.run_bind] at hrun;cases hq:(wX E (ns.getD i cq) o d base bs (dr && !gy ns i)).run with
     | none=>rw [hq] at hrun; simp at hrun
     | some p =>
       rw [hq] at hrun;simp only [acE] at hrun;unfold wX at hq;cases hia:(l0 o.op && !(dr && !gy ns i)) with
       | true=>rw [hia] at hq; simp [Tr.run] at hq
       | false =>
         rw [hia] at hq;simp only [aco] at hq;cases hc:E.dB d && sU base d && base.free d && !iJ d bs with
         | false=>rw [hc] at hq; simp [Tr.run] at hq
         | true =>
           rw [hc] at hq;simp only [ab9] at hq;refine wk ih hi0 hs (db.refl _) hc (Lj hs.ok hs.mb hq) (fun h0 hpm => ?_) ⟨o,ho,hdst⟩ hrun (Ew hT hga ho hs hdst hq fun cx a w Z g bsF S hF hmF hl hS h=>by simp [Region.wanted,hgd]);obtain ⟨d',hd'⟩:=Fj hq hpm;rw [et _ hs.ok] at hd';rcases hd' with ⟨i',p',h1,h2,h3⟩ | h1
           . exact hs.ng h0 i' d' p' h1 (by rw [h3]; exact hpm)
           . exact hnm d' _ h1 hpm
theorem kF (hT:bG P E) (hga:de P E) {dr:Bool} (hnm:bm base):∀ (r:List Oper) (i:Nat),r=ops.toList.drop i->i<=ops.size->i0<=i->∀ (bs:Bd) (stF:St),gm E ops base i0 i bs->(dH E dr ops.toList ns r i base bs).run=some stF->iK P E dr ops ns base i0 i bs stF
 | [],i,hr,hi,hi0,bs,stF,hs,hrun=>by
   simp only [dH,Tr.run,ab6] at hrun;have:ops.size<=i:=by have:=acT List.length hr;simp at this;omega
   exact ⟨i,bs,acb _,hs.ok,hs.mb,hs.idx,hs.ng,db.refl _,fun j h1 h2=>by omega,.inl ⟨by omega,hrun.symm⟩⟩
 | o :: r,i,hr,hi,hi0,bs,stF,hs,hrun=>by
   have hlt:i < ops.size:=by
    rcases acn i ops.size with h | h
    . exact h
    . rw [List.drop_of_length_le (by simpa using h)] at hr; simp at hr
   have ho:ops[i]? = some o:=by have:=acT (·[0]?) hr;simp only [acj,adh,acO,acf] at this;exact this.symm
   have hr':r=ops.toList.drop (i + 1):=by have:=acT List.tail hr;simpa using this
   have ih:=kF hT hga (dr:=dr) hnm r (i + 1) hr' hlt (Nat.le_succ_of_le hi0);cases hgd:o.guard with
   | none=>exact Hc hT hga hnm ih hi0 hr' ho hs hgd hrun
   | some gd=>exact GL hT hga ih hi0 ho hs (jg:=gd.1) (want:=gd.2) hgd hrun
end
end Go.Av
namespace Go.Av
open Go.RowKit (Below)
theorem tJ (f:Nat×TV->Bool):∀ (l:List (Nat×TV)) (t:Nat) (tv:TV),look (l.filter f) t=some tv->(∀ tv',look l t=some tv'->f (t,tv')=true)->look l t=some tv
 | [],t,tv,h,_=>by simp [look] at h
 | (m,x) :: r,t,tv,h,hv=>by
   rw [aW] at hv ⊢;by_cases hm:m=t
   . subst hm;rw [if_pos rfl] at hv ⊢;have:=hv x rfl;rw [adE this,aW,if_pos rfl] at h;exact h
   . rw [if_neg hm] at hv ⊢;refine tJ f r t tv ?_ hv;rw [ad3] at h;split at h
     . rw [aW,if_neg hm] at h; exact h
     . exact h
theorem gI {β:Type}:∀ (l:List (Nat×β)) (t:Nat) (x:β),look l t=some x->(t,x)∈l
 | [],t,x,h=>by simp [look] at h
 | (m,y) :: r,t,x,h=>by
   rw [aW] at h;split at h
   . rename_i e; subst e; simp only [ab6] at h; subst h; exact acu ..
   . exact acr _ (gI r t x h)
def v7 (p:Nat×TV):Bool:=match p.2 with | .may _ _ _ _ _=>false | _=>true
theorem Nt (st:St):st.sure=⟨st.tm.filter v7,st.rt⟩:=rfl
theorem vd {t:Nat} {tv:TV}:v7 (t,tv)=true↔¬ tv.gL:=by cases tv <;> simp [v7,TV.gL]
theorem DA (st:St):bm st.sure:=fun t tv h=>by have:=gI _ _ _ h;rw [Nt,adR] at this;exact vd.1 this.2
theorem yD {nt:Nat->Prop} {base:St} (hnm:bm base):∀ {bs:Bd},dk nt base bs->∀ (t:Nat) (tv:TV),look (aA base bs).sure.tm t=some tv->look (aA base bs).tm t=some tv
 | [],_,t,tv,h=>tJ v7 _ t tv h fun tv' h'=>vd.2 (hnm t tv' h')
 | (i,d,p) :: r,hb,t,tv,h=>by
   have ih:=yD hnm hb.2.2.2.2;have h:look (((d,p.1) :: (aA base r).tm).filter v7) t=some tv:=h;show look ((d,p.1) :: (aA base r).tm) t=some tv;rw [aW];by_cases hd:d=t
   . subst hd;rw [if_pos rfl];rw [ad3] at h;split at h
     . rw [aW,if_pos rfl] at h; exact h
     . have:=ih d tv h;rw [bK hb.2.2.2.2] at this;rcases this with ⟨i',p',h1,_⟩ | h1
       . exact absurd rfl (hb.2.2.2.1 _ h1).2
       . rw [hb.2.1] at h1; simp at h1
   . rw [if_neg hd];refine ih t tv ?_;rw [ad3] at h;split at h
     . rw [aW,if_neg hd] at h; exact h
     . exact h
theorem lF {nt:Nat->Prop} {base:St} (hnm:bm base) {bs:Bd} (hb:dk nt base bs) {hg:Bool} (hng:hg=false->∀ i t p,(i,t,p)∈bs->¬ p.1.gL):bm (iC hg (aA base bs)):=by
 cases hg with
 | true=>exact DA _
 | false =>
   intro t tv h;have h:look (aA base bs).tm t=some tv:=h;rw [bK hb] at h;rcases h with ⟨i,p,h1,rfl⟩ | h
   . exact hng rfl i t p h1
   . exact hnm t tv h
theorem oN {P:Program} {cx:Cx P} {Z:Nat->Prop} {g:Gh} {a:Act} {w:World} {nt:Nat->Prop} {base:St} (hnm:bm base) {bs:Bd} (hb:dk nt base bs) {hg:Bool} (h:Rel cx Z g (aA base bs) a w):Rel cx Z g (iC hg (aA base bs)) a w:=by
 cases hg with
 | false=>exact h
 | true=>exact h.swap (fun _=>rfl) fun t tv ht=>h.tm t tv (yD hnm hb t tv ht)
theorem iZ {base:St} {S:Nat}:∀ {bs:Bd},(∀ e∈bs,S.testBit e.1=false)->view base S bs=base
 | [],_=>rfl
 | (i,t,p) :: r,h=>by unfold view;rw [h _ (acu ..)];exact iZ fun e he=>h e (acr _ he)
def CE:Nat->Nat->Nat
 | 0,_=>0
 | n + 1,S=>CE n S + (match S.testBit n with | true=>0 | false=>1)
theorem rh:∀ n,CE n 0=n
 | 0=>rfl
 | n + 1=>by simp [CE,rh n]
theorem zR:∀ (n j S:Nat),S.testBit j=false->CE n (S ||| 2 ^ j) + (if j < n then 1 else 0)=CE n S
 | 0,j,S,h=>by simp [CE]
 | n + 1,j,S,h=>by
   have ih:=zR n j S h;simp only [CE,bc];by_cases hj:j=n
   . subst hj;simp [h] at ih ⊢;omega
   . have h1:decide (j=n)=false:=by simpa using hj
     rw [h1,Bool.or_false];by_cases hl:j < n
     . simp only [hl,if_true] at ih;simp only [show j < n + 1 by omega,if_true];omega
     . simp only [hl,ado] at ih;simp only [show ¬ j < n + 1 by omega,ado];omega
theorem zu:∀ (n S:Nat),CE n S=0->∀ k,k < n->S.testBit k=true
 | 0,_,_,k,hk=>by omega
 | n + 1,S,h,k,hk=>by
   simp only [CE] at h;by_cases hn:k=n
   . subst hn;cases hb:S.testBit k with
     | true=>rfl
     | false=>rw [hb] at h; simp at h
   . exact zu n S (by omega) k (by omega)
def Fv (f:Nat->Nat) (o:Oper):Nat:=o.after.toList.foldl (fun s e=>bif cu e then s ||| 2 ^ e.on ||| f e.on else s) 0
theorem A4 (f:Nat->Nat) (b:Nat):∀ (l:List Edge) (s:Nat),(l.foldl (fun s e=>bif cu e then s ||| 2 ^ e.on ||| f e.on else s) s).testBit b=true->s.testBit b=true∨∃ e∈l,cu e=true/\(e.on=b∨(f e.on).testBit b=true)
 | [],s,h=> .inl h
 | e :: l,s,h=>by
   rw [ade] at h;rcases A4 f b l _ h with h | ⟨e',h1,h2⟩
   . cases hb:cu e with
     | false=>rw [hb] at h; exact .inl h
     | true =>
       rw [hb] at h;simp only [ab9,Nat.testBit_or,adf,Nat.testBit_two_pow,adg] at h;rcases h with (h | h) | h
       . exact .inl h
       . exact .inr ⟨e,acu ..,hb,.inl h⟩
       . exact .inr ⟨e,acu ..,hb,.inr h⟩
   . exact .inr ⟨e',acr _ h1,h2⟩
theorem nb:∀ (l:List Oper) (acc:List Nat),(bY l acc).length=acc.length + l.length
 | [],acc=>by simp [bY]
 | o :: r,acc=>by unfold bY;rw [nb];simp;omega
theorem sq:∀ (l:List Oper) (acc:List Nat) (k:Nat),k < acc.length->(bY l acc)[k]? = acc[k]?
 | [],acc,k,_=>rfl
 | o :: r,acc,k,h=>by unfold bY;rw [sq r _ k (by simp; omega),ac7 h]
theorem se:∀ (l:List Oper) (acc:List Nat) (k:Nat) (o:Oper) (b:Nat),l[k]? = some o->((bY l acc).getD (acc.length + k) 0).testBit b=true ->
 ∃ e∈o.after.toList,cu e=true/\(e.on=b∨(e.on < acc.length + k/\((bY l acc).getD e.on 0).testBit b=true))
 | [],acc,k,o,b,h,_=>by simp at h
 | o0 :: r,acc,0,o,b,h,hb=>by
   simp only [acj,ab6] at h;subst h;have h1:(bY (o0 :: r) acc)[acc.length]? = some (Fv (fun n=>acc.getD n 0) o0):=by unfold bY;rw [sq r _ _ (by simp),ac1 (acb _),adv];rfl
   rw [List.getD,acO,h1] at hb;simp only [adW] at hb;rcases A4 (fun n=>acc.getD n 0) b o0.after.toList 0 hb with h2 | ⟨e,h2,h3,h4⟩
   . simp at h2
   . refine ⟨e,h2,h3,h4.imp id fun h4 => ?_⟩;have hlt:e.on < acc.length:=by
      rcases acn e.on acc.length with hh | hh
      . exact hh
      . simp [List.getD,acq hh] at h4
     refine ⟨hlt,?_⟩;rw [List.getD,sq _ _ _ hlt];exact h4
 | o0 :: r,acc,k + 1,o,b,h,hb=>by
   have hh:bY (o0 :: r) acc=bY r (acc ++ [Fv (fun n=>acc.getD n 0) o0]):=by rw [bY]; rfl
   rw [hh] at hb ⊢;have hl:(acc ++ [Fv (fun n=>acc.getD n 0) o0]).length=acc.length + 1:=by simp
   obtain ⟨e,h1,h2,h3⟩:=se r (acc ++ [Fv (fun n=>acc.getD n 0) o0]) k o b (by simpa using h) (by rw [hl,show acc.length + 1 + k=acc.length + (k + 1) by omega]; exact hb);exact ⟨e,h1,h2,h3.imp id fun h3=>⟨by omega,h3.2⟩⟩
theorem gJ:∀ (l:List Oper) (i:Nat),fP l i=true->∀ (k:Nat) (o:Oper),l[k]? = some o->∀ e∈o.after.toList,cu e=true->e.on < i + k
 | [],i,_,k,o,h,_,_,_=>by simp at h
 | o0 :: r,i,h,k,o,ho,e,he,hb=>by
   simp only [fP,ab8] at h;cases k with
   | zero => simp only [acj,ab6] at ho;subst ho;have:=acH.1 h.1 e he;simp only [hb,acY,Bool.false_or] at this;exact adB (acF this)
   | succ k => have:=gJ r (i + 1) h.2 k o (by simpa using ho) e he hb;omega
section
variable {P:Program} {E:En}
def rJ (P:Program) (E:En):Prop:=∀ (cx:Cx P) (Z:Nat->Prop) (g:Gh) (st:St) (a:Act) (w:World) (o:Oper) (st':St),Rel cx Z g st a w->bm st->Fit cx E a->yx E o.dst=true->(PU E st o.dst o.op).run=some st' ->
 bm st'/\∀ (next:Act->World->Prop) (Q:Exit->Act->World->Prop),(∀ Z' g' a' w',Rel cx Z' g' st' a' w'->Fit cx E a'->next a' w')->o.wp P a w next Q
variable {ops:Array Oper} {ns:List Nat} {P:Program} {cx:Cx P} {Q:Exit->Act->World->Prop}
theorem ll {base:St} {bs:Bd} {S:Nat} (h:∀ e∈bs,S.testBit e.1=true):aA base bs=view base S bs:=fY base S bs fun i t p hm=>h _ hm
theorem bD {o:Oper} {i:Nat} (ho:ops[i]? = some o) (hg:o.guard=none) {K:Act->World->Prop} {a:Act} {w:World} (h:o.wp P a w K Q):wpOp P ops Q i K a w:=by
 unfold wpOp;have:Region.wanted o (yielded ops a.tmps)=true:=by simp [Region.wanted,hg]
 simp only [ho,this,if_true];exact .inl h
theorem fB (j k:Nat):(2 ^ j - 1).testBit k=decide (k < j):=Nat.testBit_two_pow_sub_one j k
theorem Lb (j:Nat):(2 ^ j - 1) ||| 2 ^ j=2 ^ (j + 1) - 1:=by
 apply Nat.eq_of_testBit_eq;intro k;rw [bc,fB,fB];by_cases h:k < j
 . simp [h,aeW h]
 . by_cases h':j=k
   . simp [h']
   . simp [h,h']; omega
theorem Mk (hT:bG P E) (hga:de P E) (hW:rJ P E) {stF:St} (hQ:∀ Z g a w,Rel cx Z g stF a w->bm stF->Fit cx E a->Q .normal a w) :
 ∀ (n i:Nat) (base:St) (a:Act) (w:World) (Z:Nat->Prop) (g:Gh),ops.size - i=n->i<=ops.size->bm base->Rel cx Z g base a w->Fit cx E a->(dH E false ops.toList ns (ops.toList.drop i) i base []).run=some stF->wpOps P ops Q (List.range' i (ops.size - i)) a w:=by
 intro n;induction n using Nat.strongRecOn with
 | _ n ih =>
   intro i base a w Z g hn hi hnm h hsz hrun;obtain ⟨i1,bsF,h1,h2,h3,h4,h5,h6,h7,h8⟩:=kF (ops:=ops) (ns:=ns) (i0:=i) hT hga hnm _ i rfl hi (acb i) [] stF ⟨trivial,hnm.MB,fun e he=>by simp at he,fun _ _ _ _ he=>by simp at he⟩ hrun;have hi1:i1<=ops.size:=by
    rcases h8 with ⟨h8,_⟩ | ⟨o,st',h8,_⟩
    . omega
    . exact aeC (acx.1 h8).1
   have inner:∀ (m j:Nat) (a:Act) (w:World) (Z:Nat->Prop) (g:Gh),i1 - j=m->i<=j->j<=i1->Rel cx Z g (view base (2 ^ j - 1) bsF) a w->Fit cx E a->wpOps P ops Q (List.range' j (ops.size - j)) a w:=by
    intro m;induction m with
    | zero =>
      intro j a w Z g hm hij hj h hsz;have:j=i1:=by omega
      subst this;have hall:aA base bsF=view base (2 ^ j - 1) bsF:=ll fun e he=>by rw [fB]; simpa using (h4 e he).2.1
      rw [<- hall] at h;have hs:=oN (hg:=bd ops.toList) hnm h2 h;have hsn:=lF (hg:=bd ops.toList) hnm h2 h5;rcases h8 with ⟨e1,rfl⟩ | ⟨o,st',ho,hg,_,hdo,hw,hrun'⟩
      . rw [e1,adv];exact hQ _ _ _ _ hs hsn hsz
      . have hlt:j < ops.size:=(acx.1 ho).1;obtain ⟨k,hk⟩:∃ k,ops.size - j=k + 1:=⟨ops.size - j - 1,by omega⟩;rw [hk,List.range'_succ,wpOps_cons];refine bD ho hg ?_;obtain ⟨hn',hw'⟩:=hW cx Z g _ a w o st' hs hsn hsz hdo hw;refine hw' _ _ fun Z' g' a' w' hr hsz' => ?_
        have hk':k=ops.size - (j + 1):=by omega
        rw [hk'];exact ih (ops.size - (j + 1)) (by omega) (j + 1) st' a' w' Z' g' rfl hlt hn' hr hsz' hrun'
    | succ m ihm =>
      intro j a w Z g hm hij hj h hsz;have hji:j < i1:=by omega
      have hlt:j < ops.size:=by omega
      obtain ⟨k,hk⟩:∃ k,ops.size - j=k + 1:=⟨ops.size - j - 1,by omega⟩;rw [hk,List.range'_succ,wpOps_cons];refine h7 j hij hji cx (2 ^ j - 1) a w Z g _ Q (fun i' _ hi' _=>by rw [fB]; simpa using hi') (by rw [fB]; simp) h hsz fun Z' g' a' w' hr hsz' => ?_
      have hk':k=ops.size - (j + 1):=by omega
      rw [hk'];rw [Lb] at hr;exact ihm (j + 1) a' w' Z' g' (by omega) (by omega) (by omega) hr hsz'
   refine inner (i1 - i) i a w Z g rfl (acb i) h1 ?_ hsz;rw [iZ fun e he=>by rw [fB]; simpa using (h4 e he).1];exact h
theorem Fb (hT:bG P E) (hga:de P E) (hW:rJ P E) (hed:fP ops.toList 0=true) {stF:St} (hQ:∀ Z g a w,Rel cx Z g stF a w->bm stF->Fit cx E a->Q .normal a w) :
 ∀ (fuel:Nat) (listed:Array Bool) (S i i1:Nat) (base:St) (bsF:Bd) (a:Act) (w:World) (Z:Nat->Prop) (g:Gh),listed.size=ops.size->(∀ k,k < ops.size->listed.getD k false=S.testBit k)->CE ops.size S<=fuel->(∀ k,k < i->S.testBit k=true)->(∀ k,i1<=k->S.testBit k=false) ->
  (∀ k,S.testBit k=true->∀ b,((bY ops.toList []).getD k 0).testBit b=true->S.testBit b=true)->i<=i1->bm base->dk E.yj base bsF->(∀ e∈bsF,i<=e.1/\e.1 < i1)->(bd ops.toList=false->∀ i t p,(i,t,p)∈bsF->¬ p.1.gL) ->
  (∀ j,i<=j->j < i1->oz P E ops (bY ops.toList []) base bsF i j) ->
  ((i1=ops.size/\stF=iC (bd ops.toList) (aA base bsF)) ∨
    ∃ (o:Oper) (st':St),ops[i1]? = some o/\o.guard=none/\(true=true->gy (bY ops.toList []) i1=true)/\yx E o.dst=true/\(PU E (iC (bd ops.toList) (aA base bsF)) o.dst o.op).run=some st'/\(dH E true ops.toList (bY ops.toList []) (ops.toList.drop (i1 + 1)) (i1 + 1) st' []).run=some stF) ->
  Rel cx Z g (view base S bsF) a w->Fit cx E a->wpAny P .any ops Q fuel listed a w:=by
 have hlen:(bY ops.toList []).length=ops.size:=by rw [nb]; simp
 intro fuel;induction fuel with
 | zero =>
   intro listed S i i1 base bsF a w Z g hls hS hfuel hlo hhi hcl hii hnm hb hidx hng hstep htail h hsz;have hall:=zu _ _ (Nat.le_zero.1 hfuel);have hready:Region.ready .any ops listed=[]:=by apply adZ.2;intro j hj;obtain ⟨hj0,o,ho,_⟩:=mem_ready.1 hj;have hlt:j < ops.size:=(acx.1 ho).1;have:=hS j hlt;rw [hall j hlt] at this;simp [ach,hls,hlt] at hj0 this;rw [hj0] at this;simp at this
   refine ⟨hready,?_⟩;rcases htail with ⟨e1,rfl⟩ | ⟨o,st',ho,_⟩
   . have hallv:aA base bsF=view base S bsF:=ll fun e he=>hall e.1 (by have:=(hidx e he).2; omega)
     rw [<- hallv] at h;exact hQ _ _ _ _ (oN hnm hb h) (lF hnm hb hng) hsz
   . have hlt:i1 < ops.size:=(acx.1 ho).1;have:=hall i1 hlt;rw [hhi i1 (acb _)] at this;simp at this
 | succ fuel ih =>
   intro listed S i i1 base bsF a w Z g hls hS hfuel hlo hhi hcl hii hnm hb hidx hng hstep htail h hsz;have hi1:i1<=ops.size:=by
    rcases htail with ⟨e1,_⟩ | ⟨o,st',ho,_⟩
    . omega
    . exact aeC (acx.1 ho).1
   have hmask:∀ j,j∈Region.ready .any ops listed->j < ops.size/\S.testBit j=false/\∀ b,((bY ops.toList []).getD j 0).testBit b=true->S.testBit b=true:=by
    intro j hj;obtain ⟨hj0,o,ho,he⟩:=mem_ready.1 hj;have hlt:j < ops.size:=(acx.1 ho).1;refine ⟨hlt,?_,fun b hbit => ?_⟩
    . rw [<- hS j hlt];simp [ach,hls,hlt] at hj0 ⊢;exact hj0
    . obtain ⟨e,h1,h2,h3⟩:=se ops.toList [] j o b (by rw [acf]; exact ho) (by simpa using hbit);have hl:=he e (adw.1 h1) h2;have hon:e.on < ops.size:=by
       rcases acn e.on ops.size with hh | hh
       . exact hh
       . simp [ach,hls,hh] at hl
      rw [hS _ hon] at hl;rcases h3 with h3 | ⟨_,h3⟩
      . rw [<- h3]; exact hl
      . exact hcl _ hl b h3
   have hnext:∀ k,k < ops.size->S.testBit k=false->∃ j,j∈Region.ready .any ops listed:=by
    intro k;induction k using Nat.strongRecOn with
    | _ k ihk =>
      intro hk hkS;obtain ⟨o,ho⟩:∃ o,ops[k]? = some o:=⟨ops[k],by simp [hk]⟩;by_cases hall:∀ e∈o.after,Region.binds .any e=true->listed.getD e.on false=true
      . refine ⟨k,mem_ready.2 ⟨?_,o,ho,hall⟩⟩;have:=hS k hk;rw [hkS] at this;simp [ach,hls,hk] at this ⊢;exact this
      . have hex:∃ e,e∈o.after/\Region.binds .any e=true/\¬ listed.getD e.on false=true:=by
         apply aeA;intro hne;apply hall;intro e he hbe;apply aeA;intro hnl;exact hne ⟨e,he,hbe,hnl⟩
        obtain ⟨e,he,hbe,hnl⟩:=hex;have hon:=gJ ops.toList 0 hed k o (by rw [acf]; exact ho) e (adw.2 he) hbe;rw [acz] at hon;have hon':e.on < ops.size:=Nat.lt_trans hon hk;refine ihk e.on hon hon' ?_;rw [<- hS _ hon'];simpa using hnl
   have hset:∀ j,j < ops.size->(∀ k,k < ops.size->(listed.setIfInBounds j true).getD k false=(S ||| 2 ^ j).testBit k):=by
    intro j hj k hk;rw [bc,<- hS k hk];by_cases hjk:j=k
    . subst hjk;simp [ach,hls,hj]
    . simp [ach,aeK hjk,hjk]
   have hcnt:∀ j,j < ops.size->S.testBit j=false->CE ops.size (S ||| 2 ^ j)<=fuel:=by intro j hj hSj;have:=zR ops.size j S hSj;rw [if_pos hj] at this;omega
   have hclS:∀ j,j∈Region.ready .any ops listed->∀ k,(S ||| 2 ^ j).testBit k=true->∀ b,((bY ops.toList []).getD k 0).testBit b=true->(S ||| 2 ^ j).testBit b=true:=by
    intro j hj k hk b hbit;rw [bc] at hk ⊢;by_cases hjk:j=k
    . subst hjk;rw [(hmask j hj).2.2 b hbit]; rfl
    . have hk:S.testBit k=true:=by simpa [hjk] using hk
      rw [hcl k hk b hbit]; rfl
   by_cases hdone:∀ k,k < i1->S.testBit k=true
   ·
    have hallv:aA base bsF=view base S bsF:=ll fun e he=>hdone e.1 (hidx e he).2
    have h':=h;rw [<- hallv] at h';have hs:=oN (hg:=bd ops.toList) hnm hb h';have hsn:=lF (hg:=bd ops.toList) hnm hb hng;rcases htail with ⟨e1,rfl⟩ | ⟨o,st',ho,hg,hfence,hdo,hw,hrun'⟩
    . refine ⟨fun _=>hQ _ _ _ _ hs hsn hsz,fun j hj => ?_⟩;obtain ⟨h1,h2,_⟩:=hmask j hj;rw [hdone j (by omega)] at h2;simp at h2
    . have hlt:i1 < ops.size:=(acx.1 ho).1;refine ⟨fun hr => ?_,fun j hj => ?_⟩
      . obtain ⟨j,hj⟩:=hnext i1 hlt (hhi i1 (acb _));rw [hr] at hj;simp at hj
      . obtain ⟨hj1,hj2,hj3⟩:=hmask j hj;have hji:j=i1:=by
         have hge:i1<=j:=by
          rcases acn j i1 with hh | hh
          . rw [hdone j hh] at hj2; simp at hj2
          . exact hh
         rcases Nat.lt_or_eq_of_le hge with hgt | heq
         . have hf:=hfence rfl;unfold gy at hf;simp only [ab8,acH,adt] at hf;have:=hf.2 (j - i1 - 1) (by rw [hlen]; omega);rw [show i1 + 1 + (j - i1 - 1)=j by omega] at this;have:=hj3 i1 this;rw [hhi i1 (acb _)] at this;simp at this
         . exact heq.symm
        subst hji;refine bD ho hg ?_;obtain ⟨hn',hw'⟩:=hW cx Z g _ a w o st' hs hsn hsz hdo hw;refine hw' _ _ fun Z' g' a' w' hr hsz' => ?_
        obtain ⟨i2,bsF',k1,k2,k3,k4,k5,k6,k7,k8⟩:=kF (ops:=ops) (ns:=bY ops.toList []) (i0:=j + 1) hT hga hn' _ (j + 1) rfl hlt (acb _) [] stF ⟨trivial,hn'.MB,fun e he=>by simp at he,fun _ _ _ _ he=>by simp at he⟩ hrun';have hlow:∀ k,j + 1<=k->(S ||| 2 ^ j).testBit k=false:=fun k hk=>by rw [bc,hhi k (by omega)];simp; omega
        refine ih (listed.setIfInBounds j true) (S ||| 2 ^ j) (j + 1) i2 st' bsF' a' w' Z' g' (by simp [hls]) (hset j hj1) (hcnt j hj1 hj2) (fun k hk => ?_) (fun k hk=>hlow k (by omega)) (hclS j hj) k1 hn' k2 (fun e he=>⟨(k4 e he).1,(k4 e he).2.1⟩) k5 k7 k8 ?_ hsz'
        . rw [bc];by_cases hjk:j=k
          . simp [hjk]
          . rw [hdone k (by omega)]; rfl
        . rw [iZ fun e he=>hlow e.1 (k4 e he).1];exact hr
   ·
    have hex:∃ k,k < i1/\S.testBit k=false:=by
     apply aeA;intro hne;apply hdone;intro k hk;cases hb:S.testBit k with
     | true=>rfl
     | false=>exact absurd ⟨k,hk,hb⟩ hne
    obtain ⟨k,hk,hkS⟩:=hex;refine ⟨fun hr => ?_,fun j hj => ?_⟩
    . obtain ⟨j,hj⟩:=hnext k (by omega) hkS;rw [hr] at hj;simp at hj
    . obtain ⟨hj1,hj2,hj3⟩:=hmask j hj;have hji:j < i1:=by
       rcases acn j i1 with hh | hh
       . exact hh
       . exfalso;rcases htail with ⟨e1,_⟩ | ⟨o,st',ho,hg,hfence,_⟩
         . omega
         . have hf:=hfence rfl;unfold gy at hf;simp only [ab8,acH,adt] at hf;rcases Nat.lt_or_eq_of_le hh with hgt | heq
           . have:=hf.2 (j - i1 - 1) (by rw [hlen]; omega);rw [show i1 + 1 + (j - i1 - 1)=j by omega] at this;have:=hj3 i1 this;rw [hhi i1 (acb _)] at this;simp at this
           . subst heq;have:=hj3 k (hf.1 k hk);rw [hkS] at this;simp at this
      have hij:i<=j:=by
       rcases acn j i with hh | hh
       . rw [hlo j hh] at hj2; simp at hj2
       . exact hh
      have hget:∀ (x:Nat),(bY ops.toList []).getD j x=(bY ops.toList []).getD j 0:=fun x=>by
       have hjl:j < (bY ops.toList []).length:=by rw [hlen]; exact hj1
       simp [List.getD,hjl]
      refine hstep j hij hji cx S a w Z g _ Q (fun i' _ _ hbit=>hj3 i' (by rw [<- hget cq]; exact hbit)) hj2 h hsz fun Z' g' a' w' hr hsz' => ?_
      refine ih (listed.setIfInBounds j true) (S ||| 2 ^ j) i i1 base bsF a' w' Z' g' (by simp [hls]) (hset j hj1) (hcnt j hj1 hj2) (fun k hk => ?_) (fun k hk => ?_) (hclS j hj) hii hnm hb hidx hng hstep htail hr hsz'
      . rw [bc,hlo k hk]; rfl
      . rw [bc,hhi k hk];simp; omega
end
end Go.Av
namespace Go.Av
open Go.RowKit (Below)
def Good {P:Program} (cx:Cx P) (E:En) (st:St) (a:Act) (w:World):Prop:=bm st/\Fit cx E a/\∃ Z g,Rel cx Z g st a w
def QO {P:Program} (cx:Cx P) (E:En):Ou->Exit->Act->World->Prop
 | .nrm st,.normal,a,w=>Good cx E st a w
 | .ext id st,.exit id',a,w=>id'=id/\Good cx E st a w
 | .ret st,.ret,a,w=>Good cx E st a w
 | _,_,_,_=>False
def QL {P:Program} (cx:Cx P) (E:En) (L:Lo E.ρ):Sum (bE L.σ) (bE E.ρ)->Exit->Act->World->Prop
 | .inl y=>QO cx E (.nrm (enc L.σ y))
 | .inr z=>QO cx E (.ret (enc E.ρ z))
def bS (P:Program) (E:En) (id:Nat) (c:Code) (L:Lo E.ρ):Prop :=
 ∀ (cx:Cx P) (a:Act) (w:World) (x:bE L.σ) (r:Sum (bE L.σ) (bE E.ρ)),Good cx E (enc L.σ x) a w->L.f x=some r->(Code.block id c).wp P (QL cx E L r) a w
def cF (P:Program) (E:En) (c:Code) (F:St->Tr St):Prop :=
 ∀ (cx:Cx P) (a:Act) (w:World) (st st':St),Good cx E st a w->(F st).run=some st'->c.wp P (QO cx E (.nrm st')) a w
def df (P:Program) (E:En):Code->Prop
 | .region id ops dr=>∀ F,E.rg id=some F->cF P E (.region id ops dr) F
 | .seq a b=>df P E a/\df P E b
 | .cond _ a b=>df P E a/\df P E b
 | .block id c=>(∀ L,E.lo id=some L->bS P E id c L)/\(E.lo id=none->df P E c)
 | .loop c=>df P E c
 | _=>True
def HJ (P:Program) (E:En):Prop:=∀ (cx:Cx P) (σ:List SE) (st:St) (a:Act) (w:World) (x:bE σ),Good cx E st a w->dec σ st=some x->Good cx E (enc σ x) a w
section
variable {P:Program} {E:En} {cx:Cx P}
theorem Ec {st:St} {a:Act} {w:World} {t:Nat} {x:Bool} (h:Good cx E st a w) (hx:st.tv t=some (.v (.d .bool x))):Good cx E (st.Kt t x) a w:=by
 obtain ⟨h1,h2,Z,g,h3⟩:=h;refine ⟨fun t' tv h => ?_,h2,Z,g,h3.swap (fun _=>rfl) fun t' tv h => ?_⟩
 . have h:look ((t,.v (.lb x)) :: st.tm) t'=some tv:=h;rw [aW] at h;split at h
   . cases h; exact fun h=>h
   . exact h1 t' tv h
 . have hh:look ((t,.v (.lb x)) :: st.tm) t'=some tv:=h;clear h;rw [aW] at hh;split at hh
   . rename_i e;subst e;cases hh;refine ⟨?_,(vg x).1 _ _ _ _ _ (gF h3 h1.cons.cons hx)⟩;obtain ⟨tq,h4,_⟩:=zt h1.cons hx;exact (h3.tm t tq h4).1
   . exact h3.tm t' tv hh
theorem least {p:Nat->Prop}:∀ n,p n->∃ m,p m/\∀ k,p k->m<=k:=by
 intro n;induction n using Nat.strongRecOn with
 | _ n ih =>
   intro h;by_cases hx:∃ k,k < n/\p k
   . obtain ⟨k,hk,hp⟩:=hx;exact ih k hk hp
   . exact ⟨n,h,fun k hp=>Nat.le_of_not_lt fun hk=>hx ⟨k,hk,hp⟩⟩
open Classical in
noncomputable def Ka (I:Nat->Act->World->Prop) (a:Act) (w:World):Nat:=if h:∃ n,I n a w then Classical.choose (least (p:=fun n=>I n a w) (Classical.choose h) (ac6 h)) else 0
theorem ym {I:Nat->Act->World->Prop} {a:Act} {w:World} {n:Nat} (h:I n a w):I (Ka I a w) a w/\∀ k,I k a w->Ka I a w<=k:=by have he:∃ n,I n a w:=⟨n,h⟩;unfold Ka;rw [dif_pos he];exact ac6 (least (p:=fun n=>I n a w) (Classical.choose he) (ac6 he))
theorem yN {Q:Exit->Act->World->Prop} {c:Code} (I:Nat->Act->World->Prop) (h0:∀ a w,¬ I 0 a w) (round:∀ n a w,I (n + 1) a w->c.wp P (Exit.then (I n) Q) a w) {n:Nat} {a:Act} {w:World} (h:I n a w):(Code.loop c).wp P Q a w:=by
 refine wp_loop (fun a w=>∃ n,I n a w) (Ka I) ⟨n,h⟩ fun a w ⟨n,h⟩ => ?_
 obtain ⟨h1,h2⟩:=ym h;cases hm:Ka I a w with
 | zero=>rw [hm] at h1; exact (h0 _ _ h1).elim
 | succ m =>
   rw [hm] at h1;refine wp_mono (round m a w h1) fun e a' w' hq => ?_
   cases e <;> first | exact hq | exact ⟨⟨m,hq⟩,Nat.lt_succ_of_le ((ym hq).2 m hq)⟩
theorem wp_loop_once {Q:Exit->Act->World->Prop} {c:Code} {a:Act} {w:World} (h:c.wp P (fun e a w=>(∀ x,e=x->x≠ .normal)/\Exit.then (fun _ _=>False) Q e a w) a w):(Code.loop c).wp P Q a w:=by
 refine yN (fun n a' w'=>n=1/\a'=a/\w'=w) (fun a w h=>by omega) (n:=1) (fun n a' w' ⟨h1,h2,h3⟩ => ?_) ⟨rfl,rfl,rfl⟩;subst h2 h3;refine wp_mono h fun e a1 w1 ⟨hn,hq⟩ => ?_
 cases e <;> first | exact hq | exact absurd rfl (hn _ rfl)
theorem bU (hT:bG P E) (hga:de P E) (hW:rJ P E) (hm:P.follows .mixedOrders=true) (hdec:HJ P E):∀ (c:Code) (st:St) (a:Act) (w:World) (ou:Ou),df P E c->Good cx E st a w->(cC E c st).run=some ou->c.wp P (QO cx E ou) a w
 | .skip,st,a,w,ou,_,h,hr=>by have hr:some (Ou.nrm st)=some ou:=hr;simp only [ab6] at hr;subst hr;exact wp_skip h
 | .region id ops false,st,a,w,ou,hl,h,hr=>by
   simp only [cC] at hr;split at hr
   . rename_i F hF;rw [Tr.run_bind] at hr;cases hrun:(F st).run with
     | none=>rw [hrun] at hr; simp at hr
     | some st' => rw [hrun] at hr;simp only [acE,Tr.run,ab6] at hr;subst hr;exact hl F hF cx a w st st' h hrun
   rw [Tr.run_bind] at hr;cases hrun:(dH E false ops.toList [] ops.toList 0 st []).run with
   | none=>rw [hrun] at hr; simp at hr
   | some st' => rw [hrun] at hr;simp only [acE,Tr.run,ab6] at hr;subst hr;obtain ⟨h1,h2,Z,g,h3⟩:=h;refine wp_region ?_;have:=Mk (ns:=[]) (cx:=cx) (Q:=QO cx E (.nrm st')) hT hga hW (stF:=st') (fun Z g a w hr hn hs=>⟨hn,hs,Z,g,hr⟩) ops.size 0 st a w Z g rfl (acS _) h1 h3 h2 hrun;rw [Nat.sub_zero] at this;rw [List.range_eq_range'];exact this
 | .region id ops true,st,a,w,ou,hl,h,hr=>by
   simp only [cC] at hr;split at hr
   . rename_i F hF;rw [Tr.run_bind] at hr;cases hrun:(F st).run with
     | none=>rw [hrun] at hr; simp at hr
     | some st' => rw [hrun] at hr;simp only [acE,Tr.run,ab6] at hr;subst hr;exact hl F hF cx a w st st' h hrun
   cases hed:fP ops.toList 0 with
   | false=>rw [hed] at hr; simp [Tr.run] at hr
   | true =>
     rw [hed] at hr;simp only [ab9] at hr;rw [Tr.run_bind] at hr;cases hrun:(dH E true ops.toList (bY ops.toList []) ops.toList 0 st []).run with
     | none=>rw [hrun] at hr; simp at hr
     | some st' =>
       rw [hrun] at hr;simp only [acE,Tr.run,ab6] at hr;subst hr;obtain ⟨h1,h2,Z,g,h3⟩:=h;refine wp_region_any hm ?_;obtain ⟨i1,bsF,k1,k2,k3,k4,k5,k6,k7,k8⟩:=kF (ops:=ops) (ns:=bY ops.toList []) (i0:=0) hT hga h1 _ 0 rfl (acS _) (acb _) [] st' ⟨trivial,h1.MB,fun e he=>by simp at he,fun _ _ _ _ he=>by simp at he⟩ hrun;refine Fb (cx:=cx) (Q:=QO cx E (.nrm st')) hT hga hW hed (stF:=st') (fun Z g a w hr hn hs=>⟨hn,hs,Z,g,hr⟩) ops.size (Array.replicate ops.size false) 0 0 i1 st bsF a _ Z g (by simp) (fun k hk => ?_) (by rw [rh]; exact acb _) (fun k hk=>by omega) (fun k _=>adl k) (fun k hk=>by rw [adl] at hk; simp at hk) k1 h1 k2 (fun e he=>⟨(k4 e he).1,(k4 e he).2.1⟩) k5 k7 k8 ?_ h2
       . rw [adl];simp [ach,hk]
       . rw [iZ fun e _=>adl _];exact h3.world rfl rfl rfl rfl
 | .seq x y,st,a,w,ou,hl,h,hr=>by
   simp only [cC] at hr;rw [Tr.run_bind] at hr;cases hrun:(cC E x st).run with
   | none=>rw [hrun] at hr; simp at hr
   | some o =>
     rw [hrun] at hr;simp only [acE] at hr;refine wp_seq (wp_mono (bU hT hga hW hm hdec x st a w o hl.1 h hrun) fun e a' w' hq => ?_);cases o with
     | nrm st' =>
       cases e <;> first | exact hq.elim | skip
       exact bU hT hga hW hm hdec y st' a' w' ou hl.2 hq hr
     | ext id st' => simp only [Tr.run,ab6] at hr;subst hr;cases e <;> first | exact hq.elim | exact hq
     | ret st' => simp only [Tr.run,ab6] at hr;subst hr;cases e <;> first | exact hq.elim | exact hq
 | .cond c x y,st,a,w,ou,hl,h,hr=>by
   obtain ⟨h1,h2,Z,g,h3⟩:=h;simp only [cC] at hr;split at hr
   . rename_i c _ _ hg;have:a.eval c= .bool true:=aK h3 h1.cons.cons hg;exact wp_cond_true this (bU hT hga hW hm hdec x st a w ou hl.1 ⟨h1,h2,Z,g,h3⟩ hr)
   . rename_i c _ _ hg;have:a.eval c= .bool false:=aK h3 h1.cons.cons hg;exact wp_cond_false this (bU hT hga hW hm hdec y st a w ou hl.2 ⟨h1,h2,Z,g,h3⟩ hr)
   . rename_i v t hg;have hv:a.eval (.tmp t)= .bool v:=aK h3 h1.cons.cons hg;have hs:=Ec (x:=v) (t:=t) ⟨h1,h2,Z,g,h3⟩ hg;refine wp_cond_split hv (fun e => ?_) (fun e => ?_)
     . subst e;exact bU hT hga hW hm hdec x _ a w ou hl.1 hs hr
     . subst e;exact bU hT hga hW hm hdec y _ a w ou hl.2 hs hr
   . simp [Tr.run] at hr
 | .block id c,st,a,w,ou,hl,h,hr=>by
   simp only [cC] at hr;split at hr
   . rename_i L hL;obtain ⟨x,hx,hr⟩:=Tr.af hr;simp only [Tr.run,adO] at hr;obtain ⟨r,hf,hr⟩:=hr;have:=hl.1 L hL cx a w x r (hdec cx L.σ st a w x h hx) hf;refine wp_mono this fun e a' w' hq => ?_
     cases r with
     | inl y=>simp only [Sum.elim_inl,Tr.run,ab6] at hr; subst hr; exact hq
     | inr z=>simp only [Sum.elim_inr,Tr.run,ab6] at hr; subst hr; exact hq
   . rename_i hL;rw [Tr.run_bind] at hr;cases hrun:(cC E c st).run with
     | none=>rw [hrun] at hr; simp at hr
     | some o =>
       rw [hrun] at hr;simp only [acE] at hr;refine wp_block (wp_mono (bU hT hga hW hm hdec c st a w o (hl.2 hL) h hrun) fun e a' w' hq => ?_);cases o with
       | nrm st' => simp only [Tr.run,ab6] at hr;subst hr;cases e <;> first | exact hq.elim | exact hq
       | ext id' st' =>
         cases e <;> first | exact hq.elim | skip
         obtain ⟨rfl,hq⟩:=hq;simp only at hr;simp only [Exit.inBlock];rename_i e';cases hb:Nat.beq e' id with
         | true => rw [hb] at hr;simp only [ab9,Tr.run,ab6] at hr;subst hr;rw [if_pos (beq_eq hb)];exact hq
         | false => rw [hb] at hr;simp only [aco,Tr.run,ab6] at hr;subst hr;rw [if_neg (ady hb)];exact ⟨rfl,hq⟩
       | ret st' => simp only [Tr.run,ab6] at hr;subst hr;cases e <;> first | exact hq.elim | exact hq
 | .exit id,st,a,w,ou,_,h,hr=>by simp only [cC,Tr.run,ab6] at hr;subst hr;exact wp_exit ⟨rfl,h⟩
 | .ret,st,a,w,ou,_,h,hr=>by simp only [cC,Tr.run,ab6] at hr;subst hr;exact wp_ret h
 | .loop c,st,a,w,ou,hl,h,hr=>by
   simp only [cC] at hr;rw [Tr.run_bind] at hr;cases hrun:(cC E c st).run with
   | none=>rw [hrun] at hr; simp at hr
   | some o =>
     rw [hrun] at hr;simp only [acE] at hr;refine wp_loop_once (wp_mono (bU hT hga hW hm hdec c st a w o hl h hrun) fun e a' w' hq => ?_);cases o with
     | nrm st'=>simp [Tr.run] at hr
     | ext id st' => simp only [Tr.run,ab6] at hr;subst hr;cases e <;> first | exact hq.elim | exact ⟨fun x e=>by subst e; simp,hq⟩
     | ret st' => simp only [Tr.run,ab6] at hr;subst hr;cases e <;> first | exact hq.elim | exact ⟨fun x e=>by subst e; simp,hq⟩
 | .goto _,_,_,_,_,_,_,hr=>by simp [cC,Tr.run] at hr
 | .label _,_,_,_,_,_,_,hr=>by simp [cC,Tr.run] at hr
 | .scope _,_,_,_,_,_,_,hr=>by simp [cC,Tr.run] at hr
 | .rangeFunc _ _ _ _,_,_,_,_,_,_,hr=>by simp [cC,Tr.run] at hr
theorem C3 (hT:bG P E) (hga:de P E) (hW:rJ P E) (hm:P.follows .mixedOrders=true) (hdec:HJ P E) {id:Nat} {body:Code} {L:Lo E.ρ} (hl:df P E body)
 (hf:∀ x r,L.f x=some r->∃ n,iter (fun x=>(cZ E id L.σ body x).run) n x=some r):bS P E id (.loop body) L:=by
 intro cx a w x r h hr;obtain ⟨n,hn⟩:=hf x r hr;refine wp_block ?_;refine yN (fun n a w=>∃ x,Good cx E (enc L.σ x) a w/\iter (fun x=>(cZ E id L.σ body x).run) n x=some r) (fun a w ⟨x,_,h⟩=>by simp [iter] at h) (fun n a w ⟨x,hg,hi⟩ => ?_) ⟨x,h,hn⟩;unfold iter at hi
 have hround:∀ r',(cZ E id L.σ body x).run=some r'->∃ o,(cC E body (enc L.σ x)).run=some o/\(match o with
  | .nrm st=>Tr.bo (dec L.σ st) fun y=>Tr.ret (Sum.inl y)
  | .ext id' st=>bif Nat.beq id' id then Tr.bo (dec L.σ st) fun y=> .ret (.inr (.inl y)) else .fail
  | .ret st=>Tr.bo (dec E.ρ st) fun y=> .ret (.inr (.inr y)):Tr (Sum (bE L.σ) (Sum (bE L.σ) (bE E.ρ)))).run=some r':=fun r' hr'=>by
  unfold cZ at hr';rw [Tr.run_bind] at hr';cases ho:(cC E body (enc L.σ x)).run with
  | none=>rw [ho] at hr'; simp at hr'
  | some o=>rw [ho] at hr'; exact ⟨o,rfl,hr'⟩
 split at hi
 . rename_i y hy;obtain ⟨o,ho,ho'⟩:=hround _ hy;refine wp_mono (bU hT hga hW hm hdec body _ a w o hl hg ho) fun e a' w' hq => ?_
   cases o with
   | nrm st => obtain ⟨z,hz,hz'⟩:=Tr.af ho';simp only [Tr.run,ab6,acJ] at hz';subst hz';cases e <;> first | exact hq.elim | exact ⟨z,hdec cx _ st a' w' z hq hz,hi⟩
   | ext id' st =>
     simp only at ho';cases hb:Nat.beq id' id with
     | false=>rw [hb] at ho'; simp [Tr.run] at ho'
     | true => rw [hb] at ho';obtain ⟨z,hz,hz'⟩:=Tr.af ho';simp [Tr.run] at hz'
   | ret st => obtain ⟨z,hz,hz'⟩:=Tr.af ho';simp [Tr.run] at hz'
 . rename_i y hy;simp only [ab6] at hi;subst hi;obtain ⟨o,ho,ho'⟩:=hround _ hy;refine wp_mono (bU hT hga hW hm hdec body _ a w o hl hg ho) fun e a' w' hq => ?_
   cases o with
   | nrm st => obtain ⟨z,hz,hz'⟩:=Tr.af ho';simp [Tr.run] at hz'
   | ext id' st =>
     simp only at ho';cases hb:Nat.beq id' id with
     | false=>rw [hb] at ho'; simp [Tr.run] at ho'
     | true =>
       rw [hb] at ho';obtain ⟨z,hz,hz'⟩:=Tr.af ho';simp only [Tr.run,ab6,Sum.inr.injEq] at hz';subst hz';cases e <;> first | exact hq.elim | skip
       obtain ⟨rfl,hq⟩:=hq;have:=beq_eq hb;subst this;show Exit.then _ _ (.exit _) a' w';simp only [Exit.then,Exit.inBlock,if_true];exact hdec cx _ st a' w' z hq hz
   | ret st => obtain ⟨z,hz,hz'⟩:=Tr.af ho';simp only [Tr.run,ab6,Sum.inr.injEq] at hz';subst hz';cases e <;> first | exact hq.elim | exact hdec cx _ st a' w' z hq hz
 . simp at hi
end
end Go.Av
namespace Go.Av
open Go.RowKit (Below)
theorem AD {α:Type}:∀ (l:List (Nat×α)) (n:Nat) (x:α) (m:Nat),look (QR l n x) m=if n=m then (look l m).map (fun _=>x) else look l m
 | [],n,x,m=>by simp [QR,look]
 | (k,y) :: r,n,x,m=>by
   unfold QR;cases hb:Nat.beq k n with
   | true => have e:=beq_eq hb;subst e;simp only [ab9,aW];by_cases h:k=m <;> simp [h]
   | false =>
     have hne:k≠n:=fun e=>by subst e; simp at hb
     simp only [aco,aW];rw [AD r n x m];by_cases h:k=m
     . have:¬ n=m:=fun e=>hne (h.trans e.symm)
       simp [h,this]
     . simp [h]
theorem wI {α:Type}:∀ (l:List α) (j:Nat) (x:α) (i:Nat),(jx l j x)[i]? = if j=i then (l[i]?).map (fun _=>x) else l[i]?
 | [],j,x,i=>by simp [jx]
 | y :: r,0,x,i=>by cases i <;> simp [jx]
 | y :: r,j + 1,x,i=>by
   cases i with
   | zero=>simp [jx]
   | succ i=>simp [jx,wI r j x i]
theorem hJ {α:Type}:∀ (l:List α) (j:Nat) (x:α),(jx l j x).length=l.length
 | [],_,_=>rfl
 | _ :: _,0,_=>rfl
 | _ :: r,j + 1,x=>acT (· + 1) (hJ r j x)
section
variable {st:St} {r j:Nat} {c:RC}
theorem eQ (r':Nat):look (st.setCell r j c).rt r'=if r=r' then (look st.rt r').map (fun R=>⟨R.box,jx R.cells j c⟩) else look st.rt r':=by
 unfold St.setCell;cases h:look st.rt r with
 | none =>
   simp only;by_cases e:r=r'
   . subst e; simp [h]
   . simp [e]
 | some R =>
   simp only;rw [AD];by_cases e:r=r'
   . subst e; simp [h]
   . simp [e]
theorem cr (r' j':Nat):(st.setCell r j c).cell r' j'=if r=r'/\j=j' then (st.cell r' j').map (fun _=>c) else st.cell r' j':=by
 simp only [St.cell,eQ];by_cases e:r=r'
 . subst e;cases h:look st.rt r with
   | none=>simp [h]
   | some R=>simp only [h,if_true,acG,wI,true_and]
 . simp [e]
theorem dn:(st.setCell r j c).tm=st.tm:=by unfold St.setCell;cases look st.rt r <;> rfl
end
structure fQ {P:Program} (cx:Cx P) (Z:Nat->Prop) (g:Gh) (st:St) (w:World) (F:Nat->Prop):Prop where
 lt:∀ b,F b->b < w.heap.size
 own:∀ b,F b->cx.F0 b∨cx.w0.heap.size<=b
 z:∀ b,F b->¬ Z b
 fp:∀ b,F b->∀ r j,¬ g.fp r j b
 box:∀ b,F b->∀ r R,look st.rt r=some R->R.box=true->g.be r≠b
theorem fQ.none {P:Program} (cx:Cx P) (Z:Nat->Prop) (g:Gh) (st:St) (w:World):fQ cx Z g st w (fun _=>False) :=
 ⟨fun _ h=>h.elim,fun _ h=>h.elim,fun _ h=>h.elim,fun _ h=>h.elim,fun _ h=>h.elim⟩
def Gh.nE (g:Gh) (r j:Nat) (F:Nat->Prop):Gh:=⟨g.be,g.cv,fun r' j' b=>if r'=r/\j'=j then F b else g.fp r' j' b⟩
structure jE (Z:Nat->Prop) (w w':World) (g g':Gh) (st st':St):Prop where
 bP:lD Z Z w w' g g' st st'
 tm:st'.tm=st.tm
 be:g'.be=g.be
 box:∀ r R',look st'.rt r=some R'->∃ R,look st.rt r=some R/\R'.box=R.box
theorem jE.refl {P:Program} {cx:Cx P} {Z:Nat->Prop} {g:Gh} {st:St} {a:Act} {w:World} (h:Rel cx Z g st a w):jE Z w w g g st st :=
 ⟨eh h rfl rfl,rfl,rfl,fun r R h=>⟨R,h,rfl⟩⟩
section
variable {P:Program} {cx:Cx P} {Z:Nat->Prop} {g:Gh} {st:St} {a:Act} {w:World} {E:En}
theorem Rel.kill (h:Rel cx Z g st a w) {r j:Nat} {c:RC} (hc:st.cell r j=some c):Rel cx Z (g.nE r j fun _=>False) (st.setCell r j ⟨c.s + 1,c.m + 1,.av .dead⟩) a w /\
 jE Z w w g (g.nE r j fun _=>False) st (st.setCell r j ⟨c.s + 1,c.m + 1,.av .dead⟩)/\fQ cx Z (g.nE r j fun _=>False) (st.setCell r j ⟨c.s + 1,c.m + 1,.av .dead⟩) w (g.fp r j):=by
 have hfp:∀ r' j' b,(g.nE r j fun _=>False).fp r' j' b->g.fp r' j' b/\¬ (r'=r/\j'=j):=fun r' j' b hb=>by
  simp only [Gh.nE] at hb;split at hb
  . exact hb.elim
  . rename_i hne; exact ⟨hb,hne⟩
 have hrt:∀ r' R',look (st.setCell r j ⟨c.s + 1,c.m + 1,.av .dead⟩).rt r'=some R'->∃ R,look st.rt r'=some R/\R'.box=R.box/\R'.cells.length=R.cells.length:=fun r' R' hR=>by
  rw [eQ] at hR;split at hR
  . cases hl:look st.rt r' with
    | none=>rw [hl] at hR; simp at hR
    | some R => rw [hl] at hR;simp only [acG,ab6] at hR;subst hR;exact ⟨R,rfl,rfl,hJ _ _ _⟩
  . exact ⟨R',hR,rfl,rfl⟩
 have k:lD Z Z w w g (g.nE r j fun _=>False) st (st.setCell r j ⟨c.s + 1,c.m + 1,.av .dead⟩):=by
  refine { size:=acb _,z:=fun b hb _=>⟨hb,rfl⟩,root:=fun r' R hR => ?_,cell:=fun r' j' c' hc' => ?_,own:=fun r j b hb=>(h.fp r j b hb).1,block:=(eh h (st':=st) (w':=w) rfl rfl).block }
  . rw [eQ];by_cases e:r=r'
    . rw [if_pos e,hR]; exact ⟨_,rfl,rfl,fun _=>rfl⟩
    . rw [if_neg e]; exact ⟨R,hR,rfl,fun _=>rfl⟩
  . rw [cr];by_cases e:r=r'/\j=j'
    . obtain ⟨rfl,rfl⟩:=e;rw [hc'] at hc;simp only [ab6] at hc;subst hc;rw [if_pos ⟨rfl,rfl⟩,hc'];exact ⟨_,rfl,aer _,aer _,fun e=>absurd e (ad4 _),fun e=>absurd e (ad4 _),fun e=>absurd e (ad4 _)⟩
    . rw [if_neg e];refine ⟨c',hc',acb _,acb _,fun _=>rfl,fun _ e ks xs hh=>⟨xs,hh,rfl⟩,fun _ _=>⟨rfl,fun b hb _=>⟨?_,rfl⟩⟩⟩;simp only [Gh.nE];rw [if_neg (fun e'=>e ⟨e'.1.symm,e'.2.symm⟩)];exact hb
 refine ⟨?_,⟨k,dn,rfl,fun r' R' hR=>by obtain ⟨R,h1,h2,_⟩:=hrt r' R' hR; exact ⟨R,h1,h2⟩⟩,?_⟩
 . refine { os:=h.os,tape:=h.tape,output:=h.output,size:=h.size,block:=h.block,bN:=h.bN,z0:=h.z0,fp := ?_,disj := ?_,box := ?_,cell := ?_,tm := ?_,defers:=h.defers,pin:=h.pin }
   . intro r' j' b hb;obtain ⟨h1,hne⟩:=hfp r' j' b hb;obtain ⟨h2,h3,h4,c',kk,x,h5,h6⟩:=h.fp r' j' b h1;exact ⟨h2,h3,h4,c',kk,x,by rw [cr,if_neg (fun e=>hne ⟨e.1.symm,e.2.symm⟩)]; exact h5,h6⟩
   . intro r1 j1 r2 j2 b h1 h2;exact h.disj r1 j1 r2 j2 b (hfp _ _ _ h1).1 (hfp _ _ _ h2).1
   . intro r' R' hR hb;obtain ⟨R,h1,h2,h3⟩:=hrt r' R' hR;obtain ⟨b1,b2,b3,b4,cs,e,fr,b5,b6,b7,b8⟩:=h.box r' R h1 (by rw [<- h2]; exact hb);refine ⟨b1,b2,fun r'' j'' hh=>b3 r'' j'' (hfp _ _ _ hh).1,fun r'' R'' hR'' hb'' he => ?_,cs,e,fr,b5,b6,by rw [h3]; exact b7,b8⟩;obtain ⟨R2,h4,h5,_⟩:=hrt r'' R'' hR'';exact b4 r'' R2 h4 (by rw [<- h5]; exact hb'') he
   . intro r' j' c' hc';rw [cr] at hc';split at hc'
     . rename_i e;cases hl:st.cell r' j' with
       | none=>rw [hl] at hc'; simp at hc'
       | some c0 => rw [hl] at hc';simp only [acG,ab6] at hc';subst hc';trivial
     . rename_i e;refine iL.bP k _ _ _ _ (h.cell r' j' c' hc') (fun b hb => ?_) (fun _ _ _=>rfl);simp only [Gh.nE];rw [if_neg (fun e'=>e ⟨e'.1.symm,e'.2.symm⟩)];exact hb
   . intro t tv ht;rw [dn] at ht;exact ⟨(h.tm t tv ht).1,bl.bP k _ _ (h.tm t tv ht).2⟩
 . refine ⟨fun b hb=>(h.fp r j b hb).1,fun b hb=>(h.fp r j b hb).2.1,fun b hb=>(h.fp r j b hb).2.2.1,fun b hb r' j' hb' => ?_,fun b hb r' R' hR hbx he => ?_⟩
   . obtain ⟨h1,hne⟩:=hfp r' j' b hb';exact hne (h.disj r' j' r j b h1 hb)
   . obtain ⟨R,h1,h2,h3⟩:=hrt r' R' hR;obtain ⟨_,_,b3,_⟩:=h.box r' R h1 (by rw [<- h2]; exact hbx);have he:g.be r'=b:=he;exact b3 r j (by rw [he]; exact hb)
theorem Iv {w:World} {e:TypeId} {ks:List K} {xs:T (.sl e ks)} {aa:Option Addr} {l cap n:Nat} {F:Nat->Prop} (h:cK w (.sl e ks) xs (.slice aa l cap) F) (hn:n<=l):cK w (.sl e ks) (List.take n (aE xs)) (.slice aa n cap) F:=by
 obtain ⟨a',c',h1,h2,h3,h4,h5⟩:=h;simp only [ac4] at h1;obtain ⟨rfl,rfl,rfl⟩:=h1;have hlen:(aE (e:=e) (ks:=ks) (List.take n (aE xs))).length=n:=(acL (l:=aE xs) (i:=n)).trans (ad9 hn);refine ⟨aa,cap,by rw [hlen],by omega,by omega,h4,fun a' ha => ?_⟩;obtain ⟨b,o,cs,e',fr,g1,g2,g3,g4,g5,G,g6,g7,g8⟩:=h5 a' ha;refine ⟨b,o,cs,e',fr,g1,g2,g3,g4,g5,G,g6,g7,fun i x hx=>g8 i x ?_⟩;have hx':(List.take n (aE xs))[i]? = some x:=hx;rw [ac8] at hx';split at hx'
 . exact hx'
 . simp at hx'
theorem eP (h:Rel cx Z g st a w) {av:AV} {v:Value} (hr:ba Z g st w av v) {k:K} {st':St} {x:T k} (ht:st.dF k av=some (st',x)) :
 ∃ g' F,Rel cx Z g' st' a w/\jE Z w w g g' st st'/\cK w k x v F/\fQ cx Z g' st' w F/\(∀ r j b,g'.fp r j b->g.fp r j b)/\(∀ b,F b->∃ r j,g.fp r j b)/\g'.cv=g.cv:=by
 have nilc:∀ (e:TypeId) (ks:List K),av= .nil->k= .sl e ks->st'=st->HEq x ([]:List (Tl ks))->∃ g' F,Rel cx Z g' st' a w/\jE Z w w g g' st st'/\cK w k x v F/\fQ cx Z g' st' w F/\(∀ r j b,g'.fp r j b->g.fp r j b)/\(∀ b,F b->∃ r j,g.fp r j b)/\g'.cv=g.cv:=by intro e ks h1 h2 h3 h4;subst h1; subst h2; subst h3;have h4:=aeh h4;subst h4;have hv:v= .slice none 0 0:=hr;subst hv;exact ⟨g,fun _=>False,h,jE.refl h,iT e ks,fQ.none _ _ _ _ _,fun _ _ _ h=>h,fun _ h=>h.elim,rfl⟩
 have main:(∀ z,st.dF k av=some z->∃ q,st.take av=some q/\∃ y,gK q.2.1 k q.2.2=some y/\z=(q.1,y))->∃ g' F,Rel cx Z g' st' a w/\jE Z w w g g' st st'/\cK w k x v F/\fQ cx Z g' st' w F/\(∀ r j b,g'.fp r j b->g.fp r j b)/\(∀ b,F b->∃ r j,g.fp r j b)/\g'.cv=g.cv:=by
  intro hspec;obtain ⟨⟨st1,k',x'⟩,hq,y,hy,hz⟩:=hspec _ ht;simp only [acI] at hz;obtain ⟨rfl,rfl⟩:=hz;obtain ⟨e,hy⟩:=ct hy;subst e;subst hy;cases av with
  | ref r j s =>
    simp only [St.take] at hq;split at hq
    . rename_i s' m k1 x1 hc;cases hb:Nat.beq s' s with
      | false=>rw [hb] at hq; simp at hq
      | true =>
        rw [hb] at hq;simp only [ab9,ab6,acI] at hq;obtain ⟨rfl,hx⟩:=hq;cases hx;obtain ⟨k1,k2,k3⟩:=h.kill hc;obtain ⟨c,h1,h2,h3⟩:=hr;rw [hc] at h1;simp only [ab6] at h1;subst h1;refine ⟨_,g.fp r j,k1,k2,?_,k3,fun r' j' b hb => ?_,fun b hb=>⟨r,j,hb⟩,rfl⟩
        . rw [h3 (beq_eq hb)];exact dy h hc rfl
        . simp only [Gh.nE] at hb;split at hb
          . exact hb.elim
          . exact hb
    . simp at hq
  | cut r j s n =>
    simp only [St.take] at hq;split at hq
    . rename_i s' m e1 ks1 x1 hc;cases hb:Nat.beq s' s with
      | false=>rw [hb] at hq; simp at hq
      | true =>
        rw [hb] at hq;simp only [ab9,ab6,acI] at hq;obtain ⟨rfl,hx⟩:=hq;cases hx;obtain ⟨k1,k2,k3⟩:=h.kill hc;obtain ⟨c,h1,h2,h3⟩:=hr;rw [hc] at h1;simp only [ab6] at h1;subst h1;obtain ⟨aa,l,cap,e1,e2,e3⟩:=h3 (beq_eq hb);refine ⟨_,g.fp r j,k1,k2,?_,k3,fun r' j' b hb => ?_,fun b hb=>⟨r,j,hb⟩,rfl⟩
        . rw [e3];have:=dy h hc rfl;rw [e1] at this;exact Iv this e2
        . simp only [Gh.nE] at hb;split at hb
          . exact hb.elim
          . exact hb
    . simp at hq
  | _=>simp [St.take] at hq
 unfold St.dF at ht main;split at ht
 . rename_i e ks;cases ht;exact nilc e ks rfl rfl rfl HEq.rfl
 . rename_i hne;apply main;intro z hz;split at hz
   . rename_i e ks;exact (hne e ks rfl rfl).elim
   . split at hz
     . rename_i st2 k2 x2 hq;split at hz
       . rename_i y hy;simp only [ab6] at hz;exact ⟨_,hq,y,hy,hz.symm⟩
       . simp at hz
     . simp at hz
theorem Rel.qE (h:Rel cx Z g st a w) {r be:Nat} {R:Rt} {cv:Nat->Value} {fp:Nat->Nat->Prop} (hr:look st.rt r=none)
 (hfp:∀ j b,fp j b->b < w.heap.size/\(cx.F0 b∨cx.w0.heap.size<=b)/\¬ Z b/\(∀ r j,¬ g.fp r j b)/\(∀ r' R',look st.rt r'=some R'->R'.box=true->g.be r'≠b)/\∃ (c:RC) (k:K) (x:T k),R.cells[j]? = some c/\c.v= .own k x)
 (hd:∀ j j' b,fp j b->fp j' b->j=j')
 (hb:R.box=true->cx.w0.heap.size<=be/\¬ Z be/\(∀ r' j',¬ g.fp r' j' be)/\(∀ j,¬ fp j be)/\(∀ r' R',look st.rt r'=some R'->R'.box=true->g.be r'≠be)/\∃ cs e fr,w.heap[be]? = some (.cells cs e fr)/\(∀ q,q < cs.size->¬ (fr.1<=q/\q < fr.2))/\cs.size=R.cells.length/\∀ j,j < cs.size->cs[j]? = some (cv j))
 (hc:∀ (j:Nat) (c:RC),R.cells[j]? = some c->match c.v with | .own k x=>cK w k x (cv j) (fp j) | .av (.d k x)=>RO Z w k x (cv j) | .av _=>False) :
 Rel cx Z (g.at r be cv fp) ⟨st.tm,(r,R) :: st.rt⟩ a w:=by
 have hlook:∀ r',look ((r,R) :: st.rt) r'=if r=r' then some R else look st.rt r':=fun r'=>aW _ _ _ _
 have hcell:∀ r' j',St.cell ⟨st.tm,(r,R) :: st.rt⟩ r' j'=if r=r' then R.cells[j']? else st.cell r' j':=fun r' j'=>by simp only [St.cell,hlook];by_cases hh:r=r' <;> simp [hh]
 have hne:∀ r' R',look st.rt r'=some R'->¬ r'=r:=fun r' R' h1 e=>by rw [e,hr] at h1; simp at h1
 have hnc:∀ r' j' c',st.cell r' j'=some c'->¬ r'=r:=fun r' j' c' h1 e=>by simp [St.cell,e,hr] at h1
 have k:lD Z Z w w g (g.at r be cv fp) st ⟨st.tm,(r,R) :: st.rt⟩:=by
  refine { size:=acb _,z:=fun b hb _=>⟨hb,rfl⟩,root:=fun r' R' hR => ?_,cell:=fun r' j' c' hc' => ?_,own:=fun r j b hb=>(h.fp r j b hb).1,block:=(eh h (st':=st) (w':=w) rfl rfl).block }
  . have:=hne r' R' hR;exact ⟨R',by rw [hlook,if_neg (fun e=>this e.symm)]; exact hR,rfl,fun _=>by simp [Gh.at,this]⟩
  . have:=hnc r' j' c' hc';exact ⟨c',by rw [hcell,if_neg (fun e=>this e.symm)]; exact hc',acb _,acb _,fun _=>by simp [Gh.at,this],fun _ e ks xs hh=>⟨xs,hh,rfl⟩,fun _ _=>⟨rfl,fun b hb _=>⟨by simp [Gh.at,this]; exact hb,rfl⟩⟩⟩
 have hf1:∀ r' j' b,(g.at r be cv fp).fp r' j' b->(r'=r/\fp j' b)∨(¬ r'=r/\g.fp r' j' b):=fun r' j' b hb=>by
  simp only [Gh.at] at hb;by_cases e:r'=r
  . simp [e] at hb; exact .inl ⟨e,hb⟩
  . simp [e] at hb; exact .inr ⟨e,hb⟩
 refine { os:=h.os,tape:=h.tape,output:=h.output,size:=h.size,block:=h.block,bN:=h.bN,z0:=h.z0,fp := ?_,disj := ?_,box := ?_,cell := ?_,tm:=fun t tv ht=>⟨(h.tm t tv ht).1,bl.bP k _ _ (h.tm t tv ht).2⟩,defers:=h.defers,pin:=h.pin }
 . intro r' j' b hb;rcases hf1 r' j' b hb with ⟨rfl,h1⟩ | ⟨e,h1⟩
   . obtain ⟨k1,k2,k3,_,_,c,kk,x,k4,k5⟩:=hfp j' b h1;exact ⟨k1,k2,k3,c,kk,x,by rw [hcell,if_pos rfl]; exact k4,k5⟩
   . obtain ⟨k1,k2,k3,c,kk,x,k4,k5⟩:=h.fp r' j' b h1;exact ⟨k1,k2,k3,c,kk,x,by rw [hcell,if_neg (fun e'=>e e'.symm)]; exact k4,k5⟩
 . intro r1 j1 r2 j2 b h1 h2;rcases hf1 _ _ _ h1 with ⟨e1,k1⟩ | ⟨e1,k1⟩
   . rcases hf1 _ _ _ h2 with ⟨e2,k2⟩ | ⟨e2,k2⟩
     . exact ⟨e1.trans e2.symm,hd _ _ _ k1 k2⟩
     . exact absurd k2 ((hfp j1 b k1).2.2.2.1 r2 j2)
   . rcases hf1 _ _ _ h2 with ⟨e2,k2⟩ | ⟨e2,k2⟩
     . exact absurd k1 ((hfp j2 b k2).2.2.2.1 r1 j1)
     . exact h.disj _ _ _ _ _ k1 k2
 . intro r' R' hR hbx;rw [hlook] at hR;by_cases e:r=r'
   . subst e;rw [if_pos rfl] at hR;simp only [ab6] at hR;subst hR;obtain ⟨b1,b2,b3,b4,b5,cs,el,fr,b6,b7,b8,b9⟩:=hb hbx;have e1:(g.at r be cv fp).be r=be:=by simp [Gh.at]
     rw [e1];refine ⟨b1,b2,fun r' j' hh => ?_,fun r' R' hR' hb' he => ?_,cs,el,fr,b6,b7,b8,fun j hj=>by simp [Gh.at]; simpa using b9 j hj⟩
     . rcases hf1 _ _ _ hh with ⟨rfl,h1⟩ | ⟨e1,h1⟩
       . exact b4 j' h1
       . exact b3 r' j' h1
     . rw [hlook] at hR';by_cases e2:r=r'
       . exact e2.symm
       . rw [if_neg e2] at hR';have e3:(g.at r be cv fp).be r'=g.be r':=by
          have e4:¬ _=r:=fun e=>e2 (Eq.symm e)
          simp only [Gh.at];rw [if_neg e4]
         rw [e3] at he;exact absurd he (b5 r' R' hR' hb')
   . rw [if_neg e] at hR;obtain ⟨b1,b2,b3,b4,cs,el,fr,b5,b6,b7,b8⟩:=h.box r' R' hR hbx;have e':¬ r'=r:=fun x=>e x.symm
     have e1:(g.at r be cv fp).be r'=g.be r':=by simp [Gh.at,e']
     rw [e1];refine ⟨b1,b2,fun r'' j'' hh => ?_,fun r'' R'' hR'' hb'' he => ?_,cs,el,fr,b5,b6,b7,fun j hj=>by simp [Gh.at,e']; simpa using b8 j hj⟩
     . rcases hf1 _ _ _ hh with ⟨rfl,h1⟩ | ⟨_,h1⟩
       . exact (hfp j'' _ h1).2.2.2.2.1 r' R' hR hbx rfl
       . exact b3 r'' j'' h1
     . rw [hlook] at hR'';by_cases e2:r=r''
       . subst e2;rw [if_pos rfl] at hR'';simp only [ab6] at hR'';subst hR'';have e3:(g.at r be cv fp).be r=be:=by simp [Gh.at]
         rw [e3] at he;exact absurd he.symm ((hb hb'').2.2.2.2.1 r' R' hR hbx)
       . rw [if_neg e2] at hR'';have e3:(g.at r be cv fp).be r''=g.be r'':=by
          have e4:¬ _=r:=fun e=>e2 (Eq.symm e)
          simp only [Gh.at];rw [if_neg e4]
         rw [e3] at he;exact b4 r'' R'' hR'' hb'' he
 . intro r' j' c' hc';rw [hcell] at hc';by_cases e:r=r'
   . subst e;rw [if_pos rfl] at hc';have h1:=hc j' c' hc';have e1:(g.at r be cv fp).cv r j'=cv j':=by simp [Gh.at]
     have e2:(g.at r be cv fp).fp r j'=fp j':=by funext b; simp [Gh.at]
     rw [e1,e2];cases hv:c'.v with
     | own kk x=>rw [hv] at h1; exact h1
     | av x=>rw [hv] at h1; cases x <;> first | exact h1 | exact h1.elim
   . rw [if_neg e] at hc';have e':¬ r'=r:=fun x=>e x.symm
     have e1:(g.at r be cv fp).cv r' j'=g.cv r' j':=by simp [Gh.at,e']
     have e2:(g.at r be cv fp).fp r' j'=g.fp r' j':=by funext b; simp [Gh.at,e']
     rw [e1,e2];exact iL.bP k _ _ _ _ (h.cell r' j' c' hc') (fun _ h=>h) (fun _ _ _=>rfl)
end
end Go.Av
namespace Go.Av
open Go.RowKit (Below)
theorem gS:∀ (σ:List SE) (x:bE σ) (t:Nat) (tv:TV),(t,tv)∈lU σ x->¬ tv.gL
 | [],_,t,tv,h=>by simp [lU] at h
 | .d t k :: σ,x,t',tv,h=>by
   rcases aci.1 h with h | h
   . cases h; exact fun h=>h
   . exact gS σ x.2 t' tv h
 | .own t k :: σ,x,t',tv,h=>by
   rcases aci.1 h with h | h
   . cases h; exact fun h=>h
   . exact gS σ x.2 t' tv h
 | .fn t f caps :: σ,x,t',tv,h=>by
   rcases aci.1 h with h | h
   . cases h; exact fun h=>h
   . exact gS σ x.2 t' tv h
 | .ag t ks :: σ,x,t',tv,h=>by
   rcases aci.1 h with h | h
   . cases h; exact fun h=>h
   . exact gS σ x.2 t' tv h
 | .box r cs :: σ,x,t',tv,h=>by
   rcases aci.1 h with h | h
   . cases h; exact fun h=>h
   . exact gS σ x.2 t' tv h
 | .al t t2 :: σ,x,t',tv,h=>by
   rcases aci.1 h with h | h
   . cases h; exact fun h=>h
   . exact gS σ x.2 t' tv h
theorem yu (σ:List SE) (x:bE σ):bm (enc σ x):=fun t tv h=>gS σ x t tv (gI _ _ _ h)
def we (r:Nat):List SE->Prop
 | []=>False
 | .box r' _ :: σ=>r'=r∨we r σ
 | _ :: σ=>we r σ
theorem eZ:∀ (σ:List SE) (x:bE σ) (r:Nat) (R:Rt),(r,R)∈eg σ x->(∃ t,r=cn t/\nH t σ=true/\R.box=false)∨(we r σ/\R.box=true)
 | [],_,r,R,h=>by simp [eg] at h
 | .d t k :: σ,x,r,R,h=>eZ σ x.2 r R h
 | .fn t f caps :: σ,x,r,R,h=>eZ σ x.2 r R h
 | .ag t ks :: σ,x,r,R,h=>eZ σ x.2 r R h
 | .al _ _ :: σ,x,r,R,h=>eZ σ x.2 r R h
 | .own t k :: σ,x,r,R,h=>by
   rcases aci.1 h with h | h
   . cases h; exact .inl ⟨t,rfl,by simp [nH],rfl⟩
   . rcases eZ σ x.2 r R h with ⟨t',h1,h2,h3⟩ | h1
     . exact .inl ⟨t',h1,by simp [nH,h2],h3⟩
     . exact .inr h1
 | .box r' cs :: σ,x,r,R,h=>by
   rcases aci.1 h with h | h
   . cases h; exact .inr ⟨.inl rfl,rfl⟩
   . rcases eZ σ x.2 r R h with h1 | ⟨h1,h2⟩
     . exact .inl h1
     . exact .inr ⟨.inr h1,h2⟩
theorem gR:∀ {σ:List SE} {r:Nat},xf r σ=true->¬ we r σ/\∀ t,nH t σ=false
 | [],r,_=>⟨fun h=>h,fun _=>rfl⟩
 | .d _ _ :: σ,r,h=>gR (σ:=σ) h
 | .fn _ _ _ :: σ,r,h=>gR (σ:=σ) h
 | .ag _ _ :: σ,r,h=>gR (σ:=σ) h
 | .al _ _ :: σ,r,h=>gR (σ:=σ) h
 | .own _ _ :: σ,r,h=>by simp [xf] at h
 | .box r' cs :: σ,r,h=>by simp only [xf,ab8,acP] at h;obtain ⟨h1,h2⟩:=gR h.2;exact ⟨fun hh=>hh.elim (fun e=>by subst e; have:=h.1; simp at this) h1,h2⟩
theorem l9 {st:St}:∀ (cs:List (Bool×K)) (l:List RC) (bx:BT cs),jF st cs l=some bx->l.length=(eL cs bx).length/\∀ (j:Nat) (c:RC),(eL cs bx)[j]? = some c ->
 (∃ (k:K) (x:T k) (c0:RC),cs[j]? = some (true,k)/\c=⟨0,0,.own k x⟩/\l[j]? = some c0/\c0.v= .own k x)∨(∃ (k:K) (x:T k) (c0:RC) (av:AV),c=⟨0,0,.av (.d k x)⟩/\l[j]? = some c0/\c0.v= .av av/\av.bC=true/\st.bR k av=some x)
 | [],[],bx,h=>⟨rfl,fun j c h=>by simp [eL] at h⟩
 | (true,k) :: cs,⟨s,m,.own k' x⟩ :: r,bx,h=>by
   simp only [jF] at h;split at h
   . rename_i y z hy hz;cases h;obtain ⟨e,hy⟩:=ct hy;subst e;subst hy;obtain ⟨h1,h2⟩:=l9 cs r z hz;refine ⟨acT (· + 1) h1,fun j c hj => ?_⟩;cases j with
     | zero => simp only [eL,acj,ab6] at hj;exact .inl ⟨k',x,_,rfl,hj.symm,rfl,rfl⟩
     | succ j => simp only [eL,ada] at hj ⊢;exact h2 j c hj
   . simp at h
 | (false,k) :: cs,⟨s,m,.av av⟩ :: r,bx,h=>by
   simp only [jF] at h;cases hf:av.bC with
   | false=>rw [hf] at h; simp at h
   | true =>
     rw [hf] at h;simp only [ab9] at h;split at h
     . rename_i y z hy hz;cases h;obtain ⟨h1,h2⟩:=l9 cs r z hz;refine ⟨acT (· + 1) h1,fun j c hj => ?_⟩;cases j with
       | zero => simp only [eL,acj,ab6] at hj;exact .inr ⟨k,y,_,av,hj.symm,rfl,rfl,hf,hy⟩
       | succ j => simp only [eL,ada] at hj ⊢;exact h2 j c hj
     . simp at h
 | [],_ :: _,bx,h=>by simp [jF] at h
 | (true,_) :: _,⟨_,_,.av _⟩ :: _,bx,h=>by simp [jF] at h
 | (false,_) :: _,⟨_,_,.own _ _⟩ :: _,bx,h=>by simp [jF] at h
 | (true,_) :: _,[],bx,h=>by simp [jF] at h
 | (false,_) :: _,[],bx,h=>by simp [jF] at h
theorem eV {Z:Nat->Prop} {g:Gh} {st:St} {w:World} {d:Nat}:∀ (ks:List K) (x:Tl ks) (cs:List Value) (j:Nat),sZ Z w ks x cs->aN Z g st w (dO d false ks x j) cs
 | [],_,[],_,_=>trivial
 | .sl e ks' :: ks,x,v :: vs,j,h=>⟨h.1,eV ks x.2 vs j h.2⟩
 | .int _ :: ks,x,v :: vs,j,h=>⟨h.1,eV ks x.2 vs j h.2⟩
 | .bool :: ks,x,v :: vs,j,h=>⟨h.1,eV ks x.2 vs j h.2⟩
 | .str :: ks,x,v :: vs,j,h=>⟨h.1,eV ks x.2 vs j h.2⟩
 | [],_,_ :: _,_,h=>h.elim
 | .sl _ _ :: _,_,[],_,h=>h.elim
 | .int _ :: _,_,[],_,h=>h.elim
 | .bool :: _,_,[],_,h=>h.elim
 | .str :: _,_,[],_,h=>h.elim
theorem Pl {Z:Nat->Prop} {g:Gh} {st:St} {w:World} {ks:List K} {x:Tl ks} {v:Value} (h:XQ Z w ks x v):ba Z g st w (.rp none 0 ks [x] 0 0) v:=by
 obtain ⟨b,o,h1,h2,h3,h4⟩:=h;refine ⟨by simp,b,o,h2,h3,by rw [h1]; simp,fun i y hy => ?_⟩;cases i with
 | zero=>simp only [acj,ab6] at hy; subst hy; simpa using h4
 | succ i=>simp at hy
theorem lI {Z:Nat->Prop} {g:Gh} {st:St} {w:World}:∀ (cs:List OA) (x:LD cs) (vs:List Value),IB Z w cs x vs->fw Z g st w (qz cs x) vs
 | [],_,[],_=>trivial
 | .c gg ks :: cs,x,v :: vs,⟨⟨us,e,h⟩,h'⟩=>⟨ux e (eV ks x.1 us 0 h),lI cs x.2 vs h'⟩
 | .p ks :: cs,x,v :: vs,h=>⟨Pl (g:=g) (st:=st) h.1,lI cs x.2 vs h.2⟩
 | [],_,_ :: _,h=>h.elim
 | .c _ _ :: _,_,[],h=>h.elim
 | .p _ :: _,_,[],h=>h.elim
section
variable {P:Program} {cx:Cx P} {Z:Nat->Prop} {a:Act} {w:World}
theorem yI {g:Gh} {st:St} (h:Rel cx Z g st a w) (hn:bm st) {t:Nat} {tv:TV} (ht:st.tv t=some tv):t < a.tmps.size:=by obtain ⟨tq,h1,_⟩:=zt hn.cons ht;exact (h.tm t tq h1).1
theorem Rel.tell {g:Gh} {tm:List (Nat×TV)} {rt:List (Nat×Rt)} (h:Rel cx Z g ⟨tm,rt⟩ a w) {t:Nat} {tv:TV} (ht:t < a.tmps.size) (hr:bl Z g ⟨tm,rt⟩ w tv (a.tmps.getD t undef)):Rel cx Z g ⟨(t,tv) :: tm,rt⟩ a w:=by
 refine h.swap (fun _=>rfl) fun t' tv' hh => ?_
 have hh:look ((t,tv) :: tm) t'=some tv':=hh;rw [aW] at hh;split at hh
 . rename_i e;cases hh;rw [<- e];exact ⟨ht,hr⟩
 . exact h.tm t' tv' hh
theorem lA:∀ (σ:List SE) (st:St) (g:Gh) (x:bE σ),Rel cx Z g st a w->bm st->dec σ st=some x->∃ gE,Rel cx Z gE (enc σ x) a w/\(∀ r j b,gE.fp r j b->∃ r0 j0,g.fp r0 j0 b)/\((∀ t,nH t σ=false)->∀ r j b,gE.fp r j b->g.fp r j b) /\
 (∀ r R',look (enc σ x).rt r=some R'->R'.box=true->gE.be r=g.be r/\∃ R,look st.rt r=some R/\R.box=true)/\(∀ r,we r σ->r < 100000)
 | [],st,g,x,h,hn,hd=>by
   refine ⟨⟨g.be,g.cv,fun _ _ _=>False⟩,?_,fun _ _ _ h=>h.elim,fun _ _ _ _ h=>h.elim,fun r R' hR=>by simp [enc,eg,look] at hR,fun _ h=>h.elim⟩
   exact { os:=h.os,tape:=h.tape,output:=h.output,size:=h.size,block:=h.block,bN:=h.bN,z0:=h.z0,fp:=fun _ _ _ h=>h.elim,disj:=fun _ _ _ _ _ h=>h.elim
           box:=fun r R hR=>by simp [enc,eg,look] at hR
           cell:=fun r j c hc=>by simp [enc,eg,St.cell,look] at hc
           tm:=fun t tv ht=>by simp [enc,lU,look] at ht
           defers:=h.defers,pin:=h.pin }
 | .d t k :: σ,st,g,x,h,hn,hd=>by
   simp only [dec] at hd;split at hd
   . rename_i av htv;cases hf:av.bC with
     | false=>rw [hf] at hd; simp at hd
     | true =>
       rw [hf] at hd;simp only [ab9] at hd;split at hd
       . rename_i y z hy hz;cases hd;obtain ⟨gE,h1,h2,h3,h4,h5⟩:=lA σ st g z h hn hz;refine ⟨gE,h1.tell (yI h hn htv) ?_,h2,h3,h4,h5⟩;exact bT h (gF h hn.cons.cons htv) hf hy
       . simp at hd
   . simp at hd
 | .fn t f caps :: σ,st,g,x,h,hn,hd=>by
   simp only [dec] at hd;split at hd
   . rename_i f' l htv;cases hf:Nat.beq f f' with
     | false=>rw [hf] at hd; simp at hd
     | true =>
       rw [hf] at hd;simp only [ab9] at hd;split at hd
       . rename_i y z hy hz;cases hd;obtain ⟨gE,h1,h2,h3,h4,h5⟩:=lA σ st g z h hn hz;refine ⟨gE,h1.tell (yI h hn htv) ?_,h2,h3,h4,h5⟩;obtain ⟨vs,e1,e2⟩:=gF h hn.cons.cons htv;have:=beq_eq hf;subst this;exact ⟨vs,e1,lI _ _ _ (nk h (fun _ h _=>h) (fun hh=>by simp at hh) caps l vs.toList y e2 hy)⟩
       . simp at hd
   . simp at hd
 | .ag t ks :: σ,st,g,x,h,hn,hd=>by
   simp only [dec] at hd;split at hd
   . rename_i l htv;cases hf:l.all AV.bC with
     | false=>rw [hf] at hd; simp at hd
     | true =>
       rw [hf] at hd;simp only [ab9] at hd;split at hd
       . rename_i y z hy hz;cases hd;obtain ⟨gE,h1,h2,h3,h4,h5⟩:=lA σ st g z h hn hz;refine ⟨gE,h1.tell (yI h hn htv) ?_,h2,h3,h4,h5⟩;obtain ⟨vs,e1,e2⟩:=gF h hn.cons.cons htv;exact ⟨vs,e1,eV ks y vs.toList 0 (dw h ks l vs.toList y e2 hf hy)⟩
       . simp at hd
   . simp at hd
 | .al t t2 :: σ,st,g,x,h,hn,hd=>by
   simp only [dec] at hd;split at hd
   . rename_i r j s r2 j2 s2 ht1 ht2;cases hb:Nat.beq r r2 && (Nat.beq j j2 && (Nat.beq s s2 && KC st r j s)) with
     | false=>rw [hb] at hd; simp at hd
     | true =>
       rw [hb] at hd;simp only [ab9] at hd;simp only [ab8] at hb;obtain ⟨e1,e2,e3,hv⟩:=hb;have e1:=beq_eq e1;have e2:=beq_eq e2;have e3:=beq_eq e3;subst e1 e2 e3;split at hd
       . rename_i z hz;cases hl:Dc (lU σ z) t2 with
         | false=>rw [hl] at hd; simp at hd
         | true =>
           rw [hl] at hd;simp only [ab9] at hd;cases hd;obtain ⟨gE,h1,h2,h3,h4,h5⟩:=lA σ st g z h hn hz;refine ⟨gE,h1.tell (yI h hn ht1) ?_,h2,h3,h4,h5⟩;have hq:(enc σ z).tv t2=some (.v (.ref (cn t2) 0 0)):=by
            unfold Dc at hl;split at hl
            . rename_i q hq;have:=beq_eq hl;subst this;have hq:look (enc σ z).tm t2=some (.v (.ref (cn t2) 0 0)):=hq;simp only [St.tv,hq]
            . simp at hl
           obtain ⟨c1,k1,k2,k3⟩:=(gF h hn.cons.cons ht1:ba Z g st w (.ref r j s) _);obtain ⟨c2,k4,k5,k6⟩:=(gF h hn.cons.cons ht2:ba Z g st w (.ref r j s) _);have hs:c1.s=s:=by unfold KC at hv;rw [k1] at hv;exact beq_eq hv
           have:c2=c1:=adk (k4.symm.trans k1);subst this;have e:a.tmps.getD t undef=a.tmps.getD t2 undef:=(k3 hs).trans (k6 hs).symm;rw [e];exact (gF h1 (yu σ z).cons.cons hq:ba Z gE (enc σ z) w (.ref (cn t2) 0 0) _)
       . simp at hd
   . simp at hd
 | .own t k :: σ,st,g,x,h,hn,hd=>by
   simp only [dec] at hd;split at hd
   . rename_i av htv;cases ho:nH t σ with
     | true=>rw [ho] at hd; simp at hd
     | false =>
       rw [ho] at hd;simp only [aco] at hd;split at hd
       . rename_i st' y ht;split at hd
         . rename_i z hz;cases hd;obtain ⟨g1,F,k1,k2,k3,k4,k5,k6,k7⟩:=eP h (gF h hn.cons.cons htv) ht;have hn':bm st':=fun t tv ht=>hn t tv (by rw [<- k2.tm]; exact ht)
           obtain ⟨gE,h1,h2,h3,h4,h5⟩:=lA σ st' g1 z k1 hn' hz;have hnone:look (eg σ z) (cn t)=none:=by
            cases hl:look (eg σ z) (cn t) with
            | none=>rfl
            | some R =>
              rcases eZ σ z _ R (gI _ _ _ hl) with ⟨t',e1,e2,_⟩ | ⟨e1,_⟩
              . have:t=t':=by unfold cn at e1; omega
                subst this;rw [ho] at e2; simp at e2
              . have:=h5 _ e1;unfold cn at this;omega
           have h6:=Rel.qE h1 (r:=cn t) (be:=0) (R:=⟨false,[⟨0,0,.own k y⟩]⟩) (cv:=fun _=>a.tmps.getD t undef) (fp:=fun j b=>j=0/\F b) hnone
            (fun j b hb=>⟨k4.lt b hb.2,k4.own b hb.2,k4.z b hb.2,fun r j hh=>by
              obtain ⟨r0,j0,hh⟩:=h2 r j b hh;exact k4.fp b hb.2 r0 j0 hh,fun r' R' hR' hb'=>by
              obtain ⟨e1,R,e2,e3⟩:=h4 r' R' hR' hb';rw [e1];exact k4.box b hb.2 r' R e2 e3,⟨0,0,.own k y⟩,k,y,by rw [hb.1]; rfl,rfl⟩)
            (fun j j' b h1 h2=>h1.1.trans h2.1.symm) (fun hb=>by simp at hb)
            (fun j c hj=>by
              cases j with
              | zero => simp only [acj,ab6] at hj;subst hj;exact cK.frame _ _ _ _ _ (fun b hb=>⟨rfl,hb⟩) (fun _ _ _=>rfl) k3
              | succ j=>simp at hj)
           have hlk:∀ r',look ((cn t,(⟨false,[⟨0,0,.own k y⟩]⟩:Rt)) :: eg σ z) r'=if cn t=r' then some ⟨false,[⟨0,0,.own k y⟩]⟩ else look (eg σ z) r':=fun r'=>aW _ _ _ _
           refine ⟨_,h6.tell (yI h hn htv) (tv:= .v (.ref (cn t) 0 0)) ?_,fun r j b hb => ?_,fun hno => ?_,fun r R' hR hbx => ?_,h5⟩
           . refine ⟨⟨0,0,.own k y⟩,?_,acb _,fun _=>by simp [Gh.at]⟩;simp only [St.cell];have:=hlk (cn t);rw [if_pos rfl] at this;show (match look ((cn t,(⟨false,[⟨0,0,.own k y⟩]⟩:Rt)) :: eg σ z) (cn t) with | some R=>R.cells[0]? | none=>none)=_;rw [this];rfl
           . simp only [Gh.at] at hb;split at hb
             . exact k6 b hb.2
             . obtain ⟨r0,j0,hh⟩:=h2 r j b hb;exact ⟨r0,j0,k5 _ _ _ hh⟩
           . have:=hno t;simp [nH] at this
           . have hR:look ((cn t,(⟨false,[⟨0,0,.own k y⟩]⟩:Rt)) :: eg σ z) r=some R':=hR;rw [hlk] at hR;split at hR
             . cases hR; simp at hbx
             . rename_i hne;obtain ⟨e1,R,e2,e3⟩:=h4 r R' hR hbx;refine ⟨?_,?_⟩
               . simp only [Gh.at];rw [if_neg (fun e=>hne e.symm),e1,k2.be]
               . obtain ⟨R0,e4,e5⟩:=k2.box r R e2;exact ⟨R0,e4,e5 ▸ e3⟩
         . simp at hd
       . simp at hd
   . simp at hd
 | .box r cs :: σ,st,g,x,h,hn,hd=>by
   simp only [dec] at hd;split at hd
   . rename_i r' l htv hlk0;cases hb:Nat.beq r r' && Nat.blt r 100000 && xf r σ with
     | false=>rw [hb] at hd; simp at hd
     | true =>
       rw [hb] at hd;simp only [ab9] at hd;simp only [ab8] at hb;obtain ⟨⟨hb1,hb2⟩,hb3⟩:=hb;have e:=beq_eq hb1;subst e;have hlt:r < 100000:=adB (acF hb2);obtain ⟨hnb,hno⟩:=gR hb3;split at hd
       . rename_i y z hy hz;cases hd;obtain ⟨gE,h1,h2,h3,h4,h5⟩:=lA σ st g z h hn hz;obtain ⟨d1,d2⟩:=l9 cs l y hy;have hnone:look (eg σ z) r=none:=by
          cases hl:look (eg σ z) r with
          | none=>rfl
          | some R =>
            rcases eZ σ z _ R (gI _ _ _ hl) with ⟨t',e1,e2,_⟩ | ⟨e1,_⟩
            . rw [hno t'] at e2; simp at e2
            . exact absurd e1 hnb
         obtain ⟨b1,b2,b3,b4,bcs,el,fr,b5,b6,b7,b8⟩:=h.box r _ hlk0 rfl;have hcellst:∀ j c,l[j]? = some c->st.cell r j=some c:=fun j c hj=>by simp only [St.cell,hlk0]; exact hj
         have h6:=Rel.qE h1 (r:=r) (be:=g.be r) (R:=⟨true,eL cs y⟩) (cv:=g.cv r) (fp:=fun j b=>g.fp r j b/\∃ (c:RC) (k:K) (x:T k),(eL cs y)[j]? = some c/\c.v= .own k x) hnone
          (fun j b hb=>⟨(h.fp r j b hb.1).1,(h.fp r j b hb.1).2.1,(h.fp r j b hb.1).2.2.1,fun r0 j0 hh=>by
            have hg:=h3 hno r0 j0 b hh;obtain ⟨e1,e2⟩:=h.disj _ _ _ _ _ hg hb.1;subst e1;obtain ⟨_,_,_,c,k,x,e3,_⟩:=h1.fp r0 j0 b hh;simp only [St.cell] at e3;have:look (enc σ z).rt r0=none:=hnone;rw [this] at e3;simp at e3,fun r' R' hR' hb'=>by
            obtain ⟨e1,R,e2,e3⟩:=h4 r' R' hR' hb';rw [e1];intro he;obtain ⟨_,_,c3,_⟩:=h.box r' R e2 e3;exact c3 r j (by rw [he]; exact hb.1),hb.2⟩)
          (fun j j' b hj hj'=>(h.disj _ _ _ _ _ hj.1 hj'.1).2)
          (fun _=>⟨b1,b2,fun r0 j0 hh=>b3 r0 j0 (h3 hno r0 j0 _ hh),fun j hh=>b3 r j hh.1,fun r' R' hR' hb' he=>by obtain ⟨e1,R,e2,e3⟩:=h4 r' R' hR' hb';rw [e1] at he;have:=b4 r' R e2 e3 he;subst this;have hh:look (eg σ z) r'=some R':=hR';rw [hnone] at hh;simp at hh,bcs,el,fr,b5,b6,by rw [b7]; exact d1,b8⟩)
          (fun j c hj=>by
            rcases d2 j c hj with ⟨k,x,c0,e1,e2,e3,e4⟩ | ⟨k,x,c0,av,e2,e3,e4,e5,e6⟩
            . subst e2;exact cK.frame _ _ _ _ _ (fun b hb=>⟨hb,_,k,x,hj,rfl⟩) (fun _ _ _=>rfl) (dy h (hcellst j c0 e3) e4)
            . subst e2;exact bT h (zU h (hcellst j c0 e3) e4) e5 e6)
         have hlk:∀ r',look ((r,(⟨true,eL cs y⟩:Rt)) :: eg σ z) r'=if r=r' then some ⟨true,eL cs y⟩ else look (eg σ z) r':=fun r'=>aW _ _ _ _
         refine ⟨_,h6.tell (yI h hn htv) (tv:= .v (.ptr r 0)) ?_,fun r0 j0 b hb => ?_,fun _ r0 j0 b hb => ?_,fun r0 R' hR hbx => ?_,fun r0 hr0 => ?_⟩
         . obtain ⟨R,e1,e2,e3⟩:=(gF h hn.cons.cons htv:ba Z g st w (.ptr r 0) _);refine ⟨⟨true,eL cs y⟩,?_,rfl,?_⟩
           . show look ((r,(⟨true,eL cs y⟩:Rt)) :: eg σ z) r=_;rw [hlk,if_pos rfl]
           . simp only [Gh.at,if_true];exact e3
         . simp only [Gh.at] at hb;split at hb
           . exact ⟨r,j0,hb.1⟩
           . exact h2 r0 j0 b hb
         . simp only [Gh.at] at hb;split at hb
           . rename_i e; rw [e]; exact hb.1
           . exact h3 hno r0 j0 b hb
         . have hR:look ((r,(⟨true,eL cs y⟩:Rt)) :: eg σ z) r0=some R':=hR;rw [hlk] at hR;split at hR
           . rename_i e;refine ⟨by simp [Gh.at,e.symm],_,e ▸ hlk0,rfl⟩
           . rename_i hne;obtain ⟨e1,R,e2,e3⟩:=h4 r0 R' hR hbx;refine ⟨?_,R,e2,e3⟩;simp only [Gh.at];rw [if_neg (fun e=>hne e.symm),e1]
         . rcases hr0 with hr0 | hr0
           . rw [<- hr0]; exact hlt
           . exact h5 r0 hr0
       . simp at hd
   . simp at hd
end
theorem Co {P:Program} (E:En):HJ P E:=fun cx σ st a w x ⟨h1,h2,Z,g,h3⟩ hd=>by obtain ⟨gE,h4,_⟩:=lA σ st g x h3 h1 hd;exact ⟨yu σ x,h2,Z,gE,h4⟩
end Go.Av
namespace Go.Av
open Go.RowKit (Below)
section
variable {P:Program} {cx:Cx P} {Z:Nat->Prop} {g:Gh} {st:St} {a:Act} {w:World} {E:En}
theorem wG {gg:Bool} {l:List AV} {cs:List Value} {v:Value} (e:GW gg v cs) (h1:aN Z g st w l cs):bl Z g st w (dG gg l) v:=by
 have h2:=ux e h1;cases gg with
 | true=>unfold dG; cases hl:l <;> (rw [hl] at h2; exact h2)
 | false =>
   have e:cs=[v]:=e;subst e
   match hl:l,h1 with
   | [b],h1=>exact h1.1
   | [],h1=>exact h1.elim
   | _ :: _ :: _,h1=>exact h1.2.elim
theorem F4 {gg:Bool} {ks:List K} {x:Tl ks} {v:Value} (h:S4 Z w gg ks x v):bl Z g st w (dG gg (dO 0 false ks x 0)) v:=by obtain ⟨cs,e,h⟩:=h;exact wG e (eV (g:=g) (st:=st) (d:=0) ks x cs 0 h)
theorem eW:∀ (ps:List PK) (x:PT ps) (i r:Nat) (R:Rt),(r,R)∈lV ps x i->∃ i',r=cn i'/\i<=i'/\R.box=false
 | [],_,_,_,_,h=>by simp [lV] at h
 | .c _ _ :: ps,x,i,r,R,h=>by obtain ⟨i',h1,h2,h3⟩:=eW ps x.2 (i + 1) r R h; exact ⟨i',h1,by omega,h3⟩
 | .fn _ _ :: ps,x,i,r,R,h=>by obtain ⟨i',h1,h2,h3⟩:=eW ps x.2 (i + 1) r R h; exact ⟨i',h1,by omega,h3⟩
 | .pt _ :: ps,x,i,r,R,h=>by obtain ⟨i',h1,h2,h3⟩:=eW ps x.2 (i + 1) r R h; exact ⟨i',h1,by omega,h3⟩
 | .nil :: ps,x,i,r,R,h=>by obtain ⟨i',h1,h2,h3⟩:=eW ps x (i + 1) r R h; exact ⟨i',h1,by omega,h3⟩
 | .io _ ks :: ps,x,i,r,R,h=>by
   rcases aci.1 h with h | h
   . cases h; exact ⟨i,rfl,acb _,rfl⟩
   . obtain ⟨i',h1,h2,h3⟩:=eW ps x.2 (i + 1) r R h; exact ⟨i',h1,by omega,h3⟩
 | .mv k :: ps,x,i,r,R,h=>by
   rcases aci.1 h with h | h
   . cases h; exact ⟨i,rfl,acb _,rfl⟩
   . obtain ⟨i',h1,h2,h3⟩:=eW ps x.2 (i + 1) r R h; exact ⟨i',h1,by omega,h3⟩
theorem e8:∀ (ps:List PK) (x:PT ps) (i t:Nat) (tv:TV),(t,tv)∈qZ ps x i->¬ tv.gL
 | [],_,_,_,_,h=>by simp [qZ] at h
 | .c gg ks :: ps,x,i,t,tv,h=>by
   rcases aci.1 h with h | h
   . cases h;intro hm;cases ho:dG gg (dO 0 false ks x.1 0) with
     | may q w y g' l=>exact ja ho
     | _=>rw [ho] at hm; exact hm
   . exact e8 ps x.2 (i + 1) t tv h
 | .pt _ :: ps,x,i,t,tv,h=>by
   rcases aci.1 h with h | h
   . cases h; exact fun h=>h
   . exact e8 ps x.2 (i + 1) t tv h
 | .nil :: ps,x,i,t,tv,h=>by
   rcases aci.1 h with h | h
   . cases h; exact fun h=>h
   . exact e8 ps x (i + 1) t tv h
 | .fn _ _ :: ps,x,i,t,tv,h=>by
   rcases aci.1 h with h | h
   . cases h; exact fun h=>h
   . exact e8 ps x.2 (i + 1) t tv h
 | .io gg ks :: ps,x,i,t,tv,h=>by
   rcases aci.1 h with h | h
   . cases h;intro hm;cases ho:dG gg (dO (cn i) true ks x.1 0) with
     | may q w y g' l=>exact ja ho
     | _=>rw [ho] at hm; exact hm
   . exact e8 ps x.2 (i + 1) t tv h
 | .mv _ :: ps,x,i,t,tv,h=>by
   rcases aci.1 h with h | h
   . cases h; exact fun h=>h
   . exact e8 ps x.2 (i + 1) t tv h
theorem aM.ix {F:Nat->Nat->Prop} (n j0:Nat):∀ (ks:List K) (x:Tl ks) (cs:List Value),aM true Z w F ks x cs n->aM true Z w (fun m=>F (n + (m - j0))) ks x cs j0:=by
 suffices h:∀ (ks:List K) (x:Tl ks) (cs:List Value) (d:Nat),aM true Z w F ks x cs (n + d)->aM true Z w (fun m=>F (n + (m - j0))) ks x cs (j0 + d) by intro ks x cs h0;exact h ks x cs 0 h0
 intro ks;induction ks with
 | nil=>intro x cs d h; cases cs with | nil=>trivial | cons _ _=>exact h.elim
 | cons k ks ih =>
   intro x cs d h;cases cs with
   | nil=>cases k <;> exact h.elim
   | cons v vs =>
     cases k with
     | sl e ks'=>exact ⟨by show cK w _ x.1 v (F (n + (j0 + d - j0))); rw [show j0 + d - j0=d by omega]; exact h.1,ih x.2 vs (d + 1) h.2⟩
     | int _=>exact ⟨h.1,ih x.2 vs d h.2⟩
     | bool=>exact ⟨h.1,ih x.2 vs d h.2⟩
     | str=>exact ⟨h.1,ih x.2 vs d h.2⟩
theorem yE {Z0:Nat->Prop} {F:Nat->Nat->Prop} {pin:Nat->Option Value} {hgl:Gl P w Z0} {hzF:∀ b,Z0 b->b < w.heap.size->¬ ∃ i,F i b} (hcx:cx=⟨w,fun b=>∃ i,F i b,Z0,pin,hgl,hzF⟩) (hF:∀ i b,F i b->b < w.heap.size/\¬ Z0 b) (hd:∀ i j b,F i b->F j b->i=j) {ps:List PK} {x:PT ps} {i n m:Nat} {g:Gh} {cells:List RC} {vals:List Value} {v:Value} {tv:TV}
 (h1:Rel cx Z0 g ⟨qZ ps x (i + 1),lV ps x (i + 1)⟩ a w) (h2:∀ r j b,g.fp r j b->∃ i' n',r=cn i'/\i + 1<=i'/\n + m<=n'/\F n' b) (hi:i < a.tmps.size) (hv:a.tmps.getD i undef=v)
 (hm:cells.length<=m)
 (hc:∀ j c,cells[j]? = some c->∃ k y u,c=⟨0,0,.own k y⟩/\vals[j]? = some u/\cK w k y u (F (n + j)))
 (ht:∀ (g':Gh) (st':St),(∀ j c,cells[j]? = some c->st'.cell (cn i) (0 + j)=some c)->(∀ j u,vals[j]? = some u->g'.cv (cn i) (0 + j)=u)->bl Z0 g' st' w tv v) :
 ∃ g,Rel cx Z0 g ⟨(i,tv) :: qZ ps x (i + 1),(cn i,⟨false,cells⟩) :: lV ps x (i + 1)⟩ a w/\∀ r j b,g.fp r j b->∃ i' n',r=cn i'/\i<=i'/\n<=n'/\F n' b:=by
 have hnone:look (lV ps x (i + 1)) (cn i)=none:=by
  cases hl:look (lV ps x (i + 1)) (cn i) with
  | none=>rfl
  | some R => obtain ⟨i',e1,e2,_⟩:=eW _ _ _ _ _ (gI _ _ _ hl);unfold cn at e1;omega
 have h6:=Rel.qE h1 (r:=cn i) (be:=0) (R:=⟨false,cells⟩) (cv:=fun j=>vals.getD j undef) (fp:=fun j b=>j < cells.length/\F (n + j) b) hnone
  (fun j b hb=>⟨(hF _ b hb.2).1,.inl (by rw [hcx]; exact ⟨_,hb.2⟩),(hF _ b hb.2).2,fun r0 j0 hh=>by
    obtain ⟨i',n',_,k2,k4,k3⟩:=h2 r0 j0 b hh;have:=hd _ n' b hb.2 k3;omega,fun r' R' hR' hb'=>by
    obtain ⟨_,_,_,e3⟩:=eW _ _ _ _ _ (gI _ _ _ hR');rw [e3] at hb'; simp at hb',by
    obtain ⟨k,y,u,e1,e2,e3⟩:=hc j _ (acm hb.1);exact ⟨_,k,y,acm hb.1,by rw [e1]⟩⟩)
  (fun j j' b h1 h2=>by have:=hd _ _ b h1.2 h2.2; omega) (fun hb=>by simp at hb)
  (fun j c hj=>by
    obtain ⟨k,y,u,e1,e2,e3⟩:=hc j c hj;subst e1;have hjl:j < cells.length:=by
     rcases acn j cells.length with hh | hh
     . exact hh
     . simp [acq hh] at hj
    show cK w k y _ _;simp only [List.getD,e2,adW];exact cK.frame _ _ _ _ _ (fun b hb=>⟨hjl,hb⟩) (fun _ _ _=>rfl) e3)
 refine ⟨_,h6.tell hi (tv:=tv) ?_,fun r j b hb => ?_⟩
 . rw [hv];refine ht _ _ (fun j c hj => ?_) fun j u hj => ?_
   . show (match look ((cn i,(⟨false,cells⟩:Rt)) :: lV ps x (i + 1)) (cn i) with | some R=>R.cells[0 + j]? | none=>none)=_;rw [aW,if_pos rfl,acz];exact hj
   . simp [Gh.at,List.getD,hj]
 . simp only [Gh.at] at hb;split at hb
   . rename_i e; exact ⟨i,n + j,e,acb _,by omega,hb.2⟩
   . obtain ⟨i',n',k1,k2,k4,k3⟩:=h2 r j b hb;exact ⟨i',n',k1,by omega,by omega,k3⟩
theorem gP {Z0:Nat->Prop} {F:Nat->Nat->Prop} {pin:Nat->Option Value} {hgl:Gl P w Z0} {hzF:∀ b,Z0 b->b < w.heap.size->¬ ∃ i,F i b} (hcx:cx=⟨w,fun b=>∃ i,F i b,Z0,pin,hgl,hzF⟩) (hpin:∀ t v,pin t=some v->a.tmps.getD t undef=v) (hdf:a.defers=[]) (hZ:∀ b,Z0 b->b < w.heap.size) (hF:∀ i b,F i b->b < w.heap.size/\¬ Z0 b) (hd:∀ i j b,F i b->F j b->i=j) :
 ∀ (ps:List PK) (x:PT ps) (vs:List Value) (i n:Nat),dp Z0 w F ps x vs n->(∀ j v,vs[j]? = some v->i + j < a.tmps.size/\a.tmps.getD (i + j) undef=v) ->
  ∃ g,Rel cx Z0 g ⟨qZ ps x i,lV ps x i⟩ a w/\∀ r j b,g.fp r j b->∃ i' n',r=cn i'/\i<=i'/\n<=n'/\F n' b
 | [],x,[],i,n,_,_=>by
   subst hcx;refine ⟨⟨fun _=>0,fun _ _=>undef,fun _ _ _=>False⟩,?_,fun _ _ _ h=>h.elim⟩
   exact { os:=rfl,tape:=rfl,output:=rfl,size:=acb _,block:=fun _ _ _=>rfl,bN:=fun b hb=>⟨hZ b hb,.inl hb⟩,z0:=fun b hb _=>hb,fp:=fun _ _ _ h=>h.elim,disj:=fun _ _ _ _ _ h=>h.elim
           box:=fun r R hR=>by simp [lV,look] at hR
           cell:=fun r j c hc=>by simp [lV,St.cell,look] at hc
           tm:=fun t tv ht=>by simp [qZ,look] at ht
           defers:=hdf
           pin:=hpin }
 | .c gg ks :: ps,x,v :: vs,i,n,h,ha=>by
   obtain ⟨g,h1,h2⟩:=gP hcx hpin hdf hZ hF hd ps x.2 vs (i + 1) n h.2 fun j v hj=>by rw [show i + 1 + j=i + (j + 1) by omega]; exact ha (j + 1) v (by simpa using hj)
   have hv:=ha 0 v rfl;rw [acO] at hv;exact ⟨g,h1.tell hv.1 (by rw [hv.2]; exact F4 h.1),fun r j b hb=>by obtain ⟨i',n',k1,k2,k3⟩:=h2 r j b hb; exact ⟨i',n',k1,by omega,k3⟩⟩
 | .fn f caps :: ps,x,v :: vs,i,n,h,ha=>by
   obtain ⟨g,h1,h2⟩:=gP hcx hpin hdf hZ hF hd ps x.2 vs (i + 1) n h.2 fun j v hj=>by rw [show i + 1 + j=i + (j + 1) by omega]; exact ha (j + 1) v (by simpa using hj)
   have hv:=ha 0 v rfl;rw [acO] at hv;obtain ⟨cs,e1,e2⟩:=h.1;exact ⟨g,h1.tell hv.1 (by rw [hv.2]; exact ⟨cs,e1,lI _ _ _ e2⟩),fun r j b hb=>by obtain ⟨i',n',k1,k2,k3⟩:=h2 r j b hb; exact ⟨i',n',k1,by omega,k3⟩⟩
 | .nil :: ps,x,v :: vs,i,n,h,ha=>by
   obtain ⟨g,h1,h2⟩:=gP hcx hpin hdf hZ hF hd ps x vs (i + 1) n h.2 fun j v hj=>by rw [show i + 1 + j=i + (j + 1) by omega]; exact ha (j + 1) v (by simpa using hj)
   have hv:=ha 0 v rfl;rw [acO] at hv;exact ⟨g,h1.tell hv.1 (tv:= .v .nil) (by rw [hv.2]; exact h.1),fun r j b hb=>by obtain ⟨i',n',k1,k2,k3⟩:=h2 r j b hb; exact ⟨i',n',k1,by omega,k3⟩⟩
 | .pt ks :: ps,x,v :: vs,i,n,h,ha=>by
   obtain ⟨g,h1,h2⟩:=gP hcx hpin hdf hZ hF hd ps x.2 vs (i + 1) n h.2 fun j v hj=>by rw [show i + 1 + j=i + (j + 1) by omega]; exact ha (j + 1) v (by simpa using hj)
   have hv:=ha 0 v rfl;rw [acO] at hv;exact ⟨g,h1.tell hv.1 (tv:= .v (.rp none 0 ks [x.1] 0 0)) (by rw [hv.2]; exact Pl (g:=g) (st:=⟨qZ ps x.2 (i + 1),lV ps x.2 (i + 1)⟩) h.1),fun r j b hb=>by obtain ⟨i',n',k1,k2,k3⟩:=h2 r j b hb; exact ⟨i',n',k1,by omega,k3⟩⟩
 | .io gg ks :: ps,x,v :: vs,i,n,h,ha=>by
   obtain ⟨g,h1,h2⟩:=gP hcx hpin hdf hZ hF hd ps x.2 vs (i + 1) (n + bf ks) h.2 fun j v hj=>by rw [show i + 1 + j=i + (j + 1) by omega]; exact ha (j + 1) v (by simpa using hj)
   have hv:=ha 0 v rfl;rw [acO] at hv;obtain ⟨cs,e1,e2⟩:=h.1;have hlen:=dD ks x.1;obtain ⟨_,hown⟩:=eb ks x.1 cs n e2;refine yE hcx hF hd h1 h2 hv.1 hv.2 (by omega) (vals:=kf ks cs) (fun j c hj => ?_) fun g' st' q1 q2 => ?_
   . obtain ⟨e,ks',y,u,g1,g2,g3⟩:=hown j c hj;exact ⟨_,y,u,g1,g2,g3⟩
   . exact wG e1 (fm ks x.1 cs 0 (aM.ix n 0 ks x.1 cs e2) q1 q2)
 | .mv k :: ps,x,v :: vs,i,n,h,ha=>by
   obtain ⟨g,h1,h2⟩:=gP hcx hpin hdf hZ hF hd ps x.2 vs (i + 1) (n + 1) h.2 fun j v hj=>by rw [show i + 1 + j=i + (j + 1) by omega]; exact ha (j + 1) v (by simpa using hj)
   have hv:=ha 0 v rfl;rw [acO] at hv;refine yE hcx hF hd h1 h2 hv.1 hv.2 (by simp) (vals:=[v]) (fun j c hj => ?_) fun g' st' q1 q2 => ?_
   . cases j with
     | zero => simp only [acj,ab6] at hj;subst hj;exact ⟨k,x.1,v,rfl,rfl,h.1⟩
     | succ j=>simp at hj
   . exact ⟨_,q1 0 _ rfl,acb _,fun _=>(q2 0 v rfl).symm⟩
 | [],_,_ :: _,_,_,h,_=>h.elim
 | .c _ _ :: _,_,[],_,_,h,_=>h.elim
 | .pt _ :: _,_,[],_,_,h,_=>h.elim
 | .nil :: _,_,[],_,_,h,_=>h.elim
 | .fn _ _ :: _,_,[],_,_,h,_=>h.elim
 | .io _ _ :: _,_,[],_,_,h,_=>h.elim
 | .mv _ :: _,_,[],_,_,h,_=>h.elim
def pO (tmps:Array Value):ResultVar->Sem Value
 | .tmp t=>pure (tmps.getD t undef)
 | .cell a t=>do loadVar t (<- asAddr (tmps.getD a undef))
theorem oH (hT:bG P E) (h:Rel cx Z g st a w) (hn:bm st):∀ (res:List ResultVar) (l:List (Bool×List AV)),jk E st res=some l->∃ vs,(res.mapM (pO a.tmps)).run P w= .ok vs w/\fw Z g st w l vs
 | [],l,hr=>by simp only [jk,ab6] at hr;subst hr;exact ⟨[],by simp [List.mapM_nil],trivial⟩
 | .tmp t :: r,l,hr=>by
   simp only [jk] at hr;split at hr
   . rename_i tv l' h1 h2;split at hr
     . rename_i p hp;simp only [ab6] at hr;subst hr;obtain ⟨vs,e1,e2⟩:=oH hT h hn r l' h2;exact ⟨a.tmps.getD t undef :: vs,by simp [List.mapM_cons,pO,e1],lH (gF h hn.cons.cons h1) hp,e2⟩
     . simp at hr
   . simp at hr
 | .cell t ty :: r,l,hr=>by
   simp only [jk] at hr;split at hr
   . rename_i r' j ti l' h1 h2 h3;split at hr
     . rename_i cs hl;simp only [ab6] at hr;subst hr;obtain ⟨vs,e1,e2⟩:=oH hT h hn r l' h3;obtain ⟨b,of,us,f1,f2,f3,f4⟩:=u0 h (v:=a.tmps.getD t undef) (p:= .ptr r' j) (gF h hn.cons.cons h1) hl;obtain ⟨v,f5,f6⟩:=sW (hT ty ti h2) f2 f3;refine ⟨v :: vs,by simp only [List.mapM_cons,pO,f1,asAddr,acy,acR,ack,f5,e1],?_,e2⟩;cases hag:ti.agg with
       | true=>rw [hag] at f6; exact ⟨us.toArray,f6,by simpa using f4⟩
       | false =>
         rw [hag] at f6;subst f6
         match cs,f4 with
         | [c],f4=>exact f4.1
         | [],f4=>exact f4.elim
         | _ :: _ :: _,f4=>exact f4.2.elim
     . simp at hr
   . simp at hr
theorem jE.trans {w w' w'':World} {g' g'':Gh} {st' st'':St} (h:jE Z w w' g g' st st') (h':jE Z w' w'' g' g'' st' st'') (hk:lD Z Z w w'' g g'' st st''):jE Z w w'' g g'' st st'' :=
 ⟨hk,h'.tm.trans h.tm,h'.be.trans h.be,fun r R' hR=>by obtain ⟨R1,e1,e2⟩:=h'.box r R' hR;obtain ⟨R,e3,e4⟩:=h.box r R1 e1;exact ⟨R,e3,e2.trans e4⟩⟩
structure jR {P:Program} (cx:Cx P) (Z:Nat->Prop) (w:World) (g g':Gh) (st st':St) (H:Nat->Nat->Prop) (j n:Nat):Prop where
 rel:∀ (p:Bool×List AV) (v:Value),p9 Z g st w p v->p9 Z g' st' w p v
 av:∀ (x:AV) (v:Value),ba Z g st w x v->ba Z g' st' w x v
 fp:∀ r j b,g'.fp r j b->g.fp r j b
 free:∀ n,fQ cx Z g' st' w (H n)
 sub:∀ n b,H n b->∃ r j,g.fp r j b
 disj:∀ n m b,H n b->H m b->n=m
 ix:∀ i b,H i b->j<=i/\i < j + n
 be:g'.be=g.be
 box:∀ r R',look st'.rt r=some R'->∃ R,look st.rt r=some R/\R'.box=R.box
theorem jR.refl (j:Nat):jR cx Z w g g st st (fun _ _=>False) j 0 :=
 ⟨fun _ _ h=>h,fun _ _ h=>h,fun _ _ _ h=>h,fun _=>fQ.none _ _ _ _ _,fun _ _ h=>h.elim,fun _ _ _ h=>h.elim,fun _ _ h=>h.elim,rfl,fun r R h=>⟨R,h,rfl⟩⟩
theorem fQ.mono {F:Nat->Prop} {g':Gh} {st':St} (h:fQ cx Z g st w F) (hfp:∀ r j b,g'.fp r j b->g.fp r j b) (hbe:g'.be=g.be) (hbx:∀ r R',look st'.rt r=some R'->∃ R,look st.rt r=some R/\R'.box=R.box):fQ cx Z g' st' w F :=
 ⟨h.lt,h.own,h.z,fun b hb r j hh=>h.fp b hb r j (hfp r j b hh),fun b hb r R' hR hx=>by obtain ⟨R,e1,e2⟩:=hbx r R' hR;rw [hbe];exact h.box b hb r R e1 (by rw [<- e2]; exact hx)⟩
theorem jR.trans {g' g'':Gh} {st' st'':St} {H H':Nat->Nat->Prop} {j n m:Nat} (h:jR cx Z w g g' st st' H j n) (h':jR cx Z w g' g'' st' st'' H' (j + n) m):jR cx Z w g g'' st st'' (fun i b=>H i b∨H' i b) j (n + m) where
 rel:=fun p v hr=>h'.rel p v (h.rel p v hr)
 av:=fun x v hr=>h'.av x v (h.av x v hr)
 fp:=fun r j b hb=>h.fp r j b (h'.fp r j b hb)
 free:=fun i=>by have f1:=(h.free i).mono h'.fp h'.be h'.box;have f2:=h'.free i;exact ⟨fun b hb=>hb.elim (f1.lt b) (f2.lt b),fun b hb=>hb.elim (f1.own b) (f2.own b),fun b hb=>hb.elim (f1.z b) (f2.z b),fun b hb=>hb.elim (f1.fp b) (f2.fp b),fun b hb=>hb.elim (f1.box b) (f2.box b)⟩
 sub:=fun i b hb=>by
  rcases hb with hb | hb
  . exact h.sub i b hb
  . obtain ⟨r,j,hh⟩:=h'.sub i b hb;exact ⟨r,j,h.fp r j b hh⟩
 disj:=fun i i' b hb hb'=>by
  have cross:∀ i i',H i b->H' i' b->False:=fun i i' k1 k2=>by obtain ⟨r,j,hh⟩:=h'.sub i' b k2;exact (h.free i).fp b k1 r j hh
  rcases hb with hb | hb
  . rcases hb' with hb' | hb'
    . exact h.disj i i' b hb hb'
    . exact (cross i i' hb hb').elim
  . rcases hb' with hb' | hb'
    . exact (cross i' i hb' hb).elim
    . exact h'.disj i i' b hb hb'
 ix:=fun i b hb=>by
  rcases hb with hb | hb
  . have:=h.ix i b hb; omega
  . have:=h'.ix i b hb; omega
 be:=h'.be.trans h.be
 box:=fun r R' hR=>by obtain ⟨R1,e1,e2⟩:=h'.box r R' hR;obtain ⟨R,e3,e4⟩:=h.box r R1 e1;exact ⟨R,e3,e2.trans e4⟩
theorem aM.mono {fresh:Bool} {H H':Nat->Nat->Prop} (hH:∀ n b,H n b->H' n b):∀ (ks:List K) (x:Tl ks) (cs:List Value) (j:Nat),aM fresh Z w H ks x cs j->aM fresh Z w H' ks x cs j
 | [],_,[],_,_=>trivial
 | .sl e ks' :: ks,x,v :: vs,j,h=>by
   refine ⟨?_,aM.mono hH ks x.2 vs _ h.2⟩;cases fresh with
   | true=>exact cK.frame _ _ _ _ _ (hH j) (fun _ _ _=>rfl) h.1
   | false=>exact h.1
 | .int _ :: ks,x,v :: vs,j,h=>⟨h.1,aM.mono hH ks x.2 vs j h.2⟩
 | .bool :: ks,x,v :: vs,j,h=>⟨h.1,aM.mono hH ks x.2 vs j h.2⟩
 | .str :: ks,x,v :: vs,j,h=>⟨h.1,aM.mono hH ks x.2 vs j h.2⟩
 | [],_,_ :: _,_,h=>h.elim
 | .sl _ _ :: _,_,[],_,h=>h.elim
 | .int _ :: _,_,[],_,h=>h.elim
 | .bool :: _,_,[],_,h=>h.elim
 | .str :: _,_,[],_,h=>h.elim
theorem kn.mono {fresh:Bool} {H H':Nat->Nat->Prop} (hH:∀ n b,H n b->H' n b):∀ (rs:List (Bool×List K)) (y:CT rs) (vs:List Value) (j:Nat),kn fresh Z w H rs y vs j->kn fresh Z w H' rs y vs j
 | [],_,[],_,_=>trivial
 | (gg,ks) :: rs,y,v :: vs,j,⟨⟨cs,e,h⟩,h'⟩=>⟨⟨cs,e,aM.mono hH ks y.1 cs j h⟩,kn.mono hH rs y.2 vs _ h'⟩
 | [],_,_ :: _,_,h=>h.elim
 | _ :: _,_,[],_,h=>h.elim
def O2 (fresh:Bool) (ks:List K):Nat:=bif fresh then bf ks else 0
theorem jo (fresh:Bool):∀ (ks:List K) (l:List AV) (cs:List Value) (st:St) (g:Gh) (st':St) (x:Tl ks) (j:Nat),Rel cx Z g st a w->aN Z g st w l cs->j7 st fresh ks l=some (st',x) ->
 ∃ g' H,Rel cx Z g' st' a w/\jR cx Z w g g' st st' H j (O2 fresh ks)/\aM fresh Z w H ks x cs j
 | [],[],cs,st,g,st',x,j,h,hr,ht=>by
   simp only [j7,ab6,acI] at ht;obtain ⟨rfl,_⟩:=ht;cases cs with
   | nil=>exact ⟨g,fun _ _=>False,h,by cases fresh <;> exact jR.refl j,trivial⟩
   | cons _ _=>exact hr.elim
 | .sl e ks' :: ks,av :: l,[],st,g,st',x,j,h,hr,ht=>hr.elim
 | .sl e ks' :: ks,av :: l,v :: vs,st,g,st',x,j,h,hr,ht=>by
   unfold j7 at ht;split at ht
   . rename_i st1 y hy;split at ht
     . rename_i q hq;cases ht;cases fresh with
       | true =>
         simp only [ab9] at hy;obtain ⟨g1,F,k1,k2,k3,k4,k5,k6,k7⟩:=eP h hr.1 hy;have t1:jR cx Z w g g1 st st1 (fun n b=>n=j/\F b) j 1 :=
          ⟨fun p v=>p9.bP k2.bP p v,fun x v=>ba.bP k2.bP x v,k5,fun n=>⟨fun b hb=>k4.lt b hb.2,fun b hb=>k4.own b hb.2,fun b hb=>k4.z b hb.2,fun b hb=>k4.fp b hb.2,fun b hb=>k4.box b hb.2⟩,fun n b hb=>k6 b hb.2,fun n m b h1 h2=>h1.1.trans h2.1.symm,fun i b hb=>⟨by omega,by omega⟩,k2.be,k2.box⟩
         obtain ⟨g',H,m1,m2,m3⟩:=jo true ks l vs st1 g1 q.1 q.2 (j + 1) k1 (aN.bP k2.bP _ _ hr.2) hq;refine ⟨g',fun n b=>(n=j/\F b)∨H n b,m1,?_,?_⟩
         . have:=t1.trans m2;have e:O2 true (.sl e ks' :: ks)=1 + O2 true ks:=by simp [O2,bf]; omega
           rw [e];exact this
         . exact ⟨cK.frame _ _ _ _ _ (fun b hb=> .inl ⟨rfl,hb⟩) (fun _ _ _=>rfl) k3,aM.mono (fun n b hb=> .inr hb) _ _ _ _ m3⟩
       | false =>
         simp only [aco] at hy;cases hf:av.bC || DH (st.bR (.sl e ks') av) with
         | false=>rw [hf] at hy; simp at hy
         | true =>
           rw [hf] at hy;simp only [ab9] at hy;split at hy
           . rename_i y' hy';cases hy;obtain ⟨g',H,m1,m2,m3⟩:=jo false ks l vs st g q.1 q.2 j h hr.2 hq;refine ⟨g',H,m1,m2,?_,m3⟩;show RO Z w (.sl e ks') y v;cases hf2:av.bC with
             | true=>exact bT h hr.1 hf2 hy'
             | false =>
               rw [hf2,hy'] at hf;have hnil:aE y=[]:=by
                simp only [Bool.false_or,DH] at hf;split at hf
                . rename_i hh; exact hh
                . simp at hf
               obtain ⟨a1,c1,q1,q2,q3,q4,_⟩:=(show RO (fx w) w (.sl e ks') y v from kN h hr.1 hy');exact ⟨a1,c1,q1,q2,q3,q4,fun hne=>(hne hnil).elim⟩
           . simp at hy
     . simp at ht
   . simp at ht
 | .int k :: ks,av :: l,cs,st,g,st',x,j,h,hr,ht=>by
   unfold j7 at ht;split at ht
   . rename_i y q hy hf hq;cases ht
     match cs,hr with
     | v :: vs,hr => obtain ⟨g',H,m1,m2,m3⟩:=jo fresh ks l vs st g q.1 q.2 j h hr.2 hq;exact ⟨g',H,m1,m2,bT h hr.1 hf hy,m3⟩
   . simp at ht
 | .bool :: ks,av :: l,cs,st,g,st',x,j,h,hr,ht=>by
   unfold j7 at ht;split at ht
   . rename_i y q hy hf hq;cases ht
     match cs,hr with
     | v :: vs,hr => obtain ⟨g',H,m1,m2,m3⟩:=jo fresh ks l vs st g q.1 q.2 j h hr.2 hq;exact ⟨g',H,m1,m2,bT h hr.1 hf hy,m3⟩
   . simp at ht
 | .str :: ks,av :: l,cs,st,g,st',x,j,h,hr,ht=>by
   unfold j7 at ht;split at ht
   . rename_i y q hy hf hq;cases ht
     match cs,hr with
     | v :: vs,hr => obtain ⟨g',H,m1,m2,m3⟩:=jo fresh ks l vs st g q.1 q.2 j h hr.2 hq;exact ⟨g',H,m1,m2,bT h hr.1 hf hy,m3⟩
   . simp at ht
 | [],_ :: _,cs,st,g,st',x,j,h,hr,ht=>by simp [j7] at ht
 | .sl _ _ :: _,[],cs,st,g,st',x,j,h,hr,ht=>by simp [j7] at ht
 | .int _ :: _,[],cs,st,g,st',x,j,h,hr,ht=>by simp [j7] at ht
 | .bool :: _,[],cs,st,g,st',x,j,h,hr,ht=>by simp [j7] at ht
 | .str :: _,[],cs,st,g,st',x,j,h,hr,ht=>by simp [j7] at ht
def WV (fresh:Bool):List (Bool×List K)->Nat
 | []=>0
 | (_,ks) :: rs=>O2 fresh ks + WV fresh rs
theorem BH (fresh:Bool):∀ (rs:List (Bool×List K)) (l:List (Bool×List AV)) (vs:List Value) (st:St) (g:Gh) (st':St) (y:CT rs) (j:Nat),Rel cx Z g st a w->fw Z g st w l vs->vW st fresh rs l=some (st',y) ->
 ∃ g' H,Rel cx Z g' st' a w/\jR cx Z w g g' st st' H j (WV fresh rs)/\kn fresh Z w H rs y vs j
 | [],[],vs,st,g,st',y,j,h,hr,ht=>by
   simp only [vW,ab6,acI] at ht;obtain ⟨rfl,_⟩:=ht;cases vs with
   | nil=>exact ⟨g,fun _ _=>False,h,jR.refl j,trivial⟩
   | cons _ _=>exact hr.elim
 | (gg,ks) :: rs,(gg',l) :: r,vs,st,g,st',y,j,h,hr,ht=>by
   unfold vW at ht;cases hb:bM gg gg' with
   | false=>rw [hb] at ht; simp at ht
   | true =>
     rw [hb] at ht;simp only [ab9] at ht;have:=dU hb;subst this;split at ht
     . rename_i st1 x hx;split at ht
       . rename_i q hq;cases ht
         match vs,hr with
         | v :: vs,hr =>
           obtain ⟨us,e1,e2⟩:=gV hr.1;obtain ⟨g1,H1,m1,m2,m3⟩:=jo fresh ks l us st g st1 x j h e2 hx;have hr2:fw Z g1 st1 w r vs:=by
            have:∀ (r:List (Bool×List AV)) (vs:List Value),fw Z g st w r vs->fw Z g1 st1 w r vs:=by
             intro r;induction r with
             | nil=>intro vs h; cases vs with | nil=>trivial | cons _ _=>exact h.elim
             | cons p r ih=>intro vs h; cases vs with | nil=>exact h.elim | cons v vs=>exact ⟨m2.rel _ _ h.1,ih vs h.2⟩
            exact this r vs hr.2
           obtain ⟨g',H',n1,n2,n3⟩:=BH fresh rs r vs st1 g1 q.1 q.2 (j + O2 fresh ks) m1 hr2 hq;refine ⟨g',fun n b=>H1 n b∨H' n b,n1,m2.trans n2,⟨us,e1,aM.mono (fun n b hb=> .inl hb) _ _ _ _ m3⟩,?_⟩;have e3:(bif fresh then j + bf ks else j)=j + O2 fresh ks:=by cases fresh <;> simp [O2]
           rw [e3];exact kn.mono (fun n b hb=> .inr hb) _ _ _ _ n3
       . simp at ht
     . simp at ht
 | [],_ :: _,vs,st,g,st',y,j,h,hr,ht=>by simp [vW] at ht
 | (_,_) :: _,[],vs,st,g,st',y,j,h,hr,ht=>by simp [vW] at ht
end
def ZM (g:Gh) (NM:List (Nat×Nat)):Nat->Nat->Prop:=fun m b=>∃ nm,NM[m]? = some nm/\g.fp nm.1 nm.2 b
theorem iq {Z:Nat->Prop} {P:Program} {cx:Cx P} {g:Gh} {st:St} {a:Act} {w:World} (h:Rel cx Z g st a w) (NM:List (Nat×Nat)):∀ (ks:List K) (l:List AV) (cs:List Value) (y:Tl ks) (pre post:List (Nat×Nat)),aN Z g st w l cs->eG st ks l=some y->NM=pre ++ (eF l ++ post) ->
 aM true Z w (ZM g NM) ks y cs pre.length/\(eF l).length=bf ks
 | [],[],[],y,_,_,_,_,_=>⟨trivial,rfl⟩
 | [],[],_ :: _,_,_,_,h1,_,_=>h1.elim
 | [],_ :: _,_,_,_,_,_,h2,_=>by simp [eG] at h2
 | .sl e ks' :: ks,[],_,y,_,_,h1,h2,_=>by simp [eG] at h2
 | .sl e ks' :: ks,av :: l,[],y,_,_,h1,h2,_=>h1.elim
 | .sl e ks' :: ks,av :: l,v :: vs,y,pre,post,h1,h2,hN=>by
   cases av with
   | ref r j s =>
     simp only [eG] at h2;split at h2
     . rename_i s' m k' x y' hc hr;cases hb:Nat.beq s' s with
       | false=>rw [hb] at h2; simp at h2
       | true =>
         rw [hb] at h2;simp only [ab9] at h2;split at h2
         . rename_i x' hx;cases h2;obtain ⟨rfl,hx⟩:=ct hx;have hx:x=x':=hx;subst hx;have:=beq_eq hb;subst this;obtain ⟨c,q1,q2,q3⟩:=h1.1;rw [hc] at q1;cases q1;have q3:=q3 rfl;subst q3;simp only [eF] at hN ⊢;obtain ⟨k1,k2⟩:=iq h NM ks l vs y' (pre ++ [(r,j)]) post h1.2 hr (by rw [hN]; simp);refine ⟨⟨?_,by rw [ab7] at k1; exact k1⟩,by simp [bf,k2]⟩;refine cK.frame _ _ _ _ _ (fun b hb=>⟨(r,j),?_,hb⟩) (fun _ _ _=>rfl) (h.cell r j _ hc);rw [hN]; simp
         . simp at h2
     . simp at h2
   | _=>simp [eG,kQ] at h2
 | .int k :: ks,[],_,y,_,_,h1,h2,_=>by simp [eG] at h2
 | .int k :: ks,av :: l,[],y,_,_,h1,h2,_=>h1.elim
 | .int k :: ks,av :: l,v :: vs,y,pre,post,h1,h2,hN=>by
   unfold eG at h2;simp only [kQ,aco] at h2;split at h2
   . rename_i x y' hx hf hr;cases h2;have hno:eF (av :: l)=eF l:=by cases av <;> first | rfl | simp [AV.bC] at hf
     rw [hno] at hN ⊢;obtain ⟨k1,k2⟩:=iq h NM ks l vs y' pre post h1.2 hr hN;exact ⟨⟨bT h h1.1 hf hx,k1⟩,k2⟩
   . simp at h2
 | .bool :: ks,[],_,y,_,_,h1,h2,_=>by simp [eG] at h2
 | .bool :: ks,av :: l,[],y,_,_,h1,h2,_=>h1.elim
 | .bool :: ks,av :: l,v :: vs,y,pre,post,h1,h2,hN=>by
   unfold eG at h2;simp only [kQ,aco] at h2;split at h2
   . rename_i x y' hx hf hr;cases h2;have hno:eF (av :: l)=eF l:=by cases av <;> first | rfl | simp [AV.bC] at hf
     rw [hno] at hN ⊢;obtain ⟨k1,k2⟩:=iq h NM ks l vs y' pre post h1.2 hr hN;exact ⟨⟨bT h h1.1 hf hx,k1⟩,k2⟩
   . simp at h2
 | .str :: ks,[],_,y,_,_,h1,h2,_=>by simp [eG] at h2
 | .str :: ks,av :: l,[],y,_,_,h1,h2,_=>h1.elim
 | .str :: ks,av :: l,v :: vs,y,pre,post,h1,h2,hN=>by
   unfold eG at h2;simp only [kQ,aco] at h2;split at h2
   . rename_i x y' hx hf hr;cases h2;have hno:eF (av :: l)=eF l:=by cases av <;> first | rfl | simp [AV.bC] at hf
     rw [hno] at hN ⊢;obtain ⟨k1,k2⟩:=iq h NM ks l vs y' pre post h1.2 hr hN;exact ⟨⟨bT h h1.1 hf hx,k1⟩,k2⟩
   . simp at h2
theorem xm.mono {Z:Nat->Prop} {w:World} {G G':Nat->Nat->Prop} (hG:∀ m b,G m b->G' m b):∀ (ps:List PK) (y:tz ps) (vs:List Value) (n:Nat),xm Z w G ps y vs n->xm Z w G' ps y vs n
 | [],_,_,_,_=>trivial
 | .c _ _ :: ps,y,_ :: vs,n,h=>xm.mono hG ps y vs n h
 | .pt _ :: ps,y,_ :: vs,n,h=>xm.mono hG ps y vs n h
 | .nil :: ps,y,_ :: vs,n,h=>xm.mono hG ps y vs n h
 | .fn _ _ :: ps,y,_ :: vs,n,h=>xm.mono hG ps y vs n h
 | .mv _ :: ps,y,_ :: vs,n,h=>xm.mono hG ps y vs (n + 1) h
 | .io _ ks :: ps,y,_ :: vs,n,⟨⟨cs,e,h⟩,h'⟩=>⟨⟨cs,e,aM.mono hG ks y.1 cs n h⟩,xm.mono hG ps y.2 vs _ h'⟩
 | .c _ _ :: _,_,[],_,h=>h.elim
 | .fn _ _ :: _,_,[],_,h=>h.elim
 | .io _ _ :: _,_,[],_,h=>h.elim
 | .pt _ :: _,_,[],_,h=>h.elim
 | .nil :: _,_,[],_,h=>h.elim
 | .mv _ :: _,_,[],_,h=>h.elim
theorem nN:∀ (l:List (Nat×Nat)) (r j m:Nat) (n:Nat×Nat),hasName r j l=false->l[m]? = some n->¬ (n.1=r/\n.2=j)
 | [],_,_,_,_,_,h=>by simp at h
 | n0 :: l,r,j,m,n,h,hm=>by
   simp only [hasName,adN] at h;cases m with
   | zero => simp only [acj,ab6] at hm;subst hm;rintro ⟨rfl,rfl⟩;simp at h
   | succ m=>exact nN l r j m n h.2 (by simpa using hm)
theorem vl:∀ (l:List (Nat×Nat)) (m m':Nat) (n n':Nat×Nat),wO l=true->l[m]? = some n->l[m']? = some n'->n.1=n'.1->n.2=n'.2->m=m'
 | [],_,_,_,_,_,h,_,_,_=>by simp at h
 | n0 :: l,m,m',n,n',h,h1,h2,e1,e2=>by
   simp only [wO,ab8,acP] at h;cases m with
   | zero =>
     cases m' with
     | zero=>rfl
     | succ m' => simp only [acj,ab6] at h1;subst h1;exact (nN l n0.1 n0.2 m' n' h.1 (by simpa using h2) ⟨e1.symm,e2.symm⟩).elim
   | succ m =>
     cases m' with
     | zero => simp only [acj,ab6] at h2;subst h2;exact (nN l n0.1 n0.2 m n h.1 (by simpa using h1) ⟨e1,e2⟩).elim
     | succ m'=>exact acT (· + 1) (vl l m m' n n' h.2 (by simpa using h1) (by simpa using h2) e1 e2)
theorem e9 {Z:Nat->Prop} {P:Program} {cx:Cx P} {g:Gh} {st:St} {a:Act} {w:World} {pins:List Nat} (h:Rel cx Z g st a w) (NM:List (Nat×Nat)):∀ (ps:List PK) (y:tz ps) (vs:List Value) (i:Nat) (pre:List (Nat×Nat)),iR pins st ps i=some y->vs.length=ps.length->(∀ j v,vs[j]? = some v->j4 pins (i + j)=true->a.tmps.getD (i + j) undef=v)->NM=pre ++ kK st ps i ->
 xm Z w (ZM g NM) ps y vs pre.length
 | [],_,_,i,_,_,_,_,_=>trivial
 | .c _ _ :: ps,y,[],i,_,_,hl,_,_=>by simp at hl
 | .pt _ :: ps,y,[],i,_,_,hl,_,_=>by simp at hl
 | .nil :: ps,y,[],i,_,_,hl,_,_=>by simp at hl
 | .fn _ _ :: ps,y,[],i,_,_,hl,_,_=>by simp at hl
 | .io _ _ :: ps,y,[],i,_,_,hl,_,_=>by simp at hl
 | .mv _ :: ps,y,[],i,_,_,hl,_,_=>by simp at hl
 | .c _ _ :: ps,y,v :: vs,i,pre,hy,hl,hp,hN =>
   e9 h NM ps y vs (i + 1) pre hy (by simpa using hl) (fun j v hj hm=>by rw [show i + 1 + j=i + (j + 1) by omega] at hm ⊢; exact hp (j + 1) v (by simpa using hj) hm) hN
 | .nil :: ps,y,v :: vs,i,pre,hy,hl,hp,hN =>
   e9 h NM ps y vs (i + 1) pre hy (by simpa using hl) (fun j v hj hm=>by rw [show i + 1 + j=i + (j + 1) by omega] at hm ⊢; exact hp (j + 1) v (by simpa using hj) hm) hN
 | .pt _ :: ps,y,v :: vs,i,pre,hy,hl,hp,hN =>
   e9 h NM ps y vs (i + 1) pre hy (by simpa using hl) (fun j v hj hm=>by rw [show i + 1 + j=i + (j + 1) by omega] at hm ⊢; exact hp (j + 1) v (by simpa using hj) hm) hN
 | .fn _ _ :: ps,y,v :: vs,i,pre,hy,hl,hp,hN =>
   e9 h NM ps y vs (i + 1) pre hy (by simpa using hl) (fun j v hj hm=>by rw [show i + 1 + j=i + (j + 1) by omega] at hm ⊢; exact hp (j + 1) v (by simpa using hj) hm) hN
 | .mv _ :: ps,y,v :: vs,i,pre,hy,hl,hp,hN=>by have:=e9 h NM ps y vs (i + 1) (pre ++ [(300000 + i,0)]) hy (by simpa using hl) (fun j v hj hm=>by rw [show i + 1 + j=i + (j + 1) by omega] at hm ⊢; exact hp (j + 1) v (by simpa using hj) hm) (by rw [hN]; simp [kK]);rw [ab7] at this;exact this
 | .io gg ks :: ps,y,v :: vs,i,pre,hy,hl,hp,hN=>by
   unfold iR at hy;split at hy
   . rename_i tv htv;split at hy
     . rename_i gg' l hl2;cases hb:bM gg gg' && j4 pins i with
       | false=>rw [hb] at hy; simp at hy
       | true =>
         rw [hb] at hy;simp only [ab9] at hy;simp only [ab8] at hb;have hg:=dU hb.1;subst hg;split at hy
         . rename_i x y' hx hy';cases hy;have hv:=hp 0 v rfl hb.2;rw [acO] at hv;have hC:=lH (h.tm i tv htv).2 hl2;rw [hv] at hC;obtain ⟨cs,e1,e2⟩:=gV hC;have hN':NM=pre ++ (eF l ++ kK st ps (i + 1)):=by rw [hN]; simp [kK,htv,hl2]
           obtain ⟨k1,k2⟩:=iq h NM ks l cs x pre _ e2 hx hN';have k3:=e9 h NM ps y' vs (i + 1) (pre ++ eF l) hy' (by simpa using hl) (fun j v hj hm=>by rw [show i + 1 + j=i + (j + 1) by omega] at hm ⊢; exact hp (j + 1) v (by simpa using hj) hm) (by rw [hN']; simp);rw [ab7,k2] at k3;exact ⟨⟨cs,e1,k1⟩,k3⟩
         . simp at hy
     . simp at hy
   . simp at hy
theorem Dj {Z:Nat->Prop} {P:Program} {cx:Cx P} {g:Gh} {st:St} {a:Act} {w:World} {pins:List Nat} (h:Rel cx Z g st a w) (ps:List PK) (y:tz ps) (vs:List Value) (hy:pN pins st ps 0=some y) (hl:vs.length=ps.length) (hp:∀ j v,vs[j]? = some v->j4 pins (0 + j)=true->a.tmps.getD (0 + j) undef=v) :
 ∃ G:Nat->Nat->Prop,xm Z w G ps y vs 0/\(∀ m b,G m b->∃ r j,g.fp r j b)/\∀ m m' b,G m b->G m' b->m=m':=by
 unfold pN at hy;cases hn:wO (kK st ps 0) with
 | false=>rw [hn] at hy; simp at hy
 | true => rw [hn] at hy;simp only [ab9] at hy;refine ⟨ZM g (kK st ps 0),e9 h _ ps y vs 0 [] hy hl hp rfl,fun m b ⟨nm,_,hb⟩=>⟨_,_,hb⟩,fun m m' b ⟨n1,q1,q2⟩ ⟨n2,q3,q4⟩ => ?_⟩;obtain ⟨e1,e2⟩:=h.disj _ _ _ _ b q2 q4;exact vl _ m m' n1 n2 hn q1 q3 e1 e2
theorem gf {Z:Nat->Prop} {w:World} {F:Nat->Nat->Prop}:∀ (ps:List PK) (x:PT ps) (vs:List Value) (i:Nat),dp Z w F ps x vs i->vs.length=ps.length
 | [],_,[],_,_=>rfl
 | .c _ _ :: ps,x,_ :: vs,i,h=>acT (· + 1) (gf ps x.2 vs _ h.2)
 | .pt _ :: ps,x,_ :: vs,i,h=>acT (· + 1) (gf ps x.2 vs _ h.2)
 | .nil :: ps,x,_ :: vs,i,h=>acT (· + 1) (gf ps x vs _ h.2)
 | .fn _ _ :: ps,x,_ :: vs,i,h=>acT (· + 1) (gf ps x.2 vs _ h.2)
 | .io _ _ :: ps,x,_ :: vs,i,h=>acT (· + 1) (gf ps x.2 vs _ h.2)
 | .mv _ :: ps,x,_ :: vs,i,h=>acT (· + 1) (gf ps x.2 vs _ h.2)
 | [],_,_ :: _,_,h=>h.elim
 | .pt _ :: _,_,[],_,h=>h.elim
 | .nil :: _,_,[],_,h=>h.elim
 | .c _ _ :: _,_,[],_,h=>h.elim
 | .fn _ _ :: _,_,[],_,h=>h.elim
 | .io _ _ :: _,_,[],_,h=>h.elim
 | .mv _ :: _,_,[],_,h=>h.elim
theorem vR:∀ (ps:List PK),kP ps=false->∀ (y z:tz ps),y=z
 | [],_,_,_=>rfl
 | .c _ _ :: ps,h,y,z=>vR ps h y z
 | .pt _ :: ps,h,y,z=>vR ps h y z
 | .nil :: ps,h,y,z=>vR ps h y z
 | .fn _ _ :: ps,h,y,z=>vR ps h y z
 | .mv _ :: ps,h,y,z=>vR ps h y z
 | .io _ _ :: ps,h,_,_=>by simp [kP] at h
def Cz (E:En) (res:List ResultVar) (ps:List PK) (rs:List (Bool×List K)) (fresh:Bool) (o:Ou):Tr (tz ps×CT rs):=match o with
 | .ext _ _=> .fail
 | .nrm st=>Tr.bo (jk E st res) fun l=>Tr.bo (vW st fresh rs l) fun p=>Tr.bo (pN E.pins p.1 ps 0) fun z=> .ret (z,p.2)
 | .ret st=>Tr.bo (jk E st res) fun l=>Tr.bo (vW st fresh rs l) fun p=>Tr.bo (pN E.pins p.1 ps 0) fun z=> .ret (z,p.2)
theorem yA {P : Program} {E : En} (hT : bG P E) {f : Nat} {fn : Func} {c : Code} (hf : P.funcs[f]? = some fn) (hname : (fn.name == "runtime.NumGoroutine") = false) (hb : fn.body = some c) (hnt : E.nt = fn.ntmps)
 {s:Su} (hs:∀ x y,s.tQ x=some y->∃ z,(kP s.ps=true->z=y.1)/\∀ (cx:Cx P) (a:Act) (w:World),Good cx E (start s.ps x) a w->c.wp P (fun e a' w'=>∃ ou,QO cx E ou e a' w'/\(Cz E fn.results.toList s.ps s.rs s.fresh ou).run=some (z,y.2)) a w):ar P f s:=by
 intro w Z F args x y hgl hargs hZ hF hd hy;have hzF:∀ b,Z b->b < w.heap.size->¬ ∃ i,F i b:=fun b hb _ ⟨i,hi⟩=>(hF i b hi).2 hb
 rw [MuLone.run_callFunc_enter hf hname hb];obtain ⟨zio,hzio,hrun⟩:=hs x y hy;show Calls P f args w _;have hlen:=gf _ _ _ _ hargs;refine calls_of_wp hf hb ?_;have hsz:fn.ntmps<=(args ++ Array.replicate (fn.ntmps - args.size) undef).size:=by simp; omega
 have hget:∀ j v,args.toList[j]? = some v->0 + j < (args ++ Array.replicate (fn.ntmps - args.size) undef).size/\(args ++ Array.replicate (fn.ntmps - args.size) undef).getD (0 + j) undef=v:=fun j v hj=>by
  rw [acf] at hj;have hlt:j < args.size:=by
   rcases acn j args.size with h | h
   . exact h
   . simp [acw h] at hj
  rw [acz];refine ⟨by simp; omega,?_⟩;rw [ach,adF hlt,hj];rfl
 let pin:Nat->Option Value:=fun t=>bif j4 E.pins t then some ((args ++ Array.replicate (fn.ntmps - args.size) undef).getD t undef) else none
 have hpin:∀ t v,pin t=some v->(args ++ Array.replicate (fn.ntmps - args.size) undef).getD t undef=v/\j4 E.pins t=true:=fun t v ht=>by
  show _/\_;simp only [pin] at ht;cases hm:j4 E.pins t with
  | false=>rw [hm] at ht; simp at ht
  | true=>rw [hm] at ht; simp only [ab9,ab6] at ht; exact ⟨ht,rfl⟩
 obtain ⟨g,hrel,_⟩:=gP (cx:=⟨w,fun b=>∃ i,F i b,Z,pin,hgl,hzF⟩) (a:={ tmps:=args ++ Array.replicate (fn.ntmps - args.size) undef,defers:=[] }) rfl (fun t v ht=>(hpin t v ht).1) rfl hZ hF hd s.ps x args.toList 0 0 hargs hget;have hgood:Good ⟨w,fun b=>∃ i,F i b,Z,pin,hgl,hzF⟩ E (start s.ps x) { tmps:=args ++ Array.replicate (fn.ntmps - args.size) undef,defers:=[] } w :=
  ⟨fun t tv ht=>e8 s.ps x 0 t tv (gI _ _ _ ht),⟨by rw [hnt]; exact hsz,fun t v ht=>(hpin t v ht).2⟩,Z,g,hrel⟩
 have fin:∀ (st:St) (a:Act) (w':World),Good ⟨w,fun b=>∃ i,F i b,Z,pin,hgl,hzF⟩ E st a w'->(Tr.bo (jk E st fn.results.toList) fun l=>Tr.bo (vW st s.fresh s.rs l) fun p=>Tr.bo (pN E.pins p.1 s.ps 0) fun z=>Tr.ret (z,p.2)).run=some (zio,y.2) ->
  a.defers=[]/\∃ v,(results fn a.tmps).run P w'= .ok v w'/\∃ (Z':Nat->Prop) (H:Nat->Nat->Prop) (vs:List Value),v=yM vs/\P5 w w' F Z Z' H/\xm Z' w' (fun i=>H (2 * i)) s.ps y.1 args.toList 0/\kn s.fresh Z' w' (fun j=>H (2 * j + 1)) s.rs y.2 vs 0:=by
  intro st a w' ⟨h1,h2,Z',g',h3⟩ hr;obtain ⟨l,hl1,hr⟩:=Tr.af hr;obtain ⟨p,hl2,hr⟩:=Tr.af hr;obtain ⟨z,hl3,hr⟩:=Tr.af hr;simp only [Tr.run,ab6,acI] at hr;obtain ⟨rfl,hy2⟩:=hr;obtain ⟨vs,e1,e2⟩:=oH hT h3 h1 _ _ hl1;obtain ⟨g2,H,k1,k2,k3⟩:=BH s.fresh s.rs l vs st g' p.1 p.2 0 h3 e2 hl2;have hres:(results fn a.tmps).run P w'= .ok (yM vs) w':=by
   have hr0:results fn a.tmps=(do let vs <- fn.results.mapM (pO a.tmps); pure (if h:vs.size=1 then vs[0] else .tuple vs)):=by
    have:pO a.tmps=fun x=>(match x with
     | .tmp t=>pure (a.tmps.getD t undef)
     | .cell a' t=>do loadVar t (<- asAddr (a.tmps.getD a' undef)):Sem Value):=by funext x; cases x <;> rfl
    rw [this];rfl
   have hmm:fn.results.mapM (pO a.tmps)=(do let l <- fn.results.toList.mapM (pO a.tmps); pure l.toArray):=by rw [Array.mapM_eq_mapM_toList];rfl
   rw [hr0,hmm];simp only [acy,e1,ack,acR];congr 1
   match vs with
   | []=>rfl
   | [v]=>rfl
   | _ :: _ :: _=>simp [yM]
  have hzy:z=y.1:=by
   cases hh:kP s.ps with
   | true=>exact hzio hh
   | false=>exact vR _ hh _ _
  subst hzy;obtain ⟨G,m1,m2,m3⟩:=Dj k1 s.ps _ args.toList hl3 hlen fun j v hj hm=>by rw [acz] at hm ⊢;refine k1.pin j v ?_;show (bif j4 E.pins j then _ else none)=_;rw [hm];have:=(hget j v hj).2;rw [acz] at this;rw [this]; rfl
  have hG:∀ m b,G m b->b < w'.heap.size/\¬ Z' b/\((∃ i,F i b)∨w.heap.size<=b):=fun m b hb=>by obtain ⟨i',j,hh⟩:=m2 m b hb;obtain ⟨q1,q2,q3,_⟩:=k1.fp _ _ _ hh;exact ⟨q1,q3,q2⟩
  have cross:∀ j m b,H j b->G m b->False:=fun j m b h1 h2=>by obtain ⟨i',j',hh⟩:=m2 m b h2;exact (k2.free j).fp b h1 _ _ hh
  refine ⟨h3.defers,_,hres,Z',fun n b=>(∃ j,n=2 * j + 1/\H j b)∨∃ m,n=2 * m/\G m b,vs,rfl,?_,xm.mono (fun m b hb=> .inr ⟨m,rfl,hb⟩) _ _ _ _ m1,?_⟩
  . exact { os:=k1.os,tape:=k1.tape,output:=k1.output,size:=k1.size
            block:=fun b hb hf=>k1.block b hb (fun ⟨i,hi⟩=>hf i hi)
            z:=fun b hb=>k1.z0 b hb (hZ b hb)
            bN:=fun b hb=>k1.bN b hb
            fp:=fun n b hb=>by
             rcases hb with ⟨j,e,hb⟩ | ⟨m,e,hb⟩
             . exact ⟨(k2.free j).lt b hb,(k2.free j).z b hb,(k2.free j).own b hb⟩
             . exact hG m b hb
            disj:=fun n m b hb hb'=>by
             rcases hb with ⟨j,e,hb⟩ | ⟨q,e,hb⟩
             . rcases hb' with ⟨j',e',hb'⟩ | ⟨q',e',hb'⟩
               . have:=k2.disj j j' b hb hb'; omega
               . exact (cross _ _ b hb hb').elim
             . rcases hb' with ⟨j',e',hb'⟩ | ⟨q',e',hb'⟩
               . exact (cross _ _ b hb' hb).elim
               . have:=m3 q q' b hb hb'; omega }
  . rw [<- hy2];exact kn.mono (fun n b hb=> .inl ⟨n,rfl,hb⟩) _ _ _ _ k3
 refine wp_mono (hrun _ _ _ hgood) fun e a w' ⟨ou,hq,hfin⟩ => ?_
 cases ou with
 | ext id st=>simp [Cz,Tr.run] at hfin
 | nrm st => cases e <;> first | exact hq.elim | exact fin st a w' hq hfin
 | ret st => cases e <;> first | exact hq.elim | exact fin st a w' hq hfin
theorem Ll {P : Program} {E : En} (hT : bG P E) (hga : de P E) (hW : rJ P E) (hm : P.follows .mixedOrders = true) {f : Nat} {fn : Func} {c : Code} (hf : P.funcs[f]? = some fn) (hname : (fn.name == "runtime.NumGoroutine") = false) (hb : fn.body = some c) (hnt : E.nt = fn.ntmps) (hl : df P E c)
 {s:Su} (hs:∀ x y,s.tQ x=some y->∃ z,(kP s.ps=true->z=y.1)/\(Fl E c fn.results.toList s.ps s.rs s.fresh x).run=some (z,y.2)):ar P f s:=by
 refine yA hT hf hname hb hnt fun x y hy => ?_
 obtain ⟨z,h1,h2⟩:=hs x y hy;refine ⟨z,h1,fun cx a w hg => ?_⟩;have h2:((cC E c (start s.ps x)).bind (Cz E fn.results.toList s.ps s.rs s.fresh)).run=some (z,y.2):=h2;rw [Tr.run_bind] at h2;cases ho:(cC E c (start s.ps x)).run with
 | none=>rw [ho] at h2; simp at h2
 | some ou => rw [ho] at h2;exact wp_mono (bU hT hga hW hm (Co E) c _ _ _ ou hl hg ho) fun e a' w' hq=>⟨ou,hq,h2⟩
end Go.Av
namespace Go.Av
open Go.RowKit (Below)
def Gh.iU (g:Gh) (r j:Nat) (v:Value) (F:Nat->Prop):Gh:=⟨g.be,fun r' j'=>if r'=r/\j'=j then v else g.cv r' j',fun r' j' b=>if r'=r/\j'=j then F b else g.fp r' j' b⟩
section
variable {P:Program} {cx:Cx P} {Z:Nat->Prop} {g:Gh} {st:St} {a:Act} {w:World} {E:En}
theorem jb {r j:Nat} {c:RC} {r':Nat} {R':Rt} (hR:look (st.setCell r j c).rt r'=some R'):∃ R,look st.rt r'=some R/\R'.box=R.box/\R'.cells.length=R.cells.length:=by
 rw [eQ] at hR;split at hR
 . cases hl:look st.rt r' with
   | none=>rw [hl] at hR; simp at hR
   | some R => rw [hl] at hR;simp only [acG,ab6] at hR;subst hR;exact ⟨R,rfl,rfl,hJ _ _ _⟩
 . exact ⟨R',hR,rfl,rfl⟩
theorem Rel.change (h:Rel cx Z g st a w) {r j:Nat} {c c':RC} (hc:st.cell r j=some c) {w':World} {v':Value} {F':Nat->Prop} (h1:w'.os=w.os) (h2:w'.tape=w.tape) (h3:w'.output=w.output) (hsz:w.heap.size<=w'.heap.size)
 (hs:c.s<=c'.s) (hm:c.m < c'.m) (hcv:c'.s=c.s->v'=g.cv r j) (hsl:c'.s=c.s->∀ e ks xs,c.v= .own (.sl e ks) xs->∃ xs',c'.v= .own (.sl e ks) xs'/\(aE xs').length=(aE xs).length)
 (hblk:∀ b,b < w.heap.size->¬ g.fp r j b->(∀ R,look st.rt r=some R->R.box=true->g.be r≠b)->w'.heap[b]? = w.heap[b]?)
 (hF:∀ b,F' b->b < w'.heap.size/\(cx.F0 b∨cx.w0.heap.size<=b)/\¬ Z b/\(∀ r' j',g.fp r' j' b->r'=r/\j'=j)/\(∀ r' R,look st.rt r'=some R->R.box=true->g.be r'≠b)/\∃ (k:K) (x:T k),c'.v= .own k x)
 (hbox:∀ R,look st.rt r=some R->R.box=true->∃ cs e fr cs',w.heap[g.be r]? = some (.cells cs e fr)/\w'.heap[g.be r]? = some (.cells cs' e fr)/\cs'.size=cs.size/\∀ i,i < cs.size->cs'[i]? = some (if i=j then v' else g.cv r i))
 (hv:∀ (k:lD Z Z w w' g (g.iU r j v' F') st (st.setCell r j c')),iL Z (g.iU r j v' F') (st.setCell r j c') w' c'.v v' F') :
 Rel cx Z (g.iU r j v' F') (st.setCell r j c') a w'/\jE Z w w' g (g.iU r j v' F') st (st.setCell r j c'):=by
 have hfpo:∀ r' j' b,g.fp r' j' b->¬ (r'=r/\j'=j)->w'.heap[b]? = w.heap[b]? := fun r' j' b hb hne=>hblk b (h.fp r' j' b hb).1 (fun hh=>hne (h.disj _ _ _ _ _ hb hh)) fun R hR hbx he=>(h.box r R hR hbx).2.2.1 r' j' (by rw [he]; exact hb)
 have hz:∀ b,Z b->b < w.heap.size->w'.heap[b]? = w.heap[b]? := fun b hb hlt=>hblk b hlt (fun hh=>(h.fp r j b hh).2.2.1 hb) fun R hR hbx he=>(h.box r R hR hbx).2.1 (by rw [he]; exact hb)
 have hfpi:∀ r' j' b,(g.iU r j v' F').fp r' j' b->(r'=r/\j'=j/\F' b)∨(¬ (r'=r/\j'=j)/\g.fp r' j' b):=fun r' j' b hb=>by
  simp only [Gh.iU] at hb;split at hb
  . rename_i e; exact .inl ⟨e.1,e.2,hb⟩
  . rename_i e; exact .inr ⟨e,hb⟩
 have k:lD Z Z w w' g (g.iU r j v' F') st (st.setCell r j c'):=by
  refine { size:=hsz,z:=fun b hb hlt=>⟨hb,hz b hb hlt⟩,root:=fun r' R hR => ?_,cell:=fun r' j' c0 hc0 => ?_,own:=fun r j b hb=>(h.fp r j b hb).1,block:=(eh h (st':=st) (w':=w) rfl rfl).block }
  . rw [eQ];by_cases e:r=r'
    . rw [if_pos e,hR]; exact ⟨_,rfl,rfl,fun _=>rfl⟩
    . rw [if_neg e]; exact ⟨R,hR,rfl,fun _=>rfl⟩
  . rw [cr];by_cases e:r=r'/\j=j'
    . obtain ⟨rfl,rfl⟩:=e;rw [hc0] at hc;simp only [ab6] at hc;subst hc;rw [if_pos ⟨rfl,rfl⟩,hc0];refine ⟨_,rfl,hs,aeC hm,fun e => ?_,hsl,fun _ e=>absurd e (Nat.ne_of_gt hm)⟩;simp only [Gh.iU,and_self,if_true];exact hcv e
    . rw [if_neg e];have e':¬ (r'=r/\j'=j):=fun x=>e ⟨x.1.symm,x.2.symm⟩
      refine ⟨c0,hc0,acb _,acb _,fun _=>by simp only [Gh.iU]; rw [if_neg e'],fun _ e ks xs hh=>⟨xs,hh,rfl⟩,fun _ _=>⟨rfl,fun b hb _=>⟨?_,hfpo r' j' b hb e'⟩⟩⟩;simp only [Gh.iU];rw [if_neg e'];exact hb
 refine ⟨?_,⟨k,dn,rfl,fun r' R' hR=>by obtain ⟨R,h1,h2,_⟩:=jb hR; exact ⟨R,h1,h2⟩⟩⟩;refine { os:=h1.trans h.os,tape:=h2.trans h.tape,output:=h3.trans h.output,size:=acv h.size hsz,block := ?_,bN:=fun b hb=>⟨acA (h.bN b hb).1 hsz,(h.bN b hb).2⟩,z0:=h.z0,fp := ?_,disj := ?_,box := ?_,cell := ?_,tm := ?_,defers:=h.defers,pin:=h.pin }
 . intro b hb hf;refine (hblk b (acA hb h.size) (fun hh => ?_) fun R hR hbx he => ?_).trans (h.block b hb hf)
   . rcases (h.fp r j b hh).2.1 with h4 | h4
     . exact hf h4
     . omega
   . have:=(h.box r R hR hbx).1;omega
 . intro r' j' b hb;rcases hfpi r' j' b hb with ⟨e1,e2,hb'⟩ | ⟨hne,hb⟩
   . obtain ⟨k1,k2,k3,_,_,kk,x,k4⟩:=hF b hb';exact ⟨k1,k2,k3,c',kk,x,by rw [cr,if_pos ⟨e1.symm,e2.symm⟩,e1,e2,hc]; rfl,k4⟩
   . obtain ⟨k1,k2,k3,c0,kk,x,k4,k5⟩:=h.fp r' j' b hb;exact ⟨acA k1 hsz,k2,k3,c0,kk,x,by rw [cr,if_neg (fun e=>hne ⟨e.1.symm,e.2.symm⟩)]; exact k4,k5⟩
 . intro r1 j1 r2 j2 b hb1 hb2;rcases hfpi _ _ _ hb1 with ⟨e1,e2,k1⟩ | ⟨hne1,k1⟩
   . rcases hfpi _ _ _ hb2 with ⟨e3,e4,k2⟩ | ⟨hne2,k2⟩
     . exact ⟨e1.trans e3.symm,e2.trans e4.symm⟩
     . exact absurd ((hF b k1).2.2.2.1 r2 j2 k2) hne2
   . rcases hfpi _ _ _ hb2 with ⟨e3,e4,k2⟩ | ⟨hne2,k2⟩
     . exact absurd ((hF b k2).2.2.2.1 r1 j1 k1) hne1
     . exact h.disj _ _ _ _ _ k1 k2
 . intro r' R' hR hbx;obtain ⟨R,e1,e2,e3⟩:=jb hR;obtain ⟨b1,b2,b3,b4,cs,el,fr,b5,b6,b7,b8⟩:=h.box r' R e1 (by rw [<- e2]; exact hbx);have hnf:∀ r0 j0,¬ (g.iU r j v' F').fp r0 j0 (g.be r'):=fun r0 j0 hh=>by
    rcases hfpi _ _ _ hh with ⟨_,_,hh⟩ | ⟨_,hh⟩
    . exact (hF _ hh).2.2.2.2.1 r' R e1 (by rw [<- e2]; exact hbx) rfl
    . exact b3 _ _ hh
   refine ⟨b1,b2,hnf,fun r'' R'' hR'' hb'' he => ?_,?_⟩
   . obtain ⟨R2,f1,f2,_⟩:=jb hR'';exact b4 r'' R2 f1 (by rw [<- f2]; exact hb'') he
   . by_cases e:r'=r
     . subst e;obtain ⟨cs0,el0,fr0,cs',f1,f2,f3,f4⟩:=hbox R e1 (by rw [<- e2]; exact hbx);rw [b5] at f1;simp only [ab6,Obj.cells.injEq] at f1;obtain ⟨rfl,rfl,rfl⟩:=f1;refine ⟨cs',el,fr,f2,fun q hq=>b6 q (by omega),by rw [f3,b7,e3],fun i hi => ?_⟩;rw [f4 i (by omega)];simp only [Gh.iU,true_and]
     . refine ⟨cs,el,fr,?_,b6,by rw [b7,e3],fun i hi => ?_⟩
       . have hlt:g.be r' < w.heap.size:=by
          rcases acn (g.be r') w.heap.size with hh | hh
          . exact hh
          . simp [acw hh] at b5
         show w'.heap[g.be r']? = _;rw [hblk _ hlt (b3 r j) fun R0 hR0 hb0 he=>e (b4 r R0 hR0 hb0 he).symm];exact b5
       . rw [b8 i hi];simp only [Gh.iU];rw [if_neg (fun x=>e x.1)]
 . intro r' j' c0 hc0;rw [cr] at hc0;split at hc0
   . rename_i e;obtain ⟨rfl,rfl⟩:=e;rw [hc] at hc0;simp only [acG,ab6] at hc0;subst hc0;have e1:(g.iU r j v' F').cv r j=v':=by simp [Gh.iU]
     have e2:(g.iU r j v' F').fp r j=F':=by funext b; simp [Gh.iU]
     rw [e1,e2];exact hv k
   . rename_i e;have e':¬ (r'=r/\j'=j):=fun x=>e ⟨x.1.symm,x.2.symm⟩
     have e1:(g.iU r j v' F').cv r' j'=g.cv r' j':=by simp only [Gh.iU]; rw [if_neg e']
     have e2:(g.iU r j v' F').fp r' j'=g.fp r' j':=by funext b; simp only [Gh.iU]; rw [if_neg e']
     rw [e1,e2];exact iL.bP k _ _ _ _ (h.cell r' j' c0 hc0) (fun _ h=>h) (fun b hb _=>hfpo r' j' b hb e')
 . intro t tv ht;rw [dn] at ht;exact ⟨(h.tm t tv ht).1,bl.bP k _ _ (h.tm t tv ht).2⟩
theorem Ao {b o:Nat} {v:Value} (h:w.cell? ⟨b,o,none⟩=some v):w.setCell ⟨b,o,none⟩ v=w:=by
 have:(w.setCell ⟨b,o,none⟩ v).heap=w.heap:=by
  apply adK;intro i;simp only [World.setCell,Array.getElem?_modify];by_cases e:b=i
  . subst e;rw [if_pos rfl];simp only [World.cell?] at h;split at h
    . rename_i c el fr hh;rw [hh];simp at h;simp only [acG,adi,acU,ado,ab6,Obj.cells.injEq,adn];apply adK;intro q;rw [ac3];by_cases e:o=q
      . subst e;rw [if_pos rfl];have hlt:o < c.size:=by
         rcases acn o c.size with hh | hh
         . exact hh
         . simp [acw hh] at h
        rw [if_pos hlt,h]
      . rw [if_neg e]
    . simp at h
  . rw [if_neg e]
 cases w;simp only [World.setCell] at this ⊢;congr 1
theorem cM (b o:Nat) (v:Value) (i:Nat):(w.setCell ⟨b,o,none⟩ v).heap[i]? = if b=i then (w.heap[i]?).map (fun | .cells c el fr=> .cells (c.setIfInBounds o v) el fr | x=>x) else w.heap[i]? := by
 simp only [World.setCell,Array.getElem?_modify];by_cases e:b=i
 . rw [if_pos e,if_pos e];cases w.heap[i]? with
   | none=>rfl
   | some x=>cases x <;> rfl
 . rw [if_neg e,if_neg e]
theorem Rel.SM (h:Rel cx Z g st a w) {r j:Nat} {c:RC} (hc:st.cell r j=some c) {R:Rt} (hR:look st.rt r=some R) (hb:R.box=true) {rv:RV} {v:Value} {F:Nat->Prop} (hF:fQ cx Z g st w F) (hrv:match rv with | .own k x=>cK w k x v F | .av x=>ba Z g st w x v) :
 ∃ g',Rel cx Z g' (st.setCell r j ⟨c.s + 1,c.m + 1,rv⟩) a (w.setCell ⟨g.be r,j,none⟩ v)/\jE Z w (w.setCell ⟨g.be r,j,none⟩ v) g g' st (st.setCell r j ⟨c.s + 1,c.m + 1,rv⟩)/\g'.be=g.be:=by
 obtain ⟨b1,b2,b3,b4,cs,el,fr,b5,b6,b7,b8⟩:=h.box r R hR hb;have hjl:j < cs.size:=by
  rw [b7];simp only [St.cell,hR] at hc;rcases acn j R.cells.length with hh | hh
  . exact hh
  . simp [acq hh] at hc
 have hsz:(w.setCell ⟨g.be r,j,none⟩ v).heap.size=w.heap.size:=by simp [World.setCell]
 have hother:∀ i,i≠g.be r->(w.setCell ⟨g.be r,j,none⟩ v).heap[i]? = w.heap[i]? := fun i hi=>by rw [cM,if_neg (fun e=>hi e.symm)]
 have:=h.change hc (c':=⟨c.s + 1,c.m + 1,rv⟩) (w':=w.setCell ⟨g.be r,j,none⟩ v) (v':=v) (F':=fun b=>F b/\∃ (k:K) (x:T k),rv= .own k x) rfl rfl rfl (by rw [hsz]; exact acb _) (aer _) (adA _)
  (fun e=>absurd e (ad4 _)) (fun e=>absurd e (ad4 _)) (fun b _ _ hx=>hother b fun e=>hx R hR hb e.symm)
  (fun b hb'=>⟨by rw [hsz]; exact hF.lt b hb'.1,hF.own b hb'.1,hF.z b hb'.1,fun r' j' hh=>absurd hh (hF.fp b hb'.1 r' j'),fun r' R' hR' hx=>hF.box b hb'.1 r' R' hR' hx,hb'.2⟩)
  (fun R' hR' hx=>⟨cs,el,fr,cs.setIfInBounds j v,b5,by rw [cM,if_pos rfl,b5]; rfl,by simp,fun i hi=>by
    rw [ac3];by_cases e:i=j
    . subst e; simp [hi]
    . rw [if_neg (fun x=>e x.symm),if_neg e]; exact b8 i hi⟩)
  (fun k=>by
    cases rv with
    | own kk x=>exact cK.frame _ _ _ _ _ (fun b hb=>⟨hb,kk,x,rfl⟩) (fun b hb _=>hother b fun e=>hF.box b hb r R hR ‹_› e.symm) hrv
    | av x=>exact ba.bP k _ _ hrv)
 exact ⟨_,this.1,this.2,rfl⟩
end
end Go.Av
namespace Go.Av
open Go.RowKit (Below)
def shape (st:St) (r:Nat):Option (Bool×Nat):=(look st.rt r).map fun R=>(R.box,R.cells.length)
theorem gY {st:St} {r j:Nat} {c:RC} (r':Nat):shape (st.setCell r j c) r'=shape st r':=by
 unfold shape;rw [eQ];split
 . rename_i e;subst e;cases look st.rt r with
   | none=>rfl
   | some R=>simp [hJ]
 . rfl
theorem Dz {st:St} {av:AV} {q:St×((k:K)×T k)} (h:st.take av=some q) (r':Nat):shape q.1 r'=shape st r'/\q.1.tm=st.tm:=by
 cases av with
 | ref r j s =>
   simp only [St.take] at h;split at h
   . rename_i s' m k x hc;cases hb:Nat.beq s' s with
     | false=>rw [hb] at h; simp at h
     | true=>rw [hb] at h; cases h; exact ⟨gY r',dn⟩
   . simp at h
 | cut r j s n =>
   simp only [St.take] at h;split at h
   . rename_i s' m e ks x hc;cases hb:Nat.beq s' s with
     | false=>rw [hb] at h; simp at h
     | true=>rw [hb] at h; cases h; exact ⟨gY r',dn⟩
   . simp at h
 | _=>simp [St.take] at h
theorem qt {st st':St} {k:K} {av:AV} {x:T k} (h:st.dF k av=some (st',x)) (r':Nat):shape st' r'=shape st r'/\st'.tm=st.tm:=by
 unfold St.dF at h;split at h
 . cases h; exact ⟨rfl,rfl⟩
 . split at h
   . rename_i st1 k1 x1 hq;split at h
     . cases h; exact Dz hq r'
     . simp at h
   . simp at h
theorem pP {st:St} {r n:Nat} {b:Bool} (h:shape st r=some (b,n)):∃ R,look st.rt r=some R/\R.box=b/\R.cells.length=n:=by
 unfold shape at h;cases hl:look st.rt r with
 | none=>rw [hl] at h; simp at h
 | some R=>rw [hl] at h; simp only [acG,ab6,acI] at h; exact ⟨R,rfl,h.1,h.2⟩
theorem Ay {st:St} {r j:Nat} {c:RC} (h:st.cell r j=some c) {R:Rt} (hR:look st.rt r=some R):j < R.cells.length:=by
 simp only [St.cell,hR] at h;rcases acn j R.cells.length with hh | hh
 . exact hh
 . simp [acq hh] at h
section
variable {P:Program} {cx:Cx P} {Z:Nat->Prop} {a:Act} {E:En}
theorem mN {r n:Nat}:∀ (ks:List K) (l:List AV) (vs:List Value) (st:St) (g:Gh) (w:World) (j:Nat) (st':St),Rel cx Z g st a w->shape st r=some (true,n)->aN Z g st w l vs->st.gi r j ks l=some st' ->
 ∃ g',Rel cx Z g' st' a (w.setCells (g.be r) j vs)/\st'.tm=st.tm/\(vs=[]∨j + vs.length<=n)
 | [],[],[],st,g,w,j,st',h,hs,hr,ht=>by simp only [St.gi,ab6] at ht;subst ht;exact ⟨g,h,rfl,.inl rfl⟩
 | [],[],_ :: _,st,g,w,j,st',h,hs,hr,ht=>hr.elim
 | k :: ks,av :: l,[],st,g,w,j,st',h,hs,hr,ht=>hr.elim
 | k :: ks,av :: l,v :: vs,st,g,w,j,st',h,hs,hr,ht=>by
   obtain ⟨R,hR,hb,hn⟩:=pP hs
   have put:∀ (st1:St) (g1:Gh) (rv:RV) (F:Nat->Prop) (c:RC),Rel cx Z g1 st1 a w->g1.be=g.be->st1.tm=st.tm->(∀ r',shape st1 r'=shape st r')->fQ cx Z g1 st1 w F->(match rv with | .own k x=>cK w k x v F | .av x=>ba Z g1 st1 w x v)->aN Z g1 st1 w l vs->st1.cell r j=some c ->
    (st1.setCell r j ⟨c.s + 1,c.m + 1,rv⟩).gi r (j + 1) ks l=some st'->∃ g',Rel cx Z g' st' a (w.setCells (g.be r) j (v :: vs))/\st'.tm=st.tm/\(v :: vs=[]∨j + (v :: vs).length<=n):=by
    intro st1 g1 rv F c h1 hbe htm hsh hF hrv hl hc hst;obtain ⟨R1,hR1,hb1,hn1⟩:=pP (show shape st1 r=some (true,n) by rw [hsh]; exact hs);obtain ⟨g2,k1,k2,k3⟩:=h1.SM hc hR1 hb1 hF hrv;rw [hbe] at k1 k2;obtain ⟨g',m1,m2,m3⟩:=mN ks l vs _ g2 _ (j + 1) st' k1 (by rw [gY,hsh]; exact hs) (aN.bP k2.bP _ _ hl) hst;rw [k3,hbe] at m1;refine ⟨g',m1,m2.trans (dn.trans htm),.inr ?_⟩;have:=Ay hc hR1;rcases m3 with m3 | m3
    . subst m3; simp; omega
    . simp; omega
   have bump:∀ (st1:St) (rv:RV) (q:Option St),(match st1.bump r j rv with | some st'=>st'.gi r (j + 1) ks l | none=>none)=some st'->∃ c,st1.cell r j=some c/\(st1.setCell r j ⟨c.s + 1,c.m + 1,rv⟩).gi r (j + 1) ks l=some st':=by
    intro st1 rv _ hh;unfold St.bump at hh;cases hc:st1.cell r j with
    | none=>rw [hc] at hh; simp at hh
    | some c=>rw [hc] at hh; exact ⟨c,rfl,hh⟩
   have take:(match st.dF k av with | some (st',x)=>(match st'.bump r j (.own k x) with | some st'=>st'.gi r (j + 1) ks l | none=>none) | none=>none)=some st'->∃ g',Rel cx Z g' st' a (w.setCells (g.be r) j (v :: vs))/\st'.tm=st.tm/\(v :: vs=[]∨j + (v :: vs).length<=n):=by
    intro hh;cases htk:st.dF k av with
    | none=>rw [htk] at hh; simp at hh
    | some q => obtain ⟨st1,x⟩:=q;rw [htk] at hh;simp only at hh;obtain ⟨c,hc,hst⟩:=bump st1 (.own k x) none hh;obtain ⟨g1,F,k1,k2,k3,k4,k5,k6,k7⟩:=eP h hr.1 htk;exact put st1 g1 (.own k x) F c k1 k2.be k2.tm (fun r'=>(qt htk r').1) k4 k3 (aN.bP k2.bP _ _ hr.2) hc hst
   have viaRC:(match st.ko av with | some c=>(match st.bump r j c.v with | some st'=>st'.gi r (j + 1) ks l | none=>none) | none=>none)=some st'->∃ g',Rel cx Z g' st' a (w.setCells (g.be r) j (v :: vs))/\st'.tm=st.tm/\(v :: vs=[]∨j + (v :: vs).length<=n):=by
    intro hh;cases htk:st.ko av with
    | none=>rw [htk] at hh; simp at hh
    | some c1 => rw [htk] at hh;simp only at hh;obtain ⟨c,hc,hst⟩:=bump st c1.v none hh;have h1:aN Z g st w [av] [v]:=⟨hr.1,trivial⟩;obtain ⟨e1,e2,e3⟩:=sd h [av] [v] [c1] h1 (by simp [St.jm,htk]);obtain ⟨x,hx,hxr⟩:=e3 0 c1 v rfl rfl;rw [hx] at hst;exact put st g (.av x) (fun _=>False) c h rfl rfl (fun _=>rfl) (fQ.none _ _ _ _ _) hxr hr.2 hc hst
   cases av with
   | ref r2 j2 s2 =>
     simp only [St.gi] at ht;cases hb2:Nat.beq r r2 && Nat.beq j j2 with
     | true =>
       rw [hb2] at ht;simp only [ab9] at ht;simp only [ab8] at hb2;have e1:=beq_eq hb2.1;have e2:=beq_eq hb2.2;subst e1; subst e2;cases hc:st.cell r j with
       | none=>rw [hc] at ht; simp at ht
       | some c =>
         rw [hc] at ht;simp only at ht;cases hcs:Nat.beq c.s s2 with
         | false=>rw [hcs] at ht; simp at ht
         | true =>
           rw [hcs] at ht;simp only [ab9] at ht;obtain ⟨c',k1,k2,k3⟩:=hr.1;rw [hc] at k1;simp only [ab6] at k1;subst k1;have hv:=k3 (beq_eq hcs);have hlt:=Ay hc hR;obtain ⟨b1,b2,b3,b4,cs,el,fr,b5,b6,b7,b8⟩:=h.box r R hR hb;have hcell:w.cell? ⟨g.be r,j,none⟩=some v:=by simp only [World.cell?,b5,adi,acU,ado];rw [b8 j (by omega),hv]
           obtain ⟨g',m1,m2,m3⟩:=mN ks l vs st g w (j + 1) st' h hs hr.2 ht;refine ⟨g',?_,m2,.inr ?_⟩
           . show Rel cx Z g' st' a ((w.setCell ⟨g.be r,j,none⟩ v).setCells (g.be r) (j + 1) vs);rw [Ao hcell];exact m1
           . rcases m3 with m3 | m3
             . subst m3; simp; omega
             . simp; omega
     | false => rw [hb2] at ht;exact take ht
   | cut r2 j2 s2 n2=>exact take ht
   | nil =>
     cases k with
     | sl e ks' => simp only [St.gi] at ht;obtain ⟨c,hc,hst⟩:=bump st _ none ht;have hv:v= .slice none 0 0:=hr.1;exact put st g (.own (.sl e ks') ([]:List (Tl ks'))) (fun _=>False) c h rfl rfl (fun _=>rfl) (fQ.none _ _ _ _ _) (by rw [hv]; exact iT e ks') hr.2 hc hst
     | _=>simp [St.gi] at ht
   | _=>exact viaRC ht
 | [],_ :: _,_,st,g,w,j,st',h,hs,hr,ht=>by simp [St.gi] at ht
 | _ :: _,[],_,st,g,w,j,st',h,hs,hr,ht=>by simp [St.gi] at ht
theorem mH {t:TypeId} {ti:TI} (hT:pR P t ti) {w:World} {b o:Nat} {v:Value} {vs:List Value} (hv:v.cells.toList=vs) (hl:vs.length=ti.ks.length) (h1:∀ u∈vs,u.oneCell'=true) (hc:∀ j,j < vs.length->∃ cs el fr,w.heap[b]? = some (.cells cs el fr)/\o + j < cs.size/\¬ (fr.1<=o + j/\o + j < fr.2)) :
 (Instr.storeAt t (.pointer (some ⟨b,o,none⟩)) v).run P w= .ok () (w.setCells b o vs):=by
 have hsz:v.cells.size=ti.ks.length:=by rw [<- acX,hv,hl]
 have hst:=run_storeCells_cells (P:=P) b o vs 0 w (fun j hj=>by
  obtain ⟨cs,el,fr,e1,e2,_⟩:=hc j hj;simp [World.cell?,e1,e2]) (fun j hj=>by
  obtain ⟨cs,el,fr,e1,e2,e3⟩:=hc j hj;simp only [World.frozen?,acO,e1];simp only [aeI,ael];by_cases h:fr.1<=o + j
  . exact .inr fun h'=>e3 ⟨h,h'⟩
  . exact .inl h) h1
 rw [acO] at hst;simp only [Instr.storeAt,Instr.sureAddr,acy,acR,ack,storeVar,bL hT,hsz,hv,ne_eq,not_true_eq_false,ado];simpa using hst
end
end Go.Av
namespace Go.Av
open Go.RowKit (Below)
section
variable {w w':World}
theorem tw:∀ (ks:List K) (x:Tl ks) (j:Nat) (G G':Nat->Nat->Prop) (cs cs':Array Value) (o:Nat),(∀ q,q < ks.length->cs'[o + q]? = cs[o + q]?)->(∀ j b,G j b->G' j b)->(∀ j b,G j b->b < w.heap.size->w'.heap[b]? = w.heap[b]?)->eo w ks x j G cs o->eo w' ks x j G' cs' o
 | [],_,_,_,_,_,_,_,_,_,_,_=>trivial
 | k :: ks,x,j,G,G',cs,cs',o,hc,hG,hw,⟨⟨v,h1,h2⟩,h3⟩ =>
   ⟨⟨v,by rw [<- h1]; exact hc 0 (by simp),cK.frame k _ v (G j) (G' j) (hG j) (hw j) h2⟩,tw ks _ (j + 1) G G' cs cs' (o + 1) (fun q hq=>by rw [show o + 1 + q=o + (q + 1) by omega]; exact hc (q + 1) (by simp; omega)) hG hw h3⟩
theorem wh:∀ (ks:List K) (x:Tl ks) (c:Nat) (k:K) (y:T k) (z:Tl ks),setAt ks x c k y=some z->c < ks.length
 | [],_,_,_,_,_,h=>by simp [setAt] at h
 | _ :: _,_,0,_,_,_,_=>by simp
 | k0 :: ks,x,c + 1,k,y,z,h=>by
   simp only [setAt] at h;split at h
   . rename_i z' hz;have:=wh ks x.2 c k y z' hz;simp; omega
   . simp at h
theorem xe:∀ (ks:List K) (x:Tl ks) (c:Nat) (k:K) (y:T k) (z:Tl ks) (j:Nat) (G G':Nat->Nat->Prop) (F:Nat->Prop) (cs cs':Array Value) (o:Nat) (v:Value),setAt ks x c k y=some z->cK w' k y v F->cs'[o + c]? = some v->(∀ q,q < ks.length->q≠c->cs'[o + q]? = cs[o + q]?) ->
 (∀ q b,q≠j + c->G q b->G' q b)->(∀ b,F b->G' (j + c) b)->(∀ q b,q≠j + c->G q b->b < w.heap.size->w'.heap[b]? = w.heap[b]?)->eo w ks x j G cs o->eo w' ks z j G' cs' o
 | [],_,_,_,_,_,_,_,_,_,_,_,_,_,h,_,_,_,_,_,_,_=>by simp [setAt] at h
 | k0 :: ks,x,0,k,y,z,j,G,G',F,cs,cs',o,v,h,hv,hc,hcs,hG,hF,hw,⟨⟨u,h1,h2⟩,h3⟩=>by
   simp only [setAt] at h;split at h
   . rename_i y' hy;cases h;obtain ⟨e,hy⟩:=ct hy;subst e;subst hy;refine ⟨⟨v,hc,cK.frame _ _ _ _ _ hF (fun _ _ _=>rfl) hv⟩,?_⟩;have key:∀ (ks:List K) (x:Tl ks) (q0:Nat) (o:Nat),j < q0->(∀ q,q < ks.length->cs'[o + q]? = cs[o + q]?)->eo w ks x q0 G cs o->eo w' ks x q0 G' cs' o:=by
      intro ks;induction ks with
      | nil=>intro x q0 o _ _ _; trivial
      | cons k1 ks ih => intro x q0 o hq hcs ⟨⟨u,g1,g2⟩,g3⟩;exact ⟨⟨u,by rw [<- g1]; exact hcs 0 (by simp),cK.frame _ _ _ _ _ (fun b hb=>hG q0 b (by omega) hb) (fun b hb=>hw q0 b (by omega) hb) g2⟩,ih x.2 (q0 + 1) (o + 1) (by omega) (fun q hq=>by rw [show o + 1 + q=o + (q + 1) by omega]; exact hcs (q + 1) (by simp; omega)) g3⟩
     exact key ks x.2 (j + 1) (o + 1) (by omega) (fun q hq=>by rw [show o + 1 + q=o + (q + 1) by omega]; exact hcs (q + 1) (by simp; omega) (by omega)) h3
   . simp at h
 | k0 :: ks,x,c + 1,k,y,z,j,G,G',F,cs,cs',o,v,h,hv,hc,hcs,hG,hF,hw,⟨⟨u,h1,h2⟩,h3⟩=>by
   simp only [setAt] at h;split at h
   . rename_i z' hz;cases h;refine ⟨⟨u,by rw [<- h1]; exact hcs 0 (by simp) (by omega),cK.frame _ _ _ _ _ (fun b hb=>hG j b (by omega) hb) (fun b hb=>hw j b (by omega) hb) h2⟩,?_⟩
     exact xe ks x.2 c k y z' (j + 1) G G' F cs cs' (o + 1) v hz hv (by rw [show o + 1 + c=o + (c + 1) by omega]; exact hc) (fun q hq hne=>by rw [show o + 1 + q=o + (q + 1) by omega]; exact hcs (q + 1) (by simp; omega) (by omega))
      (fun q b hne hb=>hG q b (by omega) hb) (fun b hb=>by rw [show j + 1 + c=j + (c + 1) by omega]; exact hF b hb) (fun q b hne hb=>hw q b (by omega) hb) h3
   . simp at h
end
section
variable {P:Program} {cx:Cx P} {Z:Nat->Prop} {g:Gh} {st:St} {a:Act} {w:World} {E:En}
theorem Gy {i i' n q c:Nat} (hq:q < n) (hc:c < n) (h:¬ (i'=i/\q=c)):i' * n + q≠i * n + c:=by
 intro e;rcases aet i' i with hi | hi | hi
 . have:=acC n (show i' + 1<=i from hi);rw [acZ,adV] at this;omega
 . subst hi;exact h ⟨rfl,by omega⟩
 . have:=acC n (show i + 1<=i' from hi);rw [acZ,adV] at this;omega
theorem Rel.W8 (h:Rel cx Z g st a w) {r j s m:Nat} {e:TypeId} {ks:List K} {xs:T (.sl e ks)} (hc:st.cell r j=some ⟨s,m,.own (.sl e ks) xs⟩) {i:Nat} (hi:i < (aE xs).length) {b o l cap:Nat} (hcv:g.cv r j= .slice (some ⟨b,o,none⟩) l cap)
 {F:Nat->Prop} (hF:fQ cx Z g st w F) {k:K} {y:T k} {v:Value} (hv:cK w k y v F) {c:Nat} {z:Tl ks} (hz:setAt ks (fo xs i) c k y=some z) :
 ∃ g',Rel cx Z g' (st.setCell r j ⟨s,m + 1,.own (.sl e ks) (List.set (aE xs) i z)⟩) a (w.setCell ⟨b,o + i * ks.length + c,none⟩ v)/\jE Z w (w.setCell ⟨b,o + i * ks.length + c,none⟩ v) g g' st (st.setCell r j ⟨s,m + 1,.own (.sl e ks) (List.set (aE xs) i z)⟩)/\g'.be=g.be /\
  ∃ cs el fr,w.heap[b]? = some (.cells cs el fr)/\o + i * ks.length + c < cs.size/\(∀ q,q < cs.size->¬ (fr.1<=q/\q < fr.2)):=by
 have hcl:=wh _ _ _ _ _ _ hz;have hown:=dy h hc rfl;rw [hcv] at hown;obtain ⟨a',c0,h1,h2,h3,h4,h5⟩:=hown;simp only [ac4] at h1;obtain ⟨rfl,rfl,rfl⟩:=h1;obtain ⟨b',o',cs,el,fr,g1,g2,g3,g4,g5,G,g6,g7,g8⟩:=h5 _ rfl;simp only [adq,adn] at g1;obtain ⟨rfl,rfl⟩:=g1;have hsz:(w.setCell ⟨b,o + i * ks.length + c,none⟩ v).heap.size=w.heap.size:=by simp [World.setCell]
 have hother:∀ q,q≠b->(w.setCell ⟨b,o + i * ks.length + c,none⟩ v).heap[q]? = w.heap[q]? := fun q hq=>by rw [cM,if_neg (fun e=>hq e.symm)]
 have hlt:o + i * ks.length + c < cs.size:=by have:=acC ks.length (show i + 1<=cap by omega);rw [acZ,adV] at this;omega
 have hlen:(aE (e:=e) (ks:=ks) (List.set (aE xs) i z)).length=(aE xs).length:=aeO ..
 have hFb:∀ q,F q->q≠b:=fun q hq e=>hF.fp q hq r j (by rw [e]; exact g2)
 have:=h.change hc (c':=⟨s,m + 1,.own (.sl e ks) (List.set (aE xs) i z)⟩) (w':=w.setCell ⟨b,o + i * ks.length + c,none⟩ v) (v':=g.cv r j) (F':=fun q=>g.fp r j q∨F q) rfl rfl rfl (by rw [hsz]; exact acb _) (acb _) (adA _)
  (fun _=>rfl) (fun _ e' ks' xs' hx=>by simp only [RV.own.injEq,K.sl.injEq] at hx;obtain ⟨⟨rfl,rfl⟩,hx⟩:=hx;have hx:=aeh hx;subst hx;exact ⟨_,rfl,hlen⟩)
  (fun q _ hq _=>hother q fun e=>hq (by rw [e]; exact g2))
  (fun q hq=>by
    rcases hq with hq | hq
    . obtain ⟨k1,k2,k3,_⟩:=h.fp r j q hq;exact ⟨by rw [hsz]; exact k1,k2,k3,fun r' j' hh=>h.disj _ _ _ _ _ hh hq,fun r' R' hR' hx he=>(h.box r' R' hR' hx).2.2.1 r j (by rw [he]; exact hq),_,_,rfl⟩
    . exact ⟨by rw [hsz]; exact hF.lt q hq,hF.own q hq,hF.z q hq,fun r' j' hh=>absurd hh (hF.fp q hq r' j'),fun r' R' hR' hx=>hF.box q hq r' R' hR' hx,_,_,rfl⟩)
  (fun R' hR' hx=>by
    obtain ⟨_,_,b3,_,cs1,el1,fr1,b5,_,_,b8⟩:=h.box r R' hR' hx;refine ⟨cs1,el1,fr1,cs1,b5,?_,rfl,fun q hq => ?_⟩
    . rw [hother _ fun e=>b3 r j (by rw [e]; exact g2)]; exact b5
    . rw [b8 q hq];by_cases e:q=j
      . subst e; rw [if_pos rfl]
      . rw [if_neg e])
  (fun kp=>by
    show cK _ (.sl e ks) (List.set (aE xs) i z) (g.cv r j) _;rw [hcv];refine ⟨_,cap,by rw [hlen],by rw [hlen]; exact h2,by rw [hlen]; exact h3,h4,fun a'' ha'' => ?_⟩;simp only [ab6] at ha'';subst ha'';refine ⟨b,o,cs.setIfInBounds (o + i * ks.length + c) v,el,fr,rfl,.inl g2,by rw [cM,if_pos rfl,g3]; rfl,fun q hq=>g4 q (by simpa using hq),by simpa using g5,fun i' j' q=>if i'=i/\j'=c then F q else G i' j' q,fun i' j' q hq => ?_,fun i1 j1 i2 j2 q hq1 hq2 => ?_,fun i' x hx => ?_⟩
    . dsimp only at hq;by_cases e:i'=i/\j'=c
      . rw [if_pos e] at hq; exact ⟨.inr hq,hFb q hq⟩
      . rw [if_neg e] at hq; exact ⟨.inl (g6 i' j' q hq).1,(g6 i' j' q hq).2⟩
    . dsimp only at hq1 hq2;by_cases e1:i1=i/\j1=c
      . rw [if_pos e1] at hq1;by_cases e2:i2=i/\j2=c
        . exact ⟨e1.1.trans e2.1.symm,e1.2.trans e2.2.symm⟩
        . rw [if_neg e2] at hq2;exact absurd (g6 i2 j2 q hq2).1 (hF.fp q hq1 r j)
      . rw [if_neg e1] at hq1;by_cases e2:i2=i/\j2=c
        . rw [if_pos e2] at hq2;exact absurd (g6 i1 j1 q hq1).1 (hF.fp q hq2 r j)
        . rw [if_neg e2] at hq2;exact g7 i1 j1 i2 j2 q hq1 hq2
    . have hx':(List.set (aE xs) i z)[i']? = some x:=hx;rw [aeu] at hx';have hwf:∀ (i' q p:Nat),G i' q p->p < w.heap.size->(w.setCell ⟨b,o + i * ks.length + c,none⟩ v).heap[p]? = w.heap[p]? := fun i' q p hp _=>hother p (g6 i' q p hp).2
      by_cases ei:i=i'
      . subst ei;rw [if_pos rfl,if_pos hi] at hx';simp only [ab6] at hx';subst hx';refine xe ks (fo xs i) c k y z 0 (G i) _ F cs _ _ v hz (cK.frame _ _ _ _ _ (fun _ h=>h) (fun p hp _=>hother p (hFb p hp)) hv) ?_ (fun q hq hne => ?_) (fun q p hne hp => ?_) (fun p hp => ?_) (fun q p _ hp=>hwf i q p hp) (g8 i _ (jv xs hi))
        . rw [ac3,if_pos rfl,if_pos hlt]
        . rw [ac3,if_neg (by omega)]
        . show (if i=i/\q=c then F p else G i q p);rw [if_neg (fun e=>hne (by omega))];exact hp
        . show (if i=i/\0 + c=c then F p else G i (0 + c) p);rw [if_pos ⟨rfl,by omega⟩];exact hp
      . rw [if_neg ei] at hx';refine tw ks x 0 (G i') _ cs _ _ (fun q hq => ?_) (fun q p hp => ?_) (hwf i') (g8 i' x hx')
        . have:=Gy (i:=i) (i':=i') hq hcl (fun e=>ei e.1.symm);rw [ac3,if_neg (by omega)]
        . show (if i'=i/\q=c then F p else G i' q p);rw [if_neg (fun e=>ei e.1.symm)];exact hp)
 exact ⟨_,this.1,this.2,rfl,cs,el,fr,g3,hlt,fun q hq=>g4 q (Nat.lt_add_right _ hq)⟩
theorem gU {k:K} {x:T k} {v:Value} {F:Nat->Prop} (hk:kQ k=false) (h:RO Z w k x v):cK w k x v F:=by
 cases k with
 | sl e ks=>simp [kQ] at hk
 | _=>exact h
theorem De {w:World} {b o:Nat} {v:Value} (h:w.cell? ⟨b,o,none⟩=some v):w.setCell ⟨b,o,none⟩ v=w:=by
 have e:(w.setCell ⟨b,o,none⟩ v).heap=w.heap:=by
  apply adK;intro i;rw [cM];split
  . rename_i e;subst e;simp only [World.cell?,adi,acU,ado] at h;cases ho:w.heap[b]? with
    | none=>rfl
    | some x =>
      rw [ho] at h;cases x with
      | cells cs el fr =>
        simp only [acG,ab6,Obj.cells.injEq,adn];have h:cs[o]? = some v:=h;have ho:=(acx.1 h);apply adK;intro k;rw [ac3];split
        . rename_i e; subst e; rw [if_pos ho.1,h]
        . rfl
      | _=>rfl
  . rfl
 show ({ w with heap:=(w.setCell ⟨b,o,none⟩ v).heap }:World)=w;rw [e]
def l7 (w:World) (r j s m0 b p:Nat) (c:Nat) (l:List AV) (vs:List Value):Prop:=∀ (q:Nat) (a:AV) (v:Value),l[q]? = some a->vs[q]? = some v->oS r j s m0 (c + q) a=true->w.cell? ⟨b,p + c + q,none⟩=some v
theorem l7.tail {w:World} {r j s m0 b p c:Nat} {a:AV} {l:List AV} {v:Value} {vs:List Value} (h:l7 w r j s m0 b p c (a :: l) (v :: vs)):l7 w r j s m0 b p (c + 1) l vs:=fun q a' v' h1 h2 h3=>by have:=h (q + 1) a' v' (by simpa using h1) (by simpa using h2) (by rw [show c + (q + 1)=c + 1 + q by omega]; exact h3);rw [show p + (c + 1) + q=p + c + (q + 1) by omega];exact this
theorem l7.put {w:World} {r j s m0 b p c:Nat} {l:List AV} {vs:List Value} {v:Value} (h:l7 w r j s m0 b p (c + 1) l vs):l7 (w.setCell ⟨b,p + c,none⟩ v) r j s m0 b p (c + 1) l vs:=fun q a' v' h1 h2 h3=>by rw [World.cell?_setCell_other _ _ _ _ (by intro e; simp at e; omega)];exact h q a' v' h1 h2 h3
theorem uP {r j s i m0:Nat} {b p:Nat}:∀ (ks':List K) (l:List AV) (vs:List Value) (st:St) (g:Gh) (w:World) (c:Nat) (st':St),Rel cx Z g st a w->ba Z g st w (.pel r j s i c) (.pointer (some ⟨b,p + c,none⟩))->aN Z g st w l vs->l7 w r j s m0 b p c l vs->st.p7 r j s i m0 c ks' l=some st' ->
 ∃ g',Rel cx Z g' st' a (w.setCells b (p + c) vs)/\st'.tm=st.tm/\(∀ q,q < vs.length->∃ cs el fr,w.heap[b]? = some (.cells cs el fr)/\p + c + q < cs.size/\¬ (fr.1<=p + c + q/\p + c + q < fr.2))
 | [],[],[],st,g,w,c,st',h,hp,hr,hso,ht=>by simp only [St.p7,ab6] at ht;subst ht;exact ⟨g,h,rfl,fun q hq=>by simp at hq⟩
 | [],[],_ :: _,st,g,w,c,st',h,hp,hr,_,ht=>hr.elim
 | k :: ks',av :: l,[],st,g,w,c,st',h,hp,hr,_,ht=>hr.elim
 | k :: ks',av :: l,v :: vs,st,g,w,c,st',h,hp,hr,hso,ht=>by
   have put:∀ (st1:St) (g1:Gh) (x:T k) (F:Nat->Prop),Rel cx Z g1 st1 a w->st1.tm=st.tm->fQ cx Z g1 st1 w F->cK w k x v F->ba Z g1 st1 w (.pel r j s i c) (.pointer (some ⟨b,p + c,none⟩))->aN Z g1 st1 w l vs ->
    (match st1.cell r j with
      | some ⟨s',m,.own (.sl e ks) xs⟩=>bif Nat.beq s' s then (match setAt ks (fo xs i) c k x with
        | some y=>(st1.setCell r j ⟨s',m + 1,.own (.sl e ks) (List.set (aE xs) i y)⟩).p7 r j s i m0 (c + 1) ks' l
        | none=>none) else none
      | _=>none)=some st' ->
    ∃ g',Rel cx Z g' st' a (w.setCells b (p + c) (v :: vs))/\st'.tm=st.tm/\(∀ q,q < (v :: vs).length->∃ cs el fr,w.heap[b]? = some (.cells cs el fr)/\p + c + q < cs.size/\¬ (fr.1<=p + c + q/\p + c + q < fr.2)):=by
    intro st1 g1 x F h1 htm hF hv hp hl hst;split at hst
    . rename_i s' m e ks xs hc;cases hs:Nat.beq s' s with
      | false=>rw [hs] at hst; simp at hst
      | true =>
        rw [hs] at hst;simp only [ab9] at hst;have es:=beq_eq hs;subst es;split at hst
        . rename_i y hy;obtain ⟨c0,k1,k2,k3⟩:=hp;rw [hc] at k1;simp only [ab6] at k1;subst k1;obtain ⟨e',ks2,xs2,f1,f2,b2,o2,l2,cap2,f3,f4⟩:=k3 rfl;simp only [RV.own.injEq,K.sl.injEq] at f1;obtain ⟨⟨rfl,rfl⟩,f1⟩:=f1;have f1:=aeh f1;subst f1;simp only [Value.pointer.injEq,ab6,adq,adn] at f4;obtain ⟨rfl,f4⟩:=f4;obtain ⟨g2,m1,m2,m3,cs,el,fr,n1,n2,n3⟩:=h1.W8 hc f2 f3 hF hv hy;rw [<- f4] at m1 m2 n2;have hpel:ba Z g1 st1 w (.pel r j s' i (c + 1)) (.pointer (some ⟨b,p + (c + 1),none⟩)) :=
           ⟨_,hc,acb _,fun _=>⟨e,ks,xs,rfl,f2,b,o2,l2,cap2,f3,by rw [show p + (c + 1)=o2 + i * ks.length + (c + 1) by omega]⟩⟩
          obtain ⟨g',q1,q2,q3⟩:=uP ks' l vs _ g2 _ (c + 1) st' m1 (ba.bP m2.bP _ _ hpel) (aN.bP m2.bP _ _ hl) hso.tail.put hst;refine ⟨g',?_,q2.trans (dn.trans htm),fun q hq => ?_⟩
          . rw [show p + (c + 1)=p + c + 1 by omega] at q1;exact q1
          . cases q with
            | zero=>exact ⟨cs,el,fr,n1,n2,n3 _ n2⟩
            | succ q =>
              obtain ⟨cs',el',fr',t1,t2,t3⟩:=q3 q (by simpa using hq);rw [cM,if_pos rfl,n1] at t1;simp only [acG,ab6,Obj.cells.injEq] at t1;obtain ⟨rfl,rfl,rfl⟩:=t1;refine ⟨cs,el,fr,n1,?_,?_⟩
              . have:=t2; simp at this; omega
              . rw [show p + c + (q + 1)=p + (c + 1) + q by omega]; exact t3
        . simp at hst
    . simp at hst
   have scalar:kQ k=false->(match (match st.bR k av with | some x=>bif av.bC then some (st,x) else none | none=>none) with
    | some (st1,x)=>(match st1.cell r j with
      | some ⟨s',m,.own (.sl e ks) xs⟩=>bif Nat.beq s' s then (match setAt ks (fo xs i) c k x with
        | some y=>(st1.setCell r j ⟨s',m + 1,.own (.sl e ks) (List.set (aE xs) i y)⟩).p7 r j s i m0 (c + 1) ks' l
        | none=>none) else none
      | _=>none)
    | none=>none)=some st'->∃ g',Rel cx Z g' st' a (w.setCells b (p + c) (v :: vs))/\st'.tm=st.tm/\(∀ q,q < (v :: vs).length->∃ cs el fr,w.heap[b]? = some (.cells cs el fr)/\p + c + q < cs.size/\¬ (fr.1<=p + c + q/\p + c + q < fr.2)):=by
    intro hk hh;cases hra:st.bR k av with
    | none=>rw [hra] at hh; simp at hh
    | some x =>
      rw [hra] at hh;cases hf:av.bC with
      | false=>rw [hf] at hh; simp at hh
      | true => rw [hf] at hh;simp only [ab9] at hh;exact put st g x (fun _=>False) h rfl (fQ.none _ _ _ _ _) (gU hk (bT h hr.1 hf hra)) hp hr.2 hh
   unfold St.p7 at ht;cases hsf:st.BL r j s m0 c av with
   | true =>
     rw [hsf] at ht;simp only [ab9] at ht;unfold St.BL at hsf;simp only [ab8] at hsf;obtain ⟨hsf1,hsf2⟩:=hsf;have hv:=hso 0 av v rfl rfl hsf1;rw [acO] at hv;obtain ⟨c0,k1,k2,k3⟩:=hp;have es:c0.s=s:=by
      rw [k1] at hsf2;split at hsf2
      . rename_i s' m' e' ks2 x2 hc0;cases hc0;exact beq_eq hsf2
      . simp at hsf2
     obtain ⟨e,ks,xs,f1,f2,b2,o2,l2,cap2,f3,f4⟩:=k3 es;simp only [Value.pointer.injEq,ab6,adq,adn] at f4;obtain ⟨rfl,f4⟩:=f4;have hp':ba Z g st w (.pel r j s i (c + 1)) (.pointer (some ⟨b,p + (c + 1),none⟩)) :=
      ⟨c0,k1,k2,fun _=>⟨e,ks,xs,f1,f2,b,o2,l2,cap2,f3,by rw [show p + (c + 1)=o2 + i * ks.length + (c + 1) by omega]⟩⟩
     obtain ⟨g',q1,q2,q3⟩:=uP ks' l vs st g w (c + 1) st' h hp' hr.2 hso.tail ht;refine ⟨g',?_,q2,fun q hq => ?_⟩
     . show Rel cx Z g' st' a ((w.setCell ⟨b,p + c,none⟩ v).setCells b (p + c + 1) vs);rw [De hv];exact q1
     . cases q with
       | zero => have hown:=h.cell r j c0 k1;rw [f1] at hown;obtain ⟨a0,cp,g1,_,_,_,g2⟩:=(show cK w (.sl e ks) xs (g.cv r j) (g.fp r j) from hown);rw [f3] at g1;simp only [ac4] at g1;obtain ⟨b3,o3,cs,el,fr,n1,_,n2,n3,_⟩:=g2 _ g1.1.symm;simp only [adq,adn] at n1;obtain ⟨rfl,_⟩:=n1;simp only [World.cell?,adi,acU,ado,n2] at hv;have hlt:=(acx.1 hv).1;exact ⟨cs,el,fr,n2,hlt,n3 _ (by omega)⟩
       | succ q => obtain ⟨cs',el',fr',t1,t2,t3⟩:=q3 q (by simpa using hq);exact ⟨cs',el',fr',t1,by omega,by rw [show p + c + (q + 1)=p + (c + 1) + q by omega]; exact t3⟩
   | false =>
   rw [hsf] at ht;simp only [aco] at ht;cases k with
   | sl e ks1 =>
     simp only at ht;cases htk:st.dF (.sl e ks1) av with
     | none=>rw [htk] at ht; simp at ht
     | some q => obtain ⟨st1,x⟩:=q;rw [htk] at ht;simp only at ht;obtain ⟨g1,F,k1,k2,k3,k4,k5,k6,k7⟩:=eP h hr.1 htk;exact put st1 g1 x F k1 k2.tm k4 k3 (ba.bP k2.bP _ _ hp) (aN.bP k2.bP _ _ hr.2) ht
   | int _=>exact scalar rfl ht
   | bool=>exact scalar rfl ht
   | str=>exact scalar rfl ht
 | [],_ :: _,_,st,g,w,c,st',h,hp,hr,_,ht=>by simp [St.p7] at ht
 | _ :: _,[],_,st,g,w,c,st',h,hp,hr,_,ht=>by simp [St.p7] at ht
end
end Go.Av
namespace Go.Av
def ji (st st':St):Prop:=∀ r j c,st.cell r j=some c->∃ c',st'.cell r j=some c'/\c.s<=c'.s/\c.m<=c'.m/\(c'.s=c.s->c'.m=c.m->c'=c)
theorem ji.refl (st:St):ji st st:=fun r j c h=>⟨c,h,acb _,acb _,fun _ _=>rfl⟩
theorem ji.trans {a b c:St} (h1:ji a b) (h2:ji b c):ji a c:=fun r j x hx=>by obtain ⟨y,hy,s1,m1,e1⟩:=h1 r j x hx;obtain ⟨z,hz,s2,m2,e2⟩:=h2 r j y hy;exact ⟨z,hz,acv s1 s2,acv m1 m2,fun es em=>by have ey:=e1 (by omega) (by omega);subst ey;exact e2 es em⟩
theorem ji.set {st:St} {r j:Nat} {c c0:RC} (h0:st.cell r j=some c0) (hs:c0.s<=c.s) (hm:c0.m < c.m):ji st (st.setCell r j c):=fun r' j' x hx=>by
 rw [cr];by_cases h:r=r'/\j=j'
 . obtain ⟨rfl,rfl⟩:=h;rw [if_pos ⟨rfl,rfl⟩,hx];rw [h0] at hx;cases hx;exact ⟨c,rfl,hs,aeC hm,fun _ e=>by omega⟩
 . rw [if_neg h];exact ⟨x,hx,acb _,acb _,fun _ _=>rfl⟩
theorem vi {α:Type} {c:Bool} {x:Option α} {y:α} (h:(bif c then x else none)=some y):c=true/\x=some y:=by cases c <;> simp_all
theorem K4 {st st':St} {a:AV} {p:(k:K)×T k} (h:st.take a=some (st',p)):ji st st':=by
 unfold St.take at h;split at h
 . split at h
   . rename_i hc;obtain ⟨_,h⟩:=vi h;simp only [ab6,acI] at h;obtain ⟨rfl,_⟩:=h;exact ji.set hc (aer _) (adA _)
   . simp at h
 . split at h
   . rename_i hc;obtain ⟨_,h⟩:=vi h;simp only [ab6,acI] at h;obtain ⟨rfl,_⟩:=h;exact ji.set hc (aer _) (adA _)
   . simp at h
 . simp at h
theorem DB {st st':St} {k:K} {a:AV} {x:T k} (h:st.dF k a=some (st',x)):ji st st':=by
 unfold St.dF at h;split at h
 . simp only [ab6,acI] at h;obtain ⟨rfl,_⟩:=h;exact ji.refl _
 . split at h
   . rename_i st1 k' y hy;split at h
     . simp only [ab6,acI] at h;obtain ⟨rfl,_⟩:=h;exact K4 hy
     . simp at h
   . simp at h
mutual
theorem yC:∀ k:K,K.same k k=true
 | .int a=>by simp [K.same]
 | .bool=>rfl
 | .str=>rfl
 | .sl e ks=>by simp [K.same,uH ks]
theorem uH:∀ ks:List K,K.jj ks ks=true
 | []=>rfl
 | k :: ks=>by simp [K.jj,yC k,uH ks]
end
theorem Ch (k:K) (x:T k):gK k k x=some x:=by
 unfold gK;split
 . rfl
 . rename_i h; rw [yC] at h; simp at h
theorem wg:∀ (ks:List K) (z:Tl ks) (c:Nat) (k:K) (x:T k),cellAt ks z c=some ⟨k,x⟩->setAt ks z c k x=some z
 | [],_,_,_,_,h=>by simp [cellAt] at h
 | k :: ks,z,0,k',x,h=>by simp only [cellAt,ab6,Sigma.mk.injEq] at h;obtain ⟨rfl,h⟩:=h;have h:=aeh h;subst h;simp only [setAt,Ch];rfl
 | k :: ks,z,c + 1,k',x,h=>by simp only [setAt,wg ks z.2 c k' x h];rfl
theorem wj:∀ (ks:List K) (z y:Tl ks) (c q:Nat) (k:K) (x:T k),setAt ks z c k x=some y->q≠c->cellAt ks y q=cellAt ks z q
 | [],_,_,_,_,_,_,h,_=>by simp [setAt] at h
 | k0 :: ks,z,y,0,q,k,x,h,hq=>by
   simp only [setAt] at h;split at h
   . cases h;cases q with
     | zero=>exact absurd rfl hq
     | succ q=>rfl
   . simp at h
 | k0 :: ks,z,y,c + 1,q,k,x,h,hq=>by
   simp only [setAt] at h;split at h
   . rename_i z' hz;cases h;cases q with
     | zero=>rfl
     | succ q=>exact wj ks z.2 z' c q k x hz (by omega)
   . simp at h
def LA (ks0:List K):Tl ks0->Nat->(ks:List K)->Tl ks->Option (Tl ks0)
 | z,_,[],_=>some z
 | z,c,k :: ks,y=>match setAt ks0 z c k y.1 with | some z'=>LA ks0 z' (c + 1) ks y.2 | none=>none
theorem Cl {k0:K} {ks0:List K}:∀ (ks:List K) (z z':Tl (k0 :: ks0)) (c:Nat) (y:Tl ks),LA (k0 :: ks0) z (c + 1) ks y=some z'->∃ u,z'=(z.1,u)/\LA ks0 z.2 c ks y=some u
 | [],z,z',c,y,h=>by simp only [LA,ab6] at h;subst h;exact ⟨z.2,rfl,rfl⟩
 | k :: ks,z,z',c,y,h=>by
   simp only [LA,setAt] at h ⊢;cases hs:setAt ks0 z.2 c k y.1 with
   | none=>rw [hs] at h; simp at h
   | some u => rw [hs] at h;exact Cl ks (z.1,u) z' (c + 1) y.2 h
theorem BX:∀ (ks:List K) (z y z':Tl ks),LA ks z 0 ks y=some z'->z'=y
 | [],_,_,_,_=>rfl
 | k :: ks,z,y,z',h=>by simp only [LA,setAt,Ch] at h;obtain ⟨u,e1,e2⟩:=Cl ks (y.1,z.2) z' 0 y.2 h;have:=BX ks z.2 y.2 u e2;subst this;exact e1
theorem A5 {e:TypeId} {ks:List K} (xs:T (.sl e ks)) (i:Nat) (y:Tl ks):(aE (e:=e) (List.set (aE xs) i y)).length=(aE xs).length:=aeO
theorem Cs {e:TypeId} {ks:List K} (xs:T (.sl e ks)) {i:Nat} (y:Tl ks) (h:i < (aE xs).length):fo (e:=e) (List.set (aE xs) i y) i=y:=by show (List.set (aE xs) i y).getD i _=y;simp [List.getD,h]
theorem Ji {st:St} {r j:Nat} {c c':RC} (h:st.cell r j=some c):(st.setCell r j c').cell r j=some c':=by rw [cr,if_pos ⟨rfl,rfl⟩,h]; rfl
section
variable {r j s i m0:Nat} {e:TypeId} {ks0:List K} {z0:Tl ks0}
theorem nR:∀ (ks:List K) (l:List AV) (c:Nat) (st stf:St) (y:Tl ks) (xc:T (.sl e ks0)) (m:Nat),st.cell r j=some ⟨s,m,.own (.sl e ks0) xc⟩->i < (aE xc).length->(∀ q,c<=q->cellAt ks0 (fo xc i) q=cellAt ks0 z0 q) ->
 st.sN r j s i m0 ks0 z0 c ks l=some (stf,y)->st.p7 r j s i m0 c ks l=some stf/\∃ (mf:Nat) (z:Tl ks0),LA ks0 (fo xc i) c ks y=some z/\stf.cell r j=some ⟨s,mf,.own (.sl e ks0) (List.set (aE xc) i z)⟩
 | [],[],c,st,stf,y,xc,m,hc,hi,hq,h=>by
   simp only [St.sN,ab6,acI] at h;obtain ⟨rfl,_⟩:=h;refine ⟨rfl,m,fo xc i,rfl,?_⟩;rw [hc];have:List.set (aE xc) i (fo xc i)=aE xc:=by
    apply aeV;intro n;rw [aeu];split
    . rename_i e; subst e;simp [fo,List.getD,hi]
    . rfl
   rw [this];rfl
 | [],_ :: _,_,_,_,_,_,_,_,_,_,h=>by simp [St.sN] at h
 | _ :: _,[],_,_,_,_,_,_,_,_,_,h=>by simp [St.sN] at h
 | k :: ks,a :: l,c,st,stf,y,xc,m,hc,hi,hq,h=>by
   unfold St.sN at h;unfold St.p7;cases hsf:st.BL r j s m0 c a with
   | true =>
     rw [hsf] at h;simp only [ab9] at h ⊢;split at h
     . rename_i z hz;split at h
       . rename_i x q hx hrec;simp only [ab6,acI] at h;obtain ⟨rfl,rfl⟩:=h;obtain ⟨h1,mf,z1,h2,h3⟩:=nR ks l (c + 1) st q.1 q.2 xc m hc hi (fun q hq'=>hq q (by omega)) hrec;refine ⟨h1,mf,z1,?_,h3⟩;obtain ⟨ek,hx⟩:=ct hx;obtain ⟨k',z⟩:=z;simp only at ek hx;subst ek;subst hx;have:=hq c (acb _);rw [hz] at this;simp only [LA,wg ks0 (fo xc i) c k' z this];exact h2
       . simp at h
     . simp at h
   | false =>
     rw [hsf] at h;simp only [aco] at h ⊢;split at h;rotate_left
     . simp at h
     . rename_i st1 x hx;have hver:ji st st1:=by
        split at hx
        . exact DB hx
        . split at hx
          . obtain ⟨_,hx⟩:=vi hx;simp only [ab6,acI] at hx;obtain ⟨rfl,_⟩:=hx;exact ji.refl _
          . simp at hx
       obtain ⟨c1,hc1,v1,v2,v3⟩:=hver r j _ hc;split at h
       . rename_i s' m' e' ks' xs hcc;rw [hc1] at hcc;cases hcc;obtain ⟨hb,h⟩:=vi h;simp only [ab8] at hb;have es:=beq_eq hb.1;have em:=beq_eq hb.2;have em':st.HA r j=m:=by unfold St.HA; rw [hc]
         have:=v3 es (em.trans em');simp only [RC.mk.injEq,RV.own.injEq,K.sl.injEq] at this;obtain ⟨_,_,⟨he,hk⟩,hx⟩:=this;have he:=he.symm;have hk:=hk.symm;subst he;subst hk;have hx:=aeh hx;subst hx;split at h
         . rename_i y1 hy1;split at h
           . rename_i q hrec;simp only [ab6,acI] at h;obtain ⟨rfl,rfl⟩:=h;have es2:=es.symm;subst es2;obtain ⟨h1,mf,z1,h2,h3⟩:=nR ks l (c + 1) _ q.1 q.2 (List.set (aE xs) i y1) _ (Ji hc1) (by rw [A5]; exact hi) (fun q hq'=>by
              rw [Cs xs y1 hi,wj ks0 _ _ c q k x hy1 (by omega)];exact hq q (by omega)) hrec
             refine ⟨?_,mf,z1,?_,?_⟩
             . rw [hb.1];exact h1
             . rw [Cs xs y1 hi] at h2;simp only [LA,hy1];exact h2
             . rw [h3];have:List.set (aE (e:=e) (List.set (aE xs) i y1)) i z1=List.set (aE xs) i z1:=List.set_set ..
               rw [this]
           . simp at h
         . simp at h
       . simp at h
end
theorem Cq {α:Type}:∀ (l:List (Nat×α)) (n:Nat) (x:α),look l n=some x->QR l n x=l
 | [],n,x,h=>by simp [look] at h
 | (k,y) :: r,n,x,h=>by
   unfold QR;rw [aW] at h;cases hb:Nat.beq k n with
   | true => have e:=beq_eq hb;subst e;rw [if_pos rfl] at h;cases h;rfl
   | false =>
     have hne:k≠n:=fun e=>by subst e; simp at hb
     rw [if_neg hne] at h;simp only [aco];rw [Cq r n x h]
theorem sH {α:Type}:∀ (l:List α) (j:Nat) (x:α),l[j]? = some x->jx l j x=l
 | [],j,x,h=>by simp at h
 | y :: r,0,x,h=>by simp at h; subst h; rfl
 | y :: r,j + 1,x,h=>by simp only [jx]; rw [sH r j x (by simpa using h)]
theorem BG {st:St} {r j:Nat} {c:RC} (h:st.cell r j=some c):st.setCell r j c=st:=by
 unfold St.setCell;unfold St.cell at h;cases hl:look st.rt r with
 | none=>rfl
 | some R => rw [hl] at h;simp only at h ⊢;rw [sH _ _ _ h,Cq _ _ _ hl]
theorem Jk {st st':St} {r j s i m:Nat} {e:TypeId} {ks0 ks:List K} {xs:T (.sl e ks0)} {l:List AV} (hc:st.cell r j=some ⟨s,m,.own (.sl e ks0) xs⟩) (hi:i < (aE xs).length) (h:st.KI r j s i ks l=some st'):st.p7 r j s i (st.HA r j) 0 ks l=some st':=by
 unfold St.KI at h;rw [hc] at h;simp only at h;have em:st.HA r j=m:=by unfold St.HA; rw [hc]
 rw [em];split at h
 . rename_i q hq;obtain ⟨h1,mf,z,h2,h3⟩:=nR ks l 0 st q.1 q.2 xs m hc hi (fun _ _=>rfl) hq;split at h
   . rename_i y c1 hy hc1;obtain ⟨_,h⟩:=vi h;simp only [ab6] at h;obtain ⟨ek,hy⟩:=tH hy;subst ek;subst hy;rw [h3] at hc1;cases hc1;rw [BX _ _ _ _ h2] at h3;rw [BG h3] at h;rw [<- h];exact h1
   . simp at h
 . simp at h
end Go.Av
