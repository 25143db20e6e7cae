/- FnExactAgree, a part. -/
import Derived.Test.YtcmhjdkpbgncfaaGreatDoorFw1
import Derived.Orders
import Derived.Conc.MuLone
namespace Go.Av
open Go.RowKit (Below)
section
variable{st st':St}{E:En}
theorem Ext.jc(x:Ext st st'){box:Bool}{ks:List K}{a:AV}{y:Tl ks}(h:st.jc box ks a=some y):st'.jc box ks a=some y:=by
 cases a with
 | rp dep e ks' xs i c =>
   cases dep with
   | none=>cases c <;> exact h
   | some _=>simp[St.jc]at h
 | ptr r j =>
   cases j with
   | succ j=>simp[St.jc]at h
   | zero =>
     simp only[St.jc]at h ⊢;cases box with
     | false=>simp at h
     | true =>
       simp only[oT]at h ⊢;cases hl:look st.rt r with
       | none=>rw[hl]at h; simp at h
       | some R =>
         rw[hl]at h;rw[x.rt r R hl];simp only at h ⊢;cases hb:R.box&&R.cells.all nh with
         | false=>rw[hb]at h; simp at h
         | true=>rw[hb]at h; simp only[oT]at h ⊢; exact x.readAll h
 | _=>simp[St.jc]at h
theorem Ext.bC(x:Ext st st'){box:Bool}:∀ {cs:List Qy} {l:List (Bool×List AV)} {y:OH cs},st.bC box cs l=some y->st'.bC box cs l=some y
 | [],[],_,h=>h
 | .c gg ks::cs,(gg',l)::r,y,h=>by
   unfold St.bC at h ⊢;cases hb:bS gg gg'&&l.all AV.bE with
   | false=>simp[hb]at h
   | true =>
     simp only[hb,oT]at h ⊢;split at h
     . rename_i z zs hz hzs;rw[x.readAll hz,Ext.bC x hzs];exact h
     . simp at h
 | .p ks::cs,(false,[a])::r,y,h=>by
   unfold St.bC at h ⊢;split at h
   . rename_i z zs hz hzs;rw[x.jc hz,Ext.bC x hzs];exact h
   . simp at h
 | .p ks::cs,(true,_)::r,y,h=>by simp[St.bC]at h
 | .p ks::cs,(false,[])::r,y,h=>by simp[St.bC]at h
 | .p ks::cs,(false,_::_::_)::r,y,h=>by simp[St.bC]at h
 | [],_::_,_,h=>by simp[St.bC]at h
 | .c _ _::_,[],_,h=>by simp[St.bC]at h
 | .p _::_,[],_,h=>by simp[St.bC]at h
theorem Ext.args(x:Ext st st'){bE:Bool}:∀ {ps:List PK} {l:List TV} {y:PT ps},st.args bE ps l=some y->st'.args bE ps l=some y
 | [],[],_,h=>h
 | .c gg ks::ps,tv::r,y,h=>by
   unfold St.args at h ⊢;cases hl:tv.cH with
   | none=>simp[hl]at h
   | some p =>
     obtain⟨gg',l⟩:=p;simp only[hl]at h ⊢;cases hb:bS gg gg'&&(!bE||l.all AV.bE)with
     | false=>simp[hb]at h
     | true =>
       simp only[hb,oT]at h ⊢;split at h
       . rename_i z zs hz hzs;rw[x.readAll hz,Ext.args x hzs];exact h
       . simp at h
 | .fn f cs::ps,tv::r,y,h=>by
   cases tv with
   | fn f' caps =>
     unfold St.args at h ⊢;cases hb:Nat.beq f f' with
     | false=>simp[hb]at h
     | true =>
       simp only[hb,oT]at h ⊢;split at h
       . rename_i z zs hz hzs;rw[x.bC hz,Ext.args x hzs];exact h
       . simp at h
   | _=>simp[St.args]at h
 | .pt ks::ps,.v a::r,y,h=>by
   unfold St.args at h ⊢;split at h
   . rename_i z zs hz hzs;rw[x.jc hz,Ext.args x hzs];exact h
   . simp at h
 | .nil::ps,tv::r,y,h=>by
   have h:(bif eW tv then st.args bE ps r else (none:Option (PT ps)))=some (y:PT ps):=h;show(bif eW tv then st'.args bE ps r else (none:Option (PT ps)))=some (y:PT ps);cases hb:eW tv with
   | false=>rw[hb]at h; simp at h
   | true=>rw[hb]at h; exact Ext.args x h
 | .nil::ps,[],y,h=>by simp[St.args]at h
 | .pt ks::ps,.may _ _ _ _ _::r,y,h=>by simp[St.args]at h
 | .pt ks::ps,.agg _::r,y,h=>by simp[St.args]at h
 | .pt ks::ps,.tup _::r,y,h=>by simp[St.args]at h
 | .pt ks::ps,.fn _ _::r,y,h=>by simp[St.args]at h
 | .pt _::_,[],_,h=>by simp[St.args]at h
 | .io _ _::_,_::_,_,h=>by simp[St.args]at h
 | .mv _::_,_::_,_,h=>by simp[St.args]at h
 | [],_::_,_,h=>by simp[St.args]at h
 | .c _ _::_,[],_,h=>by simp[St.args]at h
 | .fn _ _::_,[],_,h=>by simp[St.args]at h
 | .io _ _::_,[],_,h=>by simp[St.args]at h
 | .mv _::_,[],_,h=>by simp[St.args]at h
theorem Ext.side(x:Ext st st'){c o:Operand}{want:Bool}{y:(k:K)×T k}(h:st.side c want o=some y):st'.side c want o=some y:=by
 unfold St.side at h ⊢;cases hg:st.get o with
 | none=>simp[hg]at h
 | some tv =>
   rw[hg]at h;rw[x.get hg];split at h
   . rename_i av hh;cases hf:av.bE with
     | false=>simp[hf]at h
     | true=>simp only[hf,oT]at h ⊢; exact x.read h
   . rename_i t w' y' av t' hh;cases hb:Nat.beq t t'&&bS w' want&&av.bE with
     | false=>simp[hb]at h
     | true=>simp only[hb,oT]at h ⊢; exact x.read h
   . simp at h
end
def It(gg:Bool)(v:Value)(cs:List Value):Prop:=match gg with | true=>v= .agg cs.toArray | false=>cs=[v]
def U3(Z:Nat->Prop)(w:World)(gg:Bool)(ks:List K)(x:Tl ks)(v:Value):Prop :=
 ∃ cs:List Value,It gg v cs/\qc Z w ks x cs
def K3(Z:Nat->Prop)(w:World):(cs:List (Bool×List K))->CT cs->List Value->Prop
 | [],_,[]=>True
 | (gg,ks)::cs,x,v::vs=>U3 Z w gg ks x.1 v/\K3 Z w cs x.2 vs
 | _,_,_=>False
def aV(fresh:Bool)(Z:Nat->Prop)(w:World)(H:Nat->Nat->Prop):(ks:List K)->Tl ks->List Value->Nat->Prop
 | [],_,[],_=>True
 | .sl e ks'::ks,x,v::vs,j=>(match fresh with | true=>cO w (.sl e ks') x.1 v (H j) | false=>RO Z w (.sl e ks') x.1 v)/\aV fresh Z w H ks x.2 vs (bif fresh then j+1 else j)
 | .int k::ks,x,v::vs,j=>RO Z w (.int k) x.1 v/\aV fresh Z w H ks x.2 vs j
 | .bool::ks,x,v::vs,j=>RO Z w .bool x.1 v/\aV fresh Z w H ks x.2 vs j
 | .str::ks,x,v::vs,j=>RO Z w .str x.1 v/\aV fresh Z w H ks x.2 vs j
 | _,_,_,_=>False
def ROp(Z:Nat->Prop)(w:World)(ks:List K)(x:Tl ks)(v:Value):Prop:=∃ b o,v= .pointer (some ⟨b,o,none⟩)/\Z b/\b<w.heap.size/\pz Z w ks x b o
def LV(Z:Nat->Prop)(w:World):(cs:List Qy)->OH cs->List Value->Prop
 | [],_,[]=>True
 | .c gg ks::cs,x,v::vs=>U3 Z w gg ks x.1 v/\LV Z w cs x.2 vs
 | .p ks::cs,x,v::vs=>ROp Z w ks x.1 v/\LV Z w cs x.2 vs
 | _,_,_=>False
def vj(Z:Nat->Prop)(w:World)(F:Nat->Nat->Prop):(cs:List (Bool×K))->BT cs->List Value->Nat->Prop
 | [],_,[],_=>True
 | (true,k)::cs,x,v::vs,n=>cO w k x.1 v (F n)/\vj Z w F cs x.2 vs (n+1)
 | (false,k)::cs,x,v::vs,n=>RO Z w k x.1 v/\vj Z w F cs x.2 vs (n+1)
 | _,_,_,_=>False
def PY(Z:Nat->Prop)(w:World)(F:Nat->Nat->Prop)(cs:List (Bool×K))(x:BT cs)(v:Value)(n:Nat):Prop :=
 ∃ b vs e fr,v= .pointer (some ⟨b,0,none⟩)/\w.heap[b]? = some (.cells vs e fr)/\(∀ q,q<vs.size->¬ (fr.1<=q/\q<fr.2))/\F n b/\vj Z w F cs x vs.toList (n+1)
def dv(Z:Nat->Prop)(w:World)(F:Nat->Nat->Prop):(ps:List PK)->PT ps->List Value->Nat->Prop
 | [],_,[],_=>True
 | .c gg ks::ps,x,v::vs,n=>U3 Z w gg ks x.1 v/\dv Z w F ps x.2 vs n
 | .pt ks::ps,x,v::vs,n=>ROp Z w ks x.1 v/\dv Z w F ps x.2 vs n
 | .nil::ps,x,v::vs,n=>v= .slice none 0 0/\dv Z w F ps x vs n
 | .fn f caps::ps,x,v::vs,n=>(∃ cs:Array Value,v= .func (.func f) #[] cs/\LV Z w caps x.1 cs.toList)/\dv Z w F ps x.2 vs n
 | .io gg ks::ps,x,v::vs,n=>(∃ cs:List Value,It gg v cs/\aV true Z w F ks x.1 cs n)/\dv Z w F ps x.2 vs (n+bD ks)
 | .mv k::ps,x,v::vs,n=>cO w k x.1 v (F n)/\dv Z w F ps x.2 vs (n+1)
 | .pw cs::ps,x,v::vs,n=>PY Z w F cs x.1 v n/\dv Z w F ps x.2 vs (n+(cs.length+1))
 | _,_,_,_=>False
def tV(Z:Nat->Prop)(w:World)(G:Nat->Nat->Prop):(ps:List PK)->rm ps->List Value->Nat->Prop
 | [],_,_,_=>True
 | .io gg ks::ps,y,v::vs,n=>(∃ cs:List Value,It gg v cs/\aV true Z w G ks y.1 cs n)/\tV Z w G ps y.2 vs (n+bD ks)
 | .c _ _::ps,y,_::vs,n=>tV Z w G ps y vs n
 | .pt _::ps,y,_::vs,n=>tV Z w G ps y vs n
 | .nil::ps,y,_::vs,n=>tV Z w G ps y vs n
 | .fn _ _::ps,y,_::vs,n=>tV Z w G ps y vs n
 | .mv _::ps,y,_::vs,n=>tV Z w G ps y vs (n+1)
 | .pw cs::ps,y,v::vs,n=>PY Z w G cs y.1 v n/\tV Z w G ps y.2 vs (n+(cs.length+1))
 | _::_,_,[],_=>False
def lk(fresh:Bool)(Z:Nat->Prop)(w:World)(H:Nat->Nat->Prop):(rs:List (Bool×List K))->CT rs->List Value->Nat->Prop
 | [],_,[],_=>True
 | (gg,ks)::rs,x,v::vs,j=>(∃ cs:List Value,It gg v cs/\aV fresh Z w H ks x.1 cs j)/\lk fresh Z w H rs x.2 vs (bif fresh then j+bD ks else j)
 | _,_,_,_=>False
def yu:List Value->Value
 | [v]=>v
 | vs=> .tuple vs.toArray
def AZ(P:Program)(R:Value->World->Prop):Result Next->Prop
 | .ok (.value v) w'=>R v w'
 | .ok (.enter f args) w'=>Calls P f args w' fun | .returned v,w''=>R v w'' | _,_=>False
 | _=>False
theorem AZ.mono{P:Program}{R R':Value->World->Prop}{r:Result Next}(h:AZ P R r)(hR:∀ v w,R v w->R' v w):AZ P R' r:=by
 unfold AZ at h ⊢;split at h
 . exact hR _ _ h
 . exact Calls.mono h fun e w' he=>by cases e <;> first | exact hR _ _ he | exact he
 . exact h.elim
def bt0:(cs:List (Bool×K))->BT cs
 | []=>()
 | p::cs=>(dfl p.2,bt0 cs)
def Ov:(ps:List PK)->rm ps
 | []=>()
 | .io _ ks::ps=>(iq ks,Ov ps)
 | .c _ _::ps=>Ov ps
 | .pt _::ps=>Ov ps
 | .nil::ps=>Ov ps
 | .fn _ _::ps=>Ov ps
 | .mv _::ps=>Ov ps
 | .pw cs::ps=>(bt0 cs,Ov ps)
def Su.sO(s:Su)(x:PT s.ps):Option (rm s.ps×CT s.rs):=match s.f with
 | .inl f=>f x
 | .inr g=>some (Ov s.ps,g x)
structure zP (w w':World) (F:Nat->Nat->Prop) (Z Z':Nat->Prop) (H:Nat->Nat->Prop):Prop where
 os:w'.os=w.os
 tape:w'.tape=w.tape
 output:w'.output=w.output
 size:w.heap.size<=w'.heap.size
 block:∀ b,b<w.heap.size->(∀ i,¬ F i b)->w'.heap[b]? = w.heap[b]?
 z:∀ b,Z b->Z' b
 bL:∀ b,Z' b->b<w'.heap.size/\(Z b∨w.heap.size<=b)
 fp:∀ n b,H n b->b<w'.heap.size/\¬ Z' b/\((∃ i,F i b)∨w.heap.size<=b)
 disj:∀ n m b,H n b->H m b->n=m
def au(P:Program)(f:Nat)(s:Su):Prop :=
 ∀(w:World) (Z:Nat->Prop) (F:Nat->Nat->Prop) (args:Array Value) (x:PT s.ps) (y:rm s.ps×CT s.rs),
  Gl P w Z->dv Z w F s.ps x args.toList 0->(∀ b,Z b->b<w.heap.size)->(∀ i b,F i b->b<w.heap.size/\¬ Z b)->(∀ i j b,F i b->F j b->i=j)->s.sO x=some y ->
  AZ P (fun v w'=>∃(Z':Nat->Prop) (H:Nat->Nat->Prop) (vs:List Value),v=yu vs/\zP w w' F Z Z' H/\tV Z' w' (fun i=>H (2 * i)) s.ps y.1 args.toList 0/\lk s.fresh Z' w' (fun j=>H (2 * j+1)) s.rs y.2 vs 0)
   ((callFunc f args).run P w)
def EF(P:Program)(f:Nat)(s:Sc):Prop :=
 ∀(w:World) (Z:Nat->Prop) (v:Value) (x:List (Tl s.ks)),
  Gl P w Z->RO Z w (.sl s.e s.ks) x v->(∀ b,Z b->b<w.heap.size)->x.length * s.by'<=bG ->
  AZ P (fun v w'=>∃(Z':Nat->Prop) (H:Nat->Nat->Prop),zP w w' (fun _ _=>False) Z Z' H/\Sh Z' (H 0) w' s.ks x v) ((callFunc f #[v]).run P w)
def cZ(P:Program)(E:En):Prop:=(∀ f s,s∈E.ga f->au P f s)/\∀ f s,E.gc f=some s->EF P f s
section
variable{P:Program}{cx:Cx P}{Z:Nat->Prop}{g:Gh}{st:St}{a:Act}{w:World}{E:En}
def fy(Z:Nat->Prop)(g:Gh)(st:St)(w:World):List TV->List Value->Prop
 | [],[]=>True
 | t::l,v::vs=>bF Z g st w t v/\fy Z g st w l vs
 | _,_=>False
theorem fy.app:∀ {l l':List TV} {vs vs':List Value},fy Z g st w l vs->fy Z g st w l' vs'->fy Z g st w (l++l') (vs++vs')
 | [],_,[],_,_,h=>h
 | _::_,_,_::_,_,h,h'=>⟨h.1,fy.app h.2 h'⟩
 | [],_,_::_,_,h,_=>h.elim
 | _::_,_,[],_,h,_=>h.elim
theorem iB(h:Rel cx Z g st a w)(hc:Cons st):∀(os:List Operand) (l:List TV),st.getAll os=some l->fy Z g st w l (os.map a.eval)
 | [],l,h1=>by simp[St.getAll]at h1; subst h1; trivial
 | o::os,l,h1=>by
   simp only[St.getAll]at h1;split at h1
   . rename_i x r hx hr;simp only[aen]at h1;subst h1;exact⟨aX h hc hx,iB h hc os r hr⟩
   . simp at h1
theorem km:∀(l:List (Bool×List AV)) (vs:List Value),gH Z g st w l vs->fy Z g st w (l.map fun p=>bif p.1 then .agg p.2 else (match p.2 with | [a]=> .v a | _=> .agg p.2)) vs
 | [],[],_=>trivial
 | (true,l)::r,v::vs,h=>⟨h.1,km r vs h.2⟩
 | (false,[x])::r,v::vs,h=>⟨h.1,km r vs h.2⟩
 | (false,[])::r,v::vs,h=>h.1.elim
 | (false,_::_::_)::r,v::vs,h=>h.1.elim
 | [],_::_,h=>h.elim
 | _::_,[],h=>h.elim
theorem gD{gg:Bool}{l:List AV}{v:Value}(h:rW Z g st w (gg,l) v):∃ cs:List Value,It gg v cs/\aU Z g st w l cs:=by
 match gg,l,h with
 | true,l,⟨vs,e,h⟩=>exact⟨vs.toList,by simpa[It]using e,h⟩
 | false,[a],h=>exact⟨[v],rfl,h,trivial⟩
theorem qc.bL{Z':Nat->Prop}(hz:∀ b,Z b->b<w.heap.size->Z' b):∀(ks:List K) (x:Tl ks) (vs:List Value),qc Z w ks x vs->qc Z' w ks x vs
 | [],_,[],_=>trivial
 | k::ks,x,v::vs,h=>⟨h.1.bL hz,qc.bL hz ks x.2 vs h.2⟩
 | [],_,_::_,h=>h.elim
 | _::_,_,[],h=>h.elim
theorem K3.bL{Z':Nat->Prop}(hz:∀ b,Z b->b<w.heap.size->Z' b):∀(cs:List (Bool×List K)) (x:CT cs) (vs:List Value),K3 Z w cs x vs->K3 Z' w cs x vs
 | [],_,[],_=>trivial
 | (gg,ks)::cs,x,v::vs,⟨⟨us,e,h⟩,h'⟩=>⟨⟨us,e,qc.bL hz ks x.1 us h⟩,K3.bL hz cs x.2 vs h'⟩
 | [],_,_::_,h=>h.elim
 | _::_,_,[],h=>h.elim
theorem Kk{Z':Nat->Prop}(hz:∀ b,Z b->b<w.heap.size->Z' b):∀(ks:List K) (x:Tl ks) (us:List Value) (b o:Nat),qc Z w ks x us->(∀(j:Nat) (u:Value),us[j]? = some u->w.cell? ⟨b,o+j,none⟩=some u)->pz Z' w ks x b o
 | [],_,_,_,_,_,_=>trivial
 | k::ks,x,u::us,b,o,h,hc=>⟨⟨u,hc 0 u rfl,RO.mono (oR _) (fun b hb hlt=>⟨hz b hb hlt,rfl⟩) k _ u h.1⟩,Kk hz ks x.2 us b (o+1) h.2 fun j u hj=>by rw[show o+1+j=o+(j+1)by omega]; exact hc (j+1) u (by simpa using hj)⟩
 | _::_,_,[],_,_,h,_=>h.elim
theorem F6(h:Rel cx Z g st a w){r:Nat}:∀(l:List RC) (i:Nat),(∀(j:Nat) (c:RC),l[j]? = some c->st.cell r (i+j)=some c)->l.all nh=true->aU Z g st w (l.map tj) ((List.range l.length).map fun j=>g.cv r (i+j))
 | [],_,_,_=>trivial
 | c::l,i,hc,hf=>by
   simp only[afe,aeo]at hf;simp only[aeF,List.range_succ_eq_map,aff,List.map_map];refine⟨?_,?_⟩
   . have:=h.cell r i c (by have:=hc 0 c rfl; rwa [aeQ]at this);obtain⟨s,m,v⟩:=c;cases v with
     | own k x=>simp[nh]at hf
     | av x=>exact this
   . have:=F6 h l (i+1) (fun j c hj=>by rw[show i+1+j=i+(j+1)by omega]; exact hc (j+1) c (by simpa using hj)) hf.2;have e:((List.range l.length).map ((fun j=>g.cv r (i+j)) ∘ Nat.succ))=(List.range l.length).map fun j=>g.cv r (i+1+j):=by
      apply List.map_congr_left;intro j _;show g.cv r (i+(j+1))=_;rw[show i+(j+1)=i+1+j by omega]
     rw[e];exact this
theorem Cg(h:Rel cx Z g st a w){box:Bool}{Z':Nat->Prop}(hz:∀ b,Z b->b<w.heap.size->Z' b)(hb:box=true->∀ r R,look st.rt r=some R->R.box=true->Z' (g.be r)){ks:List K}{av:AV}{v:Value}{x:Tl ks}(hr:bj Z g st w av v)(hx:st.jc box ks av=some x):ROp Z' w ks x v:=by
 cases av with
 | rp dep e ks' xs i c =>
   cases dep with
   | some _=>simp[St.jc]at hx
   | none =>
     cases c with
     | succ c=>simp[St.jc]at hx
     | zero =>
       simp only[St.jc]at hx;obtain⟨e,hx⟩:=uW hx;subst e;subst hx;obtain⟨h0,b,o,h1,h2,h3,h4⟩:=hr;refine⟨b,o+i * ks'.length,by rw[h3,aeQ],hz b h1 h2,h2,?_⟩;have hget:xs[i]? = some (xs.getD i (iq ks')):=by simp[List.getD,aeq h0]
       exact pz.mono (oR _) (fun b hb hlt=>⟨hz b hb hlt,rfl⟩) ks' _ b _ rfl (h4 i _ hget)
 | ptr r j =>
   cases j with
   | succ j=>simp[St.jc]at hx
   | zero =>
     simp only[St.jc]at hx;cases hbx:box with
     | false=>rw[hbx]at hx; simp at hx
     | true =>
       rw[hbx]at hx;simp only[oT]at hx;cases hl:look st.rt r with
       | none=>rw[hl]at hx; simp at hx
       | some R =>
         rw[hl]at hx;simp only at hx;cases hf:R.box&&R.cells.all nh with
         | false=>rw[hf]at hx; simp at hx
         | true =>
           rw[hf]at hx;simp only[oT]at hx;simp only[aeo]at hf;obtain⟨R0,e1,_,e3⟩:=hr;obtain⟨_,_,_,_,cs,el,fr,b5,_,b7,b8⟩:=h.box r R hl hf.1;have hlt:g.be r<w.heap.size:=by
            rcases aeD (g.be r) w.heap.size with hh | hh
            . exact hh
            . simp[aeH hh]at b5
           have h1:=F6 h (r:=r) R.cells 0 (fun j c hj=>by simp only[St.cell,hl,aex]; exact hj) hf.2;have h2:=cT h ks _ _ x h1 (by rw[List.all_map]; refine aeG.2 fun c hc => ?_; have:=aeG.1 hf.2 c hc; obtain⟨s,m,v⟩:=c; cases v with | own k x=>simp[nh]at this | av x=>exact this) hx;refine⟨g.be r,0,e3,hb hbx r R hl hf.1,hlt,Kk hz ks x _ _ 0 h2 fun j u hj => ?_⟩;simp only[ae2,aex]at hj;rcases aeD j R.cells.length with hjl | hjl
           . rw[List.getElem?_range hjl]at hj;simp only[aeM,aen]at hj;subst hj;rw[aex];simp only[World.cell?,b5,afH,ae5,afE];exact b8 j (by omega)
           . rw[aeE (by simpa using hjl)]at hj;simp at hj
 | _=>simp[St.jc]at hx
theorem lM(h:Rel cx Z g st a w){box:Bool}{Z':Nat->Prop}(hz:∀ b,Z b->b<w.heap.size->Z' b)(hb:box=true->∀ r R,look st.rt r=some R->R.box=true->Z' (g.be r)):∀(cs:List Qy) (l:List (Bool×List AV)) (vs:List Value) (x:OH cs),gH Z g st w l vs->st.bC box cs l=some x->LV Z' w cs x vs
 | [],[],[],_,_,_=>trivial
 | [],[],_::_,_,h1,_=>h1.elim
 | .c gg ks::cs,(gg',l)::r,v::vs,x,h1,h2=>by
   unfold St.bC at h2;cases hbb:bS gg gg'&&l.all AV.bE with
   | false=>simp[hbb]at h2
   | true =>
     simp only[hbb,oT]at h2;simp only[aeo]at hbb;have hg:=dL hbb.1;subst hg;split at h2
     . rename_i z zs hz1 hzs;cases h2;obtain⟨us,e1,e2⟩:=gD h1.1;exact⟨⟨us,e1,qc.bL hz ks z us (cT h ks l us z e2 hbb.2 hz1)⟩,lM h hz hb cs r vs zs h1.2 hzs⟩
     . simp at h2
 | .p ks::cs,(false,[av])::r,v::vs,x,h1,h2=>by
   unfold St.bC at h2;split at h2
   . rename_i z zs hz1 hzs;cases h2;exact⟨Cg h hz hb h1.1 hz1,lM h hz hb cs r vs zs h1.2 hzs⟩
   . simp at h2
 | .p ks::cs,(true,_)::r,_,_,_,h=>by simp[St.bC]at h
 | .p ks::cs,(false,[])::r,_,_,_,h=>by simp[St.bC]at h
 | .p ks::cs,(false,_::_::_)::r,_,_,_,h=>by simp[St.bC]at h
 | .c _ _::_,_::_,[],_,h1,_=>h1.elim
 | .p _::_,(false,[_])::_,[],_,h1,_=>h1.elim
 | [],_::_,_,_,_,h2=>by simp[St.bC]at h2
 | .c _ _::_,[],_,_,_,h2=>by simp[St.bC]at h2
 | .p _::_,[],_,_,_,h2=>by simp[St.bC]at h2
theorem tM{tv:TV}{v:Value}(h:bF Z g st w tv v)(hb:eW tv=true):v= .slice none 0 0:=by
 cases tv with
 | v a =>
   cases a with
   | nil=>exact h
   | _=>simp[eW]at hb
 | _=>simp[eW]at hb
theorem D9(h:Rel cx Z g st a w){bE:Bool}{Z':Nat->Prop}(hz':bE=false->Z'=gM w):(!bE)=true->∀ r R,look st.rt r=some R->R.box=true->Z' (g.be r):=fun hf r R hR hb=>by
 rw[hz' (by simpa using hf)];obtain⟨_,_,_,_,cs,el,fr,b5,_⟩:=h.box r R hR hb;show g.be r<w.heap.size;rcases aeD (g.be r) w.heap.size with hh | hh
 . exact hh
 . simp[aeH hh]at b5
theorem rF(h:Rel cx Z g st a w)(bE:Bool){Z':Nat->Prop}(hz:∀ b,Z b->b<w.heap.size->Z' b)(hz':bE=false->Z'=gM w){F:Nat->Nat->Prop}:∀(ps:List PK) (l:List TV) (vs:List Value) (x:PT ps) (i:Nat),fy Z g st w l vs->st.args bE ps l=some x->dv Z' w F ps x vs i
 | [],[],[],_,_,_,_=>trivial
 | [],[],_::_,_,_,h1,_=>h1.elim
 | .c gg ks::ps,tv::r,v::vs,x,i,h1,h2=>by
   unfold St.args at h2;cases hl:tv.cH with
   | none=>simp[hl]at h2
   | some p =>
     obtain⟨gg',l⟩:=p;simp only[hl]at h2;cases hb:bS gg gg'&&(!bE||l.all AV.bE)with
     | false=>simp[hb]at h2
     | true =>
       simp only[hb,oT]at h2;simp only[aeo]at hb;have hg:=dL hb.1;subst hg;split at h2
       . rename_i z zs hz1 hzs;cases h2;obtain⟨us,e1,e2⟩:=gD (ki h1.1 hl);refine⟨⟨us,e1,?_⟩,rF h bE hz hz' ps r vs zs i h1.2 hzs⟩;cases bE with
         | false=>rw[hz' rfl]; exact wU h ks l us z e2 hz1
         | true=>exact qc.bL hz _ _ _ (cT h ks l us z e2 (by simpa using hb.2) hz1)
       . simp at h2
 | .fn f cs::ps,tv::r,v::vs,x,i,h1,h2=>by
   cases tv with
   | fn f' caps =>
     unfold St.args at h2;cases hb:Nat.beq f f' with
     | false=>simp[hb]at h2
     | true =>
       simp only[hb,oT]at h2;have hf:=beq_eq hb;subst hf;split at h2
       . rename_i z zs hz1 hzs;cases h2;obtain⟨us,e1,e2⟩:=h1.1;exact⟨⟨us,e1,lM h hz (D9 h hz') cs caps us.toList z e2 hz1⟩,rF h bE hz hz' ps r vs zs i h1.2 hzs⟩
       . simp at h2
   | _=>simp[St.args]at h2
 | .c _ _::_,_::_,[],_,_,h1,_=>h1.elim
 | .fn _ _::_,_::_,[],_,_,h1,_=>h1.elim
 | .pt ks::ps,.v av::r,v::vs,x,i,h1,h2=>by
   unfold St.args at h2;split at h2
   . rename_i z zs hz1 hzs;cases h2;exact⟨Cg h hz (D9 h hz') h1.1 hz1,rF h bE hz hz' ps r vs zs i h1.2 hzs⟩
   . simp at h2
 | .nil::ps,tv::r,v::vs,x,i,h1,h2=>by
   have h2:(bif eW tv then st.args bE ps r else (none:Option (PT ps)))=some (x:PT ps):=h2;cases hb:eW tv with
   | false=>rw[hb]at h2; simp at h2
   | true=>rw[hb]at h2; exact⟨tM h1.1 hb,rF h bE hz hz' ps r vs x i h1.2 h2⟩
 | .nil::ps,_::r,[],_,_,h1,_=>h1.elim
 | .nil::ps,[],_,_,_,_,h2=>by simp[St.args]at h2
 | .pt ks::ps,.may _ _ _ _ _::r,_,_,_,_,h2=>by simp[St.args]at h2
 | .pt ks::ps,.agg _::r,_,_,_,_,h2=>by simp[St.args]at h2
 | .pt ks::ps,.tup _::r,_,_,_,_,h2=>by simp[St.args]at h2
 | .pt ks::ps,.fn _ _::r,_,_,_,_,h2=>by simp[St.args]at h2
 | .pt _::_,.v _::_,[],_,_,h1,_=>h1.elim
 | .pt _::_,[],_,_,_,_,h2=>by simp[St.args]at h2
 | .io _ _::_,_::_,_,_,_,_,h2=>by simp[St.args]at h2
 | .mv _::_,_::_,_,_,_,_,h2=>by simp[St.args]at h2
 | [],_::_,_,_,_,_,h2=>by simp[St.args]at h2
 | .c _ _::_,[],_,_,_,_,h2=>by simp[St.args]at h2
 | .fn _ _::_,[],_,_,_,_,h2=>by simp[St.args]at h2
 | .io _ _::_,[],_,_,_,_,h2=>by simp[St.args]at h2
 | .mv _::_,[],_,_,_,_,h2=>by simp[St.args]at h2
end
def cellsOf:Bool->Value->List Value
 | true,.agg vs=>vs.toList
 | _,v=>[v]
theorem It.eq{gg:Bool}{v:Value}{cs:List Value}(h:It gg v cs):cellsOf gg v=cs:=by
 cases gg with
 | true=>have h:v= .agg cs.toArray:=h; subst h; simp[cellsOf]
 | false=>have h:cs=[v]:=h; subst h; cases v <;> rfl
def lV:List K->List Value->List Value
 | .sl _ _::ks,v::vs=>v::lV ks vs
 | .int _::ks,_::vs=>lV ks vs
 | .bool::ks,_::vs=>lV ks vs
 | .str::ks,_::vs=>lV ks vs
 | _,_=>[]
def r9:List (Bool×List K)->List Value->List Value
 | (gg,ks)::rs,v::vs=>lV ks (cellsOf gg v)++r9 rs vs
 | _,_=>[]
theorem eK:∀(ks:List K) (x:Tl ks),(kF ks x).length=bD ks
 | [],_=>rfl
 | .sl _ _::ks,x=>aeU (· + 1) (eK ks x.2)
 | .int _::ks,x=>eK ks x.2
 | .bool::ks,x=>eK ks x.2
 | .str::ks,x=>eK ks x.2
section
variable{Z:Nat->Prop}{g:Gh}{st:St}{w:World}
theorem fz{H:Nat->Nat->Prop}:∀(ks:List K) (x:Tl ks) (cs:List Value) (j:Nat),aV true Z w H ks x cs j->(lV ks cs).length=bD ks /\
 ∀(i:Nat) (c:RC),(kF ks x)[i]? = some c->∃(e:TypeId) (ks':List K) (y:T (.sl e ks')) (v:Value),c=⟨0,0,.own (.sl e ks') y⟩/\(lV ks cs)[i]? = some v/\cO w (.sl e ks') y v (H (j+i))
 | [],_,[],_,_=>⟨rfl,fun i c h=>by simp[kF]at h⟩
 | .sl e ks'::ks,x,v::vs,j,h=>by
   obtain⟨h1,h2⟩:=fz ks x.2 vs (j+1) h.2;refine⟨aeU (· + 1) h1,fun i c hi => ?_⟩;cases i with
   | zero => simp only[kF,aeu,aen]at hi;exact⟨e,ks',x.1,v,hi.symm,rfl,h.1⟩
   | succ i => simp only[kF,afi]at hi;obtain⟨e',k',y,u,g1,g2,g3⟩:=h2 i c hi;exact⟨e',k',y,u,g1,g2,by rw[show j+(i+1)=j+1+i by omega]; exact g3⟩
 | .int _::ks,x,v::vs,j,h=>fz ks x.2 vs j h.2
 | .bool::ks,x,v::vs,j,h=>fz ks x.2 vs j h.2
 | .str::ks,x,v::vs,j,h=>fz ks x.2 vs j h.2
 | [],_,_::_,_,h=>h.elim
 | .sl _ _::_,_,[],_,h=>h.elim
 | .int _::_,_,[],_,h=>h.elim
 | .bool::_,_,[],_,h=>h.elim
 | .str::_,_,[],_,h=>h.elim
theorem kV{H:Nat->Nat->Prop}:∀(rs:List (Bool×List K)) (y:CT rs) (vs:List Value) (j:Nat),lk true Z w H rs y vs j ->
 ∀(i:Nat) (c:RC),(cr rs y)[i]? = some c->∃(e:TypeId) (ks':List K) (y:T (.sl e ks')) (v:Value),c=⟨0,0,.own (.sl e ks') y⟩/\(r9 rs vs)[i]? = some v/\cO w (.sl e ks') y v (H (j+i))
 | [],_,_,_,_,i,c,h=>by simp[cr]at h
 | (gg,ks)::rs,y,v::vs,j,h,i,c,hi=>by
   obtain⟨⟨cs,e1,e2⟩,h3⟩:=h;obtain⟨h1,h2⟩:=fz ks y.1 cs j e2;have hl:=eK ks y.1;simp only[cr]at hi;simp only[r9,e1.eq];rcases aeD i (bD ks)with hlt | hge
   . rw[ae4 (by omega)]at hi;obtain⟨e,k',z,u,g1,g2,g3⟩:=h2 i c hi;exact⟨e,k',z,u,g1,by rw[ae4 (by omega)]; exact g2,g3⟩
   . rw[ae3 (by omega),hl]at hi;obtain⟨e,k',z,u,g1,g2,g3⟩:=kV rs y.2 vs (j+bD ks) h3 (i-bD ks) c hi;exact⟨e,k',z,u,g1,by rw[ae3 (by omega),h1]; exact g2,by rw[show j+i=j+bD ks+(i-bD ks)by omega]; exact g3⟩
 | _::_,_,[],_,h,_,_,_=>h.elim
theorem gB{Z':Nat->Prop}{H:Nat->Nat->Prop}{d:Nat}:∀(ks:List K) (x:Tl ks) (cs:List Value) (j:Nat),aV true Z w H ks x cs j ->
 (∀(i:Nat) (c:RC),(kF ks x)[i]? = some c->st.cell d (j+i)=some c)->(∀(i:Nat) (v:Value),(lV ks cs)[i]? = some v->g.cv d (j+i)=v)->aU Z' g st w (e8 d true ks x j) cs
 | [],_,[],_,_,_,_=>trivial
 | .sl e ks'::ks,x,v::vs,j,h,h1,h2=>by
   refine⟨⟨_,h1 0 _ rfl,oR _,fun _=>(h2 0 v rfl).symm⟩,gB ks x.2 vs (j+1) h.2 (fun i c hi => ?_) (fun i u hi => ?_)⟩
   . rw[show j+1+i=j+(i+1)by omega]; exact h1 (i+1) c hi
   . rw[show j+1+i=j+(i+1)by omega]; exact h2 (i+1) u hi
 | .int _::ks,x,v::vs,j,h,h1,h2=>⟨fG (Z':=Z') rfl h.1,gB ks x.2 vs j h.2 h1 h2⟩
 | .bool::ks,x,v::vs,j,h,h1,h2=>⟨fG (Z':=Z') (k:= .bool) rfl h.1,gB ks x.2 vs j h.2 h1 h2⟩
 | .str::ks,x,v::vs,j,h,h1,h2=>⟨fG (Z':=Z') (k:= .str) rfl h.1,gB ks x.2 vs j h.2 h1 h2⟩
 | [],_,_::_,_,h,_,_=>h.elim
 | .sl _ _::_,_,[],_,h,_,_=>h.elim
 | .int _::_,_,[],_,h,_,_=>h.elim
 | .bool::_,_,[],_,h,_,_=>h.elim
 | .str::_,_,[],_,h,_,_=>h.elim
theorem vN{gg:Bool}{l:List AV}{v:Value}{cs:List Value}(h:It gg v cs)(hr:aU Z g st w l cs):rW Z g st w (gg,l) v:=by
 cases gg with
 | true=>exact⟨cs.toArray,h,by simpa using hr⟩
 | false =>
   have h:cs=[v]:=h;subst h
   match l,hr with
   | [a],hr=>exact hr.1
   | [],hr=>exact hr.elim
   | _::_::_,hr=>exact hr.2.elim
theorem rz{Z':Nat->Prop}{H:Nat->Nat->Prop}{d:Nat}:∀(rs:List (Bool×List K)) (y:CT rs) (vs:List Value) (j:Nat),lk true Z w H rs y vs j ->
 (∀(i:Nat) (c:RC),(cr rs y)[i]? = some c->st.cell d (j+i)=some c)->(∀(i:Nat) (v:Value),(r9 rs vs)[i]? = some v->g.cv d (j+i)=v)->gH Z' g st w (pT d true rs y j) vs
 | [],_,[],_,_,_,_=>trivial
 | (gg,ks)::rs,y,v::vs,j,h,h1,h2=>by
   obtain⟨⟨cs,e1,e2⟩,h3⟩:=h;obtain⟨l1,_⟩:=fz ks y.1 cs j e2;have hl:=eK ks y.1;refine⟨vN e1 (gB ks y.1 cs j e2 (fun i c hi=>h1 i c ?_) (fun i u hi=>h2 i u ?_)),rz rs y.2 vs (j+bD ks) h3 (fun i c hi => ?_) (fun i u hi => ?_)⟩
   . have:i<bD ks:=by
      rw[<- hl];rcases aeD i (kF ks y.1).length with hh | hh
      . exact hh
      . simp[aeE hh]at hi
     simp only[cr];rw[ae4 (by omega)];exact hi
   . have:i<bD ks:=by
      rw[<- l1];rcases aeD i (lV ks cs).length with hh | hh
      . exact hh
      . simp[aeE hh]at hi
     simp only[r9,e1.eq];rw[ae4 (by omega)];exact hi
   . rw[show j+bD ks+i=j+(bD ks+i)by omega];refine h1 _ c ?_;simp only[cr];rw[ae3 (by omega),hl,afa];exact hi
   . rw[show j+bD ks+i=j+(bD ks+i)by omega];refine h2 _ u ?_;simp only[r9,e1.eq];rw[ae3 (by omega),l1,afa];exact hi
 | [],_,_::_,_,h,_,_=>h.elim
 | _::_,_,[],_,h,_,_=>h.elim
theorem hO{fresh:Bool}{Z':Nat->Prop}{H:Nat->Nat->Prop}{d:Nat}:∀(ks:List K) (x:Tl ks) (cs:List Value) (j:Nat),aV fresh Z w H ks x cs j->(fresh=false->Z'=Z)->(fresh=true->bD ks=0)->aU Z' g st w (e8 d fresh ks x j) cs
 | [],_,[],_,_,_,_=>trivial
 | .sl e ks'::ks,x,v::vs,j,h,h1,h2=>by
   cases fresh with
   | true=>exact absurd (h2 rfl) (by simp[bD])
   | false => exact⟨(show RO Z' w (.sl e ks') x.1 v from h1 rfl ▸ h.1),hO ks x.2 vs j h.2 h1 (fun hh=>by simp at hh)⟩
 | .int _::ks,x,v::vs,j,h,h1,h2=>⟨fG (Z':=Z') rfl h.1,hO ks x.2 vs j h.2 h1 h2⟩
 | .bool::ks,x,v::vs,j,h,h1,h2=>⟨fG (Z':=Z') (k:= .bool) rfl h.1,hO ks x.2 vs j h.2 h1 h2⟩
 | .str::ks,x,v::vs,j,h,h1,h2=>⟨fG (Z':=Z') (k:= .str) rfl h.1,hO ks x.2 vs j h.2 h1 h2⟩
 | [],_,_::_,_,h,_,_=>h.elim
 | .sl _ _::_,_,[],_,h,_,_=>h.elim
 | .int _::_,_,[],_,h,_,_=>h.elim
 | .bool::_,_,[],_,h,_,_=>h.elim
 | .str::_,_,[],_,h,_,_=>h.elim
theorem kr{fresh:Bool}{Z':Nat->Prop}{H:Nat->Nat->Prop}{d:Nat}:∀(rs:List (Bool×List K)) (y:CT rs) (vs:List Value) (j:Nat),lk fresh Z w H rs y vs j->(fresh=false->Z'=Z)->(fresh=true->kb rs=false)->gH Z' g st w (pT d fresh rs y j) vs
 | [],_,[],_,_,_,_=>trivial
 | (gg,ks)::rs,y,v::vs,j,h,h1,h2=>by
   obtain⟨⟨cs,e1,e2⟩,h3⟩:=h;have h4:fresh=true->bD ks=0/\kb rs=false:=fun hf=>by have:=h2 hf;simp only[kb,af2,aha]at this;exact⟨beq_eq this.1,this.2⟩
   exact⟨vN e1 (hO ks y.1 cs j e2 h1 fun hf=>(h4 hf).1),kr rs y.2 vs _ h3 h1 fun hf=>(h4 hf).2⟩
 | [],_,_::_,_,h,_,_=>h.elim
 | _::_,_,[],_,h,_,_=>h.elim
theorem ft{l:List (Bool×List AV)}{vs:List Value}{tv:TV}(h:gH Z g st w l vs)(hw:hU l=some tv):bF Z g st w tv (yu vs):=by
 match l,vs,h,hw with
 | [(true,l)],[v],h,hw=>simp only[hU,aen]at hw; subst hw; exact h.1
 | [(false,[a])],[v],h,hw=>simp only[hU,aen]at hw; subst hw; exact h.1
 | [(false,[])],[v],h,hw=>simp[hU]at hw
 | [(false,_::_::_)],[v],h,hw=>simp[hU]at hw
 | [],[],h,hw=>simp only[hU,aen]at hw; subst hw; exact⟨#[],rfl,trivial⟩
 | p::q::r,u::v::vs,h,hw =>
   have hw:some (TV.tup (p::q::r))=some tv:=by rw[<- hw];obtain⟨b,l⟩:=p;cases b <;> (try cases l) <;> first | rfl | (rename_i _ l; cases l <;> rfl)
   simp only[aen]at hw;subst hw;exact⟨(u::v::vs).toArray,rfl,by simpa using h⟩
 | [],_::_,h,_=>exact h.elim
 | [_],[],h,_=>exact h.elim
 | [_],_::_::_,h,_=>exact h.2.elim
 | _::_::_,[],h,_=>exact h.elim
 | _::_::_,[_],h,_=>exact h.2.elim
end
section
variable{P:Program}{cx:Cx P}{Z:Nat->Prop}{g:Gh}{st:St}{a:Act}{w:World}{E:En}
theorem sH{o:Oper}{next:Act->World->Prop}{Q:Exit->Act->World->Prop}{r:Result Next}{R:Value->World->Prop}(h:AZ P R r)(hR:∀ v w',R v w'->next (a.put o.dst v) w'):o.upon P a next Q r:=by
 unfold AZ at h;split at h
 . exact hR _ _ h
 . exact Calls.mono h fun e w' he=>by cases e <;> first | exact hR _ _ he | exact he.elim
 . exact h.elim
theorem oq{o:Oper}{c:Call}{f:Operand}{gid:Nat}{vs:Array Value}(ho:o.op= .call c)(hcal:c.callee= .value f)(hv:a.eval f= .func (.func gid) #[] vs) :
 (execOp a.eval o).run P w=(callFunc gid (c.args.map a.eval++vs)).run P w:=by
 simp only[execOp,ho,resolve,hcal,Deferred.ofValue,hv,aeN,aeX,aez,invoke,Array.empty_append]
theorem Uu(hga:cZ P E)(h:Rel cx Z g st a w)(hc:Cons st){o:Oper}{d:Nat}(hd:o.dst=some d)(hdn:jw cx a d)(hf:st.free d=true){c:Call}{f:Operand}{gid:Nat}{caps:List (Bool×List AV)}{l:List TV}{s:Su}{x:PT s.ps}{z:rm s.ps}{y:CT s.rs}{p:TV×Option Rt}
 (ho:o.op= .call c)(hcal:c.callee= .value f)(hg:st.get f=some (.fn gid caps))(hl:st.getAll c.args.toList=some l)(hs:s∈E.ga gid)
 (hx:st.args (!s.fresh) s.ps (l++caps.map fun p=>bif p.1 then .agg p.2 else (match p.2 with | [a]=> .v a | _=> .agg p.2))=some x)(hy:s.sO x=some (z,y))(hp:eb d s y=some p):dk P cx st a w o d p:=by
 obtain⟨cv,ef,ec⟩:=aX h hc hg;intro next Q hk;unfold Oper.wp;rw[oq ho hcal ef];have hrel:=fy.app (iB h hc _ _ hl) (km _ _ ec);have hvs:c.args.toList.map a.eval++cv.toList=(c.args.map a.eval++cv).toList:=by simp
 rw[hvs]at hrel;obtain⟨Zc,hz1,hz2,hz3,hz4⟩:∃ Zc:Nat->Prop,(∀ b,Z b->b<w.heap.size->Zc b)/\((!s.fresh)=false->Zc=gM w)/\(∀ b,Zc b->b<w.heap.size)/\(s.fresh=false->Zc=Z):=by
  cases hfr:s.fresh with
  | true=>exact⟨gM w,fun _ _ h=>h,fun _=>rfl,fun _ h=>h,fun h=>by simp at h⟩
  | false=>exact⟨Z,fun _ h _=>h,fun h=>by simp at h,fun b hb=>(h.bL b hb).1,fun _=>rfl⟩
 have hargs:=rF h (!s.fresh) hz1 hz2 (F:=fun _ _=>False) s.ps _ _ x 0 hrel hx;have hsu:=hga.1 gid s hs w Zc (fun _ _=>False) _ x (z,y) (h.gl.mono (oR _) fun b hb hl=>⟨hz1 b hb hl,rfl⟩) hargs hz3 (fun _ _ h=>h.elim) (fun _ _ _ h=>h.elim) hy;refine sH hsu ?_;rintro v w' ⟨Z',H,vs,rfl,ha,_,hr⟩;rw[hd];have hblk:∀ b,b<w.heap.size->w'.heap[b]? = w.heap[b]? := fun b hb=>ha.block b hb (fun _ h=>h)
 have hnew:∀ n b,H n b->w.heap.size<=b/\b<w'.heap.size:=fun n b hb=>by
  obtain⟨h1,_,h3⟩:=ha.fp n b hb;rcases h3 with ⟨_,h3⟩ | h3
  . exact h3.elim
  . exact⟨h3,h1⟩
 unfold eb at hp;split at hp
 . rename_i tv hw;simp only[aen]at hp;cases hb:s.fresh&&kb s.rs with
   | false =>
     rw[hb]at hp;subst hp;have hn:s.fresh=true->kb s.rs=false:=fun hh=>by simpa[hh]using hb
     cases hfr:s.fresh with
     | false => have hzz:=hz4 hfr;subst hzz;have hrel':=Rel.A5 h ha.os ha.tape ha.output ha.size hblk ha.z (fun b hb=>by obtain⟨h1,h2⟩:=ha.bL b hb;exact h2.imp id fun h2=>⟨h2,h1⟩);exact hk _ _ _ _ (hrel'.mm hdn (ft (kr _ _ _ _ hr (fun _=>rfl) hn) hw))
     | true => have hrel':=Rel.A5 h (Z':=Z) ha.os ha.tape ha.output ha.size hblk (fun _ h=>h) (fun b hb=> .inl hb);exact hk _ _ _ _ (hrel'.mm hdn (ft (kr _ _ _ _ hr (fun hh=>by rw[hfr]at hh; simp at hh) hn) hw))
   | true =>
     rw[hb]at hp;subst hp;simp only[aeo]at hb;have hfr:=hb.1;rw[hfr]at hr hw;have hlook:∀(i:Nat) (c:RC),(cr s.rs y)[i]? = some c->(st.aT d (tv,some ⟨false,cr s.rs y⟩)).cell d (0+i)=some c:=fun i c hi=>by show(match look ((d,_)::st.rt) d with | some R=>R.cells[0+i]? | none=>none)=_;rw[aK,if_pos rfl,aex];exact hi
     refine hk Z (g.at d 0 (fun j=>(r9 s.rs vs).getD j undef) (fun j b=>j<(cr s.rs y).length/\H (2 * j+1) b)) _ _ (Rel.vA h hdn hf ?_ ?_)
     . refine { os:=ha.os,tape:=ha.tape,output:=ha.output,size:=ha.size,block:=hblk,bL:=fun b hb=> .inl hb,zle:=fun _ h=>h,fp := ?_,disj := ?_,box:=fun hb=>by simp at hb,cell := ?_ }
       . intro j b hb;simp only[Gh.at,if_true]at hb;obtain⟨h1,h2⟩:=hnew _ _ hb.2;obtain⟨e,ks',x',v',g1,g2,g3⟩:=kV _ _ _ _ hr j _ (aeq hb.1);exact⟨h1,h2,fun hz=>by have:=(h.bL b hz).1; omega,_,_,x',aeq hb.1,by rw[g1]⟩
       . intro j j' b h1 h2;simp only[Gh.at,if_true]at h1 h2;have:=ha.disj _ _ b h1.2 h2.2;omega
       . intro j c hj;obtain⟨e,ks',x',v',g1,g2,g3⟩:=kV _ _ _ _ hr j c hj;subst g1;have hjl:j<(cr s.rs y).length:=by
          rcases aeD j (cr s.rs y).length with hh | hh
          . exact hh
          . simp[aeE hh]at hj
         show cO w' (.sl e ks') x' _ _;simp only[Gh.at,if_true,List.getD,g2,afY];rw[aex]at g3;exact cO.frame _ _ _ _ _ (fun b hb=>⟨hjl,hb⟩) (fun _ _ _=>rfl) g3
     . refine ft (rz _ _ _ _ hr hlook fun i v hi => ?_) hw;simp[Gh.at,List.getD,hi]
 . simp at hp
theorem Vl{s:Sc}{gid:Nat}(hga:EF P gid s)(h:Rel cx Z g st a w)(hc:Cons st){o:Oper}{d:Nat}(hd:o.dst=some d)(hdn:jw cx a d)(hf:st.free d=true){c:Call}{f:Operand}{l:List TV}{p:TV×Option Rt}
 (ho:o.op= .call c)(hcal:c.callee= .value f)(hg:st.get f=some (.fn gid []))(hl:st.getAll c.args.toList=some l)(hq:(st.px d s l).run=some p):dk P cx st a w o d p:=by
 obtain⟨cv,ef,ec⟩:=aX h hc hg;have hcv:cv = #[]:=by
  obtain⟨l⟩:=cv;cases l with
  | nil=>rfl
  | cons _ _=>exact ec.elim
 subst hcv;have hrel:=iB h hc _ _ hl;unfold St.px at hq;split at hq
 . rename_i av;cases hfa:av.bE with
   | false=>rw[hfa]at hq; simp[Tr.run]at hq
   | true =>
   rw[hfa]at hq;simp only[oT]at hq;obtain⟨x,hx,hq⟩:=Tr.af hq;obtain⟨hb,hq⟩:=Tr.bB hq;simp only[Tr.run,aen]at hq;subst hq;obtain⟨v,hv,hrv⟩:∃ v,c.args.toList.map a.eval=[v]/\bj Z g st w av v:=by
    cases hm:c.args.toList.map a.eval with
    | nil=>rw[hm]at hrel; exact hrel.elim
    | cons v r =>
      rw[hm]at hrel;cases r with
      | nil=>exact⟨v,rfl,hrel.1⟩
      | cons _ _=>exact hrel.2.elim
   have hro:RO Z w (.sl s.e s.ks) x v:=bV h hrv hfa hx;intro next Q hk;unfold Oper.wp;rw[oq ho hcal ef];have hv':c.args.map a.eval ++ #[] = #[v]:=by rw[Array.append_empty];apply Array.ext';rw[Array.toList_map,hv]
   rw[hv'];refine sH (hga w Z v x h.gl hro (fun b hb=>(h.bL b hb).1) (aeJ hb)) ?_;rintro u w' ⟨Z',H,ha,hs⟩;rw[hd];have hblk:∀ b,b<w.heap.size->w'.heap[b]? = w.heap[b]? := fun b hb=>ha.block b hb (fun _ h=>h)
   have hcell:(st.aT d (.bc d 0 0 0 s.e s.ks (aQ x),some ⟨false,[⟨0,0,.own (.sl s.e s.ks) ([]:List (Tl s.ks))⟩]⟩)).cell d 0=some ⟨0,0,.own (.sl s.e s.ks) ([]:List (Tl s.ks))⟩:=by show(match look ((d,_)::st.rt) d with | some R=>R.cells[0]? | none=>none)=_;rw[aK,if_pos rfl]; rfl
   refine hk Z' (g.at d 0 (fun _=> .slice none 0 0) (fun j b=>j=0/\H 0 b)) _ _ (Rel.vA h hdn hf ?_ ⟨_,hcell,oR _,oR _,fun _ _ => ?_⟩)
   . refine { os:=ha.os,tape:=ha.tape,output:=ha.output,size:=ha.size,block:=hblk,bL:=fun b hb=>(ha.bL b hb).2.imp id fun h2=>⟨h2,(ha.bL b hb).1⟩,zle:=ha.z,fp := ?_,disj := ?_,box:=fun hb=>by simp at hb,cell := ?_ }
     . intro j b hb;simp only[Gh.at,if_true]at hb;obtain⟨rfl,hb⟩:=hb;obtain⟨t1,t2,t3⟩:=ha.fp _ _ hb;exact⟨t3.elim (fun⟨_,h⟩=>h.elim) id,t1,t2,_,_,_,rfl,rfl⟩
     . intro j j' b h1 h2;simp only[Gh.at,if_true]at h1 h2;exact h1.1.trans h2.1.symm
     . intro j c' hj;cases j with
       | zero => simp only[aeu,aen]at hj;subst hj;simp only[Gh.at,if_true];exact jC s.e s.ks
       | succ j=>simp at hj
   . exact Sh.mono (oR _) (fun b hb _=>⟨hb,rfl⟩) (fun b hb _=>⟨by simp[Gh.at]; exact hb,rfl⟩) hs
 . simp[Tr.run]at hq
theorem Ya(hT:cf P E)(h:Rel cx Z g st a w)(hc:Cons st){o:Oper}{d:Nat}(hd:o.dst=some d)(hdn:jw cx a d){c:Call}(ho:o.op= .call c)(hcal:c.callee= .builtin .cap){x:Operand}{t:Nat}{ts:List Nat}(hargs:c.args.toList=[x])(hts:c.argTypes.toList=t::ts){te:TI}
 (ht:E.sl t=some te){tv:TV}(hx:st.get x=some tv)(hb:eW tv=true):dk P cx st a w o d (.v (.d (.int .i64) (0:Int)),none):=by
 have ev:a.eval x= .slice none 0 0:=tM (aX h hc hx) hb;have hargs':c.args = #[x]:=by rw[<- afk (xs:=c.args),hargs]
 have hts0:c.argTypes[0]? = some t:=by rw[<- aer,hts]; rfl
 obtain⟨_,_,_,_,_,_,hu⟩:=iM hT ht;have hb:(Builtin.cap_ c.argTypes o.type #[.slice none 0 0]).run P w= .ok (.int .i64 0) w:=by simp[Builtin.cap_,hts0,aeR hu,goInt]
 have hrun:(execOp a.eval o).run P w= .ok (.value (.int .i64 0)) w:=by simp only[execOp,ho,resolve,hcal,hargs',aeN,aeX,aez,invoke,builtin,afZ,aff,agk,ev,hb]
 exact cj h hd hdn hrun ⟨rfl,by unfold nB; decide⟩
end
section
variable{st st':St}
theorem j7{t:Tr AV}{p:TV×Option Rt}(h:(t.bind fun a=>Tr.ret (TV.v a,(none:Option Rt))).run=some p):∃ av,t.run=some av/\p=(.v av,none):=by
 rw[Tr.run_bind]at h;cases ht:t.run with
 | none=>simp[ht]at h
 | some av=>simp only[ht,oB,Tr.run,aen]at h; exact⟨av,rfl,h.symm⟩
theorem Ext.indexAddr(x:Ext st st'){sz:Nat}{tv:TV}{n:Int}{p:AV}(h:(st.indexAddr sz tv n).run=some p):(st'.indexAddr sz tv n).run=some p:=by
 unfold St.indexAddr at h ⊢;split at h
 . rename_i r j s;cases hc:st.cell r j with
   | none=>simp[hc,Tr.run]at h
   | some c=>rw[hc]at h; rw[x.cell hc]; exact h
 . exact h
 . rename_i r j s m e ks xs;cases hc:st.cell r j with
   | none=>simp[hc,Tr.run]at h
   | some c=>rw[hc]at h; rw[x.cell hc]; exact h
 . rename_i r j s m i c;cases hc:st.cell r j with
   | none=>simp[hc,Tr.run]at h
   | some c=>rw[hc]at h; rw[x.cell hc]; exact h
 . simp[Tr.run]at h
theorem Ext.px(x:Ext st st'){d:Nat}{s:Sc}{l:List TV}{p:TV×Option Rt}(h:(st.px d s l).run=some p):(st'.px d s l).run=some p:=by
 unfold St.px at h ⊢;split at h
 . rename_i a;cases hf:a.bE with
   | false=>rw[hf]at h; simp[Tr.run]at h
   | true => rw[hf]at h;simp only[oT]at h;obtain⟨q,h1,h2⟩:=Tr.af h;simp only[oT,x.bo h1];exact h2
 . simp[Tr.run]at h
theorem Ext.tC{β:Type}(x:Ext st st'){lo hi:Option Operand}{n:Nat}{f:Int×Int->Tr β}{p:β}(h:(Tr.bQ (Av.nf st lo hi n) f).run=some p):(Tr.bQ (Av.nf st' lo hi n) f).run=some p:=by obtain⟨q,h1,h2⟩:=Tr.af h;rw[x.nf h1];exact h2
theorem Ext.oh(x:Ext st st'){tv:TV}{lo hi:Option Operand}{p:AV}(h:(st.oh tv lo hi).run=some p):(st'.oh tv lo hi).run=some p:=by
 unfold St.oh at h ⊢;split at h
 . rename_i s hs;exact x.tC h
 . simp[Tr.run]at h
theorem Ext.nK(x:Ext st st'){sz:Nat}{tv:TV}{lo hi:Option Operand}{p:AV}(h:(st.nK sz tv lo hi).run=some p):(st'.nK sz tv lo hi).run=some p:=by
 unfold St.nK at h ⊢;split at h
 . exact x.tC h
 . rename_i e ks xs;cases hb:Nat.beq ks.length sz with
   | false=>simp[hb,Tr.run]at h
   | true=>simp only[hb,oT]at h ⊢; exact x.tC h
 . rename_i r j s m e ks xs;cases hc:st.cell r j with
   | none=>simp[hc,Tr.run]at h
   | some rc =>
     simp only[hc]at h;simp only[x.cell hc];cases hb:Nat.beq rc.s s&&Nat.beq rc.m m&&Nat.beq ks.length sz with
     | false=>simp[hb,Tr.run]at h
     | true=>simp only[hb,oT]at h ⊢; exact x.tC h
 . rename_i r j s m i c;cases hc:st.cell r j with
   | none=>simp[hc,Tr.run]at h
   | some rc =>
     simp only[hc]at h;simp only[x.cell hc];split at h
     . rename_i s' m' e0 ks0 x0 heq;simp only[aen]at heq;subst heq;cases hb:Nat.beq s' s&&Nat.beq m' m with
       | false=>simp[hb,Tr.run]at h
       | true =>
         simp only[hb,oT]at h ⊢;split at h
         . rename_i e ks xs hcell;cases hb:Nat.beq ks.length sz with
           | false=>simp[hb,Tr.run]at h
           | true=>simp only[hb,oT]at h ⊢; exact x.tC h
         . simp[Tr.run]at h
     . simp[Tr.run]at h
 . rename_i r j s;cases hc:st.cell r j with
   | none=>simp[hc,Tr.run]at h
   | some rc =>
     simp only[hc]at h;simp only[x.cell hc];split at h
     . rename_i s' m' e ks xs heq;simp only[aen]at heq;subst heq;cases hb:Nat.beq s' s&&Nat.beq ks.length sz with
       | false=>simp[hb,Tr.run]at h
       | true=>simp only[hb,oT]at h ⊢; exact x.tC h
     . simp[Tr.run]at h
 . simp[Tr.run]at h
end
section
variable{P:Program}{cx:Cx P}{Z:Nat->Prop}{g:Gh}{st0 st:St}{a:Act}{w:World}{E:En}
theorem uD(hT:cf P E){t:Nat}{te:TI}(h:E.sl t=some te){ti:TI}(hti:E.ti t=some ti):∃ ks,E.ti t=some ti/\ti.agg=false/\ti.ks=[.sl ti.elem ks]/\E.ti ti.elem=some te:=by obtain⟨tt,ks,t1,t2,t3,t4,_⟩:=iM hT h;rw[t1]at hti;simp only[aen]at hti;subst hti;exact⟨ks,t1,t2,t3,t4⟩
theorem rf{dst:Nat}{tvs:List TV}:∀ {l:List Su} {p:TV×Option Rt},(st0.uE dst l tvs).run=some p->∃ s x z y,s∈l/\st0.args (!s.fresh) s.ps tvs=some x/\s.sO x=some (z,y)/\eb dst s y=some p
 | [],p,h=>by simp[St.uE,Tr.run]at h
 | s::r,p,h=>by
   have again:(st0.uE dst r tvs).run=some p->∃ s' x z y,s'∈s::r/\st0.args (!s'.fresh) s'.ps tvs=some x/\s'.sO x=some (z,y)/\eb dst s' y=some p:=fun h=>by obtain⟨s',x,z,y,h1,h2⟩:=rf h;exact⟨s',x,z,y,aeB _ h1,h2⟩
   unfold St.uE at h;cases hq:il s.ps with
   | false=>simp only[hq,oF]at h; exact again h
   | true =>
     simp only[hq,oT]at h;split at h
     . rename_i x hx;split at h
       . rename_i gg hg;obtain⟨q,h1,h2⟩:=Tr.af h;simp only[Tr.run,aen]at h2;subst h2;exact⟨s,x,Ov s.ps,gg x,aeI ..,hx,by simp[Su.sO,hg],h1⟩
       . rename_i f hf;simp only[Tr.run,afF]at h;obtain⟨⟨z,y⟩,h0,h⟩:=h;obtain⟨q,h1,h2⟩:=Tr.af h;simp only[Tr.run,aen]at h2;subst h2;exact⟨s,x,z,y,aeI ..,hx,by simp[Su.sO,hf,h0],h1⟩
     . exact again h
theorem zH(hT:cf P E)(hga:cZ P E)(x:Ext st0 st)(h:Rel cx Z g st a w)(hv:oD st){o:Oper}{d:Nat}(hd:o.dst=some d)(hdn:jw cx a d)(hf:st.free d=true){p:TV×Option Rt}(hq:(wX E st0 d o.op).run=some p):dk P cx st a w o d p:=by
 have hc:=hv.cons;generalize hop:o.op=op at hq;unfold wX at hq;split at hq
 . obtain⟨tv,h1,h2⟩:=Tr.af hq;simp only[Tr.run,aen]at h2;subst h2;exact Fl h hc hd hdn (.inl hop) (x.get h1)
 . obtain⟨tv,h1,h2⟩:=Tr.af hq;simp only[Tr.run,aen]at h2;subst h2;exact Fl h hc hd hdn (.inr hop) (x.get h1)
 ·
  rename_i c y z;split at hq
  . rename_i hg;obtain⟨tv,h1,h2⟩:=Tr.af hq;simp only[Tr.run,aen]at h2;subst h2;exact zr h hv hd hdn hop (x.get hg) (x.get h1)
  . rename_i hg;obtain⟨tv,h1,h2⟩:=Tr.af hq;simp only[Tr.run,aen]at h2;subst h2;exact zr h hv hd hdn hop (x.get hg) (x.get h1)
  . rename_i gd hg;split at hq
    . rename_i k y1 k' z1 h1 h2;split at hq
      . rename_i z2 h3;simp only[Tr.run,aen]at hq;subst hq;exact UX h hv hd hdn hop (x.get hg) (x.side h1) (x.side h2) h3
      . simp[Tr.run]at hq
    . simp[Tr.run]at hq
  . simp[Tr.run]at hq
 . obtain⟨ti,h1,h2⟩:=Tr.af hq;simp only[Tr.run,aen]at h2;subst h2;exact Qc hT h hd hdn hf hop h1
 ·
  obtain⟨ti,h1,hq⟩:=Tr.af hq;obtain⟨tv,h2,hq⟩:=Tr.af hq;obtain⟨q,h3,hq⟩:=Tr.af hq;cases hb:Nat.beq q.2.length ti.ks.length with
  | false=>simp[hb,Tr.run]at hq
  | true => simp only[hb,oT]at hq;obtain⟨l,h4,hq⟩:=Tr.af hq;simp only[Tr.run,aen]at hq;subst hq;exact aaZ hT h hc hd hdn hf hop (x.get h2) h3 (x.kP h4)
 ·
  obtain⟨ti,h1,hq⟩:=Tr.af hq;cases hb:ti.agg with
  | false=>simp[hb,Tr.run]at hq
  | true => simp only[hb,oN,oF]at hq;obtain⟨l,h4,hq⟩:=Tr.af hq;simp only[Tr.run,aen]at hq;subst hq;exact PM hT h hc hd hdn hop h1 hb (th (fun _ _ _ hh=>x.rR hh) h4)
 ·
  rename_i t n parts;obtain⟨ti,h1,hq⟩:=Tr.af hq;obtain⟨te,h2,hq⟩:=Tr.af hq;obtain⟨l,h3,hq⟩:=Tr.af hq;have h3':=th (fun _ _ _ hh=>x.mi hh) h3;cases hb:Nat.ble (n * te.ks.length) 1000&&Nat.ble n 1000 with
  | false=>simp[hb,Tr.run]at hq
  | true =>
    simp only[hb,oT]at hq;simp only[aeo]at hb;have hn:=aeJ hb.1;have hn':n<=bG:=aeA (aeJ hb.2) (by decide);obtain⟨xs,h4,hq⟩:=Tr.af hq;cases hfl:(flat te.ks||l.all oJ)&& !(gW E.pins 999999&&l.all AV.bE)with
    | true => simp only[hfl,oT,Tr.run,aen]at hq;subst hq;simp only[aeo]at hfl;exact DY hT h hc hd hdn hf hop (uD hT h2 h1) h3' hn (x.chunks h4) (by simpa using hfl.1) hn'
    | false =>
      simp only[hfl,oF]at hq;cases hfa:l.all AV.bE with
      | true => simp only[hfa,oT,Tr.run,aen]at hq;subst hq;exact FF hT h hc hd hdn hop (uD hT h2 h1) h3' hn (x.chunks h4) hfa hn'
      | false => simp only[hfa,oF,Tr.run,aen]at hq;subst hq;exact Aw hT h hc hd hdn hf hop (uD hT h2 h1) h3' hn
 ·
  obtain⟨ti,h1,hq⟩:=Tr.af hq;obtain⟨tx,h2,hq⟩:=Tr.af hq;obtain⟨av,h3,hq⟩:=Tr.af hq;obtain⟨l,h4,hq⟩:=Tr.af hq;obtain⟨tv,h5,hq⟩:=Tr.af hq;simp only[Tr.run,aen]at hq;subst hq;exact VC hT h hc hd hdn hop h1 (x.get h2) h3 (x.load h4) h5
 ·
  obtain⟨tv,h1,hq⟩:=Tr.af hq;split at hq
  . simp only[Tr.run,aen]at hq;subst hq;exact xR h hc hd hdn hop (x.get h1) (.inl ⟨_,_,rfl⟩)
  . rename_i r j s i c;cases hl:st0.live (.pel r j s i c)with
    | false=>simp[hl,Tr.run]at hq
    | true => simp only[hl,oT,Tr.run,aen]at hq;subst hq;exact xR h hc hd hdn hop (x.get h1) (.inr ⟨⟨_,_,_,_,_,rfl⟩,x.live hl⟩)
  . simp[Tr.run]at hq
 ·
  obtain⟨tx,h1,hq⟩:=Tr.af hq;obtain⟨ty,h2,hq⟩:=Tr.af hq;obtain⟨av,h3,rfl⟩:=j7 hq;exact aap hT h hc hd hdn hop (x.get h1) (x.get h2) h3
 ·
  obtain⟨tx,h1,hq⟩:=Tr.af hq;obtain⟨av,h3,rfl⟩:=j7 hq;exact ab0 h hc hd hdn hop (x.get h1) h3
 ·
  obtain⟨ts,h1,hq⟩:=Tr.af hq;obtain⟨td,h2,hq⟩:=Tr.af hq;obtain⟨tx,h3,hq⟩:=Tr.af hq;cases hb:ts.agg||td.agg with
  | true=>simp[hb,Tr.run]at hq
  | false =>
    simp only[hb,oF]at hq;simp only[af2]at hb;split at hq
    . rename_i k0 k e1 e2;obtain⟨q,h4,hq⟩:=Tr.af hq;obtain⟨av,h5,rfl⟩:=j7 hq;simp only[Tr.run,aen]at h5;subst h5;exact FO hT h hc hd hdn hop h1 h2 hb.1 hb.2 e1 e2 (x.get h3) h4
    . rename_i k0 e1 e2;obtain⟨q,h4,hq⟩:=Tr.af hq;obtain⟨hn,hq⟩:=Tr.bB hq;obtain⟨av,h5,rfl⟩:=j7 hq;simp only[Tr.run,aen]at h5;subst h5;exact Ci hT h hc hd hdn hop h1 h2 hb.1 hb.2 e1 e2 (x.get h3) h4 hn
    . rename_i e e1 e2;cases hu:E.u8 td.elem with
      | false=>simp[hu,Tr.run]at hq
      | true => simp only[hu,oN,oF]at hq;obtain⟨q,h4,hq⟩:=Tr.af hq;simp only[Tr.run,aen]at hq;subst hq;exact yF hT h hc hd hdn hf hop h1 h2 hb.1 hb.2 e1 e2 hu (x.get h3) h4
    . rename_i e e1 e2;cases hu:E.u8 ts.elem with
      | false=>simp[hu,Tr.run]at hq
      | true => simp only[hu,oN,oF]at hq;obtain⟨q,h4,hq⟩:=Tr.af hq;obtain⟨xs,h5,hq⟩:=Tr.af hq;obtain⟨av,h6,rfl⟩:=j7 hq;simp only[Tr.run,aen]at h6;subst h6;exact AH hT h hc hd hdn hop h1 h2 hb.1 hb.2 e1 e2 hu (x.get h3) h4 (x.bo h5)
    . rename_i e1 e2;obtain⟨q,h4,hq⟩:=Tr.af hq;obtain⟨av,h5,rfl⟩:=j7 hq;simp only[Tr.run,aen]at h5;subst h5;exact Fw hT h hc hd hdn hop h1 h2 hb.1 hb.2 e1 e2 (x.get h3) h4
    . simp[Tr.run]at hq
 ·
  rename_i t n n';obtain⟨ti,h1,hq⟩:=Tr.af hq;obtain⟨te,h2,hq⟩:=Tr.af hq;obtain⟨tv,h3,hq⟩:=Tr.af hq;obtain⟨q,h4,hq⟩:=Tr.af hq;cases hb:Nat.beq n n' with
  | false=>simp[hb,Tr.run]at hq
  | true => simp only[hb,oT]at hq;have hn:=beq_eq hb;obtain⟨h5,hq⟩:=Tr.bB hq;simp only[Tr.run,aen]at hq;subst hq;simp only[aeo,bM,afJ]at h5;obtain⟨ev,_⟩:=fB (aX h hc (o:= .tmp n) (x.tv h3)) h4;exact Cr hT h hd hdn hf hop ev (hn ▸ ev) (uD hT h2 h1) h5.1 h5.2.1 (Nat.lt_of_not_le fun hh=>by have:=h5.2.2; simp[Nat.blt,Nat.ble_eq]at this; omega)
 ·
  rename_i t k n k' n';obtain⟨ti,h1,hq⟩:=Tr.af hq;obtain⟨te,h2,hq⟩:=Tr.af hq;cases hb:n == n'&&(bM 0 n&&(bM (n * te.bytes) bG&&Nat.blt 0 te.bytes))with
  | false=>simp[hb,Tr.run]at hq
  | true => simp only[hb,oT,Tr.run,aen]at hq;subst hq;simp only[aeo,bM,afJ,beq_iff_eq]at hb;obtain⟨rfl,h5⟩:=hb;exact Cr hT h hd hdn hf hop rfl rfl (uD hT h2 h1) h5.1 h5.2.1 (Nat.lt_of_not_le fun hh=>by have:=h5.2.2; simp[Nat.blt,Nat.ble_eq]at this; omega)
 ·
  rename_i t y lo hi;obtain⟨tv,h1,hq⟩:=Tr.af hq;split at hq
  . rename_i te h2;obtain⟨av,h3,rfl⟩:=j7 hq;exact Rf hT h hc hd hdn hop h2 (x.get h1) (x.nK h3)
  . cases hs:E.str t with
    | false=>simp[hs,Tr.run]at hq
    | true => simp only[hs,oT]at hq;obtain⟨av,h3,rfl⟩:=j7 hq;exact ML hT h hc hd hdn hop hs (x.get h1) (x.oh h3)
 ·
  obtain⟨ti,h1,hq⟩:=Tr.af hq;obtain⟨q,h2,hq⟩:=Tr.af hq;obtain⟨tv,h3,hq⟩:=Tr.af hq;obtain⟨av,h4,hq⟩:=Tr.af hq;cases hb:ti.agg&&st0.live av with
  | false=>simp[hb,Tr.run]at hq
  | true => simp only[hb,oT]at hq;simp only[aeo]at hb;obtain⟨av',h5,hq⟩:=Tr.af hq;simp only[Tr.run,aen]at hq;subst hq;exact DF hT h hc hd hdn hop h1 hb.1 h2 (x.get h3) h4 (x.live hb.2) h5
 ·
  obtain⟨ti,h1,hq⟩:=Tr.af hq;obtain⟨q,h2,hq⟩:=Tr.af hq;obtain⟨tf,h3,hq⟩:=Tr.af hq;obtain⟨tv,h4,hq⟩:=Tr.af hq;split at hq
  . rename_i l;cases hb:ti.agg&&Nat.ble (q.1+tf.ks.length) l.length with
    | false=>simp[hb,Tr.run]at hq
    | true => simp only[hb,oT]at hq;simp only[aeo]at hb;obtain⟨tv',h5,hq⟩:=Tr.af hq;simp only[Tr.run,aen]at hq;subst hq;exact Pf hT h hc hd hdn hop h1 hb.1 h2 h3 (x.get h4) (aeJ hb.2) h5
  . simp[Tr.run]at hq
 ·
  obtain⟨te,h1,hq⟩:=Tr.af hq;obtain⟨tv,h2,hq⟩:=Tr.af hq;obtain⟨ti,h3,hq⟩:=Tr.af hq;obtain⟨q,h4,hq⟩:=Tr.af hq;obtain⟨av,h5,rfl⟩:=j7 hq;exact CK hT h hc hd hdn hop h1 (x.get h2) (x.get h3) h4 (x.indexAddr h5)
 ·
  rename_i t y i;cases hs:E.str t with
  | false=>simp[hs,Tr.run]at hq
  | true => simp only[hs,oN,oF]at hq;obtain⟨tv,h2,hq⟩:=Tr.af hq;obtain⟨ti,h3,hq⟩:=Tr.af hq;obtain⟨q,h4,hq⟩:=Tr.af hq;obtain⟨s,h5,hq⟩:=Tr.af hq;obtain⟨h6,hq⟩:=Tr.bB hq;obtain⟨av,h7,rfl⟩:=j7 hq;simp only[Tr.run,aen]at h7;subst h7;exact Ph hT h hc hd hdn hop hs (x.get h2) (x.get h3) h4 h5 h6
 ·
  obtain⟨tv,h1,hq⟩:=Tr.af hq;split at hq
  . rename_i l;split at hq
    . rename_i gg l' h2;obtain⟨tv',h3,hq⟩:=Tr.af hq;simp only[Tr.run,aen]at hq;subst hq;exact Ij h hc hd hdn hop (x.get h1) h2 h3
    . simp[Tr.run]at hq
  . simp[Tr.run]at hq
 ·
  rename_i f first caps
  cases hb:Nat.beq first.size 0 with
  | false=>simp[hb,Tr.run]at hq
  | true => simp only[hb,oT]at hq;obtain⟨l,h1,hq⟩:=Tr.af hq;obtain⟨r,h2,hq⟩:=Tr.af hq;simp only[Tr.run,aen]at hq;subst hq;exact E8 h hc hd hdn hop (beq_eq hb) (x.getAll h1) h2
 ·
  rename_i c;split at hq
  . rename_i hcal;split at hq
    . rename_i y t ts hargs hts;cases hs:E.str t with
      | true => simp only[hs,oT]at hq;obtain⟨tv,h1,hq⟩:=Tr.af hq;obtain⟨n,h2,hq⟩:=Tr.af hq;obtain⟨av,h3,rfl⟩:=j7 hq;simp only[Tr.run,aen]at h3;subst h3;exact RH (isS:=true) hT h hc hd hdn hop hcal hargs hts hs (x.get h1) (x.len h2)
      | false => simp only[hs,oF]at hq;obtain⟨te,h0,hq⟩:=Tr.af hq;obtain⟨tv,h1,hq⟩:=Tr.af hq;obtain⟨n,h2,hq⟩:=Tr.af hq;obtain⟨av,h3,rfl⟩:=j7 hq;simp only[Tr.run,aen]at h3;subst h3;exact RH (isS:=false) hT h hc hd hdn hop hcal hargs hts ⟨te,h0⟩ (x.get h1) (x.len h2)
    . simp[Tr.run]at hq
  . rename_i hcal;split at hq
    . rename_i y t ts hargs hts;obtain⟨te,h0,hq⟩:=Tr.af hq;obtain⟨tv,h1,hq⟩:=Tr.af hq;cases hb:eW tv with
      | false=>rw[hb]at hq; simp[Tr.run]at hq
      | true => rw[hb]at hq;simp only[oT]at hq;obtain⟨av,h3,rfl⟩:=j7 hq;simp only[Tr.run,aen]at h3;subst h3;exact Ya hT h hc hd hdn hop hcal hargs hts h0 (x.get h1) hb
    . simp[Tr.run]at hq
  . rename_i hcal;split at hq
    . rename_i y z hargs;obtain⟨tx,h1,hq⟩:=Tr.af hq;obtain⟨ty,h2,hq⟩:=Tr.af hq;obtain⟨p1,h3,hq⟩:=Tr.af hq;obtain⟨p2,h4,hq⟩:=Tr.af hq;cases hk:(p1.1 == p2.1)with
      | false=>simp[hk,Tr.run]at hq
      | true => simp only[hk,oT]at hq;obtain⟨av,h5,rfl⟩:=j7 hq;simp only[Tr.run,aen]at h5;subst h5;exact D5 (mn:=true) h hc hd hdn hop hcal hargs (x.get h1) (x.get h2) h3 h4 (by simpa using hk)
    . simp[Tr.run]at hq
  . rename_i hcal;split at hq
    . rename_i y z hargs;obtain⟨tx,h1,hq⟩:=Tr.af hq;obtain⟨ty,h2,hq⟩:=Tr.af hq;obtain⟨p1,h3,hq⟩:=Tr.af hq;obtain⟨p2,h4,hq⟩:=Tr.af hq;cases hk:(p1.1 == p2.1)with
      | false=>simp[hk,Tr.run]at hq
      | true => simp only[hk,oT]at hq;obtain⟨av,h5,rfl⟩:=j7 hq;simp only[Tr.run,aen]at h5;subst h5;exact D5 (mn:=false) h hc hd hdn hop hcal hargs (x.get h1) (x.get h2) h3 h4 (by simpa using hk)
    . simp[Tr.run]at hq
  . rename_i f hcal;obtain⟨tf,h1,hq⟩:=Tr.af hq;split at hq
    . rename_i gid caps;obtain⟨l,h2,hq⟩:=Tr.af hq;split at hq
      . rename_i hs _;exact Vl (hga.2 _ _ hs) h hc hd hdn hf hop hcal (x.get h1) (x.getAll h2) (x.px hq)
      obtain⟨s,y,z,r,h3,h4,h5,h6⟩:=rf hq;exact Uu hga h hc hd hdn hf hop hcal (x.get h1) (x.getAll h2) h3 (x.args h4) h5 h6
    . simp[Tr.run]at hq
  . simp[Tr.run]at hq
 . simp[Tr.run]at hq
end
def TV.gJ:TV->Prop
 | .may _ _ _ _ _=>True
 | _=>False
theorem DA{gg:Bool}{l:List AV}{tv:TV}(h:gG gg l=some tv):¬ tv.gJ:=by unfold gG at h;split at h <;> simp at h <;> subst h <;> exact fun h=>h
theorem lJ{l:List (Bool×List AV)}{tv:TV}(h:hU l=some tv):¬ tv.gJ:=by unfold hU at h;split at h <;> simp at h <;> subst h <;> exact fun h=>h
theorem zw{st:St}{o:Operand}{tv:TV}(h:st.get o=some tv)(hm:tv.gJ):∃ d,look st.tm d=some tv:=by
 cases tv with
 | may q want y gg l=>obtain⟨d,hd,_⟩:=Hi h; exact⟨d,hd⟩
 | _=>exact hm.elim
section
variable{st0:St}{E:En}
def NM(st0:St)(t:Tr (TV×Option Rt)):Prop:=∀ p,t.run=some p->p.1.gJ->∃ d',look st0.tm d'=some p.1
theorem XN{α:Type}{o:Option α}{f:α->Tr (TV×Option Rt)}(h:∀ x,o=some x->NM st0 (f x)):NM st0 (Tr.bQ o f):=fun p hp=>by obtain⟨x,h1,h2⟩:=Tr.af hp;exact h x h1 p h2
theorem aaq{c:Bool}{t u:Tr (TV×Option Rt)}(h:NM st0 t)(h':NM st0 u):NM st0 (bif c then t else u):=by cases c <;> assumption
theorem X8{c:Bool}{t:Tr (TV×Option Rt)}(h:NM st0 t):NM st0 (.need c t):=fun p hp=>h p (Tr.bB hp).2
theorem Vz{p:TV×Option Rt}(h:¬ p.1.gJ):NM st0 (.ret p):=fun q hq hm=>by simp only[Tr.run,aen]at hq;subst hq;exact(h hm).elim
theorem acm{t:Tr AV}:NM st0 (t.bind fun a=> .ret (.v a,none)):=fun p hp hm=>by obtain⟨av,_,rfl⟩:=j7 hp;exact hm.elim
theorem UR:NM st0 .fail:=fun p hp=>by simp[Tr.run]at hp
theorem adK{x:Operand}{tv:TV}(h:st0.get x=some tv):NM st0 (.ret (tv,none)):=fun p hp hm=>by simp only[Tr.run,aen]at hp;subst hp;exact zw h hm
theorem acp{d:Nat}{l:List Su}{tvs:List TV}:NM st0 (st0.uE d l tvs):=fun p hq hm=>by
 obtain⟨s,y,z,r,h3,h4,h5,h6⟩:=rf hq;unfold eb at h6;split at h6
 . rename_i tv hw;simp only[aen]at h6;subst h6;exact(lJ hw hm).elim
 . simp at h6
theorem ad0{d:Nat}{s:Sc}{l:List TV}:NM st0 (st0.px d s l):=by
 unfold St.px;split
 . exact aaq (XN fun _ _=>X8 (Vz fun h=>h)) UR
 . exact UR
theorem HH{d:Nat}{op:Op}{p:TV×Option Rt}(hq:(wX E st0 d op).run=some p)(hm:p.1.gJ):∃ d',look st0.tm d'=some p.1:=by
 have h:NM st0 (wX E st0 d op):=by
  unfold wX
  repeat' first | exact acm | exact UR | exact acp | exact ad0 | refine XN fun _ _ => ?_ | exact adK (by assumption) | refine aaq ?_ ?_ | refine X8 ?_ | exact Vz (DA (by assumption)) | exact Vz fun h=>h | split
 exact h p hq hm
end
theorem bY(st:St)(d:Nat)(p:TV×Option Rt)(t:Nat):look (st.aT d p).tm t=if d=t then some p.1 else look st.tm t:=aK _ _ _ _
theorem w8(st:St)(d:Nat)(p:TV×Option Rt)(r:Nat):look (st.aT d p).rt r=match p.2 with | some R=>if d=r then some R else look st.rt r | none=>look st.rt r:=by
 unfold St.aT;cases p.2 with
 | none=>rfl
 | some R=>exact aK _ _ _ _
def dM(nt:Nat->Prop)(base:St):Bd->Prop
 | []=>True
 | (i,t,p)::r=>nt t/\look base.tm t=none/\look base.rt t=none/\(∀ e∈r,e.1≠i/\e.2.1≠t)/\dM nt base r
theorem dM.mem{nt:Nat->Prop}{base:St}:∀ {bs:Bd} {i t:Nat} {p:TV×Option Rt},dM nt base bs->(i,t,p)∈bs->nt t/\look base.tm t=none/\look base.rt t=none
 | [],_,_,_,_,h=>by simp at h
 | (i0,t0,p0)::r,i,t,p,hb,h=>by
   obtain⟨h1,h2,h3,h4,h5⟩:=hb;rcases aew.1 h with h | h
   . cases h; exact⟨h1,h2,h3⟩
   . exact dM.mem h5 h
theorem dM.uniq{nt:Nat->Prop}{base:St}:∀ {bs:Bd} {i i' t t':Nat} {p p':TV×Option Rt},dM nt base bs->(i,t,p)∈bs->(i',t',p')∈bs->(i=i'∨t=t')->i=i'/\t=t'/\p=p'
 | [],_,_,_,_,_,_,_,h,_,_=>by simp at h
 | (i0,t0,p0)::r,i,i',t,t',p,p',hb,h,h',he=>by
   obtain⟨h1,h2,h3,h4,h5⟩:=hb;rcases aew.1 h with h | h
   . cases h;rcases aew.1 h' with h' | h'
     . cases h'; exact⟨rfl,rfl,rfl⟩
     . have:=h4 _ h';rcases he with he | he
       . exact absurd he.symm this.1
       . exact absurd he.symm this.2
   . rcases aew.1 h' with h' | h'
     . cases h';have:=h4 _ h;rcases he with he | he
       . exact absurd he this.1
       . exact absurd he this.2
     . exact dM.uniq h5 h h' he
theorem ed{nt:Nat->Prop}{base:St}(m:Nat):∀ {bs:Bd},dM nt base bs->∀(t:Nat) (tv:TV),look (view base m bs).tm t=some tv↔(∃ i p,(i,t,p)∈bs/\m.testBit i=true/\p.1=tv)∨look base.tm t=some tv
 | [],_,t,tv=>by simp[view]
 | (i0,t0,p0)::r,hb,t,tv=>by
   obtain⟨h1,h2,h3,h4,h5⟩:=hb;have ih:=ed m h5 t tv;unfold view;cases hm:m.testBit i0 with
   | false =>
     simp only[oF];rw[ih];constructor
     . rintro(⟨i,p,hp,hq⟩ | h)
       . exact .inl ⟨i,p,aeB _ hp,hq⟩
       . exact .inr h
     . rintro(⟨i,p,hp,hq⟩ | h)
       . rcases aew.1 hp with hp | hp
         . cases hp; rw[hm]at hq; simp at hq
         . exact .inl ⟨i,p,hp,hq⟩
       . exact .inr h
   | true =>
     simp only[oT];rw[bY];by_cases ht:t0=t
     . subst ht;rw[if_pos rfl];constructor
       . intro h;exact .inl ⟨i0,p0,aeI ..,hm,by simpa using h⟩
       . rintro(⟨i,p,hp,hq,rfl⟩ | h)
         . rcases aew.1 hp with hp | hp
           . cases hp; rfl
           . exact absurd rfl (h4 _ hp).2
         . rw[h2]at h; simp at h
     . rw[if_neg ht,ih];constructor
       . rintro(⟨i,p,hp,hq⟩ | h)
         . exact .inl ⟨i,p,aeB _ hp,hq⟩
         . exact .inr h
       . rintro(⟨i,p,hp,hq⟩ | h)
         . rcases aew.1 hp with hp | hp
           . cases hp; exact absurd rfl ht
           . exact .inl ⟨i,p,hp,hq⟩
         . exact .inr h
theorem hY{nt:Nat->Prop}{base:St}(m:Nat):∀ {bs:Bd},dM nt base bs->∀(t:Nat) (R:Rt),look (view base m bs).rt t=some R↔(∃ i p,(i,t,p)∈bs/\m.testBit i=true/\p.2=some R)∨look base.rt t=some R
 | [],_,t,tv=>by simp[view]
 | (i0,t0,p0)::r,hb,t,R=>by
   obtain⟨h1,h2,h3,h4,h5⟩:=hb;have ih:=hY m h5 t R;have skip:((∃ i p,(i,t,p)∈r/\m.testBit i=true/\p.2=some R)∨look base.rt t=some R)->(∃ i p,(i,t,p)∈(i0,t0,p0)::r/\m.testBit i=true/\p.2=some R)∨look base.rt t=some R:=by
    rintro(⟨i,p,hp,hq⟩ | h)
    . exact .inl ⟨i,p,aeB _ hp,hq⟩
    . exact .inr h
   unfold view;cases hm:m.testBit i0 with
   | false =>
     simp only[oF];rw[ih];refine⟨skip,?_⟩;rintro(⟨i,p,hp,hq⟩ | h)
     . rcases aew.1 hp with hp | hp
       . cases hp; rw[hm]at hq; simp at hq
       . exact .inl ⟨i,p,hp,hq⟩
     . exact .inr h
   | true =>
     simp only[oT];rw[w8];cases hp0:p0.2 with
     | none =>
       simp only;rw[ih];refine⟨skip,?_⟩;rintro(⟨i,p,hp,hq,hq'⟩ | h)
       . rcases aew.1 hp with hp | hp
         . cases hp; rw[hp0]at hq'; simp at hq'
         . exact .inl ⟨i,p,hp,hq,hq'⟩
       . exact .inr h
     | some R0 =>
       simp only;by_cases ht:t0=t
       . subst ht;rw[if_pos rfl];constructor
         . intro h;exact .inl ⟨i0,p0,aeI ..,hm,by rw[hp0]; exact h⟩
         . rintro(⟨i,p,hp,hq,hq'⟩ | h)
           . rcases aew.1 hp with hp | hp
             . cases hp; rw[hp0]at hq'; exact hq'
             . exact absurd rfl (h4 _ hp).2
           . rw[h3]at h; simp at h
       . rw[if_neg ht,ih];refine⟨skip,?_⟩;rintro(⟨i,p,hp,hq⟩ | h)
         . rcases aew.1 hp with hp | hp
           . cases hp; exact absurd rfl ht
           . exact .inl ⟨i,p,hp,hq⟩
         . exact .inr h
def bitsOf:Bd->Nat
 | []=>0
 | (i,_,_)::r=>bitsOf r ||| 2 ^ i
theorem dV:∀ {bs:Bd} {i t:Nat} {p:TV×Option Rt},(i,t,p)∈bs->(bitsOf bs).testBit i=true
 | (i0,t0,p0)::r,i,t,p,h=>by
   unfold bitsOf;rw[Nat.testBit_or];rcases aew.1 h with h | h
   . cases h; simp[Nat.testBit_two_pow_self]
   . rw[dV h]; rfl
theorem iy(base:St)(m:Nat):∀(bs:Bd),(∀ i t p,(i,t,p)∈bs->m.testBit i=true)->aE base bs=view base m bs
 | [],_=>rfl
 | (i,t,p)::r,h=>by unfold aE view;rw[h i t p (aeI ..)];simp only[oT];rw[iy base m r fun i' t' p' h'=>h i' t' p' (aeB _ h')]
def fh(tv tv':TV):Prop:=∀(Z:Nat->Prop) (g:Gh) (st:St) (w:World) (v:Value),bF Z g st w tv v->bF Z g st w tv' v
theorem fh.refl(tv:TV):fh tv tv:=fun _ _ _ _ _ h=>h
theorem fh.trans{p q r:TV}(h:fh p q)(h':fh q r):fh p r:=fun Z g st w v x=>h' Z g st w v (h Z g st w v x)
def Alike(p p':TV×Option Rt):Prop:=p.2=p'.2/\fh p.1 p'.1/\fh p'.1 p.1
theorem Alike.refl(p:TV×Option Rt):Alike p p:=⟨rfl,fh.refl _,fh.refl _⟩
theorem Alike.trans{p q r:TV×Option Rt}(h:Alike p q)(h':Alike q r):Alike p r:=⟨h.1.trans h'.1,h.2.1.trans h'.2.1,h'.2.2.trans h.2.2⟩
def dH(bs bs':Bd):Prop:=∀ i t p,(i,t,p)∈bs->∃ p',(i,t,p')∈bs'/\Alike p p'
theorem dH.refl(bs:Bd):dH bs bs:=fun i t p h=>⟨p,h,Alike.refl p⟩
theorem dH.trans{a b c:Bd}(h:dH a b)(h':dH b c):dH a c:=fun i t p hp=>by obtain⟨p',h1,h2⟩:=h i t p hp;obtain⟨p'',h3,h4⟩:=h' i t p' h1;exact⟨p'',h3,h2.trans h4⟩
theorem dH.cons{e:Nat×Nat×(TV×Option Rt)}{bs bs':Bd}(h:dH bs bs'):dH bs (e::bs'):=fun i t p hp=>by obtain⟨p',h1,h2⟩:=h i t p hp;exact⟨p',aeB _ h1,h2⟩
def MB(st:St):Prop:=∀ d q want y gg l,look st.tm d=some (.may q want y gg l)->∃ tq,look st.tm q=some tq/\fV tq y
theorem MB.cons{st:St}(h:MB st):oD st:=fun d q want y gg l hl tq htq=>by obtain⟨tq',h1,h2⟩:=h d q want y gg l hl;rw[htq]at h1;simp only[aen]at h1;exact h1 ▸ h2
theorem fV.of{tv tv':TV}{y:Bool}(h:fh tv' tv)(ht:fV tv y):fV tv' y:=fun Z g st w v hr=>ht Z g st w v (h Z g st w v hr)
theorem bO{nt:Nat->Prop}{base:St}{bs:Bd}(hb:dM nt base bs)(t:Nat)(tv:TV):look (aE base bs).tm t=some tv↔(∃ i p,(i,t,p)∈bs/\p.1=tv)∨look base.tm t=some tv:=by
 rw[iy base (bitsOf bs) bs (fun i t p h=>dV h),ed _ hb];constructor
 . rintro(⟨i,p,h1,_,h3⟩ | h)
   . exact .inl ⟨i,p,h1,h3⟩
   . exact .inr h
 . rintro(⟨i,p,h1,h3⟩ | h)
   . exact .inl ⟨i,p,h1,dV h1,h3⟩
   . exact .inr h
section
variable{P:Program}{cx:Cx P}{Z:Nat->Prop}{g:Gh}{st:St}{a:Act}{w:World}{E:En}
theorem Rel.swap(h:Rel cx Z g st a w){st':St}(hr:∀ r,look st'.rt r=look st.rt r)(ht:∀ t tv,look st'.tm t=some tv->t<a.tmps.size/\bF Z g st w tv (a.tmps.getD t undef)):Rel cx Z g st' a w:=by
 have hcell:∀ r j,st'.cell r j=st.cell r j:=fun r j=>by simp only[St.cell,hr]
 have k:mA Z Z w w g g st st' :=
  { size:=oR _,z:=fun b hb _=>⟨hb,rfl⟩,root:=fun r R hR=>⟨R,by rw[hr]; exact hR,rfl,fun _=>rfl⟩
    cell:=fun r j c hc=>⟨c,by rw[hcell]; exact hc,GK.refl w g r j c⟩
    own:=fun r j b hb=>(h.fp r j b hb).1
    block:=(fb h (st':=st) (w':=w) rfl rfl).block }
 exact { os:=h.os,tape:=h.tape,output:=h.output,size:=h.size,block:=h.block,bL:=h.bL,z0:=h.z0
         fp:=fun r j b hb=>by rw[hcell]; exact h.fp r j b hb
         disj:=h.disj
         box:=fun r R hR hb=>by rw[hr]at hR;obtain⟨b1,b2,b3,b4,b5⟩:=h.box r R hR hb;exact⟨b1,b2,b3,fun r' R' hR'=>by rw[hr]at hR'; exact b4 r' R' hR',b5⟩
         cell:=fun r j c hc=>by rw[hcell]at hc;exact jJ.cg k _ _ _ _ (h.cell r j c hc) (fun _ h=>h) (fun _ _ _=>rfl)
         tm:=fun t tv htt=>⟨(ht t tv htt).1,bF.cg k _ _ (ht t tv htt).2⟩
         defers:=h.defers,pin:=h.pin }
theorem Cy{β:Type}(l l':List (Nat×β))(n:Nat):look (l++l') n=match look l n with | some x=>some x | none=>look l' n:=by
 induction l with
 | nil=>rfl
 | cons p l ih => obtain⟨m,x⟩:=p;simp only[List.cons_append,look];cases Nat.beq m n <;> simp[ih]
def over(st0 stS:St):St:=⟨st0.tm++stS.tm,stS.rt⟩
theorem sk(st0 stS:St)(t:Nat):look (over st0 stS).tm t=match look st0.tm t with | some x=>some x | none=>look stS.tm t:=by show look (st0.tm++stS.tm) t=_;rw[Cy];cases look st0.tm t <;> rfl
structure Fits (st0 stS:St) (a:Act):Prop where
 rt:∀ r R,look st0.rt r=some R->look stS.rt r=some R
 tm:∀ t tv0,look st0.tm t=some tv0->∃ tv,look stS.tm t=some tv/\fh tv0 tv/\∀(Z:Nat->Prop) (g:Gh) (st:St) (w:World),bF Z g st w tv (a.tmps.getD t undef)->bF Z g st w tv0 (a.tmps.getD t undef)
 may:∀ d q want y gg l,look st0.tm d=some (.may q want y gg l)->∀ tq,look stS.tm q=some tq->fV tq y
 mayS:oD stS
theorem Fits.ext{st0 stS:St}(f:Fits st0 stS a):Ext st0 (over st0 stS) where
 tm:=fun t tv h=>by rw[sk,h]
 rt:=f.rt
theorem Fits.rel{st0 stS:St}(f:Fits st0 stS a)(h:Rel cx Z g stS a w):Rel cx Z g (over st0 stS) a w:=by
 refine h.swap (fun _=>rfl) fun t tv ht => ?_
 rw[sk]at ht;cases h0:look st0.tm t with
 | none=>rw[h0]at ht; exact h.tm t tv ht
 | some tv0 => rw[h0]at ht;simp only[aen]at ht;subst ht;obtain⟨tv,h1,h2,h3⟩:=f.tm t tv0 h0;exact⟨(h.tm t tv h1).1,h3 _ _ _ _ (h.tm t tv h1).2⟩
theorem Fits.cons{st0 stS:St}(f:Fits st0 stS a):oD (over st0 stS):=by
 intro d q want y gg l hl tq htq;have key:∀ tqS,look stS.tm q=some tqS->fV tqS y:=by
  rw[sk]at hl;cases h0:look st0.tm d with
  | none=>rw[h0]at hl; exact f.mayS d q want y gg l hl
  | some tv0 => rw[h0]at hl;simp only[aen]at hl;subst hl;exact f.may d q want y gg l h0
 rw[sk]at htq;cases h0:look st0.tm q with
 | none=>rw[h0]at htq; exact key _ htq
 | some tv0 => rw[h0]at htq;simp only[aen]at htq;subst htq;obtain⟨tv,h1,h2,_⟩:=f.tm q tv0 h0;exact fV.of h2 (key tv h1)
theorem Fits.back{st0 stS:St}(f:Fits st0 stS a){t:Nat}{tv:TV}(h:look stS.tm t=some tv):∃ tv',look (over st0 stS).tm t=some tv'/\fh tv' tv:=by
 rw[sk];cases h0:look st0.tm t with
 | none=>exact⟨tv,h,fh.refl _⟩
 | some tv0 => obtain⟨tv1,h1,h2,_⟩:=f.tm t tv0 h0;rw[h]at h1;simp only[aen]at h1;subst h1;exact⟨tv0,rfl,h2⟩
variable{nt:Nat->Prop}{base:St}{bs bsF:Bd}{mask S:Nat}
theorem Jg(hb:dM nt base bs)(hF:dM nt base bsF)(hl:dH bs bsF)(hm:MB (aE base bs))(hmF:MB (aE base bsF))(hs:∀ i t p,(i,t,p)∈bs->mask.testBit i=true->S.testBit i=true):Fits (view base mask bs) (view base S bsF) a where
 rt:=fun r R h=>by
  rw[hY _ hb]at h;rw[hY _ hF];rcases h with ⟨i,p,h1,h2,h3⟩ | h
  . obtain⟨p',h4,h5⟩:=hl i r p h1;exact .inl ⟨i,p',h4,hs i r p h1 h2,by rw[<- h5.1]; exact h3⟩
  . exact .inr h
 tm:=fun t tv0 h=>by
  rw[ed _ hb]at h;rcases h with ⟨i,p,h1,h2,rfl⟩ | h
  . obtain⟨p',h4,h5⟩:=hl i t p h1;exact⟨p'.1,(ed _ hF _ _).2 (.inl ⟨i,p',h4,hs i t p h1 h2,rfl⟩),h5.2.1,fun Z g st w hr=>h5.2.2 Z g st w _ hr⟩
  . exact⟨tv0,(ed _ hF _ _).2 (.inr h),fh.refl _,fun _ _ _ _ h=>h⟩
 may:=fun d q want y gg l h tq htq=>by
  have h1:look (aE base bs).tm d=some (.may q want y gg l):=by
   rw[bO hb];rw[ed _ hb]at h;rcases h with ⟨i,p,h1,h2,h3⟩ | h
   . exact .inl ⟨i,p,h1,h3⟩
   . exact .inr h
  obtain⟨tq0,h2,h3⟩:=hm d q want y gg l h1;rw[bO hb]at h2;rw[ed _ hF]at htq;rcases h2 with ⟨i,p,g1,rfl⟩ | h2
  . obtain⟨p',g2,g3⟩:=hl i q p g1;rcases htq with ⟨i',p'',k1,_,rfl⟩ | htq
    . obtain⟨_,_,rfl⟩:=hF.uniq g2 k1 (.inr rfl);exact fV.of g3.2.2 h3
    . rw[(hF.mem g2).2.1]at htq; simp at htq
  . rcases htq with ⟨i',p'',k1,_,rfl⟩ | htq
    . rw[(hF.mem k1).2.1]at h2; simp at h2
    . rw[h2]at htq;simp only[aen]at htq;exact htq ▸ h3
 mayS:=by
  intro d q want y gg l h tq htq;have up:∀ t tv,look (view base S bsF).tm t=some tv->look (aE base bsF).tm t=some tv:=fun t tv h=>by
   rw[bO hF];rw[ed _ hF]at h;rcases h with ⟨i,p,h1,h2,h3⟩ | h
   . exact .inl ⟨i,p,h1,h3⟩
   . exact .inr h
  exact hmF.cons d q want y gg l (up _ _ h) tq (up _ _ htq)
theorem aR(S j i:Nat):(S ||| 2 ^ j).testBit i=(S.testBit i||decide (j=i)):=by rw[Nat.testBit_or,Nat.testBit_two_pow]
theorem Dw(hF:dM nt base bsF){j d:Nat}{p p':TV×Option Rt}(hj:(j,d,p')∈bsF){stX:St}(h:Rel cx Z g (stX.aT d p) a w)(hrt:∀ r,look stX.rt r=look (view base S bsF).rt r)
 (htm:∀ t tv,look (view base S bsF).tm t=some tv->∃ tv',look stX.tm t=some tv'/\fh tv' tv)(hp2:p.2=p'.2)(hp1:fh p.1 p'.1):Rel cx Z g (view base (S ||| 2 ^ j) bsF) a w:=by
 obtain⟨_,n1,n2⟩:=hF.mem hj;refine h.swap (fun r => ?_) fun t tv ht => ?_
 . apply Option.ext;intro R;show look _ r=some R↔look _ r=some R;rw[hY _ hF,w8,hrt];constructor
   . rintro(⟨i,p'',h1,h2,h3⟩ | h1)
     . rw[aR]at h2;by_cases hij:j=i
       . obtain⟨_,e1,e2⟩:=hF.uniq hj h1 (.inl hij);subst e1; subst e2;rw[hp2,h3];simp
       . have hS:S.testBit i=true:=by simpa[hij]using h2
         have hdr:¬ d=r:=fun e=>hij ((hF.uniq hj h1 (.inr e)).1)
         have:look (view base S bsF).rt r=some R:=(hY _ hF _ _).2 (.inl ⟨i,p'',h1,hS,h3⟩);cases p.2 <;> simp[hdr,this]
     . have hdr:¬ d=r:=fun e=>by rw[<- e,n2]at h1; simp at h1
       have:look (view base S bsF).rt r=some R:=(hY _ hF _ _).2 (.inr h1);cases p.2 <;> simp[hdr,this]
   . intro h1;have old:look (view base S bsF).rt r=some R->(∃ i p,(i,r,p)∈bsF/\(S ||| 2 ^ j).testBit i=true/\p.2=some R)∨look base.rt r=some R:=fun h1=>by
      rw[hY _ hF]at h1;rcases h1 with ⟨i,p'',k1,k2,k3⟩ | h1
      . exact .inl ⟨i,p'',k1,by rw[aR,k2]; rfl,k3⟩
      . exact .inr h1
     cases hp:p.2 with
     | none=>rw[hp]at h1; exact old h1
     | some R0 =>
       rw[hp]at h1;simp only at h1;by_cases hdr:d=r
       . rw[if_pos hdr]at h1;subst hdr;exact .inl ⟨j,p',hj,by rw[aR]; simp,by rw[<- hp2,hp]; exact h1⟩
       . rw[if_neg hdr]at h1; exact old h1
 . have old:¬ d=t->look (view base S bsF).tm t=some tv->t<a.tmps.size/\bF Z g (stX.aT d p) w tv (a.tmps.getD t undef):=fun hdt h1=>by
    obtain⟨tv',k1,k2⟩:=htm t tv h1;have:=h.tm t tv' (by rw[bY,if_neg hdt]; exact k1);exact⟨this.1,k2 _ _ _ _ _ this.2⟩
   rw[ed _ hF]at ht;rcases ht with ⟨i,p'',h1,h2,rfl⟩ | h1
   . rw[aR]at h2;by_cases hij:j=i
     . obtain⟨_,e1,e2⟩:=hF.uniq hj h1 (.inl hij);subst e1; subst e2;have:=h.tm d p.1 (by rw[bY,if_pos rfl]);exact⟨this.1,hp1 _ _ _ _ _ this.2⟩
     . have hS:S.testBit i=true:=by simpa[hij]using h2
       exact old (fun e=>hij ((hF.uniq hj h1 (.inr e)).1)) ((ed _ hF _ _).2 (.inl ⟨i,p'',h1,hS,rfl⟩))
   . exact old (fun e=>by rw[<- e,n1]at h1; simp at h1) ((ed _ hF _ _).2 (.inr h1))
theorem JI(hF:dM nt base bsF){j d:Nat}{p':TV×Option Rt}(hj:(j,d,p')∈bsF)(hS:S.testBit j=false){st0:St}:(over st0 (view base S bsF)).free d=true:=by
 have:look (view base S bsF).rt d=none:=by
  cases hl:look (view base S bsF).rt d with
  | none=>rfl
  | some R =>
    rw[hY _ hF]at hl;rcases hl with ⟨i,p'',h1,h2,_⟩ | hl
    . rw[(hF.uniq hj h1 (.inr rfl)).1,h2]at hS; simp at hS
    . rw[(hF.mem hj).2.2]at hl; simp at hl
 show(match look (view base S bsF).rt d with | none=>true | some _=>false)=true;rw[this]
def En.zq(E:En)(t:Nat):Prop:=E.dB t=true
def Fit{P:Program}(cx:Cx P)(E:En)(a:Act):Prop:=E.nt<=a.tmps.size/\∀ t v,cx.pin t=some v->gW E.pins t=true
theorem Fit.dst{P:Program}{cx:Cx P}{a:Act}(h:Fit cx E a){d:Nat}(hd:E.zq d):jw cx a d:=by
 unfold En.zq En.dB at hd;simp only[aeo,ae8]at hd;refine⟨aeK (afr (aeJ hd.1)) h.1,?_⟩;cases hp:cx.pin d with
 | none=>rfl
 | some v=>rw[h.2 d v hp]at hd; simp at hd
theorem Fit.put{P:Program}{cx:Cx P}{a:Act}(h:Fit cx E a)(d:Option Nat)(v:Value):Fit cx E (a.put d v):=⟨by rw[sv]; exact h.1,h.2⟩
def rj(P:Program)(E:En)(ops:Array Oper)(ns:List Nat)(base:St)(bsF:Bd)(i0 j:Nat):Prop :=
 ∀(cx:Cx P) (S:Nat) (a:Act) (w:World) (Z:Nat->Prop) (g:Gh) (next:Act->World->Prop) (Q:Exit->Act->World->Prop),
  (∀ i,i0<=i->i<j->(ns.getD j cy).testBit i=true->S.testBit i=true)->S.testBit j=false->Rel cx Z g (view base S bsF) a w->Fit cx E a ->
  (∀ Z' g' a' w',Rel cx Z' g' (view base (S ||| 2 ^ j) bsF) a' w'->Fit cx E a'->next a' w')->wpOp P ops Q j next a w
variable{ops:Array Oper}{ns:List Nat}{i0:Nat}
theorem Eb(hT:cf P E)(hga:cZ P E){j d:Nat}{o:Oper}{p p':TV×Option Rt}(ho:ops[j]? = some o)(hd:o.dst=some d)(hF:dM E.zq base bsF)(hj:(j,d,p')∈bsF)(hp2:p.2=p'.2)(hp1:fh p.1 p'.1)
 {st0:St}(hq:(wX E st0 d o.op).run=some p){cx:Cx P}{S:Nat}{a:Act}{w:World}{Z:Nat->Prop}{g:Gh}{next:Act->World->Prop}{Q:Exit->Act->World->Prop}(hS:S.testBit j=false)(h:Rel cx Z g (view base S bsF) a w)(hsz:Fit cx E a)
 (f:Fits st0 (view base S bsF) a)(hw:Region.wanted o (yielded ops a.tmps)=true)(hn:∀ Z' g' a' w',Rel cx Z' g' (view base (S ||| 2 ^ j) bsF) a' w'->Fit cx E a'->next a' w'):wpOp P ops Q j next a w:=by
 unfold wpOp;simp only[ho,hw,if_true];refine .inl ?_;have hdn:jw cx a d:=hsz.dst (hF.mem hj).1;refine zH hT hga f.ext (f.rel h) f.cons hd hdn (JI hF hj hS) hq _ _ fun Z' g' v w' hr=>hn Z' g' _ w' ?_ (hsz.put _ _)
 exact Dw hF hj hr (fun _=>rfl) (fun t tv ht=>f.back ht) hp2 hp1
theorem zm{j d:Nat}{o:Oper}{p':TV×Option Rt}(ho:ops[j]? = some o)(hd:o.dst=some d)(hF:dM E.zq base bsF)(hj:(j,d,p')∈bsF)(hp2:p'.2=none)
 {cx:Cx P}{S:Nat}{a:Act}{w:World}{Z:Nat->Prop}{g:Gh}{next:Act->World->Prop}{Q:Exit->Act->World->Prop}(h:Rel cx Z g (view base S bsF) a w)(hsz:Fit cx E a)
 (hp1:∀(Z:Nat->Prop) (g:Gh) (st:St) (w:World),bF Z g st w p'.1 undef)(hw:Region.wanted o (yielded ops a.tmps)=false)(hn:∀ Z' g' a' w',Rel cx Z' g' (view base (S ||| 2 ^ j) bsF) a' w'->Fit cx E a'->next a' w'):wpOp P ops Q j next a w:=by
 unfold wpOp;simp only[ho,hw,ae5,afE];have hdn:jw cx a d:=hsz.dst (hF.mem hj).1;rw[hd];refine hn Z g _ w ?_ (hsz.put _ _);exact Dw hF hj (h.mm hdn (tv:=p'.1) (hp1 _ _ _ _)) (fun _=>rfl) (fun t tv ht=>⟨tv,ht,fh.refl _⟩) hp2.symm (fh.refl _)
theorem zU{o:Oper}{j:Nat}{want x:Bool}{og:Oper}{gt:Nat}(hg:o.guard=some (j,want))(ho:ops[j]? = some og)(hd:og.dst=some gt){a:Act}(hv:a.tmps.getD gt undef= .bool x):Region.wanted o (yielded ops a.tmps)=(x == want):=by
 have:a.tmps[gt]? = some (.bool x):=by
  rw[aev]at hv;cases hh:a.tmps[gt]? with
  | none=>rw[hh]at hv; simp[undef]at hv
  | some v=>rw[hh]at hv; simpa using hv
 simp only[Region.wanted,hg,yielded,ho,oB,hd,this];cases x <;> cases want <;> rfl
end
section
variable{Z:Nat->Prop}{g:Gh}{st:St}{w:World}
theorem qm{gg:Bool}{l:List AV}{v:Value}:bF Z g st w (eN gg l) v↔(match eN gg l with | .v a=>bj Z g st w a v | .agg l=>∃ vs:Array Value,v= .agg vs/\aU Z g st w l vs.toList | _=>True):=by unfold eN;split <;> simp[bF]
end
theorem AS{q:Nat}{want y gg:Bool}{l:List AV}(hy:y=want):fh (.may q want y gg l) (eN gg l)/\fh (eN gg l) (.may q want y gg l) :=
 ⟨fun Z g st w v h=>qm.2 (h hy),fun Z g st w v h _=>qm.1 h⟩
theorem D7{q:Nat}{want y gg:Bool}{l:List AV}:fh (eN gg l) (.may q want y gg l):=fun Z g st w v h _=>qm.1 h
theorem x5(x:Bool):fh (.v (.d .bool x)) (.v (.lb x))/\fh (.v (.lb x)) (.v (.d .bool x)):=⟨fun _ _ _ _ _ h=>h,fun _ _ _ _ _ h=>h⟩
theorem Kf(x:Bool):fV (.v (.lb x)) x:=fun _ _ _ _ _ h=>h
theorem Ao{st:St}(hc:oD st){t:Nat}{tv:TV}(h:st.tv t=some tv):∃ tq,look st.tm t=some tq/\fh tq tv/\fh tv tq:=by
 unfold St.tv at h;cases hl:look st.tm t with
 | none=>simp[hl]at h
 | some tv0 =>
   rw[hl]at h;refine⟨tv0,rfl,?_⟩;cases tv0 with
   | may q want y gg l =>
     simp only at h;cases hq:look st.tm q with
     | none=>simp[hq]at h
     | some tq =>
       simp only[hq]at h;have ht:=hc t q want y gg l hl tq hq;split at h
       . rename_i x he;have he:tq= .v (.lb x):=by simpa using he
         subst he;have:=ht.lb;subst this;split at h
         . simp only[aen]at h; subst h; exact AS rfl
         . simp only[aen]at h; subst h; exact AS rfl
         . simp at h
       . simp only[aen]at h; subst h; exact⟨fh.refl _,fh.refl _⟩
       . simp at h
   | _=>simp only[aen]at h; subst h; exact⟨fh.refl _,fh.refl _⟩
theorem pf{gt:Nat}{x:Bool}:∀ {bs:Bd} {i t:Nat} {p:TV×Option Rt},(i,t,p)∈fS gt x bs->∃ p0,(i,t,p0)∈bs
 | [],_,_,_,h=>by simp[fS]at h
 | (i0,t0,p0)::r,i,t,p,h=>by
   unfold fS at h;cases hb:Nat.beq t0 gt with
   | true =>
     simp only[hb,oT]at h;rcases aew.1 h with h | h
     . cases h; exact⟨p0,aeI ..⟩
     . exact⟨p,aeB _ h⟩
   | false =>
     simp only[hb,oF]at h;rcases aew.1 h with h | h
     . cases h; exact⟨p0,aeI ..⟩
     . obtain⟨p1,h1⟩:=pf h;exact⟨p1,aeB _ h1⟩
theorem xB{nt:Nat->Prop}{base:St}{gt:Nat}{x:Bool}:∀ {bs:Bd},dM nt base bs->dM nt base (fS gt x bs)
 | [],h=>h
 | (i0,t0,p0)::r,h=>by
   obtain⟨h1,h2,h3,h4,h5⟩:=h;unfold fS;cases hb:Nat.beq t0 gt with
   | true=>exact⟨h1,h2,h3,h4,h5⟩
   | false => refine⟨h1,h2,h3,fun e he => ?_,xB h5⟩;obtain⟨i,t,p⟩:=e;obtain⟨p1,hp⟩:=pf he;exact h4 (i,t,p1) hp
theorem pd{nt:Nat->Prop}{base:St}{gt:Nat}{x:Bool}:∀ {bs:Bd},dM nt base bs->∀ {i t:Nat} {p:TV×Option Rt},(i,t,p)∈fS gt x bs↔(t≠gt/\(i,t,p)∈bs)∨(t=gt/\∃ p0,(i,gt,p0)∈bs/\p=(.v (.lb x),p0.2))
 | [],_,i,t,p=>by simp[fS]
 | (i0,t0,p0)::r,hb,i,t,p=>by
   obtain⟨h1,h2,h3,h4,h5⟩:=hb;have ih:=pd (gt:=gt) (x:=x) h5 (i:=i) (t:=t) (p:=p);unfold fS;cases hb:Nat.beq t0 gt with
   | true =>
     have e:=beq_eq hb;subst e;simp only[oT];constructor
     . intro h;rcases aew.1 h with h | h
       . cases h; exact .inr ⟨rfl,p0,aeI ..,rfl⟩
       . exact .inl ⟨(h4 _ h).2,aeB _ h⟩
     . rintro(⟨hne,h⟩ | ⟨rfl,p1,h,rfl⟩)
       . rcases aew.1 h with h | h
         . cases h; exact absurd rfl hne
         . exact aeB _ h
       . rcases aew.1 h with h | h
         . cases h; exact aeI ..
         . exact absurd rfl (h4 _ h).2
   | false =>
     have hne:t0≠gt:=fun e=>by subst e; simp at hb
     simp only[oF];constructor
     . intro h;rcases aew.1 h with h | h
       . cases h; exact .inl ⟨hne,aeI ..⟩
       . rcases ih.1 h with ⟨h6,h7⟩ | ⟨rfl,p1,h6,rfl⟩
         . exact .inl ⟨h6,aeB _ h7⟩
         . exact .inr ⟨rfl,p1,aeB _ h6,rfl⟩
     . rintro(⟨hne',h⟩ | ⟨rfl,p1,h,rfl⟩)
       . rcases aew.1 h with h | h
         . cases h; exact aeI ..
         . exact aeB _ (ih.2 (.inl ⟨hne',h⟩))
       . rcases aew.1 h with h | h
         . cases h; exact absurd rfl hne
         . exact aeB _ (ih.2 (.inr ⟨rfl,p1,h,rfl⟩))
section
variable{nt:Nat->Prop}{base:St}{bs:Bd}{gt d:Nat}{x:Bool}
def nQ(base:St)(bs:Bd)(gt:Nat)(x:Bool):Prop:=∃ tq,look (aE base bs).tm gt=some tq/\fh tq (.v (.lb x))/\fh (.v (.lb x)) tq
theorem vd(hb:dM nt base bs)(hk:nQ base bs gt x):dH bs (fS gt x bs):=fun i t p h=>by
 by_cases ht:t=gt
 . subst ht;refine⟨(.v (.lb x),p.2),(pd hb).2 (.inr ⟨rfl,p,h,rfl⟩),rfl,?_⟩;obtain⟨tq,h1,h2,h3⟩:=hk;have:look (aE base bs).tm t=some p.1:=(bO hb _ _).2 (.inl ⟨i,p,h,rfl⟩);rw[this]at h1;simp only[aen]at h1;subst h1;exact⟨h2,h3⟩
 . exact⟨p,(pd hb).2 (.inl ⟨ht,h⟩),Alike.refl p⟩
theorem J2(hb:dM nt base bs)(hm:MB (aE base bs))(hk:nQ base bs gt x):MB (aE base (fS gt x bs)):=by
 have hb':=xB (gt:=gt) (x:=x) hb;intro d q want y gg l hl;have old:look (aE base bs).tm d=some (.may q want y gg l):=by
  rw[bO hb']at hl;rw[bO hb];rcases hl with ⟨i,p,h1,h2⟩ | hl
  . rcases(pd hb).1 h1 with ⟨h3,h4⟩ | ⟨rfl,p0,h3,rfl⟩
    . exact .inl ⟨i,p,h4,h2⟩
    . simp at h2
  . exact .inr hl
 obtain⟨tq,h1,h2⟩:=hm d q want y gg l old;have h1':=h1;rw[bO hb]at h1;rcases h1 with ⟨i,p,h3,rfl⟩ | h1
 . obtain⟨p',h4,h5⟩:=vd hb hk i q p h3;exact⟨p'.1,(bO hb' _ _).2 (.inl ⟨i,p',h4,rfl⟩),fV.of h5.2.2 h2⟩
 . exact⟨tq,(bO hb' _ _).2 (.inr h1),h2⟩
theorem tN:∀ {bs:Bd} {gt:Nat},j8 gt bs=false->∀ e∈bs,e.2.1≠gt
 | [],_,_,_,h=>by simp at h
 | (i0,t0,p0)::r,gt,h,e,he=>by
   simp only[j8,af2]at h;rcases aew.1 he with he | he
   . subst he; intro h'; subst h'; have:=h.1; simp at this
   . exact tN h.2 e he
theorem dM.vJ{b:Bool}(hnt:b=true->nt d)(hb:dM nt base bs){i:Nat}{p:TV×Option Rt}(h1:(b&&nw base d&&base.free d&& !j8 d bs)=true)(hi:∀ e∈bs,e.1≠i):dM nt base ((i,d,p)::bs):=by
 simp only[aeo,ae8]at h1;obtain⟨⟨⟨h1,h2⟩,h3⟩,h4⟩:=h1;refine⟨?_,?_,ju h3,fun e he=>⟨hi e he,tN h4 e he⟩,hb⟩
 . exact hnt h1
 . unfold nw at h2;split at h2
   . assumption
   . simp at h2
theorem MB.vJ(hm:MB (aE base bs)){i d:Nat}{p:TV×Option Rt}(hb:dM nt base ((i,d,p)::bs))(hp:∀ q want y gg l,p.1= .may q want y gg l->∃ tq,look (aE base bs).tm q=some tq/\fV tq y):MB (aE base ((i,d,p)::bs)):=by
 have hne:∀ q tq,look (aE base bs).tm q=some tq->¬ d=q:=fun q tq hq e=>by
  subst e;rw[bO hb.2.2.2.2]at hq;rcases hq with ⟨i',p',h1,_⟩ | hq
  . exact absurd rfl (hb.2.2.2.1 _ h1).2
  . rw[hb.2.1]at hq; simp at hq
 intro t q want y gg l hl;have hl:look ((aE base bs).aT d p).tm t=_:=hl;rw[bY]at hl;have fin:(∃ tq,look (aE base bs).tm q=some tq/\fV tq y)->∃ tq,look (aE base ((i,d,p)::bs)).tm q=some tq/\fV tq y:=by rintro⟨tq,h1,h2⟩;refine⟨tq,?_,h2⟩;show look ((aE base bs).aT d p).tm q=_;rw[bY,if_neg (hne q tq h1)];exact h1
 by_cases ht:d=t
 . rw[if_pos ht]at hl;exact fin (hp q want y gg l (by simpa using hl))
 . rw[if_neg ht]at hl;exact fin (hm t q want y gg l hl)
end
theorem CE(f:Nat×TV->Nat×TV)(hf:∀ p,(f p).1=p.1):∀(l:List (Nat×TV)) (t:Nat),look (l.map f) t=(look l t).map fun tv=>(f (t,tv)).2
 | [],t=>rfl
 | (m,x)::l,t=>by
   have h1:(f (m,x)).1=m:=hf _;show look (f (m,x)::l.map f) t=_;have:f (m,x)=(m,(f (m,x)).2):=Prod.ext h1 rfl;rw[this,aK,aK];by_cases h:m=t
   . subst h; simp
   . simp[h,CE f hf l t]
def rP(gt:Nat)(want:Bool):TV->TV
 | .may t w' y g' l=>bif Nat.beq t gt&&bS w' want then eN g' l else .may t w' y g' l
 | tv=>tv
theorem B8(st:St)(gt:Nat)(want:Bool)(t:Nat):look (st.under gt want).tm t=(look st.tm t).map (rP gt want):=by
 unfold St.under;rw[CE]
 . cases look st.tm t with
   | none=>rfl
   | some tv =>
     cases tv with
     | may q w' y g' l => simp only[aeM,rP];cases Nat.beq q gt&&bS w' want <;> rfl
     | _=>rfl
 . rintro⟨t,tv⟩;cases tv with
   | may q w' y g' l => simp only;cases Nat.beq q gt&&bS w' want <;> rfl
   | _=>rfl
theorem Fits.under{st0 stS:St}{a:Act}(f:Fits st0 stS a){gt:Nat}{want:Bool}(hy:∀ tq,look stS.tm gt=some tq->∀ y,fV tq y->y=want)(hg:∃ tq,look stS.tm gt=some tq):Fits (st0.under gt want) stS a where
 rt:=f.rt
 tm:=fun t tv0 h=>by
  rw[B8]at h;cases hl:look st0.tm t with
  | none=>simp[hl]at h
  | some tv1 =>
    rw[hl]at h;simp only[aeM,aen]at h;subst h;obtain⟨tv,h1,h2,h3⟩:=f.tm t tv1 hl;cases tv1 with
    | may q w' y g' l =>
      simp only[rP];cases hb:Nat.beq q gt&&bS w' want with
      | false=>exact⟨tv,h1,h2,h3⟩
      | true => simp only[oT];simp only[aeo]at hb;have e1:=beq_eq hb.1;have e2:=dL hb.2;subst e1; subst e2;obtain⟨tq,htq⟩:=hg;have hyy:=hy tq htq y (f.may t q w' y g' l hl tq htq);have hs:=AS (q:=q) (gg:=g') (l:=l) hyy;exact⟨tv,h1,hs.2.trans h2,fun Z g st w hr=>hs.1 _ _ _ _ _ (h3 Z g st w hr)⟩
    | _=>exact⟨tv,h1,h2,h3⟩
 may:=fun d q w' y gg l h=>by
  rw[B8]at h;cases hl:look st0.tm d with
  | none=>simp[hl]at h
  | some tv1 =>
    rw[hl]at h;simp only[aeM,aen]at h;cases tv1 with
    | may q1 w1 y1 g1 l1 =>
      simp only[rP]at h;cases hb:Nat.beq q1 gt&&bS w1 want with
      | true=>rw[hb]at h; exact(kq h).elim
      | false => rw[hb]at h;simp only[oF,TV.may.injEq]at h;obtain⟨rfl,rfl,rfl,rfl,rfl⟩:=h;exact f.may d _ _ _ _ _ hl
    | _=>simp[rP]at h
 mayS:=f.mayS
theorem FQ{gt:Nat}{want x:Bool}{t:Tr (TV×Option Rt)}{tv:TV}(h:CN gt want x t=some tv):∃ gg l,t.run=some (eN gg l,none)/\tv= .may gt want x gg l:=by
 unfold CN at h;split at h
 . rename_i a;simp only[aen]at h;exact⟨false,[a],rfl,h.symm⟩
 . rename_i l;simp only[aen]at h;exact⟨true,l,by cases l <;> rfl,h.symm⟩
 . simp at h
def ch(st:St):Prop:=∀ t tv,look st.tm t=some tv->¬ tv.gJ
theorem ch.cons{st:St}(h:ch st):oD st:=fun d q want y gg l hl=>(h d _ hl trivial).elim
theorem ch.MB{st:St}(h:ch st):MB st:=fun d q want y gg l hl=>(h d _ hl trivial).elim
section
variable{P:Program}{E:En}{ops:Array Oper}{ns:List Nat}{base:St}{i0:Nat}
def WA(ops:Array Oper)(i t:Nat):Prop:=∃ o,ops[i]? = some o/\o.dst=some t
def ke(P:Program)(E:En)(dr:Bool)(ops:Array Oper)(ns:List Nat)(base:St)(i0 i:Nat)(bs:Bd)(stF:St):Prop :=
 ∃(i1:Nat) (bsF:Bd),i<=i1/\dM E.zq base bsF/\MB (aE base bsF)/\(∀ e∈bsF,i0<=e.1/\e.1<i1/\WA ops e.1 e.2.1)/\(bw ops.toList=false->∀ i t p,(i,t,p)∈bsF->¬ p.1.gJ)/\dH bs bsF /\
  (∀ j,i<=j->j<i1->rj P E ops ns base bsF i0 j) /\
  ((i1=ops.size/\stF=jX (bw ops.toList) (aE base bsF)) ∨
    ∃(o:Oper) (st':St),ops[i1]? = some o/\o.guard=none/\(dr=true->iK ns i1=true)/\uQ E o.dst=true/\(yS E (jX (bw ops.toList) (aE base bsF)) o.dst o.op).run=some st'/\(eU E dr ops.toList ns (ops.toList.drop (i1+1)) (i1+1) st' []).run=some stF)
theorem ke.step{dr:Bool}{i:Nat}{d:Nat}{p:TV×Option Rt}{bs bs':Bd}{stF:St}(h:ke P E dr ops ns base i0 (i+1) ((i,d,p)::bs') stF)(hl:dH bs bs')
 (hs:∀ bsF,dM E.zq base bsF->MB (aE base bsF)->dH ((i,d,p)::bs') bsF->rj P E ops ns base bsF i0 i):ke P E dr ops ns base i0 i bs stF:=by
 obtain⟨i1,bsF,h1,h2,h3,h4,h5,h6,h7,h8⟩:=h;refine⟨i1,bsF,by omega,h2,h3,h4,h5,(hl.trans (dH.cons (dH.refl bs'))).trans h6,fun j hj hj1 => ?_,h8⟩;by_cases hji:i=j
 . subst hji; exact hs bsF h2 h3 h6
 . exact h7 j (by omega) hj1
theorem nc{e:Nat×Nat×(TV×Option Rt)}{bs bsF:Bd}(h:dH (e::bs) bsF):dH bs bsF:=fun i t p hp=>h i t p (aeB _ hp)
theorem nQ.of{nt:Nat->Prop}{bs:Bd}{mask gt:Nat}{x:Bool}{tv:TV}(hb:dM nt base bs)(hm:MB (aE base bs))(h:(view base mask bs).tv gt=some tv)(hx:fh tv (.v (.lb x))/\fh (.v (.lb x)) tv):nQ base bs gt x:=by
 have up:Ext (view base mask bs) (aE base bs):=by
  refine⟨fun t tv h => ?_,fun r R h => ?_⟩
  . rw[bO hb];rw[ed _ hb]at h;rcases h with ⟨i,p,h1,h2,h3⟩ | h
    . exact .inl ⟨i,p,h1,h3⟩
    . exact .inr h
  . rw[iy base (bitsOf bs) bs (fun i t p h=>dV h),hY _ hb];rw[hY _ hb]at h;rcases h with ⟨i,p,h1,h2,h3⟩ | h
    . exact .inl ⟨i,p,h1,dV h1,h3⟩
    . exact .inr h
 obtain⟨tq,h1,h2,h3⟩:=Ao hm.cons (up.tv h);exact⟨tq,h1,h2.trans hx.1,hx.2.trans h3⟩
theorem nQ.YU{bs:Bd}{gt:Nat}{x:Bool}(h:nQ base bs gt x):∃ tq,look (aE base bs).tm gt=some tq/\fV tq x:=by obtain⟨tq,h1,h2,h3⟩:=h;exact⟨tq,h1,fV.of h2 (Kf x)⟩
theorem EG{j gt:Nat}(h:kO ops.toList j=some gt):∃ og,ops[j]? = some og/\og.dst=some gt:=by
 unfold kO at h;split at h
 . rename_i o ho;rw[aer]at ho;exact⟨o,ho,h⟩
 . simp at h
theorem CU{P:Program}{cx:Cx P}{Z:Nat->Prop}{g:Gh}{st0 stS:St}{a:Act}{w:World}(f:Fits st0 stS a)(h:Rel cx Z g stS a w){gt:Nat}{tv:TV}{x:Bool}(ht:st0.tv gt=some tv)(hx:fh tv (.v (.lb x))):a.tmps.getD gt undef= .bool x :=
 hx _ _ _ _ _ (ir (f.rel h) f.cons.cons (f.ext.tv ht))
theorem EH{P:Program}{cx:Cx P}{Z:Nat->Prop}{g:Gh}{st0 stS:St}{a:Act}{w:World}(f:Fits st0 stS a)(h:Rel cx Z g stS a w){gt:Nat}(ht:st0.tv gt=some (.tup [])):a.tmps.getD gt undef=undef:=by
 obtain⟨vs,e,hv⟩:=(ir (f.rel h) f.cons.cons (f.ext.tv ht):bF Z g _ w (.tup []) _);cases hl:vs.toList with
 | nil =>
   have:vs = #[]:=by cases vs; simp_all
   rw[e,this]; rfl
 | cons _ _=>rw[hl]at hv; exact hv.elim
theorem Ma{nt:Nat->Prop}{bs:Bd}{mask d:Nat}{op:Op}{p:TV×Option Rt}(hb:dM nt base bs)(hm:MB (aE base bs))(hq:(wX E (view base mask bs) d op).run=some p):∀ q want y gg l,p.1= .may q want y gg l->∃ tq,look (aE base bs).tm q=some tq/\fV tq y:=by
 intro q want y gg l hp;obtain⟨d',hd'⟩:=HH hq (by rw[hp]; trivial);rw[hp]at hd';refine hm d' q want y gg l ?_;rw[bO hb];rw[ed _ hb]at hd';rcases hd' with ⟨i,p',h1,h2,h3⟩ | h
 . exact .inl ⟨i,p',h1,h3⟩
 . exact .inr h
theorem lF{i:Nat}{o:Oper}{gd:Nat×Bool}(h:ops[i]? = some o)(hg:o.guard=some gd):bw ops.toList=true:=by unfold bw;rw[ag2];refine⟨o,?_,by rw[hg]⟩;rw[<- aer]at h;exact aet h
structure iG (E:En) (ops:Array Oper) (base:St) (i0 i:Nat) (bs:Bd):Prop where
 ok:dM E.zq base bs
 mb:MB (aE base bs)
 idx:∀ e∈bs,i0<=e.1/\e.1<i/\WA ops e.1 e.2.1
 ng:bw ops.toList=false->∀ i t p,(i,t,p)∈bs->¬ p.1.gJ
def sw(E:En)(base:St)(d:Nat)(bs:Bd):Bool:=E.dB d&&nw base d&&base.free d&& !j8 d bs
theorem iG.fits{i:Nat}{bs bsF:Bd}(hs:iG E ops base i0 i bs)(hF:dM E.zq base bsF)(hmF:MB (aE base bsF))(hl:dH bs bsF){S:Nat}(hS:∀ i',i0<=i'->i'<i->(ns.getD i cy).testBit i'=true->S.testBit i'=true){a:Act}:Fits (view base (ns.getD i cy) bs) (view base S bsF) a :=
 Jg hs.ok hF hl hs.mb hmF fun i' t' p' h1 h2=>hS i' (hs.idx _ h1).1 (hs.idx _ h1).2.1 h2
theorem yI{dr:Bool}{i:Nat}{r:List Oper}(ih:∀(bs:Bd) (stF:St),iG E ops base i0 (i+1) bs->(eU E dr ops.toList ns r (i+1) base bs).run=some stF->ke P E dr ops ns base i0 (i+1) bs stF)(hi0:i0<=i)
 {bs bs':Bd}{d:Nat}{p:TV×Option Rt}{stF:St}(hs:iG E ops base i0 i bs')(hl:dH bs bs')(hd:sw E base d bs'=true)(hp:∀ q want y gg l,p.1= .may q want y gg l->∃ tq,look (aE base bs').tm q=some tq/\fV tq y)(hpm:bw ops.toList=false->¬ p.1.gJ)(hdd:WA ops i d)
 (hrun:(eU E dr ops.toList ns r (i+1) base ((i,d,p)::bs')).run=some stF)(hstep:∀ bsF,dM E.zq base bsF->MB (aE base bsF)->dH ((i,d,p)::bs') bsF->rj P E ops ns base bsF i0 i):ke P E dr ops ns base i0 i bs stF:=by
 have hbc:dM E.zq base ((i,d,p)::bs'):=dM.vJ (fun h=>h) hs.ok hd fun e he=>Nat.ne_of_lt (hs.idx e he).2.1
 refine ke.step (ih ((i,d,p)::bs') stF ⟨hbc,hs.mb.vJ hbc hp,fun e he => ?_,fun h0 i' t' p' hmem => ?_⟩ hrun) hl hstep
 . rcases aew.1 he with he | he
   . subst he; exact⟨hi0,afl i,hdd⟩
   . have:=hs.idx e he; exact⟨this.1,ahd this.2.1,this.2.2⟩
 . rcases aew.1 hmem with he | he
   . cases he; exact hpm h0
   . exact hs.ng h0 i' t' p' he
theorem Gc(hT:cf P E)(hga:cZ P E){i:Nat}{o:Oper}(ho:ops[i]? = some o){bs':Bd}{d:Nat}{p:TV×Option Rt}(hs:iG E ops base i0 i bs')(hd:o.dst=some d)(hq:(wX E (view base (ns.getD i cy) bs') d o.op).run=some p)
 (hw:∀(cx:Cx P) (a:Act) (w:World) (Z:Nat->Prop) (g:Gh) (bsF:Bd) (S:Nat),dM E.zq base bsF->MB (aE base bsF)->dH bs' bsF->(∀ i',i0<=i'->i'<i->(ns.getD i cy).testBit i'=true->S.testBit i'=true)->Rel cx Z g (view base S bsF) a w->Region.wanted o (yielded ops a.tmps)=true) :
 ∀ bsF,dM E.zq base bsF->MB (aE base bsF)->dH ((i,d,p)::bs') bsF->rj P E ops ns base bsF i0 i:=by
 intro bsF hF hmF hl cx S a w Z g next Q hS hSi h hsz hn;obtain⟨p',hj,hal⟩:=hl i d p (aeI ..);exact Eb hT hga ho hd hF hj hal.1 hal.2.1 hq hSi h hsz (hs.fits hF hmF (nc hl) hS) (hw cx a w Z g bsF S hF hmF (nc hl) hS h) hn
theorem Cz{i:Nat}{o:Oper}(ho:ops[i]? = some o){bs':Bd}{d:Nat}(hs:iG E ops base i0 i bs')(hd:o.dst=some d)
 (hw:∀(cx:Cx P) (a:Act) (w:World) (Z:Nat->Prop) (g:Gh) (bsF:Bd) (S:Nat),dM E.zq base bsF->MB (aE base bsF)->dH bs' bsF->(∀ i',i0<=i'->i'<i->(ns.getD i cy).testBit i'=true->S.testBit i'=true)->Rel cx Z g (view base S bsF) a w->Region.wanted o (yielded ops a.tmps)=false) :
 ∀ bsF,dM E.zq base bsF->MB (aE base bsF)->dH ((i,d,(.tup [],none))::bs') bsF->rj P E ops ns base bsF i0 i:=by
 intro bsF hF hmF hl cx S a w Z g next Q hS hSi h hsz hn;obtain⟨p',hj,hal⟩:=hl i d _ (aeI ..);exact zm ho hd hF hj hal.1.symm h hsz (fun Z g st w=>hal.2.1 _ _ _ _ _ ⟨#[],rfl,trivial⟩) (hw cx a w Z g bsF S hF hmF (nc hl) hS h) hn
theorem CD{d:Nat}:∀ {bs:Bd},j8 d bs=true->∃ i p,(i,d,p)∈bs
 | [],h=>by simp[j8]at h
 | (i0,t0,p0)::r,h=>by
   simp only[j8,afz]at h;rcases h with h | h
   . have:=beq_eq h; subst this; exact⟨i0,p0,aeI ..⟩
   . obtain⟨i,p,h⟩:=CD h; exact⟨i,p,aeB _ h⟩
theorem DN{d gt:Nat}{x:Bool}{bs:Bd}(h:sw E base d bs=true):sw E base d (fS gt x bs)=true:=by
 unfold sw at h ⊢;simp only[aeo,ae8]at h ⊢;refine⟨h.1,?_⟩;cases h3:j8 d (fS gt x bs)with
 | false=>rfl
 | true => obtain⟨i',p',h4⟩:=CD h3;obtain⟨p0,h5⟩:=pf h4;exact absurd rfl (tN h.2 _ h5)
theorem iG.fS{i:Nat}{bs:Bd}(hs:iG E ops base i0 i bs){gt:Nat}{x:Bool}(hk:nQ base bs gt x)(hg:bw ops.toList=true):iG E ops base i0 i (Av.fS gt x bs) where
 ok:=xB hs.ok
 mb:=J2 hs.ok hs.mb hk
 idx:=fun e he=>by obtain⟨i',t',p'⟩:=e;obtain⟨p0,h1⟩:=pf he;exact hs.idx (i',t',p0) h1
 ng:=fun h0=>by rw[hg]at h0; simp at h0
theorem GR(hT:cf P E)(hga:cZ P E){dr:Bool}{i:Nat}{r:List Oper}{o:Oper}(ih:∀(bs:Bd) (stF:St),iG E ops base i0 (i+1) bs->(eU E dr ops.toList ns r (i+1) base bs).run=some stF->ke P E dr ops ns base i0 (i+1) bs stF)(hi0:i0<=i)
 (ho:ops[i]? = some o){bs:Bd}{stF:St}(hs:iG E ops base i0 i bs){jg:Nat}{want x:Bool}(hgd:o.guard=some (jg,want)){og:Oper}{gt d:Nat}(hog:ops[jg]? = some og)(hogd:og.dst=some gt)(hdst:o.dst=some d)(hc1:sw E base d bs=true){tv:TV}
 (htv:(view base (ns.getD i cy) bs).tv gt=some tv)(hx:fh tv (.v (.lb x))/\fh (.v (.lb x)) tv){bs':Bd}(hs':iG E ops base i0 i bs')(hl':dH bs bs')(hc':sw E base d bs'=true)
 (hrun:(bif bS x want then ((wX E (view base (ns.getD i cy) bs') d o.op).bind fun p=>eU E dr ops.toList ns r (i+1) base ((i,d,p)::bs')).run else (eU E dr ops.toList ns r (i+1) base ((i,d,(.tup [],none))::bs')).run)=some stF):ke P E dr ops ns base i0 i bs stF:=by
 have hg1:bw ops.toList=true:=lF ho hgd;have hval:∀(cx:Cx P) (a:Act) (w:World) (Z:Nat->Prop) (g:Gh) (bsF:Bd) (S:Nat),dM E.zq base bsF->MB (aE base bsF)->dH bs' bsF->(∀ i',i0<=i'->i'<i->(ns.getD i cy).testBit i'=true->S.testBit i'=true)->Rel cx Z g (view base S bsF) a w->Region.wanted o (yielded ops a.tmps)=(x == want):=fun cx a w Z g bsF S hF hmF hl hS h =>
  zU hgd hog hogd (CU (hs.fits hF hmF (hl'.trans hl) hS) h htv hx.1)
 cases hxx:bS x want with
 | true =>
   simp only[hxx,oT]at hrun;rw[Tr.run_bind]at hrun;cases hq:(wX E (view base (ns.getD i cy) bs') d o.op).run with
   | none=>rw[hq]at hrun; simp at hrun
   | some p => rw[hq]at hrun;exact yI ih hi0 hs' hl' hc' (Ma hs'.ok hs'.mb hq) (fun h0=>by rw[hg1]at h0; simp at h0) ⟨o,ho,hdst⟩ hrun (Gc hT hga ho hs' hdst hq fun cx a w Z g bsF S hF hmF hl hS h=>by rw[hval cx a w Z g bsF S hF hmF hl hS h,dL hxx]; simp)
 | false => simp only[hxx,oF]at hrun;refine yI ih hi0 hs' hl' hc' (fun q want y gg l h=>by simp at h) (fun h0=>by rw[hg1]at h0; simp at h0) ⟨o,ho,hdst⟩ hrun (Cz ho hs' hdst fun cx a w Z g bsF S hF hmF hl hS h => ?_);rw[hval cx a w Z g bsF S hF hmF hl hS h];cases x <;> cases want <;> simp_all[bS]
theorem PN(hT:cf P E)(hga:cZ P E){dr:Bool}{i:Nat}{r:List Oper}{o:Oper}(ih:∀(bs:Bd) (stF:St),iG E ops base i0 (i+1) bs->(eU E dr ops.toList ns r (i+1) base bs).run=some stF->ke P E dr ops ns base i0 (i+1) bs stF)(hi0:i0<=i)
 (ho:ops[i]? = some o){bs:Bd}{stF:St}(hs:iG E ops base i0 i bs){jg:Nat}{want x:Bool}(hgd:o.guard=some (jg,want)){og:Oper}{gt d:Nat}(hog:ops[jg]? = some og)(hogd:og.dst=some gt)(hdst:o.dst=some d)(hc1:sw E base d bs=true)
 (htv:(view base (ns.getD i cy) bs).tv gt=some (.v (.d .bool x))){tv:TV}(hasm:CN gt want x (wX E ((view base (ns.getD i cy) bs).under gt want) d o.op)=some tv)
 (hrun:(eU E dr ops.toList ns r (i+1) base ((i,d,(tv,none))::bs)).run=some stF):ke P E dr ops ns base i0 i bs stF:=by
 have hg1:bw ops.toList=true:=lF ho hgd;have hk:nQ base bs gt x:=nQ.of hs.ok hs.mb htv (x5 x);obtain⟨gg,l,hq,rfl⟩:=FQ hasm;refine yI ih hi0 hs (dH.refl _) hc1 (fun q want' y gg' l' h => ?_) (fun h0=>by rw[hg1]at h0; simp at h0) ⟨o,ho,hdst⟩ hrun ?_
 . simp only[TV.may.injEq]at h;obtain⟨rfl,rfl,rfl,rfl,rfl⟩:=h;exact hk.YU
 . intro bsF hF hmF hl cx S a w Z g next Q hS hSi h hsz hn;obtain⟨p',hj,hal⟩:=hl i d _ (aeI ..);have f:Fits (view base (ns.getD i cy) bs) (view base S bsF) a:=hs.fits hF hmF (nc hl) hS;have hv:a.tmps.getD gt undef= .bool x:=CU f h htv (x5 x).1;have hw:=zU hgd hog hogd hv;by_cases hxw:x=want
   . subst hxw;obtain⟨tq,htq⟩:∃ tq,look (view base S bsF).tm gt=some tq:=by
      have htv':=htv;unfold St.tv at htv';cases hl0:look (view base (ns.getD i cy) bs).tm gt with
      | none=>rw[hl0]at htv'; simp at htv'
      | some tv0 => obtain⟨tv1,h1,_⟩:=f.tm gt tv0 hl0;exact⟨tv1,h1⟩
     have fu:=f.under (gt:=gt) (want:=x) (fun tq' htq' y ht=>by have:=ht _ _ _ _ _ (h.tm gt tq' htq').2;rw[hv]at this;simpa using this.symm) ⟨tq,htq⟩;exact Eb hT hga ho hdst hF hj (p:=(eN gg l,none)) hal.1 (D7.trans hal.2.1) hq hSi h hsz fu (by rw[hw]; simp) hn
   . refine zm ho hdst hF hj hal.1.symm h hsz (fun Z g st w=>hal.2.1 _ _ _ _ _ ?_) (by rw[hw]; simpa using hxw) hn;exact fun e=>absurd e hxw
theorem JP(hT:cf P E)(hga:cZ P E){dr:Bool}{i:Nat}{r:List Oper}{o:Oper}(ih:∀(bs:Bd) (stF:St),iG E ops base i0 (i+1) bs->(eU E dr ops.toList ns r (i+1) base bs).run=some stF->ke P E dr ops ns base i0 (i+1) bs stF)(hi0:i0<=i)
 (ho:ops[i]? = some o){bs:Bd}{stF:St}(hs:iG E ops base i0 i bs){jg:Nat}{want:Bool}(hgd:o.guard=some (jg,want))(hrun:(eU E dr ops.toList ns (o::r) i base bs).run=some stF):ke P E dr ops ns base i0 i bs stF:=by
 unfold eU at hrun;rw[hgd]at hrun;simp only at hrun;split at hrun
 . rename_i gt d hgt hdst;obtain⟨og,hog,hogd⟩:=EG hgt;cases hc:E.dB d&&nw base d&&base.free d&& !j8 d bs&& !nV o.op with
   | false=>rw[hc]at hrun; simp[Tr.run]at hrun
   | true =>
     rw[hc]at hrun;simp only[oT]at hrun;have hc1:sw E base d bs=true:=by unfold sw;simp only[aeo]at hc ⊢;exact hc.1
     split at hrun
     . rename_i x htv;refine GR hT hga ih hi0 ho hs hgd hog hogd hdst hc1 htv (x:=x) ⟨fh.refl _,fh.refl _⟩ hs (dH.refl _) hc1 ?_;rw[<- hrun];cases bS x want <;> rfl
     . rename_i x htv;have hk:nQ base bs gt x:=nQ.of hs.ok hs.mb htv (x5 x);split at hrun
       . rename_i tv hasm;have hasm:CN gt want x (wX E ((view base (ns.getD i cy) bs).under gt want) d o.op)=some tv:=by
          cases hte:MW ops.toList i with
          | true=>rw[hte]at hasm; simp at hasm
          | false=>rw[hte]at hasm; exact hasm
         exact PN hT hga ih hi0 ho hs hgd hog hogd hdst hc1 htv hasm hrun
       . cases hbd:j8 gt bs with
         | false=>rw[hbd]at hrun; simp[Tr.run]at hrun
         | true => rw[hbd]at hrun;simp only[oT]at hrun;have hg1:bw ops.toList=true:=lF ho hgd;refine GR hT hga ih hi0 ho hs hgd hog hogd hdst hc1 htv (x:=x) (x5 x) (bs':=fS gt x bs) (hs.fS hk hg1) (vd hs.ok hk) (DN hc1) ?_;rw[<- hrun];cases x <;> cases want <;> rfl
     . rename_i htv;have hg1:bw ops.toList=true:=lF ho hgd;refine yI ih hi0 hs (dH.refl _) hc1 (fun q want y gg l h=>by simp at h) (fun h0=>by rw[hg1]at h0; simp at h0) ⟨o,ho,hdst⟩ hrun (Cz ho hs hdst fun cx a w Z g bsF S hF hmF hl hS h => ?_);have hv:=EH (hs.fits hF hmF hl hS) h htv;unfold Region.wanted yielded;rw[hgd];simp only[hog,oB,hogd];rw[aev]at hv;cases hq:a.tmps[gt]? with
       | none=>rfl
       | some v => rw[hq]at hv;simp only[afY]at hv;subst hv;rfl
     . simp[Tr.run]at hrun
 . simp[Tr.run]at hrun
theorem Ho{dr:Bool}{i:Nat}{r:List Oper}{o:Oper}(hr':r=ops.toList.drop (i+1))(ho:ops[i]? = some o){bs:Bd}{stF:St}(hs:iG E ops base i0 i bs)(h0:o.guard=none)(hdr:(!dr||iK ns i)=true)(hdo:uQ E o.dst=true)
 (hrun:((yS E (jX (bw ops.toList) (aE base bs)) o.dst o.op).bind fun st'=>eU E dr ops.toList ns r (i+1) st' []).run=some stF):ke P E dr ops ns base i0 i bs stF:=by
 rw[Tr.run_bind]at hrun;cases hw:(yS E (jX (bw ops.toList) (aE base bs)) o.dst o.op).run with
 | none=>rw[hw]at hrun; simp at hrun
 | some st' => rw[hw]at hrun;refine⟨i,bs,oR _,hs.ok,hs.mb,hs.idx,hs.ng,dH.refl _,fun j h1 h2=>by omega,.inr ⟨o,st',ho,h0,fun h1=>by simpa[h1]using hdr,hdo,hw,?_⟩⟩;rw[<- hr'];exact hrun
theorem IP(hT:cf P E)(hga:cZ P E){dr:Bool}(hnm:ch base){i:Nat}{r:List Oper}{o:Oper}(ih:∀(bs:Bd) (stF:St),iG E ops base i0 (i+1) bs->(eU E dr ops.toList ns r (i+1) base bs).run=some stF->ke P E dr ops ns base i0 (i+1) bs stF)(hi0:i0<=i)
 (hr':r=ops.toList.drop (i+1))(ho:ops[i]? = some o){bs:Bd}{stF:St}(hs:iG E ops base i0 i bs)(hgd:o.guard=none)(hrun:(eU E dr ops.toList ns (o::r) i base bs).run=some stF):ke P E dr ops ns base i0 i bs stF:=by
 unfold eU at hrun;rw[hgd]at hrun;simp only at hrun;cases hdst:o.dst with
 | none =>
   rw[hdst]at hrun;simp only at hrun;cases hc:(!dr||iK ns i)with
   | false=>rw[hc]at hrun; simp[Tr.run]at hrun
   | true => rw[hc]at hrun;simp only[oT]at hrun;exact Ho hr' ho hs hgd hc (by rw[hdst]; rfl) (by rw[hdst]; exact hrun)
 | some d =>
   rw[hdst]at hrun;simp only at hrun;split at hrun
   . cases hc:(!dr||iK ns i)&&uQ E (some d)with
     | false=>rw[hc]at hrun; simp[Tr.run]at hrun
     | true => rw[hc]at hrun;simp only[oT]at hrun;simp only[aeo]at hc;exact Ho hr' ho hs hgd hc.1 (by rw[hdst]; exact hc.2) (by rw[hdst]; exact hrun)
   . rw[Tr.run_bind]at hrun;cases hq:(w9 E (ns.getD i cy) o d base bs (dr&& !iK ns i)).run with
     | none=>rw[hq]at hrun; simp at hrun
     | some p =>
       rw[hq]at hrun;simp only[oB]at hrun;unfold w9 at hq;cases hia:(nV o.op&& !(dr&& !iK ns i))with
       | true=>rw[hia]at hq; simp[Tr.run]at hq
       | false =>
         rw[hia]at hq;simp only[oF]at hq;cases hc:E.dB d&&nw base d&&base.free d&& !j8 d bs with
         | false=>rw[hc]at hq; simp[Tr.run]at hq
         | true =>
           rw[hc]at hq;simp only[oT]at hq;refine yI ih hi0 hs (dH.refl _) hc (Ma hs.ok hs.mb hq) (fun h0 hpm => ?_) ⟨o,ho,hdst⟩ hrun (Gc hT hga ho hs hdst hq fun cx a w Z g bsF S hF hmF hl hS h=>by simp[Region.wanted,hgd]);obtain⟨d',hd'⟩:=HH hq hpm;rw[ed _ hs.ok]at hd';rcases hd' with ⟨i',p',h1,h2,h3⟩ | h1
           . exact hs.ng h0 i' d' p' h1 (by rw[h3]; exact hpm)
           . exact hnm d' _ h1 hpm
theorem kT(hT:cf P E)(hga:cZ P E){dr:Bool}(hnm:ch base):∀(r:List Oper) (i:Nat),r=ops.toList.drop i->i<=ops.size->i0<=i->∀(bs:Bd) (stF:St),iG E ops base i0 i bs->(eU E dr ops.toList ns r i base bs).run=some stF->ke P E dr ops ns base i0 i bs stF
 | [],i,hr,hi,hi0,bs,stF,hs,hrun=>by
   simp only[eU,Tr.run,aen]at hrun;have:ops.size<=i:=by have:=aeU List.length hr;simp at this;omega
   exact⟨i,bs,oR _,hs.ok,hs.mb,hs.idx,hs.ng,dH.refl _,fun j h1 h2=>by omega,.inl ⟨by omega,hrun.symm⟩⟩
 | o::r,i,hr,hi,hi0,bs,stF,hs,hrun=>by
   have hlt:i<ops.size:=by
    rcases aeD i ops.size with h | h
    . exact h
    . rw[List.drop_of_length_le (by simpa using h)]at hr; simp at hr
   have ho:ops[i]? = some o:=by have:=aeU (·[0]?) hr;simp only[aeu,afu,aeQ,aer]at this;exact this.symm
   have hr':r=ops.toList.drop (i+1):=by have:=aeU List.tail hr;simpa using this
   have ih:=kT hT hga (dr:=dr) hnm r (i+1) hr' hlt (Nat.le_succ_of_le hi0);cases hgd:o.guard with
   | none=>exact IP hT hga hnm ih hi0 hr' ho hs hgd hrun
   | some gd=>exact JP hT hga ih hi0 ho hs (jg:=gd.1) (want:=gd.2) hgd hrun
end
theorem vb(f:Nat×TV->Bool):∀(l:List (Nat×TV)) (t:Nat) (tv:TV),look (l.filter f) t=some tv->(∀ tv',look l t=some tv'->f (t,tv')=true)->look l t=some tv
 | [],t,tv,h,_=>by simp[look]at h
 | (m,x)::r,t,tv,h,hv=>by
   rw[aK]at hv ⊢;by_cases hm:m=t
   . subst hm;rw[if_pos rfl]at hv ⊢;have:=hv x rfl;rw[agV this,aK,if_pos rfl]at h;exact h
   . rw[if_neg hm]at hv ⊢;refine vb f r t tv ?_ hv;rw[afh]at h;split at h
     . rw[aK,if_neg hm]at h; exact h
     . exact h
theorem gY{β:Type}:∀(l:List (Nat×β)) (t:Nat) (x:β),look l t=some x->(t,x)∈l
 | [],t,x,h=>by simp[look]at h
 | (m,y)::r,t,x,h=>by
   rw[aK]at h;split at h
   . rename_i e; subst e; simp only[aen]at h; subst h; exact aeI ..
   . exact aeB _ (gY r t x h)
def xG(p:Nat×TV):Bool:=match p.2 with | .may _ _ _ _ _=>false | _=>true
theorem Pu(st:St):st.sure=⟨st.tm.filter xG,st.rt⟩:=rfl
theorem wK{t:Nat}{tv:TV}:xG (t,tv)=true↔¬ tv.gJ:=by cases tv <;> simp[xG,TV.gJ]
theorem El(st:St):ch st.sure:=fun t tv h=>by have:=gY _ _ _ h;rw[Pu,afA]at this;exact wK.1 this.2
theorem zX{nt:Nat->Prop}{base:St}(hnm:ch base):∀ {bs:Bd},dM nt base bs->∀(t:Nat) (tv:TV),look (aE base bs).sure.tm t=some tv->look (aE base bs).tm t=some tv
 | [],_,t,tv,h=>vb xG _ t tv h fun tv' h'=>wK.2 (hnm t tv' h')
 | (i,d,p)::r,hb,t,tv,h=>by
   have ih:=zX hnm hb.2.2.2.2;have h:look (((d,p.1)::(aE base r).tm).filter xG) t=some tv:=h;show look ((d,p.1)::(aE base r).tm) t=some tv;rw[aK];by_cases hd:d=t
   . subst hd;rw[if_pos rfl];rw[afh]at h;split at h
     . rw[aK,if_pos rfl]at h; exact h
     . have:=ih d tv h;rw[bO hb.2.2.2.2]at this;rcases this with ⟨i',p',h1,_⟩ | h1
       . exact absurd rfl (hb.2.2.2.1 _ h1).2
       . rw[hb.2.1]at h1; simp at h1
   . rw[if_neg hd];refine ih t tv ?_;rw[afh]at h;split at h
     . rw[aK,if_neg hd]at h; exact h
     . exact h
theorem mW{nt:Nat->Prop}{base:St}(hnm:ch base){bs:Bd}(hb:dM nt base bs){hg:Bool}(hng:hg=false->∀ i t p,(i,t,p)∈bs->¬ p.1.gJ):ch (jX hg (aE base bs)):=by
 cases hg with
 | true=>exact El _
 | false =>
   intro t tv h;have h:look (aE base bs).tm t=some tv:=h;rw[bO hb]at h;rcases h with ⟨i,p,h1,rfl⟩ | h
   . exact hng rfl i t p h1
   . exact hnm t tv h
theorem pE{P:Program}{cx:Cx P}{Z:Nat->Prop}{g:Gh}{a:Act}{w:World}{nt:Nat->Prop}{base:St}(hnm:ch base){bs:Bd}(hb:dM nt base bs){hg:Bool}(h:Rel cx Z g (aE base bs) a w):Rel cx Z g (jX hg (aE base bs)) a w:=by
 cases hg with
 | false=>exact h
 | true=>exact h.swap (fun _=>rfl) fun t tv ht=>h.tm t tv (zX hnm hb t tv ht)
theorem jk{base:St}{S:Nat}:∀ {bs:Bd},(∀ e∈bs,S.testBit e.1=false)->view base S bs=base
 | [],_=>rfl
 | (i,t,p)::r,h=>by unfold view;rw[h _ (aeI ..)];exact jk fun e he=>h e (aeB _ he)
def HD:Nat->Nat->Nat
 | 0,_=>0
 | n+1,S=>HD n S+(match S.testBit n with | true=>0 | false=>1)
theorem sL:∀ n,HD n 0=n
 | 0=>rfl
 | n+1=>by simp[HD,sL n]
theorem By:∀(n j S:Nat),S.testBit j=false->HD n (S ||| 2 ^ j)+(if j<n then 1 else 0)=HD n S
 | 0,j,S,h=>by simp[HD]
 | n+1,j,S,h=>by
   have ih:=By n j S h;simp only[HD,aR];by_cases hj:j=n
   . subst hj;simp[h]at ih ⊢;omega
   . have h1:decide (j=n)=false:=by simpa using hj
     rw[h1,Bool.or_false];by_cases hl:j<n
     . simp only[hl,if_true]at ih;simp only[show j<n+1 by omega,if_true];omega
     . simp only[hl,afE]at ih;simp only[show ¬ j<n+1 by omega,afE];omega
theorem AB:∀(n S:Nat),HD n S=0->∀ k,k<n->S.testBit k=true
 | 0,_,_,k,hk=>by omega
 | n+1,S,h,k,hk=>by
   simp only[HD]at h;by_cases hn:k=n
   . subst hn;cases hb:S.testBit k with
     | true=>rfl
     | false=>rw[hb]at h; simp at h
   . exact AB n S (by omega) k (by omega)
def GF(f:Nat->Nat)(o:Oper):Nat:=o.after.toList.foldl (fun s e=>bif dR e then s ||| 2 ^ e.on ||| f e.on else s) 0
theorem Di(f:Nat->Nat)(b:Nat):∀(l:List Edge) (s:Nat),(l.foldl (fun s e=>bif dR e then s ||| 2 ^ e.on ||| f e.on else s) s).testBit b=true->s.testBit b=true∨∃ e∈l,dR e=true/\(e.on=b∨(f e.on).testBit b=true)
 | [],s,h=> .inl h
 | e::l,s,h=>by
   rw[afb]at h;rcases Di f b l _ h with h | ⟨e',h1,h2⟩
   . cases hb:dR e with
     | false=>rw[hb]at h; exact .inl h
     | true =>
       rw[hb]at h;simp only[oT,Nat.testBit_or,afz,Nat.testBit_two_pow,afJ]at h;rcases h with (h | h) | h
       . exact .inl h
       . exact .inr ⟨e,aeI ..,hb,.inl h⟩
       . exact .inr ⟨e,aeI ..,hb,.inr h⟩
   . exact .inr ⟨e',aeB _ h1,h2⟩
theorem o5:∀(l:List Oper) (acc:List Nat),(bq l acc).length=acc.length+l.length
 | [],acc=>by simp[bq]
 | o::r,acc=>by unfold bq;rw[o5];simp;omega
theorem tW:∀(l:List Oper) (acc:List Nat) (k:Nat),k<acc.length->(bq l acc)[k]? = acc[k]?
 | [],acc,k,_=>rfl
 | o::r,acc,k,h=>by unfold bq;rw[tW r _ k (by simp; omega),ae4 h]
theorem oZ:∀(l:List Oper) (acc:List Nat) (k:Nat) (o:Oper) (b:Nat),l[k]? = some o->((bq l acc).getD (acc.length+k) 0).testBit b=true ->
 ∃ e∈o.after.toList,dR e=true/\(e.on=b∨(e.on<acc.length+k/\((bq l acc).getD e.on 0).testBit b=true))
 | [],acc,k,o,b,h,_=>by simp at h
 | o0::r,acc,0,o,b,h,hb=>by
   simp only[aeu,aen]at h;subst h;have h1:(bq (o0::r) acc)[acc.length]? = some (GF (fun n=>acc.getD n 0) o0):=by unfold bq;rw[tW r _ _ (by simp),ae3 (oR _),af7];rfl
   rw[List.getD,aeQ,h1]at hb;simp only[afY]at hb;rcases Di (fun n=>acc.getD n 0) b o0.after.toList 0 hb with h2 | ⟨e,h2,h3,h4⟩
   . simp at h2
   . refine⟨e,h2,h3,h4.imp id fun h4 => ?_⟩;have hlt:e.on<acc.length:=by
      rcases aeD e.on acc.length with hh | hh
      . exact hh
      . simp[List.getD,aeE hh]at h4
     refine⟨hlt,?_⟩;rw[List.getD,tW _ _ _ hlt];exact h4
 | o0::r,acc,k+1,o,b,h,hb=>by
   have hh:bq (o0::r) acc=bq r (acc++[GF (fun n=>acc.getD n 0) o0]):=by rw[bq]; rfl
   rw[hh]at hb ⊢;have hl:(acc++[GF (fun n=>acc.getD n 0) o0]).length=acc.length+1:=by simp
   obtain⟨e,h1,h2,h3⟩:=oZ r (acc++[GF (fun n=>acc.getD n 0) o0]) k o b (by simpa using h) (by rw[hl,show acc.length+1+k=acc.length+(k+1)by omega]; exact hb);exact⟨e,h1,h2,h3.imp id fun h3=>⟨by omega,h3.2⟩⟩
theorem kh:∀(l:List Oper) (i:Nat),iO l i=true->∀(k:Nat) (o:Oper),l[k]? = some o->∀ e∈o.after.toList,dR e=true->e.on<i+k
 | [],i,_,k,o,h,_,_,_=>by simp at h
 | o0::r,i,h,k,o,ho,e,he,hb=>by
   simp only[iO,aeo]at h;cases k with
   | zero => simp only[aeu,aen]at ho;subst ho;have:=aeG.1 h.1 e he;simp only[hb,oN,Bool.false_or]at this;exact afr (aeJ this)
   | succ k => have:=kh r (i+1) h.2 k o (by simpa using ho) e he hb;omega
section
variable{P:Program}{E:En}
def qI(P:Program)(E:En):Prop:=∀(cx:Cx P) (Z:Nat->Prop) (g:Gh) (st:St) (a:Act) (w:World) (o:Oper) (st':St),Rel cx Z g st a w->ch st->Fit cx E a->uQ E o.dst=true->(yS E st o.dst o.op).run=some st' ->
 ch st'/\∀(next:Act->World->Prop) (Q:Exit->Act->World->Prop),(∀ Z' g' a' w',Rel cx Z' g' st' a' w'->Fit cx E a'->next a' w')->o.wp P a w next Q
variable{ops:Array Oper}{ns:List Nat}{P:Program}{cx:Cx P}{Q:Exit->Act->World->Prop}
theorem kN{base:St}{bs:Bd}{S:Nat}(h:∀ e∈bs,S.testBit e.1=true):aE base bs=view base S bs:=iy base S bs fun i t p hm=>h _ hm
theorem iR{o:Oper}{i:Nat}(ho:ops[i]? = some o)(hg:o.guard=none){K:Act->World->Prop}{a:Act}{w:World}(h:o.wp P a w K Q):wpOp P ops Q i K a w:=by
 unfold wpOp;have:Region.wanted o (yielded ops a.tmps)=true:=by simp[Region.wanted,hg]
 simp only[ho,this,if_true];exact .inl h
theorem eo(j k:Nat):(2 ^ j-1).testBit k=decide (k<j):=Nat.testBit_two_pow_sub_one j k
theorem LL(j:Nat):(2 ^ j-1) ||| 2 ^ j=2 ^ (j+1)-1:=by
 apply ag5;intro k;rw[aR,eo,eo];by_cases h:k<j
 . simp[h,ahd h]
 . by_cases h':j=k
   . simp[h']
   . simp[h,h']; omega
theorem PE(hT:cf P E)(hga:cZ P E)(hW:qI P E){stF:St}(hQ:∀ Z g a w,Rel cx Z g stF a w->ch stF->Fit cx E a->Q .normal a w) :
 ∀(n i:Nat) (base:St) (a:Act) (w:World) (Z:Nat->Prop) (g:Gh),ops.size-i=n->i<=ops.size->ch base->Rel cx Z g base a w->Fit cx E a->(eU E false ops.toList ns (ops.toList.drop i) i base []).run=some stF->wpOps P ops Q (List.range' i (ops.size-i)) a w:=by
 intro n;induction n using Nat.strongRecOn with
 | _ n ih =>
   intro i base a w Z g hn hi hnm h hsz hrun;obtain⟨i1,bsF,h1,h2,h3,h4,h5,h6,h7,h8⟩:=kT (ops:=ops) (ns:=ns) (i0:=i) hT hga hnm _ i rfl hi (oR i) [] stF ⟨trivial,hnm.MB,fun e he=>by simp at he,fun _ _ _ _ he=>by simp at he⟩ hrun;have hi1:i1<=ops.size:=by
    rcases h8 with ⟨h8,_⟩ | ⟨o,st',h8,_⟩
    . omega
    . exact agD (aeP.1 h8).1
   have inner:∀(m j:Nat) (a:Act) (w:World) (Z:Nat->Prop) (g:Gh),i1-j=m->i<=j->j<=i1->Rel cx Z g (view base (2 ^ j-1) bsF) a w->Fit cx E a->wpOps P ops Q (List.range' j (ops.size-j)) a w:=by
    intro m;induction m with
    | zero =>
      intro j a w Z g hm hij hj h hsz;have:j=i1:=by omega
      subst this;have hall:aE base bsF=view base (2 ^ j-1) bsF:=kN fun e he=>by rw[eo]; simpa using(h4 e he).2.1
      rw[<- hall]at h;have hs:=pE (hg:=bw ops.toList) hnm h2 h;have hsn:=mW (hg:=bw ops.toList) hnm h2 h5;rcases h8 with ⟨e1,rfl⟩ | ⟨o,st',ho,hg,_,hdo,hw,hrun'⟩
      . rw[e1,af7];exact hQ _ _ _ _ hs hsn hsz
      . have hlt:j<ops.size:=(aeP.1 ho).1;obtain⟨k,hk⟩:∃ k,ops.size-j=k+1:=⟨ops.size-j-1,by omega⟩;rw[hk,List.range'_succ,wpOps_cons];refine iR ho hg ?_;obtain⟨hn',hw'⟩:=hW cx Z g _ a w o st' hs hsn hsz hdo hw;refine hw' _ _ fun Z' g' a' w' hr hsz' => ?_
        have hk':k=ops.size-(j+1):=by omega
        rw[hk'];exact ih (ops.size-(j+1)) (by omega) (j+1) st' a' w' Z' g' rfl hlt hn' hr hsz' hrun'
    | succ m ihm =>
      intro j a w Z g hm hij hj h hsz;have hji:j<i1:=by omega
      have hlt:j<ops.size:=by omega
      obtain⟨k,hk⟩:∃ k,ops.size-j=k+1:=⟨ops.size-j-1,by omega⟩;rw[hk,List.range'_succ,wpOps_cons];refine h7 j hij hji cx (2 ^ j-1) a w Z g _ Q (fun i' _ hi' _=>by rw[eo]; simpa using hi') (by rw[eo]; simp) h hsz fun Z' g' a' w' hr hsz' => ?_
      have hk':k=ops.size-(j+1):=by omega
      rw[hk'];rw[LL]at hr;exact ihm (j+1) a' w' Z' g' (by omega) (by omega) (by omega) hr hsz'
   refine inner (i1-i) i a w Z g rfl (oR i) h1 ?_ hsz;rw[jk fun e he=>by rw[eo]; simpa using(h4 e he).1];exact h
theorem Bl(hT:cf P E)(hga:cZ P E)(hW:qI P E)(hed:iO ops.toList 0=true){stF:St}(hQ:∀ Z g a w,Rel cx Z g stF a w->ch stF->Fit cx E a->Q .normal a w) :
 ∀(fuel:Nat) (listed:Array Bool) (S i i1:Nat) (base:St) (bsF:Bd) (a:Act) (w:World) (Z:Nat->Prop) (g:Gh),listed.size=ops.size->(∀ k,k<ops.size->listed.getD k false=S.testBit k)->HD ops.size S<=fuel->(∀ k,k<i->S.testBit k=true)->(∀ k,i1<=k->S.testBit k=false) ->
  (∀ k,S.testBit k=true->∀ b,((bq ops.toList []).getD k 0).testBit b=true->S.testBit b=true)->i<=i1->ch base->dM E.zq base bsF->(∀ e∈bsF,i<=e.1/\e.1<i1)->(bw ops.toList=false->∀ i t p,(i,t,p)∈bsF->¬ p.1.gJ) ->
  (∀ j,i<=j->j<i1->rj P E ops (bq ops.toList []) base bsF i j) ->
  ((i1=ops.size/\stF=jX (bw ops.toList) (aE base bsF)) ∨
    ∃(o:Oper) (st':St),ops[i1]? = some o/\o.guard=none/\(true=true->iK (bq ops.toList []) i1=true)/\uQ E o.dst=true/\(yS E (jX (bw ops.toList) (aE base bsF)) o.dst o.op).run=some st'/\(eU E true ops.toList (bq ops.toList []) (ops.toList.drop (i1+1)) (i1+1) st' []).run=some stF) ->
  Rel cx Z g (view base S bsF) a w->Fit cx E a->wpAny P .any ops Q fuel listed a w:=by
 have hlen:(bq ops.toList []).length=ops.size:=by rw[o5]; simp
 intro fuel;induction fuel with
 | zero =>
   intro listed S i i1 base bsF a w Z g hls hS hfuel hlo hhi hcl hii hnm hb hidx hng hstep htail h hsz;have hall:=AB _ _ (Nat.le_zero.1 hfuel);have hready:Region.ready .any ops listed=[]:=by apply agA.2;intro j hj;obtain⟨hj0,o,ho,_⟩:=mem_ready.1 hj;have hlt:j<ops.size:=(aeP.1 ho).1;have:=hS j hlt;rw[hall j hlt]at this;simp[aev,hls,hlt]at hj0 this;rw[hj0]at this;simp at this
   refine⟨hready,?_⟩;rcases htail with ⟨e1,rfl⟩ | ⟨o,st',ho,_⟩
   . have hallv:aE base bsF=view base S bsF:=kN fun e he=>hall e.1 (by have:=(hidx e he).2; omega)
     rw[<- hallv]at h;exact hQ _ _ _ _ (pE hnm hb h) (mW hnm hb hng) hsz
   . have hlt:i1<ops.size:=(aeP.1 ho).1;have:=hall i1 hlt;rw[hhi i1 (oR _)]at this;simp at this
 | succ fuel ih =>
   intro listed S i i1 base bsF a w Z g hls hS hfuel hlo hhi hcl hii hnm hb hidx hng hstep htail h hsz;have hi1:i1<=ops.size:=by
    rcases htail with ⟨e1,_⟩ | ⟨o,st',ho,_⟩
    . omega
    . exact agD (aeP.1 ho).1
   have hmask:∀ j,j∈Region.ready .any ops listed->j<ops.size/\S.testBit j=false/\∀ b,((bq ops.toList []).getD j 0).testBit b=true->S.testBit b=true:=by
    intro j hj;obtain⟨hj0,o,ho,he⟩:=mem_ready.1 hj;have hlt:j<ops.size:=(aeP.1 ho).1;refine⟨hlt,?_,fun b hbit => ?_⟩
    . rw[<- hS j hlt];simp[aev,hls,hlt]at hj0 ⊢;exact hj0
    . obtain⟨e,h1,h2,h3⟩:=oZ ops.toList [] j o b (by rw[aer]; exact ho) (by simpa using hbit);have hl:=he e (agv.1 h1) h2;have hon:e.on<ops.size:=by
       rcases aeD e.on ops.size with hh | hh
       . exact hh
       . simp[aev,hls,hh]at hl
      rw[hS _ hon]at hl;rcases h3 with h3 | ⟨_,h3⟩
      . rw[<- h3]; exact hl
      . exact hcl _ hl b h3
   have hnext:∀ k,k<ops.size->S.testBit k=false->∃ j,j∈Region.ready .any ops listed:=by
    intro k;induction k using Nat.strongRecOn with
    | _ k ihk =>
      intro hk hkS;obtain⟨o,ho⟩:∃ o,ops[k]? = some o:=⟨ops[k],by simp[hk]⟩;by_cases hall:∀ e∈o.after,Region.binds .any e=true->listed.getD e.on false=true
      . refine⟨k,mem_ready.2 ⟨?_,o,ho,hall⟩⟩;have:=hS k hk;rw[hkS]at this;simp[aev,hls,hk]at this ⊢;exact this
      . have hex:∃ e,e∈o.after/\Region.binds .any e=true/\¬ listed.getD e.on false=true:=by
         apply afX;intro hne;apply hall;intro e he hbe;apply afX;intro hnl;exact hne ⟨e,he,hbe,hnl⟩
        obtain⟨e,he,hbe,hnl⟩:=hex;have hon:=kh ops.toList 0 hed k o (by rw[aer]; exact ho) e (agv.2 he) hbe;rw[aex]at hon;have hon':e.on<ops.size:=Nat.lt_trans hon hk;refine ihk e.on hon hon' ?_;rw[<- hS _ hon'];simpa using hnl
   have hset:∀ j,j<ops.size->(∀ k,k<ops.size->(listed.setIfInBounds j true).getD k false=(S ||| 2 ^ j).testBit k):=by
    intro j hj k hk;rw[aR,<- hS k hk];by_cases hjk:j=k
    . subst hjk;simp[aev,hls,hj]
    . simp[aev,agx hjk,hjk]
   have hcnt:∀ j,j<ops.size->S.testBit j=false->HD ops.size (S ||| 2 ^ j)<=fuel:=by intro j hj hSj;have:=By ops.size j S hSj;rw[if_pos hj]at this;omega
   have hclS:∀ j,j∈Region.ready .any ops listed->∀ k,(S ||| 2 ^ j).testBit k=true->∀ b,((bq ops.toList []).getD k 0).testBit b=true->(S ||| 2 ^ j).testBit b=true:=by
    intro j hj k hk b hbit;rw[aR]at hk ⊢;by_cases hjk:j=k
    . subst hjk;rw[(hmask j hj).2.2 b hbit]; rfl
    . have hk:S.testBit k=true:=by simpa[hjk]using hk
      rw[hcl k hk b hbit]; rfl
   by_cases hdone:∀ k,k<i1->S.testBit k=true
   ·
    have hallv:aE base bsF=view base S bsF:=kN fun e he=>hdone e.1 (hidx e he).2
    have h':=h;rw[<- hallv]at h';have hs:=pE (hg:=bw ops.toList) hnm hb h';have hsn:=mW (hg:=bw ops.toList) hnm hb hng;rcases htail with ⟨e1,rfl⟩ | ⟨o,st',ho,hg,hfence,hdo,hw,hrun'⟩
    . refine⟨fun _=>hQ _ _ _ _ hs hsn hsz,fun j hj => ?_⟩;obtain⟨h1,h2,_⟩:=hmask j hj;rw[hdone j (by omega)]at h2;simp at h2
    . have hlt:i1<ops.size:=(aeP.1 ho).1;refine⟨fun hr => ?_,fun j hj => ?_⟩
      . obtain⟨j,hj⟩:=hnext i1 hlt (hhi i1 (oR _));rw[hr]at hj;simp at hj
      . obtain⟨hj1,hj2,hj3⟩:=hmask j hj;have hji:j=i1:=by
         have hge:i1<=j:=by
          rcases aeD j i1 with hh | hh
          . rw[hdone j hh]at hj2; simp at hj2
          . exact hh
         rcases Nat.lt_or_eq_of_le hge with hgt | heq
         . have hf:=hfence rfl;unfold iK at hf;simp only[aeo,aeG,afy]at hf;have:=hf.2 (j-i1-1) (by rw[hlen]; omega);rw[show i1+1+(j-i1-1)=j by omega]at this;have:=hj3 i1 this;rw[hhi i1 (oR _)]at this;simp at this
         . exact heq.symm
        subst hji;refine iR ho hg ?_;obtain⟨hn',hw'⟩:=hW cx Z g _ a w o st' hs hsn hsz hdo hw;refine hw' _ _ fun Z' g' a' w' hr hsz' => ?_
        obtain⟨i2,bsF',k1,k2,k3,k4,k5,k6,k7,k8⟩:=kT (ops:=ops) (ns:=bq ops.toList []) (i0:=j+1) hT hga hn' _ (j+1) rfl hlt (oR _) [] stF ⟨trivial,hn'.MB,fun e he=>by simp at he,fun _ _ _ _ he=>by simp at he⟩ hrun';have hlow:∀ k,j+1<=k->(S ||| 2 ^ j).testBit k=false:=fun k hk=>by rw[aR,hhi k (by omega)];simp; omega
        refine ih (listed.setIfInBounds j true) (S ||| 2 ^ j) (j+1) i2 st' bsF' a' w' Z' g' (by simp[hls]) (hset j hj1) (hcnt j hj1 hj2) (fun k hk => ?_) (fun k hk=>hlow k (by omega)) (hclS j hj) k1 hn' k2 (fun e he=>⟨(k4 e he).1,(k4 e he).2.1⟩) k5 k7 k8 ?_ hsz'
        . rw[aR];by_cases hjk:j=k
          . simp[hjk]
          . rw[hdone k (by omega)]; rfl
        . rw[jk fun e he=>hlow e.1 (k4 e he).1];exact hr
   ·
    have hex:∃ k,k<i1/\S.testBit k=false:=by
     apply afX;intro hne;apply hdone;intro k hk;cases hb:S.testBit k with
     | true=>rfl
     | false=>exact absurd ⟨k,hk,hb⟩ hne
    obtain⟨k,hk,hkS⟩:=hex;refine⟨fun hr => ?_,fun j hj => ?_⟩
    . obtain⟨j,hj⟩:=hnext k (by omega) hkS;rw[hr]at hj;simp at hj
    . obtain⟨hj1,hj2,hj3⟩:=hmask j hj;have hji:j<i1:=by
       rcases aeD j i1 with hh | hh
       . exact hh
       . exfalso;rcases htail with ⟨e1,_⟩ | ⟨o,st',ho,hg,hfence,_⟩
         . omega
         . have hf:=hfence rfl;unfold iK at hf;simp only[aeo,aeG,afy]at hf;rcases Nat.lt_or_eq_of_le hh with hgt | heq
           . have:=hf.2 (j-i1-1) (by rw[hlen]; omega);rw[show i1+1+(j-i1-1)=j by omega]at this;have:=hj3 i1 this;rw[hhi i1 (oR _)]at this;simp at this
           . subst heq;have:=hj3 k (hf.1 k hk);rw[hkS]at this;simp at this
      have hij:i<=j:=by
       rcases aeD j i with hh | hh
       . rw[hlo j hh]at hj2; simp at hj2
       . exact hh
      have hget:∀(x:Nat),(bq ops.toList []).getD j x=(bq ops.toList []).getD j 0:=fun x=>by
       have hjl:j<(bq ops.toList []).length:=by rw[hlen]; exact hj1
       simp[List.getD,hjl]
      refine hstep j hij hji cx S a w Z g _ Q (fun i' _ _ hbit=>hj3 i' (by rw[<- hget cy]; exact hbit)) hj2 h hsz fun Z' g' a' w' hr hsz' => ?_
      refine ih (listed.setIfInBounds j true) (S ||| 2 ^ j) i i1 base bsF a' w' Z' g' (by simp[hls]) (hset j hj1) (hcnt j hj1 hj2) (fun k hk => ?_) (fun k hk => ?_) (hclS j hj) hii hnm hb hidx hng hstep htail hr hsz'
      . rw[aR,hlo k hk]; rfl
      . rw[aR,hhi k hk];simp; omega
end
def Good{P:Program}(cx:Cx P)(E:En)(st:St)(a:Act)(w:World):Prop:=ch st/\Fit cx E a/\∃ Z g,Rel cx Z g st a w
def QO{P:Program}(cx:Cx P)(E:En):Ou->Exit->Act->World->Prop
 | .nrm st,.normal,a,w=>Good cx E st a w
 | .ext id st,.exit id',a,w=>id'=id/\Good cx E st a w
 | .ret st,.ret,a,w=>Good cx E st a w
 | _,_,_,_=>False
def QL{P:Program}(cx:Cx P)(E:En)(L:Lo E.ρ):Sum (ej L.σ) (ej E.ρ)->Exit->Act->World->Prop
 | .inl y=>QO cx E (.nrm (enc L.σ y))
 | .inr z=>QO cx E (.ret (enc E.ρ z))
def iQ(P:Program)(E:En)(id:Nat)(c:Code)(L:Lo E.ρ):Prop :=
 ∀(cx:Cx P) (a:Act) (w:World) (x:ej L.σ) (r:Sum (ej L.σ) (ej E.ρ)),Good cx E (enc L.σ x) a w->L.f x=some r->(Code.block id c).wp P (QL cx E L r) a w
def cM(P:Program)(E:En)(c:Code)(F:St->Tr St):Prop :=
 ∀(cx:Cx P) (a:Act) (w:World) (st st':St),Good cx E st a w->(F st).run=some st'->c.wp P (QO cx E (.nrm st')) a w
def db(P:Program)(E:En):Code->Prop
 | .region id ops dr=>∀ F,E.rg id=some F->cM P E (.region id ops dr) F
 | .seq a b=>db P E a/\db P E b
 | .cond _ a b=>db P E a/\db P E b
 | .block id c=>(∀ L,E.lo id=some L->iQ P E id c L)/\(E.lo id=none->db P E c)
 | .loop c=>db P E c
 | _=>True
def Kv(P:Program)(E:En):Prop:=∀(cx:Cx P) (σ:List SE) (st:St) (a:Act) (w:World) (x:ej σ),Good cx E st a w->dec σ st=some x->Good cx E (enc σ x) a w
section
variable{P:Program}{E:En}{cx:Cx P}
theorem Fq{st:St}{a:Act}{w:World}{t:Nat}{x:Bool}(h:Good cx E st a w)(hx:st.tv t=some (.v (.d .bool x))):Good cx E (st.KM t x) a w:=by
 obtain⟨h1,h2,Z,g,h3⟩:=h;refine⟨fun t' tv h => ?_,h2,Z,g,h3.swap (fun _=>rfl) fun t' tv h => ?_⟩
 . have h:look ((t,.v (.lb x))::st.tm) t'=some tv:=h;rw[aK]at h;split at h
   . cases h; exact fun h=>h
   . exact h1 t' tv h
 . have hh:look ((t,.v (.lb x))::st.tm) t'=some tv:=h;clear h;rw[aK]at hh;split at hh
   . rename_i e;subst e;cases hh;refine⟨?_,(x5 x).1 _ _ _ _ _ (ir h3 h1.cons.cons hx)⟩;obtain⟨tq,h4,_⟩:=Ao h1.cons hx;exact(h3.tm t tq h4).1
   . exact h3.tm t' tv hh
theorem least{p:Nat->Prop}:∀ n,p n->∃ m,p m/\∀ k,p k->m<=k:=by
 intro n;induction n using Nat.strongRecOn with
 | _ n ih =>
   intro h;by_cases hx:∃ k,k<n/\p k
   . obtain⟨k,hk,hp⟩:=hx;exact ih k hk hp
   . exact⟨n,h,fun k hp=>Nat.le_of_not_lt fun hk=>hx ⟨k,hk,hp⟩⟩
open Classical in
noncomputable def J9(I:Nat->Act->World->Prop)(a:Act)(w:World):Nat:=if h:∃ n,I n a w then Classical.choose (least (p:=fun n=>I n a w) (Classical.choose h) (afL h))else 0
theorem zY{I:Nat->Act->World->Prop}{a:Act}{w:World}{n:Nat}(h:I n a w):I (J9 I a w) a w/\∀ k,I k a w->J9 I a w<=k:=by have he:∃ n,I n a w:=⟨n,h⟩;unfold J9;rw[dif_pos he];exact afL (least (p:=fun n=>I n a w) (Classical.choose he) (afL he))
theorem Ad{Q:Exit->Act->World->Prop}{c:Code}(I:Nat->Act->World->Prop)(h0:∀ a w,¬ I 0 a w)(round:∀ n a w,I (n+1) a w->c.wp P (Exit.then (I n) Q) a w){n:Nat}{a:Act}{w:World}(h:I n a w):(Code.loop c).wp P Q a w:=by
 refine wp_loop (fun a w=>∃ n,I n a w) (J9 I) ⟨n,h⟩ fun a w ⟨n,h⟩ => ?_
 obtain⟨h1,h2⟩:=zY h;cases hm:J9 I a w with
 | zero=>rw[hm]at h1; exact(h0 _ _ h1).elim
 | succ m =>
   rw[hm]at h1;refine wp_mono (round m a w h1) fun e a' w' hq => ?_
   cases e <;> first | exact hq | exact⟨⟨m,hq⟩,Nat.lt_succ_of_le ((zY hq).2 m hq)⟩
theorem wp_loop_once{Q:Exit->Act->World->Prop}{c:Code}{a:Act}{w:World}(h:c.wp P (fun e a w=>(∀ x,e=x->x≠ .normal)/\Exit.then (fun _ _=>False) Q e a w) a w):(Code.loop c).wp P Q a w:=by
 refine Ad (fun n a' w'=>n=1/\a'=a/\w'=w) (fun a w h=>by omega) (n:=1) (fun n a' w' ⟨h1,h2,h3⟩ => ?_) ⟨rfl,rfl,rfl⟩;subst h2 h3;refine wp_mono h fun e a1 w1 ⟨hn,hq⟩ => ?_
 cases e <;> first | exact hq | exact absurd rfl (hn _ rfl)
theorem bN(hT:cf P E)(hga:cZ P E)(hW:qI P E)(hm:P.follows .mixedOrders=true)(hdec:Kv P E):∀(c:Code) (st:St) (a:Act) (w:World) (ou:Ou),db P E c->Good cx E st a w->(cD E c st).run=some ou->c.wp P (QO cx E ou) a w
 | .skip,st,a,w,ou,_,h,hr=>by have hr:some (Ou.nrm st)=some ou:=hr;simp only[aen]at hr;subst hr;exact wp_skip h
 | .region id ops false,st,a,w,ou,hl,h,hr=>by
   simp only[cD]at hr;split at hr
   . rename_i F hF;rw[Tr.run_bind]at hr;cases hrun:(F st).run with
     | none=>rw[hrun]at hr; simp at hr
     | some st' => rw[hrun]at hr;simp only[oB,Tr.run,aen]at hr;subst hr;exact hl F hF cx a w st st' h hrun
   rw[Tr.run_bind]at hr;cases hrun:(eU E false ops.toList [] ops.toList 0 st []).run with
   | none=>rw[hrun]at hr; simp at hr
   | some st' => rw[hrun]at hr;simp only[oB,Tr.run,aen]at hr;subst hr;obtain⟨h1,h2,Z,g,h3⟩:=h;refine wp_region ?_;have:=PE (ns:=[]) (cx:=cx) (Q:=QO cx E (.nrm st')) hT hga hW (stF:=st') (fun Z g a w hr hn hs=>⟨hn,hs,Z,g,hr⟩) ops.size 0 st a w Z g rfl (aeC _) h1 h3 h2 hrun;rw[Nat.sub_zero]at this;rw[List.range_eq_range'];exact this
 | .region id ops true,st,a,w,ou,hl,h,hr=>by
   simp only[cD]at hr;split at hr
   . rename_i F hF;rw[Tr.run_bind]at hr;cases hrun:(F st).run with
     | none=>rw[hrun]at hr; simp at hr
     | some st' => rw[hrun]at hr;simp only[oB,Tr.run,aen]at hr;subst hr;exact hl F hF cx a w st st' h hrun
   cases hed:iO ops.toList 0 with
   | false=>rw[hed]at hr; simp[Tr.run]at hr
   | true =>
     rw[hed]at hr;simp only[oT]at hr;rw[Tr.run_bind]at hr;cases hrun:(eU E true ops.toList (bq ops.toList []) ops.toList 0 st []).run with
     | none=>rw[hrun]at hr; simp at hr
     | some st' =>
       rw[hrun]at hr;simp only[oB,Tr.run,aen]at hr;subst hr;obtain⟨h1,h2,Z,g,h3⟩:=h;refine wp_region_any hm ?_;obtain⟨i1,bsF,k1,k2,k3,k4,k5,k6,k7,k8⟩:=kT (ops:=ops) (ns:=bq ops.toList []) (i0:=0) hT hga h1 _ 0 rfl (aeC _) (oR _) [] st' ⟨trivial,h1.MB,fun e he=>by simp at he,fun _ _ _ _ he=>by simp at he⟩ hrun;refine Bl (cx:=cx) (Q:=QO cx E (.nrm st')) hT hga hW hed (stF:=st') (fun Z g a w hr hn hs=>⟨hn,hs,Z,g,hr⟩) ops.size (Array.replicate ops.size false) 0 0 i1 st bsF a _ Z g (by simp) (fun k hk => ?_) (by rw[sL]; exact oR _) (fun k hk=>by omega) (fun k _=>afR k) (fun k hk=>by rw[afR]at hk; simp at hk) k1 h1 k2 (fun e he=>⟨(k4 e he).1,(k4 e he).2.1⟩) k5 k7 k8 ?_ h2
       . rw[afR];simp[aev,hk]
       . rw[jk fun e _=>afR _];exact h3.world rfl rfl rfl rfl
 | .seq x y,st,a,w,ou,hl,h,hr=>by
   simp only[cD]at hr;rw[Tr.run_bind]at hr;cases hrun:(cD E x st).run with
   | none=>rw[hrun]at hr; simp at hr
   | some o =>
     rw[hrun]at hr;simp only[oB]at hr;refine wp_seq (wp_mono (bN hT hga hW hm hdec x st a w o hl.1 h hrun) fun e a' w' hq => ?_);cases o with
     | nrm st' =>
       cases e <;> first | exact hq.elim | skip
       exact bN hT hga hW hm hdec y st' a' w' ou hl.2 hq hr
     | ext id st' => simp only[Tr.run,aen]at hr;subst hr;cases e <;> first | exact hq.elim | exact hq
     | ret st' => simp only[Tr.run,aen]at hr;subst hr;cases e <;> first | exact hq.elim | exact hq
 | .cond c x y,st,a,w,ou,hl,h,hr=>by
   obtain⟨h1,h2,Z,g,h3⟩:=h;simp only[cD]at hr;split at hr
   . rename_i c _ _ hg;have:a.eval c= .bool true:=aX h3 h1.cons.cons hg;exact wp_cond_true this (bN hT hga hW hm hdec x st a w ou hl.1 ⟨h1,h2,Z,g,h3⟩ hr)
   . rename_i c _ _ hg;have:a.eval c= .bool false:=aX h3 h1.cons.cons hg;exact wp_cond_false this (bN hT hga hW hm hdec y st a w ou hl.2 ⟨h1,h2,Z,g,h3⟩ hr)
   . rename_i v t hg;have hv:a.eval (.tmp t)= .bool v:=aX h3 h1.cons.cons hg;have hs:=Fq (x:=v) (t:=t) ⟨h1,h2,Z,g,h3⟩ hg;refine wp_cond_split hv (fun e => ?_) (fun e => ?_)
     . subst e;exact bN hT hga hW hm hdec x _ a w ou hl.1 hs hr
     . subst e;exact bN hT hga hW hm hdec y _ a w ou hl.2 hs hr
   . simp[Tr.run]at hr
 | .block id c,st,a,w,ou,hl,h,hr=>by
   simp only[cD]at hr;split at hr
   . rename_i L hL;obtain⟨x,hx,hr⟩:=Tr.af hr;simp only[Tr.run,afF]at hr;obtain⟨r,hf,hr⟩:=hr;have:=hl.1 L hL cx a w x r (hdec cx L.σ st a w x h hx) hf;refine wp_mono this fun e a' w' hq => ?_
     cases r with
     | inl y=>simp only[oL,Tr.run,aen]at hr; subst hr; exact hq
     | inr z=>simp only[Sum.elim_inr,Tr.run,aen]at hr; subst hr; exact hq
   . rename_i hL;rw[Tr.run_bind]at hr;cases hrun:(cD E c st).run with
     | none=>rw[hrun]at hr; simp at hr
     | some o =>
       rw[hrun]at hr;simp only[oB]at hr;refine wp_block (wp_mono (bN hT hga hW hm hdec c st a w o (hl.2 hL) h hrun) fun e a' w' hq => ?_);cases o with
       | nrm st' => simp only[Tr.run,aen]at hr;subst hr;cases e <;> first | exact hq.elim | exact hq
       | ext id' st' =>
         cases e <;> first | exact hq.elim | skip
         obtain⟨rfl,hq⟩:=hq;simp only at hr;simp only[Exit.inBlock];rename_i e';cases hb:Nat.beq e' id with
         | true => rw[hb]at hr;simp only[oT,Tr.run,aen]at hr;subst hr;rw[if_pos (beq_eq hb)];exact hq
         | false => rw[hb]at hr;simp only[oF,Tr.run,aen]at hr;subst hr;rw[if_neg (afx hb)];exact⟨rfl,hq⟩
       | ret st' => simp only[Tr.run,aen]at hr;subst hr;cases e <;> first | exact hq.elim | exact hq
 | .exit id,st,a,w,ou,_,h,hr=>by simp only[cD,Tr.run,aen]at hr;subst hr;exact wp_exit ⟨rfl,h⟩
 | .ret,st,a,w,ou,_,h,hr=>by simp only[cD,Tr.run,aen]at hr;subst hr;exact wp_ret h
 | .loop c,st,a,w,ou,hl,h,hr=>by
   simp only[cD]at hr;rw[Tr.run_bind]at hr;cases hrun:(cD E c st).run with
   | none=>rw[hrun]at hr; simp at hr
   | some o =>
     rw[hrun]at hr;simp only[oB]at hr;refine wp_loop_once (wp_mono (bN hT hga hW hm hdec c st a w o hl h hrun) fun e a' w' hq => ?_);cases o with
     | nrm st'=>simp[Tr.run]at hr
     | ext id st' => simp only[Tr.run,aen]at hr;subst hr;cases e <;> first | exact hq.elim | exact⟨fun x e=>by subst e; simp,hq⟩
     | ret st' => simp only[Tr.run,aen]at hr;subst hr;cases e <;> first | exact hq.elim | exact⟨fun x e=>by subst e; simp,hq⟩
 | .goto _,_,_,_,_,_,_,hr=>by simp[cD,Tr.run]at hr
 | .label _,_,_,_,_,_,_,hr=>by simp[cD,Tr.run]at hr
 | .scope _,_,_,_,_,_,_,hr=>by simp[cD,Tr.run]at hr
 | .rangeFunc _ _ _ _,_,_,_,_,_,_,hr=>by simp[cD,Tr.run]at hr
theorem Fo(hT:cf P E)(hga:cZ P E)(hW:qI P E)(hm:P.follows .mixedOrders=true)(hdec:Kv P E){id:Nat}{body:Code}{L:Lo E.ρ}(hl:db P E body)
 (hf:∀ x r,L.f x=some r->∃ n,iter (fun x=>(lZ E id L.σ body x).run) n x=some r):iQ P E id (.loop body) L:=by
 intro cx a w x r h hr;obtain⟨n,hn⟩:=hf x r hr;refine wp_block ?_;refine Ad (fun n a w=>∃ x,Good cx E (enc L.σ x) a w/\iter (fun x=>(lZ E id L.σ body x).run) n x=some r) (fun a w ⟨x,_,h⟩=>by simp[iter]at h) (fun n a w ⟨x,hg,hi⟩ => ?_) ⟨x,h,hn⟩;unfold iter at hi
 have hround:∀ r',(lZ E id L.σ body x).run=some r'->∃ o,(cD E body (enc L.σ x)).run=some o/\(match o with
  | .nrm st=>Tr.bQ (dec L.σ st) fun y=>Tr.ret (Sum.inl y)
  | .ext id' st=>bif Nat.beq id' id then Tr.bQ (dec L.σ st) fun y=> .ret (.inr (.inl y))else .fail
  | .ret st=>Tr.bQ (dec E.ρ st) fun y=> .ret (.inr (.inr y)):Tr (Sum (ej L.σ) (Sum (ej L.σ) (ej E.ρ)))).run=some r':=fun r' hr'=>by
  unfold lZ at hr';rw[Tr.run_bind]at hr';cases ho:(cD E body (enc L.σ x)).run with
  | none=>rw[ho]at hr'; simp at hr'
  | some o=>rw[ho]at hr'; exact⟨o,rfl,hr'⟩
 split at hi
 . rename_i y hy;obtain⟨o,ho,ho'⟩:=hround _ hy;refine wp_mono (bN hT hga hW hm hdec body _ a w o hl hg ho) fun e a' w' hq => ?_
   cases o with
   | nrm st => obtain⟨z,hz,hz'⟩:=Tr.af ho';simp only[Tr.run,aen,aeO]at hz';subst hz';cases e <;> first | exact hq.elim | exact⟨z,hdec cx _ st a' w' z hq hz,hi⟩
   | ext id' st =>
     simp only at ho';cases hb:Nat.beq id' id with
     | false=>rw[hb]at ho'; simp[Tr.run]at ho'
     | true => rw[hb]at ho';obtain⟨z,hz,hz'⟩:=Tr.af ho';simp[Tr.run]at hz'
   | ret st => obtain⟨z,hz,hz'⟩:=Tr.af ho';simp[Tr.run]at hz'
 . rename_i y hy;simp only[aen]at hi;subst hi;obtain⟨o,ho,ho'⟩:=hround _ hy;refine wp_mono (bN hT hga hW hm hdec body _ a w o hl hg ho) fun e a' w' hq => ?_
   cases o with
   | nrm st => obtain⟨z,hz,hz'⟩:=Tr.af ho';simp[Tr.run]at hz'
   | ext id' st =>
     simp only at ho';cases hb:Nat.beq id' id with
     | false=>rw[hb]at ho'; simp[Tr.run]at ho'
     | true =>
       rw[hb]at ho';obtain⟨z,hz,hz'⟩:=Tr.af ho';simp only[Tr.run,aen,Sum.inr.injEq]at hz';subst hz';cases e <;> first | exact hq.elim | skip
       obtain⟨rfl,hq⟩:=hq;have:=beq_eq hb;subst this;show Exit.then _ _ (.exit _) a' w';simp only[Exit.then,Exit.inBlock,if_true];exact hdec cx _ st a' w' z hq hz
   | ret st => obtain⟨z,hz,hz'⟩:=Tr.af ho';simp only[Tr.run,aen,Sum.inr.injEq]at hz';subst hz';cases e <;> first | exact hq.elim | exact hdec cx _ st a' w' z hq hz
 . simp at hi
end
theorem B2{α:Type}:∀(l:List (Nat×α)) (n:Nat) (x:α) (m:Nat),look (V3 l n x) m=if n=m then (look l m).map (fun _=>x)else look l m
 | [],n,x,m=>by simp[V3,look]
 | (k,y)::r,n,x,m=>by
   unfold V3;cases hb:Nat.beq k n with
   | true => have e:=beq_eq hb;subst e;simp only[oT,aK];by_cases h:k=m <;> simp[h]
   | false =>
     have hne:k≠n:=fun e=>by subst e; simp at hb
     simp only[oF,aK];rw[B2 r n x m];by_cases h:k=m
     . have:¬ n=m:=fun e=>hne (h.trans e.symm)
       simp[h,this]
     . simp[h]
theorem yH{α:Type}:∀(l:List α) (j:Nat) (x:α) (i:Nat),(kQ l j x)[i]? = if j=i then (l[i]?).map (fun _=>x)else l[i]?
 | [],j,x,i=>by simp[kQ]
 | y::r,0,x,i=>by cases i <;> simp[kQ]
 | y::r,j+1,x,i=>by
   cases i with
   | zero=>simp[kQ]
   | succ i=>simp[kQ,yH r j x i]
theorem jB{α:Type}:∀(l:List α) (j:Nat) (x:α),(kQ l j x).length=l.length
 | [],_,_=>rfl
 | _::_,0,_=>rfl
 | _::r,j+1,x=>aeU (· + 1) (jB r j x)
section
variable{st:St}{r j:Nat}{c:RC}
theorem ig(r':Nat):look (st.setCell r j c).rt r'=if r=r' then (look st.rt r').map (fun R=>⟨R.box,kQ R.cells j c⟩)else look st.rt r':=by
 unfold St.setCell;cases h:look st.rt r with
 | none =>
   simp only;by_cases e:r=r'
   . subst e; simp[h]
   . simp[e]
 | some R =>
   simp only;rw[B2];by_cases e:r=r'
   . subst e; simp[h]
   . simp[e]
theorem cS(r' j':Nat):(st.setCell r j c).cell r' j'=if r=r'/\j=j' then (st.cell r' j').map (fun _=>c)else st.cell r' j':=by
 simp only[St.cell,ig];by_cases e:r=r'
 . subst e;cases h:look st.rt r with
   | none=>simp[h]
   | some R=>simp only[h,if_true,aeM,yH,true_and]
 . simp[e]
theorem eG:(st.setCell r j c).tm=st.tm:=by unfold St.setCell;cases look st.rt r <;> rfl
end
structure iw {P:Program} (cx:Cx P) (Z:Nat->Prop) (g:Gh) (st:St) (w:World) (F:Nat->Prop):Prop where
 lt:∀ b,F b->b<w.heap.size
 own:∀ b,F b->cx.F0 b∨cx.w0.heap.size<=b
 z:∀ b,F b->¬ Z b
 fp:∀ b,F b->∀ r j,¬ g.fp r j b
 box:∀ b,F b->∀ r R,look st.rt r=some R->R.box=true->g.be r≠b
theorem iw.none{P:Program}(cx:Cx P)(Z:Nat->Prop)(g:Gh)(st:St)(w:World):iw cx Z g st w (fun _=>False) :=
 ⟨fun _ h=>h.elim,fun _ h=>h.elim,fun _ h=>h.elim,fun _ h=>h.elim,fun _ h=>h.elim⟩
def Gh.pq(g:Gh)(r j:Nat)(F:Nat->Prop):Gh:=⟨g.be,g.cv,fun r' j' b=>if r'=r/\j'=j then F b else g.fp r' j' b⟩
structure kf (Z:Nat->Prop) (w w':World) (g g':Gh) (st st':St):Prop where
 cg:mA Z Z w w' g g' st st'
 tm:st'.tm=st.tm
 be:g'.be=g.be
 box:∀ r R',look st'.rt r=some R'->∃ R,look st.rt r=some R/\R'.box=R.box
theorem kf.refl{P:Program}{cx:Cx P}{Z:Nat->Prop}{g:Gh}{st:St}{a:Act}{w:World}(h:Rel cx Z g st a w):kf Z w w g g st st :=
 ⟨fb h rfl rfl,rfl,rfl,fun r R h=>⟨R,h,rfl⟩⟩
section
variable{P:Program}{cx:Cx P}{Z:Nat->Prop}{g:Gh}{st:St}{a:Act}{w:World}{E:En}
theorem Rel.kill(h:Rel cx Z g st a w){r j:Nat}{c:RC}(hc:st.cell r j=some c):Rel cx Z (g.pq r j fun _=>False) (st.setCell r j ⟨c.s+1,c.m+1,.av .dead⟩) a w /\
 kf Z w w g (g.pq r j fun _=>False) st (st.setCell r j ⟨c.s+1,c.m+1,.av .dead⟩)/\iw cx Z (g.pq r j fun _=>False) (st.setCell r j ⟨c.s+1,c.m+1,.av .dead⟩) w (g.fp r j):=by
 have hfp:∀ r' j' b,(g.pq r j fun _=>False).fp r' j' b->g.fp r' j' b/\¬ (r'=r/\j'=j):=fun r' j' b hb=>by
  simp only[Gh.pq]at hb;split at hb
  . exact hb.elim
  . rename_i hne; exact⟨hb,hne⟩
 have hrt:∀ r' R',look (st.setCell r j ⟨c.s+1,c.m+1,.av .dead⟩).rt r'=some R'->∃ R,look st.rt r'=some R/\R'.box=R.box/\R'.cells.length=R.cells.length:=fun r' R' hR=>by
  rw[ig]at hR;split at hR
  . cases hl:look st.rt r' with
    | none=>rw[hl]at hR; simp at hR
    | some R => rw[hl]at hR;simp only[aeM,aen]at hR;subst hR;exact⟨R,rfl,rfl,jB _ _ _⟩
  . exact⟨R',hR,rfl,rfl⟩
 have k:mA Z Z w w g (g.pq r j fun _=>False) st (st.setCell r j ⟨c.s+1,c.m+1,.av .dead⟩):=by
  refine { size:=oR _,z:=fun b hb _=>⟨hb,rfl⟩,root:=fun r' R hR => ?_,cell:=fun r' j' c' hc' => ?_,own:=fun r j b hb=>(h.fp r j b hb).1,block:=(fb h (st':=st) (w':=w) rfl rfl).block }
  . rw[ig];by_cases e:r=r'
    . rw[if_pos e,hR]; exact⟨_,rfl,rfl,fun _=>rfl⟩
    . rw[if_neg e]; exact⟨R,hR,rfl,fun _=>rfl⟩
  . rw[cS];by_cases e:r=r'/\j=j'
    . obtain⟨rfl,rfl⟩:=e;rw[hc']at hc;simp only[aen]at hc;subst hc;rw[if_pos ⟨rfl,rfl⟩,hc'];exact⟨_,rfl,agf _,agf _,fun e=>absurd e (agJ _),fun e=>absurd e (agJ _),fun e=>absurd e (agJ _)⟩
    . rw[if_neg e];refine⟨c',hc',oR _,oR _,fun _=>rfl,fun _ e ks xs hh=>⟨xs,hh,rfl⟩,fun _ _=>⟨rfl,fun b hb _=>⟨?_,rfl⟩⟩⟩;simp only[Gh.pq];rw[if_neg (fun e'=>e ⟨e'.1.symm,e'.2.symm⟩)];exact hb
 refine⟨?_,⟨k,eG,rfl,fun r' R' hR=>by obtain⟨R,h1,h2,_⟩:=hrt r' R' hR; exact⟨R,h1,h2⟩⟩,?_⟩
 . refine { os:=h.os,tape:=h.tape,output:=h.output,size:=h.size,block:=h.block,bL:=h.bL,z0:=h.z0,fp := ?_,disj := ?_,box := ?_,cell := ?_,tm := ?_,defers:=h.defers,pin:=h.pin }
   . intro r' j' b hb;obtain⟨h1,hne⟩:=hfp r' j' b hb;obtain⟨h2,h3,h4,c',kk,x,h5,h6⟩:=h.fp r' j' b h1;exact⟨h2,h3,h4,c',kk,x,by rw[cS,if_neg (fun e=>hne ⟨e.1.symm,e.2.symm⟩)]; exact h5,h6⟩
   . intro r1 j1 r2 j2 b h1 h2;exact h.disj r1 j1 r2 j2 b (hfp _ _ _ h1).1 (hfp _ _ _ h2).1
   . intro r' R' hR hb;obtain⟨R,h1,h2,h3⟩:=hrt r' R' hR;obtain⟨b1,b2,b3,b4,cs,e,fr,b5,b6,b7,b8⟩:=h.box r' R h1 (by rw[<- h2]; exact hb);refine⟨b1,b2,fun r'' j'' hh=>b3 r'' j'' (hfp _ _ _ hh).1,fun r'' R'' hR'' hb'' he => ?_,cs,e,fr,b5,b6,by rw[h3]; exact b7,b8⟩;obtain⟨R2,h4,h5,_⟩:=hrt r'' R'' hR'';exact b4 r'' R2 h4 (by rw[<- h5]; exact hb'') he
   . intro r' j' c' hc';rw[cS]at hc';split at hc'
     . rename_i e;cases hl:st.cell r' j' with
       | none=>rw[hl]at hc'; simp at hc'
       | some c0 => rw[hl]at hc';simp only[aeM,aen]at hc';subst hc';trivial
     . rename_i e;refine jJ.cg k _ _ _ _ (h.cell r' j' c' hc') (fun b hb => ?_) (fun _ _ _=>rfl);simp only[Gh.pq];rw[if_neg (fun e'=>e ⟨e'.1.symm,e'.2.symm⟩)];exact hb
   . intro t tv ht;rw[eG]at ht;exact⟨(h.tm t tv ht).1,bF.cg k _ _ (h.tm t tv ht).2⟩
 . refine⟨fun b hb=>(h.fp r j b hb).1,fun b hb=>(h.fp r j b hb).2.1,fun b hb=>(h.fp r j b hb).2.2.1,fun b hb r' j' hb' => ?_,fun b hb r' R' hR hbx he => ?_⟩
   . obtain⟨h1,hne⟩:=hfp r' j' b hb';exact hne (h.disj r' j' r j b h1 hb)
   . obtain⟨R,h1,h2,h3⟩:=hrt r' R' hR;obtain⟨_,_,b3,_⟩:=h.box r' R h1 (by rw[<- h2]; exact hbx);have he:g.be r'=b:=he;exact b3 r j (by rw[he]; exact hb)
theorem KD{w:World}{e:TypeId}{ks:List K}{xs:T (.sl e ks)}{aa:Option Addr}{l cap n:Nat}{F:Nat->Prop}(h:cO w (.sl e ks) xs (.slice aa l cap) F)(hn:n<=l):cO w (.sl e ks) (List.take n (aQ xs)) (.slice aa n cap) F:=by
 obtain⟨a',c',h1,h2,h3,h4,h5⟩:=h;simp only[afm]at h1;obtain⟨rfl,rfl,rfl⟩:=h1;have hlen:(aQ (e:=e) (ks:=ks) (List.take n (aQ xs))).length=n:=(afd (l:=aQ xs) (i:=n)).trans (ag3 hn);refine⟨aa,cap,by rw[hlen],by omega,by omega,h4,fun a' ha => ?_⟩;obtain⟨b,o,cs,e',fr,g1,g2,g3,g4,g5,G,g6,g7,g8⟩:=h5 a' ha;refine⟨b,o,cs,e',fr,g1,g2,g3,g4,g5,G,g6,g7,fun i x hx=>g8 i x ?_⟩;have hx':(List.take n (aQ xs))[i]? = some x:=hx;rw[aft]at hx';split at hx'
 . exact hx'
 . simp at hx'
theorem gr(h:Rel cx Z g st a w){av:AV}{v:Value}(hr:bj Z g st w av v){k:K}{st':St}{x:T k}(ht:st.cz k av=some (st',x)) :
 ∃ g' F,Rel cx Z g' st' a w/\kf Z w w g g' st st'/\cO w k x v F/\iw cx Z g' st' w F/\(∀ r j b,g'.fp r j b->g.fp r j b)/\(∀ b,F b->∃ r j,g.fp r j b)/\g'.cv=g.cv:=by
 have nilc:∀(e:TypeId) (ks:List K),av= .nil->k= .sl e ks->st'=st->HEq x ([]:List (Tl ks))->∃ g' F,Rel cx Z g' st' a w/\kf Z w w g g' st st'/\cO w k x v F/\iw cx Z g' st' w F/\(∀ r j b,g'.fp r j b->g.fp r j b)/\(∀ b,F b->∃ r j,g.fp r j b)/\g'.cv=g.cv:=by intro e ks h1 h2 h3 h4;subst h1; subst h2; subst h3;have h4:=agy h4;subst h4;have hv:v= .slice none 0 0:=hr;subst hv;exact⟨g,fun _=>False,h,kf.refl h,jC e ks,iw.none _ _ _ _ _,fun _ _ _ h=>h,fun _ h=>h.elim,rfl⟩
 have main:(∀ z,st.cz k av=some z->∃ q,st.take av=some q/\∃ y,fD q.2.1 k q.2.2=some y/\z=(q.1,y))->∃ g' F,Rel cx Z g' st' a w/\kf Z w w g g' st st'/\cO w k x v F/\iw cx Z g' st' w F/\(∀ r j b,g'.fp r j b->g.fp r j b)/\(∀ b,F b->∃ r j,g.fp r j b)/\g'.cv=g.cv:=by
  intro hspec;obtain⟨⟨st1,k',x'⟩,hq,y,hy,hz⟩:=hspec _ ht;simp only[aeT]at hz;obtain⟨rfl,rfl⟩:=hz;obtain⟨e,hy⟩:=cq hy;subst e;subst hy;cases av with
  | ref r j s =>
    simp only[St.take]at hq;split at hq
    . rename_i s' m k1 x1 hc;cases hb:Nat.beq s' s with
      | false=>rw[hb]at hq; simp at hq
      | true =>
        rw[hb]at hq;simp only[oT,aen,aeT]at hq;obtain⟨rfl,hx⟩:=hq;cases hx;obtain⟨k1,k2,k3⟩:=h.kill hc;obtain⟨c,h1,h2,h3⟩:=hr;rw[hc]at h1;simp only[aen]at h1;subst h1;refine⟨_,g.fp r j,k1,k2,?_,k3,fun r' j' b hb => ?_,fun b hb=>⟨r,j,hb⟩,rfl⟩
        . rw[h3 (beq_eq hb)];exact et h hc rfl
        . simp only[Gh.pq]at hb;split at hb
          . exact hb.elim
          . exact hb
    . simp at hq
  | cut r j s n =>
    simp only[St.take]at hq;split at hq
    . rename_i s' m e1 ks1 x1 hc;cases hb:Nat.beq s' s with
      | false=>rw[hb]at hq; simp at hq
      | true =>
        rw[hb]at hq;simp only[oT,aen,aeT]at hq;obtain⟨rfl,hx⟩:=hq;cases hx;obtain⟨k1,k2,k3⟩:=h.kill hc;obtain⟨c,h1,h2,h3⟩:=hr;rw[hc]at h1;simp only[aen]at h1;subst h1;obtain⟨aa,l,cap,e1,e2,e3⟩:=h3 (beq_eq hb);refine⟨_,g.fp r j,k1,k2,?_,k3,fun r' j' b hb => ?_,fun b hb=>⟨r,j,hb⟩,rfl⟩
        . rw[e3];have:=et h hc rfl;rw[e1]at this;exact KD this e2
        . simp only[Gh.pq]at hb;split at hb
          . exact hb.elim
          . exact hb
    . simp at hq
  | _=>simp[St.take]at hq
 unfold St.cz at ht main;split at ht
 . rename_i e ks;cases ht;exact nilc e ks rfl rfl rfl HEq.rfl
 . rename_i hne;apply main;intro z hz;split at hz
   . rename_i e ks;exact(hne e ks rfl rfl).elim
   . split at hz
     . rename_i st2 k2 x2 hq;split at hz
       . rename_i y hy;simp only[aen]at hz;exact⟨_,hq,y,hy,hz.symm⟩
       . simp at hz
     . simp at hz
theorem Rel.lG(h:Rel cx Z g st a w){r be:Nat}{R:Rt}{cv:Nat->Value}{fp:Nat->Nat->Prop}(hr:look st.rt r=none)
 (hfp:∀ j b,fp j b->b<w.heap.size/\(cx.F0 b∨cx.w0.heap.size<=b)/\¬ Z b/\(∀ r j,¬ g.fp r j b)/\(∀ r' R',look st.rt r'=some R'->R'.box=true->g.be r'≠b)/\∃(c:RC) (k:K) (x:T k),R.cells[j]? = some c/\c.v= .own k x)
 (hd:∀ j j' b,fp j b->fp j' b->j=j')
 (hb:R.box=true->(cx.F0 be∨cx.w0.heap.size<=be)/\¬ Z be/\(∀ r' j',¬ g.fp r' j' be)/\(∀ j,¬ fp j be)/\(∀ r' R',look st.rt r'=some R'->R'.box=true->g.be r'≠be)/\∃ cs e fr,w.heap[be]? = some (.cells cs e fr)/\(∀ q,q<cs.size->¬ (fr.1<=q/\q<fr.2))/\cs.size=R.cells.length/\∀ j,j<cs.size->cs[j]? = some (cv j))
 (hc:∀(j:Nat) (c:RC),R.cells[j]? = some c->match c.v with | .own k x=>cO w k x (cv j) (fp j) | .av (.d k x)=>RO Z w k x (cv j) | .av _=>False) :
 Rel cx Z (g.at r be cv fp) ⟨st.tm,(r,R)::st.rt⟩ a w:=by
 have hlook:∀ r',look ((r,R)::st.rt) r'=if r=r' then some R else look st.rt r':=fun r'=>aK _ _ _ _
 have hcell:∀ r' j',St.cell ⟨st.tm,(r,R)::st.rt⟩ r' j'=if r=r' then R.cells[j']? else st.cell r' j':=fun r' j'=>by simp only[St.cell,hlook];by_cases hh:r=r' <;> simp[hh]
 have hne:∀ r' R',look st.rt r'=some R'->¬ r'=r:=fun r' R' h1 e=>by rw[e,hr]at h1; simp at h1
 have hnc:∀ r' j' c',st.cell r' j'=some c'->¬ r'=r:=fun r' j' c' h1 e=>by simp[St.cell,e,hr]at h1
 have k:mA Z Z w w g (g.at r be cv fp) st ⟨st.tm,(r,R)::st.rt⟩:=by
  refine { size:=oR _,z:=fun b hb _=>⟨hb,rfl⟩,root:=fun r' R' hR => ?_,cell:=fun r' j' c' hc' => ?_,own:=fun r j b hb=>(h.fp r j b hb).1,block:=(fb h (st':=st) (w':=w) rfl rfl).block }
  . have:=hne r' R' hR;exact⟨R',by rw[hlook,if_neg (fun e=>this e.symm)]; exact hR,rfl,fun _=>by simp[Gh.at,this]⟩
  . have:=hnc r' j' c' hc';exact⟨c',by rw[hcell,if_neg (fun e=>this e.symm)]; exact hc',oR _,oR _,fun _=>by simp[Gh.at,this],fun _ e ks xs hh=>⟨xs,hh,rfl⟩,fun _ _=>⟨rfl,fun b hb _=>⟨by simp[Gh.at,this]; exact hb,rfl⟩⟩⟩
 have hf1:∀ r' j' b,(g.at r be cv fp).fp r' j' b->(r'=r/\fp j' b)∨(¬ r'=r/\g.fp r' j' b):=fun r' j' b hb=>by
  simp only[Gh.at]at hb;by_cases e:r'=r
  . simp[e]at hb; exact .inl ⟨e,hb⟩
  . simp[e]at hb; exact .inr ⟨e,hb⟩
 refine { os:=h.os,tape:=h.tape,output:=h.output,size:=h.size,block:=h.block,bL:=h.bL,z0:=h.z0,fp := ?_,disj := ?_,box := ?_,cell := ?_,tm:=fun t tv ht=>⟨(h.tm t tv ht).1,bF.cg k _ _ (h.tm t tv ht).2⟩,defers:=h.defers,pin:=h.pin }
 . intro r' j' b hb;rcases hf1 r' j' b hb with ⟨rfl,h1⟩ | ⟨e,h1⟩
   . obtain⟨k1,k2,k3,_,_,c,kk,x,k4,k5⟩:=hfp j' b h1;exact⟨k1,k2,k3,c,kk,x,by rw[hcell,if_pos rfl]; exact k4,k5⟩
   . obtain⟨k1,k2,k3,c,kk,x,k4,k5⟩:=h.fp r' j' b h1;exact⟨k1,k2,k3,c,kk,x,by rw[hcell,if_neg (fun e'=>e e'.symm)]; exact k4,k5⟩
 . intro r1 j1 r2 j2 b h1 h2;rcases hf1 _ _ _ h1 with ⟨e1,k1⟩ | ⟨e1,k1⟩
   . rcases hf1 _ _ _ h2 with ⟨e2,k2⟩ | ⟨e2,k2⟩
     . exact⟨e1.trans e2.symm,hd _ _ _ k1 k2⟩
     . exact absurd k2 ((hfp j1 b k1).2.2.2.1 r2 j2)
   . rcases hf1 _ _ _ h2 with ⟨e2,k2⟩ | ⟨e2,k2⟩
     . exact absurd k1 ((hfp j2 b k2).2.2.2.1 r1 j1)
     . exact h.disj _ _ _ _ _ k1 k2
 . intro r' R' hR hbx;rw[hlook]at hR;by_cases e:r=r'
   . subst e;rw[if_pos rfl]at hR;simp only[aen]at hR;subst hR;obtain⟨b1,b2,b3,b4,b5,cs,el,fr,b6,b7,b8,b9⟩:=hb hbx;have e1:(g.at r be cv fp).be r=be:=by simp[Gh.at]
     rw[e1];refine⟨b1,b2,fun r' j' hh => ?_,fun r' R' hR' hb' he => ?_,cs,el,fr,b6,b7,b8,fun j hj=>by simp[Gh.at]; simpa using b9 j hj⟩
     . rcases hf1 _ _ _ hh with ⟨rfl,h1⟩ | ⟨e1,h1⟩
       . exact b4 j' h1
       . exact b3 r' j' h1
     . rw[hlook]at hR';by_cases e2:r=r'
       . exact e2.symm
       . rw[if_neg e2]at hR';have e3:(g.at r be cv fp).be r'=g.be r':=by
          have e4:¬ _=r:=fun e=>e2 (Eq.symm e)
          simp only[Gh.at];rw[if_neg e4]
         rw[e3]at he;exact absurd he (b5 r' R' hR' hb')
   . rw[if_neg e]at hR;obtain⟨b1,b2,b3,b4,cs,el,fr,b5,b6,b7,b8⟩:=h.box r' R' hR hbx;have e':¬ r'=r:=fun x=>e x.symm
     have e1:(g.at r be cv fp).be r'=g.be r':=by simp[Gh.at,e']
     rw[e1];refine⟨b1,b2,fun r'' j'' hh => ?_,fun r'' R'' hR'' hb'' he => ?_,cs,el,fr,b5,b6,b7,fun j hj=>by simp[Gh.at,e']; simpa using b8 j hj⟩
     . rcases hf1 _ _ _ hh with ⟨rfl,h1⟩ | ⟨_,h1⟩
       . exact(hfp j'' _ h1).2.2.2.2.1 r' R' hR hbx rfl
       . exact b3 r'' j'' h1
     . rw[hlook]at hR'';by_cases e2:r=r''
       . subst e2;rw[if_pos rfl]at hR'';simp only[aen]at hR'';subst hR'';have e3:(g.at r be cv fp).be r=be:=by simp[Gh.at]
         rw[e3]at he;exact absurd he.symm ((hb hb'').2.2.2.2.1 r' R' hR hbx)
       . rw[if_neg e2]at hR'';have e3:(g.at r be cv fp).be r''=g.be r'':=by
          have e4:¬ _=r:=fun e=>e2 (Eq.symm e)
          simp only[Gh.at];rw[if_neg e4]
         rw[e3]at he;exact b4 r'' R'' hR'' hb'' he
 . intro r' j' c' hc';rw[hcell]at hc';by_cases e:r=r'
   . subst e;rw[if_pos rfl]at hc';have h1:=hc j' c' hc';have e1:(g.at r be cv fp).cv r j'=cv j':=by simp[Gh.at]
     have e2:(g.at r be cv fp).fp r j'=fp j':=by funext b; simp[Gh.at]
     rw[e1,e2];cases hv:c'.v with
     | own kk x=>rw[hv]at h1; exact h1
     | av x=>rw[hv]at h1; cases x <;> first | exact h1 | exact h1.elim
   . rw[if_neg e]at hc';have e':¬ r'=r:=fun x=>e x.symm
     have e1:(g.at r be cv fp).cv r' j'=g.cv r' j':=by simp[Gh.at,e']
     have e2:(g.at r be cv fp).fp r' j'=g.fp r' j':=by funext b; simp[Gh.at,e']
     rw[e1,e2];exact jJ.cg k _ _ _ _ (h.cell r' j' c' hc') (fun _ h=>h) (fun _ _ _=>rfl)
end
theorem iE:∀(σ:List SE) (x:ej σ) (t:Nat) (tv:TV),(t,tv)∈mB σ x->¬ tv.gJ
 | [],_,t,tv,h=>by simp[mB]at h
 | .d t k::σ,x,t',tv,h=>by
   rcases aew.1 h with h | h
   . cases h; exact fun h=>h
   . exact iE σ x.2 t' tv h
 | .own t k::σ,x,t',tv,h=>by
   rcases aew.1 h with h | h
   . cases h; exact fun h=>h
   . exact iE σ x.2 t' tv h
 | .fn t f caps::σ,x,t',tv,h=>by
   rcases aew.1 h with h | h
   . cases h; exact fun h=>h
   . exact iE σ x.2 t' tv h
 | .ag t ks::σ,x,t',tv,h=>by
   rcases aew.1 h with h | h
   . cases h; exact fun h=>h
   . exact iE σ x.2 t' tv h
 | .box r cs::σ,x,t',tv,h=>by
   rcases aew.1 h with h | h
   . cases h; exact fun h=>h
   . exact iE σ x.2 t' tv h
 | .al t t2::σ,x,t',tv,h=>by
   rcases aew.1 h with h | h
   . cases h; exact fun h=>h
   . exact iE σ x.2 t' tv h
 | .fr t f r::σ,x,t',tv,h=>by
   rcases aew.1 h with h | h
   . cases h; exact fun h=>h
   . exact iE σ x.2 t' tv h
theorem Ak(σ:List SE)(x:ej σ):ch (enc σ x):=fun t tv h=>iE σ x t tv (gY _ _ _ h)
def wM(r:Nat):List SE->Prop
 | []=>False
 | .box r' _::σ=>r'=r∨wM r σ
 | _::σ=>wM r σ
theorem fx:∀(σ:List SE) (x:ej σ) (r:Nat) (R:Rt),(r,R)∈eP σ x->(∃ t,r=cn t/\pC t σ=true/\R.box=false)∨(wM r σ/\R.box=true)
 | [],_,r,R,h=>by simp[eP]at h
 | .d t k::σ,x,r,R,h=>fx σ x.2 r R h
 | .fn t f caps::σ,x,r,R,h=>fx σ x.2 r R h
 | .ag t ks::σ,x,r,R,h=>fx σ x.2 r R h
 | .al _ _::σ,x,r,R,h=>fx σ x.2 r R h
 | .fr _ _ _::σ,x,r,R,h=>fx σ x.2 r R h
 | .own t k::σ,x,r,R,h=>by
   rcases aew.1 h with h | h
   . cases h; exact .inl ⟨t,rfl,by simp[pC],rfl⟩
   . rcases fx σ x.2 r R h with ⟨t',h1,h2,h3⟩ | h1
     . exact .inl ⟨t',h1,by simp[pC,h2],h3⟩
     . exact .inr h1
 | .box r' cs::σ,x,r,R,h=>by
   rcases aew.1 h with h | h
   . cases h; exact .inr ⟨.inl rfl,rfl⟩
   . rcases fx σ x.2 r R h with h1 | ⟨h1,h2⟩
     . exact .inl h1
     . exact .inr ⟨.inr h1,h2⟩
theorem iA:∀ {σ:List SE} {r:Nat},wb r σ=true->¬ wM r σ/\∀ t,pC t σ=false
 | [],r,_=>⟨fun h=>h,fun _=>rfl⟩
 | .d _ _::σ,r,h=>iA (σ:=σ) h
 | .fn _ _ _::σ,r,h=>iA (σ:=σ) h
 | .ag _ _::σ,r,h=>iA (σ:=σ) h
 | .al _ _::σ,r,h=>iA (σ:=σ) h
 | .fr _ _ _::σ,r,h=>iA (σ:=σ) h
 | .own _ _::σ,r,h=>by simp[wb]at h
 | .box r' cs::σ,r,h=>by simp only[wb,aeo,ae8]at h;obtain⟨h1,h2⟩:=iA h.2;exact⟨fun hh=>hh.elim (fun e=>by subst e; have:=h.1; simp at this) h1,h2⟩
theorem lA{st:St}:∀(cs:List (Bool×K)) (l:List RC) (bx:BT cs),ea st cs l=some bx->l.length=(bK cs bx).length/\∀(j:Nat) (c:RC),(bK cs bx)[j]? = some c ->
 (∃(k:K) (x:T k) (c0:RC),cs[j]? = some (true,k)/\c=⟨0,0,.own k x⟩/\l[j]? = some c0/\c0.v= .own k x)∨(∃(k:K) (x:T k) (c0:RC) (av:AV),c=⟨0,0,.av (.d k x)⟩/\l[j]? = some c0/\c0.v= .av av/\av.bE=true/\st.bo k av=some x)
 | [],[],bx,h=>⟨rfl,fun j c h=>by simp[bK]at h⟩
 | (true,k)::cs,⟨s,m,.own k' x⟩::r,bx,h=>by
   simp only[ea]at h;split at h
   . rename_i y z hy hz;cases h;obtain⟨e,hy⟩:=cq hy;subst e;subst hy;obtain⟨h1,h2⟩:=lA cs r z hz;refine⟨aeU (· + 1) h1,fun j c hj => ?_⟩;cases j with
     | zero => simp only[bK,aeu,aen]at hj;exact .inl ⟨k',x,_,rfl,hj.symm,rfl,rfl⟩
     | succ j => simp only[bK,afi]at hj ⊢;exact h2 j c hj
   . simp at h
 | (false,k)::cs,⟨s,m,.av av⟩::r,bx,h=>by
   simp only[ea]at h;cases hf:av.bE with
   | false=>rw[hf]at h; simp at h
   | true =>
     rw[hf]at h;simp only[oT]at h;split at h
     . rename_i y z hy hz;cases h;obtain⟨h1,h2⟩:=lA cs r z hz;refine⟨aeU (· + 1) h1,fun j c hj => ?_⟩;cases j with
       | zero => simp only[bK,aeu,aen]at hj;exact .inr ⟨k,y,_,av,hj.symm,rfl,rfl,hf,hy⟩
       | succ j => simp only[bK,afi]at hj ⊢;exact h2 j c hj
     . simp at h
 | [],_::_,bx,h=>by simp[ea]at h
 | (true,_)::_,⟨_,_,.av _⟩::_,bx,h=>by simp[ea]at h
 | (false,_)::_,⟨_,_,.own _ _⟩::_,bx,h=>by simp[ea]at h
 | (true,_)::_,[],bx,h=>by simp[ea]at h
 | (false,_)::_,[],bx,h=>by simp[ea]at h
theorem gh{Z:Nat->Prop}{g:Gh}{st:St}{w:World}{d:Nat}:∀(ks:List K) (x:Tl ks) (cs:List Value) (j:Nat),qc Z w ks x cs->aU Z g st w (e8 d false ks x j) cs
 | [],_,[],_,_=>trivial
 | .sl e ks'::ks,x,v::vs,j,h=>⟨h.1,gh ks x.2 vs j h.2⟩
 | .int _::ks,x,v::vs,j,h=>⟨h.1,gh ks x.2 vs j h.2⟩
 | .bool::ks,x,v::vs,j,h=>⟨h.1,gh ks x.2 vs j h.2⟩
 | .str::ks,x,v::vs,j,h=>⟨h.1,gh ks x.2 vs j h.2⟩
 | [],_,_::_,_,h=>h.elim
 | .sl _ _::_,_,[],_,h=>h.elim
 | .int _::_,_,[],_,h=>h.elim
 | .bool::_,_,[],_,h=>h.elim
 | .str::_,_,[],_,h=>h.elim
theorem Sm{Z:Nat->Prop}{g:Gh}{st:St}{w:World}{ks:List K}{x:Tl ks}{v:Value}(h:ROp Z w ks x v):bj Z g st w (.rp none 0 ks [x] 0 0) v:=by
 obtain⟨b,o,h1,h2,h3,h4⟩:=h;refine⟨by simp,b,o,h2,h3,by rw[h1]; simp,fun i y hy => ?_⟩;cases i with
 | zero=>simp only[aeu,aen]at hy; subst hy; simpa using h4
 | succ i=>simp at hy
theorem mJ{Z:Nat->Prop}{g:Gh}{st:St}{w:World}:∀(cs:List Qy) (x:OH cs) (vs:List Value),LV Z w cs x vs->gH Z g st w (rT cs x) vs
 | [],_,[],_=>trivial
 | .c gg ks::cs,x,v::vs,⟨⟨us,e,h⟩,h'⟩=>⟨vN e (gh ks x.1 us 0 h),mJ cs x.2 vs h'⟩
 | .p ks::cs,x,v::vs,h=>⟨Sm (g:=g) (st:=st) h.1,mJ cs x.2 vs h.2⟩
 | [],_,_::_,h=>h.elim
 | .c _ _::_,_,[],h=>h.elim
 | .p _::_,_,[],h=>h.elim
section
variable{P:Program}{cx:Cx P}{Z:Nat->Prop}{a:Act}{w:World}
theorem wS{g:Gh}{st:St}(h:Rel cx Z g st a w)(hn:ch st){t:Nat}{tv:TV}(ht:st.tv t=some tv):t<a.tmps.size:=by obtain⟨tq,h1,_⟩:=Ao hn.cons ht;exact(h.tm t tq h1).1
theorem Rel.tell{g:Gh}{tm:List (Nat×TV)}{rt:List (Nat×Rt)}(h:Rel cx Z g ⟨tm,rt⟩ a w){t:Nat}{tv:TV}(ht:t<a.tmps.size)(hr:bF Z g ⟨tm,rt⟩ w tv (a.tmps.getD t undef)):Rel cx Z g ⟨(t,tv)::tm,rt⟩ a w:=by
 refine h.swap (fun _=>rfl) fun t' tv' hh => ?_
 have hh:look ((t,tv)::tm) t'=some tv':=hh;rw[aK]at hh;split at hh
 . rename_i e;cases hh;rw[<- e];exact⟨ht,hr⟩
 . exact h.tm t' tv' hh
theorem lv:∀(σ:List SE) (st:St) (g:Gh) (x:ej σ),Rel cx Z g st a w->ch st->dec σ st=some x->∃ gE,Rel cx Z gE (enc σ x) a w/\(∀ r j b,gE.fp r j b->∃ r0 j0,g.fp r0 j0 b)/\((∀ t,pC t σ=false)->∀ r j b,gE.fp r j b->g.fp r j b) /\
 (∀ r R',look (enc σ x).rt r=some R'->R'.box=true->gE.be r=g.be r/\∃ R,look st.rt r=some R/\R.box=true)/\(∀ r,wM r σ->r<100000)
 | [],st,g,x,h,hn,hd=>by
   refine⟨⟨g.be,g.cv,fun _ _ _=>False⟩,?_,fun _ _ _ h=>h.elim,fun _ _ _ _ h=>h.elim,fun r R' hR=>by simp[enc,eP,look]at hR,fun _ h=>h.elim⟩
   exact { os:=h.os,tape:=h.tape,output:=h.output,size:=h.size,block:=h.block,bL:=h.bL,z0:=h.z0,fp:=fun _ _ _ h=>h.elim,disj:=fun _ _ _ _ _ h=>h.elim
           box:=fun r R hR=>by simp[enc,eP,look]at hR
           cell:=fun r j c hc=>by simp[enc,eP,St.cell,look]at hc
           tm:=fun t tv ht=>by simp[enc,mB,look]at ht
           defers:=h.defers,pin:=h.pin }
 | .d t k::σ,st,g,x,h,hn,hd=>by
   simp only[dec]at hd;split at hd
   . rename_i av htv;cases hf:av.bE with
     | false=>rw[hf]at hd; simp at hd
     | true =>
       rw[hf]at hd;simp only[oT]at hd;split at hd
       . rename_i y z hy hz;cases hd;obtain⟨gE,h1,h2,h3,h4,h5⟩:=lv σ st g z h hn hz;refine⟨gE,h1.tell (wS h hn htv) ?_,h2,h3,h4,h5⟩;exact bV h (ir h hn.cons.cons htv) hf hy
       . simp at hd
   . simp at hd
 | .fn t f caps::σ,st,g,x,h,hn,hd=>by
   simp only[dec]at hd;split at hd
   . rename_i f' l htv;cases hf:Nat.beq f f' with
     | false=>rw[hf]at hd; simp at hd
     | true =>
       rw[hf]at hd;simp only[oT]at hd;split at hd
       . rename_i y z hy hz;cases hd;obtain⟨gE,h1,h2,h3,h4,h5⟩:=lv σ st g z h hn hz;refine⟨gE,h1.tell (wS h hn htv) ?_,h2,h3,h4,h5⟩;obtain⟨vs,e1,e2⟩:=ir h hn.cons.cons htv;have:=beq_eq hf;subst this;exact⟨vs,e1,mJ _ _ _ (lM h (fun _ h _=>h) (fun hh=>by simp at hh) caps l vs.toList y e2 hy)⟩
       . simp at hd
   . simp at hd
 | .ag t ks::σ,st,g,x,h,hn,hd=>by
   simp only[dec]at hd;split at hd
   . rename_i l htv;cases hf:l.all AV.bE with
     | false=>rw[hf]at hd; simp at hd
     | true =>
       rw[hf]at hd;simp only[oT]at hd;split at hd
       . rename_i y z hy hz;cases hd;obtain⟨gE,h1,h2,h3,h4,h5⟩:=lv σ st g z h hn hz;refine⟨gE,h1.tell (wS h hn htv) ?_,h2,h3,h4,h5⟩;obtain⟨vs,e1,e2⟩:=ir h hn.cons.cons htv;exact⟨vs,e1,gh ks y vs.toList 0 (cT h ks l vs.toList y e2 hf hy)⟩
       . simp at hd
   . simp at hd
 | .al t t2::σ,st,g,x,h,hn,hd=>by
   simp only[dec]at hd;split at hd
   . rename_i r j s r2 j2 s2 ht1 ht2;cases hb:Nat.beq r r2&&(Nat.beq j j2&&(Nat.beq s s2&&KE st r j s))with
     | false=>rw[hb]at hd; simp at hd
     | true =>
       rw[hb]at hd;simp only[oT]at hd;simp only[aeo]at hb;obtain⟨e1,e2,e3,hv⟩:=hb;have e1:=beq_eq e1;have e2:=beq_eq e2;have e3:=beq_eq e3;subst e1 e2 e3;split at hd
       . rename_i z hz;cases hl:E6 (mB σ z) t2 with
         | false=>rw[hl]at hd; simp at hd
         | true =>
           rw[hl]at hd;simp only[oT]at hd;cases hd;obtain⟨gE,h1,h2,h3,h4,h5⟩:=lv σ st g z h hn hz;refine⟨gE,h1.tell (wS h hn ht1) ?_,h2,h3,h4,h5⟩;have hq:(enc σ z).tv t2=some (.v (.ref (cn t2) 0 0)):=by
            unfold E6 at hl;split at hl
            . rename_i q hq;have:=beq_eq hl;subst this;have hq:look (enc σ z).tm t2=some (.v (.ref (cn t2) 0 0)):=hq;simp only[St.tv,hq]
            . simp at hl
           obtain⟨c1,k1,k2,k3⟩:=(ir h hn.cons.cons ht1:bj Z g st w (.ref r j s) _);obtain⟨c2,k4,k5,k6⟩:=(ir h hn.cons.cons ht2:bj Z g st w (.ref r j s) _);have hs:c1.s=s:=by unfold KE at hv;rw[k1]at hv;exact beq_eq hv
           have:c2=c1:=ae9 (k4.symm.trans k1);subst this;have e:a.tmps.getD t undef=a.tmps.getD t2 undef:=(k3 hs).trans (k6 hs).symm;rw[e];exact(ir h1 (Ak σ z).cons.cons hq:bj Z gE (enc σ z) w (.ref (cn t2) 0 0) _)
       . simp at hd
   . simp at hd
 | .fr t f r::σ,st,g,x,h,hn,hd=>by
   simp only[dec]at hd;split at hd
   . rename_i f' r' htv;cases hf:Nat.beq f f'&&Nat.beq r r' with
     | false=>rw[hf]at hd; simp at hd
     | true =>
       rw[hf]at hd;simp only[oT]at hd;simp only[aeo]at hf;have e1:=beq_eq hf.1;have e2:=beq_eq hf.2;subst e1 e2;split at hd
       . rename_i z hz;cases hl:AP (eP σ z) r with
         | false=>rw[hl]at hd; simp at hd
         | true =>
           rw[hl]at hd;simp only[oT]at hd;cases hd;obtain⟨gE,h1,h2,h3,h4,h5⟩:=lv σ st g z h hn hz;refine⟨gE,h1.tell (wS h hn htv) ?_,h2,h3,h4,h5⟩;obtain⟨vs,e1,e2⟩:=ir h hn.cons.cons htv;refine⟨vs,e1,?_⟩;unfold AP at hl;split at hl
           . rename_i R' hR';obtain⟨hbe,_⟩:=h4 r R' hR' hl
             match hvs:vs.toList,e2 with
             | [u],e2 => obtain⟨⟨R,r1,r2,r3⟩,_⟩:=e2;exact⟨⟨R',hR',hl,by rw[r3,hbe]⟩,trivial⟩
             | [],e2=>exact e2.elim
             | _::_::_,e2=>exact e2.2.elim
           . simp at hl
       . simp at hd
   . simp at hd
 | .own t k::σ,st,g,x,h,hn,hd=>by
   simp only[dec]at hd;split at hd
   . rename_i av htv;cases ho:pC t σ with
     | true=>rw[ho]at hd; simp at hd
     | false =>
       rw[ho]at hd;simp only[oF]at hd;split at hd
       . rename_i st' y ht;split at hd
         . rename_i z hz;cases hd;obtain⟨g1,F,k1,k2,k3,k4,k5,k6,k7⟩:=gr h (ir h hn.cons.cons htv) ht;have hn':ch st':=fun t tv ht=>hn t tv (by rw[<- k2.tm]; exact ht)
           obtain⟨gE,h1,h2,h3,h4,h5⟩:=lv σ st' g1 z k1 hn' hz;have hnone:look (eP σ z) (cn t)=none:=by
            cases hl:look (eP σ z) (cn t)with
            | none=>rfl
            | some R =>
              rcases fx σ z _ R (gY _ _ _ hl)with ⟨t',e1,e2,_⟩ | ⟨e1,_⟩
              . have:t=t':=by unfold cn at e1; omega
                subst this;rw[ho]at e2; simp at e2
              . have:=h5 _ e1;unfold cn at this;omega
           have h6:=Rel.lG h1 (r:=cn t) (be:=0) (R:=⟨false,[⟨0,0,.own k y⟩]⟩) (cv:=fun _=>a.tmps.getD t undef) (fp:=fun j b=>j=0/\F b) hnone
            (fun j b hb=>⟨k4.lt b hb.2,k4.own b hb.2,k4.z b hb.2,fun r j hh=>by
              obtain⟨r0,j0,hh⟩:=h2 r j b hh;exact k4.fp b hb.2 r0 j0 hh,fun r' R' hR' hb'=>by
              obtain⟨e1,R,e2,e3⟩:=h4 r' R' hR' hb';rw[e1];exact k4.box b hb.2 r' R e2 e3,⟨0,0,.own k y⟩,k,y,by rw[hb.1]; rfl,rfl⟩)
            (fun j j' b h1 h2=>h1.1.trans h2.1.symm) (fun hb=>by simp at hb)
            (fun j c hj=>by
              cases j with
              | zero => simp only[aeu,aen]at hj;subst hj;exact cO.frame _ _ _ _ _ (fun b hb=>⟨rfl,hb⟩) (fun _ _ _=>rfl) k3
              | succ j=>simp at hj)
           have hlk:∀ r',look ((cn t,(⟨false,[⟨0,0,.own k y⟩]⟩:Rt))::eP σ z) r'=if cn t=r' then some ⟨false,[⟨0,0,.own k y⟩]⟩else look (eP σ z) r':=fun r'=>aK _ _ _ _
           refine⟨_,h6.tell (wS h hn htv) (tv:= .v (.ref (cn t) 0 0)) ?_,fun r j b hb => ?_,fun hno => ?_,fun r R' hR hbx => ?_,h5⟩
           . refine⟨⟨0,0,.own k y⟩,?_,oR _,fun _=>by simp[Gh.at]⟩;simp only[St.cell];have:=hlk (cn t);rw[if_pos rfl]at this;show(match look ((cn t,(⟨false,[⟨0,0,.own k y⟩]⟩:Rt))::eP σ z) (cn t)with | some R=>R.cells[0]? | none=>none)=_;rw[this];rfl
           . simp only[Gh.at]at hb;split at hb
             . exact k6 b hb.2
             . obtain⟨r0,j0,hh⟩:=h2 r j b hb;exact⟨r0,j0,k5 _ _ _ hh⟩
           . have:=hno t;simp[pC]at this
           . have hR:look ((cn t,(⟨false,[⟨0,0,.own k y⟩]⟩:Rt))::eP σ z) r=some R':=hR;rw[hlk]at hR;split at hR
             . cases hR; simp at hbx
             . rename_i hne;obtain⟨e1,R,e2,e3⟩:=h4 r R' hR hbx;refine⟨?_,?_⟩
               . simp only[Gh.at];rw[if_neg (fun e=>hne e.symm),e1,k2.be]
               . obtain⟨R0,e4,e5⟩:=k2.box r R e2;exact⟨R0,e4,e5 ▸ e3⟩
         . simp at hd
       . simp at hd
   . simp at hd
 | .box r cs::σ,st,g,x,h,hn,hd=>by
   simp only[dec]at hd;split at hd
   . rename_i r' l htv hlk0;cases hb:Nat.beq r r'&&Nat.blt r 100000&&wb r σ with
     | false=>rw[hb]at hd; simp at hd
     | true =>
       rw[hb]at hd;simp only[oT]at hd;simp only[aeo]at hb;obtain⟨⟨hb1,hb2⟩,hb3⟩:=hb;have e:=beq_eq hb1;subst e;have hlt:r<100000:=afr (aeJ hb2);obtain⟨hnb,hno⟩:=iA hb3;split at hd
       . rename_i y z hy hz;cases hd;obtain⟨gE,h1,h2,h3,h4,h5⟩:=lv σ st g z h hn hz;obtain⟨d1,d2⟩:=lA cs l y hy;have hnone:look (eP σ z) r=none:=by
          cases hl:look (eP σ z) r with
          | none=>rfl
          | some R =>
            rcases fx σ z _ R (gY _ _ _ hl)with ⟨t',e1,e2,_⟩ | ⟨e1,_⟩
            . rw[hno t']at e2; simp at e2
            . exact absurd e1 hnb
         obtain⟨b1,b2,b3,b4,bcs,el,fr,b5,b6,b7,b8⟩:=h.box r _ hlk0 rfl;have hcellst:∀ j c,l[j]? = some c->st.cell r j=some c:=fun j c hj=>by simp only[St.cell,hlk0]; exact hj
         have h6:=Rel.lG h1 (r:=r) (be:=g.be r) (R:=⟨true,bK cs y⟩) (cv:=g.cv r) (fp:=fun j b=>g.fp r j b/\∃(c:RC) (k:K) (x:T k),(bK cs y)[j]? = some c/\c.v= .own k x) hnone
          (fun j b hb=>⟨(h.fp r j b hb.1).1,(h.fp r j b hb.1).2.1,(h.fp r j b hb.1).2.2.1,fun r0 j0 hh=>by
            have hg:=h3 hno r0 j0 b hh;obtain⟨e1,e2⟩:=h.disj _ _ _ _ _ hg hb.1;subst e1;obtain⟨_,_,_,c,k,x,e3,_⟩:=h1.fp r0 j0 b hh;simp only[St.cell]at e3;have:look (enc σ z).rt r0=none:=hnone;rw[this]at e3;simp at e3,fun r' R' hR' hb'=>by
            obtain⟨e1,R,e2,e3⟩:=h4 r' R' hR' hb';rw[e1];intro he;obtain⟨_,_,c3,_⟩:=h.box r' R e2 e3;exact c3 r j (by rw[he]; exact hb.1),hb.2⟩)
          (fun j j' b hj hj'=>(h.disj _ _ _ _ _ hj.1 hj'.1).2)
          (fun _=>⟨b1,b2,fun r0 j0 hh=>b3 r0 j0 (h3 hno r0 j0 _ hh),fun j hh=>b3 r j hh.1,fun r' R' hR' hb' he=>by obtain⟨e1,R,e2,e3⟩:=h4 r' R' hR' hb';rw[e1]at he;have:=b4 r' R e2 e3 he;subst this;have hh:look (eP σ z) r'=some R':=hR';rw[hnone]at hh;simp at hh,bcs,el,fr,b5,b6,by rw[b7]; exact d1,b8⟩)
          (fun j c hj=>by
            rcases d2 j c hj with ⟨k,x,c0,e1,e2,e3,e4⟩ | ⟨k,x,c0,av,e2,e3,e4,e5,e6⟩
            . subst e2;exact cO.frame _ _ _ _ _ (fun b hb=>⟨hb,_,k,x,hj,rfl⟩) (fun _ _ _=>rfl) (et h (hcellst j c0 e3) e4)
            . subst e2;exact bV h (vp h (hcellst j c0 e3) e4) e5 e6)
         have hlk:∀ r',look ((r,(⟨true,bK cs y⟩:Rt))::eP σ z) r'=if r=r' then some ⟨true,bK cs y⟩else look (eP σ z) r':=fun r'=>aK _ _ _ _
         refine⟨_,h6.tell (wS h hn htv) (tv:= .v (.ptr r 0)) ?_,fun r0 j0 b hb => ?_,fun _ r0 j0 b hb => ?_,fun r0 R' hR hbx => ?_,fun r0 hr0 => ?_⟩
         . obtain⟨R,e1,e2,e3⟩:=(ir h hn.cons.cons htv:bj Z g st w (.ptr r 0) _);refine⟨⟨true,bK cs y⟩,?_,rfl,?_⟩
           . show look ((r,(⟨true,bK cs y⟩:Rt))::eP σ z) r=_;rw[hlk,if_pos rfl]
           . simp only[Gh.at,if_true];exact e3
         . simp only[Gh.at]at hb;split at hb
           . exact⟨r,j0,hb.1⟩
           . exact h2 r0 j0 b hb
         . simp only[Gh.at]at hb;split at hb
           . rename_i e; rw[e]; exact hb.1
           . exact h3 hno r0 j0 b hb
         . have hR:look ((r,(⟨true,bK cs y⟩:Rt))::eP σ z) r0=some R':=hR;rw[hlk]at hR;split at hR
           . rename_i e;refine⟨by simp[Gh.at,e.symm],_,e ▸ hlk0,rfl⟩
           . rename_i hne;obtain⟨e1,R,e2,e3⟩:=h4 r0 R' hR hbx;refine⟨?_,R,e2,e3⟩;simp only[Gh.at];rw[if_neg (fun e=>hne e.symm),e1]
         . rcases hr0 with hr0 | hr0
           . rw[<- hr0]; exact hlt
           . exact h5 r0 hr0
       . simp at hd
   . simp at hd
end
theorem uN{P:Program}(E:En):Kv P E:=fun cx σ st a w x ⟨h1,h2,Z,g,h3⟩ hd=>by obtain⟨gE,h4,_⟩:=lv σ st g x h3 h1 hd;exact⟨Ak σ x,h2,Z,gE,h4⟩
section
variable{P:Program}{cx:Cx P}{Z:Nat->Prop}{g:Gh}{st:St}{a:Act}{w:World}{E:En}
theorem yc{gg:Bool}{l:List AV}{cs:List Value}{v:Value}(e:It gg v cs)(h1:aU Z g st w l cs):bF Z g st w (eN gg l) v:=by
 have h2:=vN e h1;cases gg with
 | true=>unfold eN; cases hl:l <;> (rw[hl]at h2; exact h2)
 | false =>
   have e:cs=[v]:=e;subst e
   match hl:l,h1 with
   | [b],h1=>exact h1.1
   | [],h1=>exact h1.elim
   | _::_::_,h1=>exact h1.2.elim
theorem Ik{gg:Bool}{ks:List K}{x:Tl ks}{v:Value}(h:U3 Z w gg ks x v):bF Z g st w (eN gg (e8 0 false ks x 0)) v:=by obtain⟨cs,e,h⟩:=h;exact yc e (gh (g:=g) (st:=st) (d:=0) ks x cs 0 h)
theorem eI:∀(ps:List PK) (x:PT ps) (i r:Nat) (R:Rt),(r,R)∈e9 ps x i->∃ i',i<=i'/\((r=cn i'/\R.box=false)∨(r=i'/\i'<100000/\R.box=true))
 | [],_,_,_,_,h=>by simp[e9]at h
 | .c _ _::ps,x,i,r,R,h=>by obtain⟨i',h1,h2⟩:=eI ps x.2 (i+1) r R h; exact⟨i',by omega,h2⟩
 | .fn _ _::ps,x,i,r,R,h=>by obtain⟨i',h1,h2⟩:=eI ps x.2 (i+1) r R h; exact⟨i',by omega,h2⟩
 | .pt _::ps,x,i,r,R,h=>by obtain⟨i',h1,h2⟩:=eI ps x.2 (i+1) r R h; exact⟨i',by omega,h2⟩
 | .nil::ps,x,i,r,R,h=>by obtain⟨i',h1,h2⟩:=eI ps x (i+1) r R h; exact⟨i',by omega,h2⟩
 | .io _ ks::ps,x,i,r,R,h=>by
   rcases aew.1 h with h | h
   . cases h; exact⟨i,oR _,.inl ⟨rfl,rfl⟩⟩
   . obtain⟨i',h1,h2⟩:=eI ps x.2 (i+1) r R h; exact⟨i',by omega,h2⟩
 | .mv k::ps,x,i,r,R,h=>by
   rcases aew.1 h with h | h
   . cases h; exact⟨i,oR _,.inl ⟨rfl,rfl⟩⟩
   . obtain⟨i',h1,h2⟩:=eI ps x.2 (i+1) r R h; exact⟨i',by omega,h2⟩
 | .pw cs::ps,x,i,r,R,h=>by
   have h:(r,R)∈bif Nat.blt i 100000 then (i,(⟨true,bK cs x.1⟩:Rt))::e9 ps x.2 (i+1)else e9 ps x.2 (i+1):=h;cases hb:Nat.blt i 100000 with
   | false => rw[hb]at h;obtain⟨i',h1,h2⟩:=eI ps x.2 (i+1) r R h; exact⟨i',by omega,h2⟩
   | true =>
     rw[hb]at h;rcases aew.1 h with h | h
     . cases h; exact⟨i,oR _,.inr ⟨rfl,Nat.blt_eq.mp hb,rfl⟩⟩
     . obtain⟨i',h1,h2⟩:=eI ps x.2 (i+1) r R h; exact⟨i',by omega,h2⟩
theorem ew:∀(ps:List PK) (x:PT ps) (i t:Nat) (tv:TV),(t,tv)∈nb ps x i->¬ tv.gJ
 | [],_,_,_,_,h=>by simp[nb]at h
 | .c gg ks::ps,x,i,t,tv,h=>by
   rcases aew.1 h with h | h
   . cases h;intro hm;cases ho:eN gg (e8 0 false ks x.1 0)with
     | may q w y g' l=>exact kq ho
     | _=>rw[ho]at hm; exact hm
   . exact ew ps x.2 (i+1) t tv h
 | .pt _::ps,x,i,t,tv,h=>by
   rcases aew.1 h with h | h
   . cases h; exact fun h=>h
   . exact ew ps x.2 (i+1) t tv h
 | .nil::ps,x,i,t,tv,h=>by
   rcases aew.1 h with h | h
   . cases h; exact fun h=>h
   . exact ew ps x (i+1) t tv h
 | .fn _ _::ps,x,i,t,tv,h=>by
   rcases aew.1 h with h | h
   . cases h; exact fun h=>h
   . exact ew ps x.2 (i+1) t tv h
 | .io gg ks::ps,x,i,t,tv,h=>by
   rcases aew.1 h with h | h
   . cases h;intro hm;cases ho:eN gg (e8 (cn i) true ks x.1 0)with
     | may q w y g' l=>exact kq ho
     | _=>rw[ho]at hm; exact hm
   . exact ew ps x.2 (i+1) t tv h
 | .mv _::ps,x,i,t,tv,h=>by
   rcases aew.1 h with h | h
   . cases h; exact fun h=>h
   . exact ew ps x.2 (i+1) t tv h
 | .pw _::ps,x,i,t,tv,h=>by
   rcases aew.1 h with h | h
   . cases h; exact fun h=>h
   . exact ew ps x.2 (i+1) t tv h
theorem aV.ix{F:Nat->Nat->Prop}(n j0:Nat):∀(ks:List K) (x:Tl ks) (cs:List Value),aV true Z w F ks x cs n->aV true Z w (fun m=>F (n+(m-j0))) ks x cs j0:=by
 suffices h:∀(ks:List K) (x:Tl ks) (cs:List Value) (d:Nat),aV true Z w F ks x cs (n+d)->aV true Z w (fun m=>F (n+(m-j0))) ks x cs (j0+d)by intro ks x cs h0;exact h ks x cs 0 h0
 intro ks;induction ks with
 | nil=>intro x cs d h; cases cs with | nil=>trivial | cons _ _=>exact h.elim
 | cons k ks ih =>
   intro x cs d h;cases cs with
   | nil=>cases k <;> exact h.elim
   | cons v vs =>
     cases k with
     | sl e ks'=>exact⟨by show cO w _ x.1 v (F (n+(j0+d-j0))); rw[show j0+d-j0=d by omega]; exact h.1,ih x.2 vs (d+1) h.2⟩
     | int _=>exact⟨h.1,ih x.2 vs d h.2⟩
     | bool=>exact⟨h.1,ih x.2 vs d h.2⟩
     | str=>exact⟨h.1,ih x.2 vs d h.2⟩
theorem zu{Z0:Nat->Prop}{F:Nat->Nat->Prop}{pin:Nat->Option Value}{hgl:Gl P w Z0}{hzF:∀ b,Z0 b->b<w.heap.size->¬ ∃ i,F i b}(hcx:cx=⟨w,fun b=>∃ i,F i b,Z0,pin,hgl,hzF⟩)(hF:∀ i b,F i b->b<w.heap.size/\¬ Z0 b)(hd:∀ i j b,F i b->F j b->i=j){ps:List PK}{x:PT ps}{i n m:Nat}{g:Gh}{cells:List RC}{vals:List Value}{v:Value}{tv:TV}
 (h1:Rel cx Z0 g ⟨nb ps x (i+1),e9 ps x (i+1)⟩ a w)(h2:∀ r j b,g.fp r j b->∃ n',n+m<=n'/\F n' b)(h3:∀ r R,look (e9 ps x (i+1)) r=some R->R.box=true->∃ n',n+m<=n'/\F n' (g.be r))(hi:i<a.tmps.size)(hv:a.tmps.getD i undef=v)
 (hm:cells.length<=m)
 (hc:∀ j c,cells[j]? = some c->∃ k y u,c=⟨0,0,.own k y⟩/\vals[j]? = some u/\cO w k y u (F (n+j)))
 (ht:∀(g':Gh) (st':St),(∀ j c,cells[j]? = some c->st'.cell (cn i) (0+j)=some c)->(∀ j u,vals[j]? = some u->g'.cv (cn i) (0+j)=u)->bF Z0 g' st' w tv v) :
 ∃ g,Rel cx Z0 g ⟨(i,tv)::nb ps x (i+1),(cn i,⟨false,cells⟩)::e9 ps x (i+1)⟩ a w/\(∀ r j b,g.fp r j b->∃ n',n<=n'/\F n' b)/\∀ r R,look ((cn i,(⟨false,cells⟩:Rt))::e9 ps x (i+1)) r=some R->R.box=true->∃ n',n<=n'/\F n' (g.be r):=by
 have hnone:look (e9 ps x (i+1)) (cn i)=none:=by
  cases hl:look (e9 ps x (i+1)) (cn i)with
  | none=>rfl
  | some R => obtain⟨i',e2,e1⟩:=eI _ _ _ _ _ (gY _ _ _ hl);unfold cn at e1;omega
 have h6:=Rel.lG h1 (r:=cn i) (be:=0) (R:=⟨false,cells⟩) (cv:=fun j=>vals.getD j undef) (fp:=fun j b=>j<cells.length/\F (n+j) b) hnone
  (fun j b hb=>⟨(hF _ b hb.2).1,.inl (by rw[hcx]; exact⟨_,hb.2⟩),(hF _ b hb.2).2,fun r0 j0 hh=>by
    obtain⟨n',k4,k3⟩:=h2 r0 j0 b hh;have:=hd _ n' b hb.2 k3;have:=hb.1;omega,fun r' R' hR' hb' e=>by
    obtain⟨n',k4,k3⟩:=h3 r' R' hR' hb';have:=hd _ n' b hb.2 (e ▸ k3);have:=hb.1;omega,by
    obtain⟨k,y,u,e1,e2,e3⟩:=hc j _ (aeq hb.1);exact⟨_,k,y,aeq hb.1,by rw[e1]⟩⟩)
  (fun j j' b h1 h2=>by have:=hd _ _ b h1.2 h2.2; omega) (fun hb=>by simp at hb)
  (fun j c hj=>by
    obtain⟨k,y,u,e1,e2,e3⟩:=hc j c hj;subst e1;have hjl:j<cells.length:=by
     rcases aeD j cells.length with hh | hh
     . exact hh
     . simp[aeE hh]at hj
    show cO w k y _ _;simp only[List.getD,e2,afY];exact cO.frame _ _ _ _ _ (fun b hb=>⟨hjl,hb⟩) (fun _ _ _=>rfl) e3)
 refine⟨_,h6.tell hi (tv:=tv) ?_,fun r j b hb => ?_,fun r R hR hb => ?_⟩
 . rw[hv];refine ht _ _ (fun j c hj => ?_) fun j u hj => ?_
   . show(match look ((cn i,(⟨false,cells⟩:Rt))::e9 ps x (i+1)) (cn i)with | some R=>R.cells[0+j]? | none=>none)=_;rw[aK,if_pos rfl,aex];exact hj
   . simp[Gh.at,List.getD,hj]
 . simp only[Gh.at]at hb;split at hb
   . exact⟨n+j,by omega,hb.2⟩
   . obtain⟨n',k4,k3⟩:=h2 r j b hb;exact⟨n',by omega,k3⟩
 . rw[aK]at hR;split at hR
   . cases hR; simp at hb
   . rename_i hne;obtain⟨n',k4,k3⟩:=h3 r R hR hb;refine⟨n',by omega,?_⟩;simp only[Gh.at];rw[if_neg (fun e=>hne e.symm)];exact k3
theorem np{F:Nat->Nat->Prop}:∀(cs:List (Bool×K)) (x:BT cs) (vs:List Value) (n j:Nat) (c:RC),vj Z w F cs x vs n->(bK cs x)[j]? = some c ->
 ∃ u,vs[j]? = some u/\((∃ k y,c=⟨0,0,.own k y⟩/\cO w k y u (F (n+j)))∨∃ k y,c=⟨0,0,.av (.d k y)⟩/\RO Z w k y u)
 | [],_,_,_,_,_,_,h=>by simp[bK]at h
 | (true,k)::cs,x,[],_,_,_,h,_=>h.elim
 | (false,k)::cs,x,[],_,_,_,h,_=>h.elim
 | (true,k)::cs,x,v::vs,n,0,c,h,hc=>by simp only[bK,aeu,aen]at hc;subst hc;exact⟨v,rfl,.inl ⟨k,x.1,rfl,h.1⟩⟩
 | (false,k)::cs,x,v::vs,n,0,c,h,hc=>by simp only[bK,aeu,aen]at hc;subst hc;exact⟨v,rfl,.inr ⟨k,x.1,rfl,h.1⟩⟩
 | (true,k)::cs,x,v::vs,n,j+1,c,h,hc=>by obtain⟨u,h1,h2⟩:=np cs x.2 vs (n+1) j c h.2 (by simpa[bK]using hc);rw[show n+1+j=n+(j+1)by omega]at h2;exact⟨u,by simpa using h1,h2⟩
 | (false,k)::cs,x,v::vs,n,j+1,c,h,hc=>by obtain⟨u,h1,h2⟩:=np cs x.2 vs (n+1) j c h.2 (by simpa[bK]using hc);rw[show n+1+j=n+(j+1)by omega]at h2;exact⟨u,by simpa using h1,h2⟩
theorem rH{F:Nat->Nat->Prop}:∀(cs:List (Bool×K)) (x:BT cs) (vs:List Value) (n:Nat),vj Z w F cs x vs n->vs.length=cs.length
 | [],_,[],_,_=>rfl
 | [],_,_::_,_,h=>h.elim
 | (true,_)::_,_,[],_,h=>h.elim
 | (false,_)::_,_,[],_,h=>h.elim
 | (true,k)::cs,x,v::vs,n,h=>aeU (· + 1) (rH cs x.2 vs _ h.2)
 | (false,k)::cs,x,v::vs,n,h=>aeU (· + 1) (rH cs x.2 vs _ h.2)
theorem kx:∀(cs:List (Bool×K)) (x:BT cs),(bK cs x).length=cs.length
 | [],_=>rfl
 | (true,k)::cs,x=>aeU (· + 1) (kx cs x.2)
 | (false,k)::cs,x=>aeU (· + 1) (kx cs x.2)
theorem Jx{Z0:Nat->Prop}{F:Nat->Nat->Prop}{pin:Nat->Option Value}{hgl:Gl P w Z0}{hzF:∀ b,Z0 b->b<w.heap.size->¬ ∃ i,F i b}(hcx:cx=⟨w,fun b=>∃ i,F i b,Z0,pin,hgl,hzF⟩)(hF:∀ i b,F i b->b<w.heap.size/\¬ Z0 b)(hd:∀ i j b,F i b->F j b->i=j)
 {ps:List PK}{x:PT ps}{cs:List (Bool×K)}{z:BT cs}{v:Value}{i n:Nat}
 (h1:Rel cx Z0 g ⟨nb ps x (i+1),e9 ps x (i+1)⟩ a w)(h2:∀ r j b,g.fp r j b->∃ n',n+(cs.length+1)<=n'/\F n' b)(h3:∀ r R,look (e9 ps x (i+1)) r=some R->R.box=true->∃ n',n+(cs.length+1)<=n'/\F n' (g.be r))(hi:i<a.tmps.size)(hv:a.tmps.getD i undef=v)
 (hp:PY Z0 w F cs z v n)(hlt:i<100000) :
 ∃ g,Rel cx Z0 g ⟨(i,.v (.ptr i 0))::nb ps x (i+1),(i,⟨true,bK cs z⟩)::e9 ps x (i+1)⟩ a w/\(∀ r j b,g.fp r j b->∃ n',n<=n'/\F n' b)/\∀ r R,look ((i,(⟨true,bK cs z⟩:Rt))::e9 ps x (i+1)) r=some R->R.box=true->∃ n',n<=n'/\F n' (g.be r):=by
 obtain⟨b0,vs,e,fr,p1,p2,p3,p4,p5⟩:=hp;have hlen:=rH cs z vs.toList (n+1) p5;have hel:=kx cs z;have hnone:look (e9 ps x (i+1)) i=none:=by
  cases hl:look (e9 ps x (i+1)) i with
  | none=>rfl
  | some R => obtain⟨i',e2,e1⟩:=eI _ _ _ _ _ (gY _ _ _ hl);unfold cn at e1;omega
 have h6:=Rel.lG h1 (r:=i) (be:=b0) (R:=⟨true,bK cs z⟩) (cv:=fun j=>vs.toList.getD j undef) (fp:=fun j b=>(∃ k y,(bK cs z)[j]? = some ⟨0,0,.own k y⟩)/\F (n+1+j) b) hnone
  (fun j b hb=>⟨(hF _ b hb.2).1,.inl (by rw[hcx]; exact⟨_,hb.2⟩),(hF _ b hb.2).2,fun r0 j0 hh=>by
    obtain⟨n',k4,k3⟩:=h2 r0 j0 b hh;have:=hd _ n' b hb.2 k3;obtain⟨⟨k,y,hc⟩,_⟩:=hb;have:=(aeW.1 hc).1;omega,fun r' R' hR' hb' e=>by
    obtain⟨n',k4,k3⟩:=h3 r' R' hR' hb';have:=hd _ n' b hb.2 (e ▸ k3);obtain⟨⟨k,y,hc⟩,_⟩:=hb;have:=(aeW.1 hc).1;omega,by
    obtain⟨⟨k,y,hc⟩,_⟩:=hb;exact⟨_,k,y,hc,rfl⟩⟩)
  (fun j j' b h1 h2=>by have:=hd _ _ b h1.2 h2.2; omega)
  (fun _=>⟨.inl (by rw[hcx]; exact⟨_,p4⟩),(hF _ _ p4).2,fun r' j' hh=>by
    obtain⟨n',k4,k3⟩:=h2 r' j' _ hh;have:=hd _ _ _ p4 k3;omega,fun j hh=>by have:=hd _ _ _ p4 hh.2; omega,fun r' R' hR' hb' e=>by
    obtain⟨n',k4,k3⟩:=h3 r' R' hR' hb';have:=hd _ _ _ p4 (e ▸ k3);omega,vs,e,fr,p2,p3,by rw[<- aeY,hlen]; exact hel.symm,fun j hj=>by
    rw[<- aer];have hj':j<vs.toList.length:=by simpa using hj
    rw[List.getD,aeq hj']; rfl⟩)
  (fun j c hj=>by
    obtain⟨u,q1,q2⟩:=np cs z vs.toList (n+1) j c p5 hj;have hu:vs.toList.getD j undef=u:=by rw[List.getD,q1]; rfl
    rcases q2 with ⟨k,y,rfl,q3⟩ | ⟨k,y,rfl,q3⟩
    . show cO w k y _ _;rw[hu];exact cO.frame _ _ _ _ _ (fun b hb=>⟨⟨k,y,hj⟩,hb⟩) (fun _ _ _=>rfl) q3
    . show RO Z0 w k y _;rw[hu];exact q3)
 refine⟨_,h6.tell hi (tv:= .v (.ptr i 0)) ?_,fun r j b hb => ?_,fun r R hR hb => ?_⟩
 . rw[hv,p1];exact⟨_,by show look ((i,(⟨true,bK cs z⟩:Rt))::e9 ps x (i+1)) i=_; rw[aK,if_pos rfl],rfl,by simp[Gh.at]⟩
 . simp only[Gh.at]at hb;split at hb
   . exact⟨n+1+j,by omega,hb.2⟩
   . obtain⟨n',k4,k3⟩:=h2 r j b hb;exact⟨n',by omega,k3⟩
 . rw[aK]at hR;split at hR
   . rename_i e;refine⟨n,oR _,?_⟩;simp only[Gh.at];rw[if_pos e.symm];exact p4
   . rename_i hne;obtain⟨n',k4,k3⟩:=h3 r R hR hb;refine⟨n',by omega,?_⟩;simp only[Gh.at];rw[if_neg (fun e=>hne e.symm)];exact k3
theorem gx{Z0:Nat->Prop}{F:Nat->Nat->Prop}{pin:Nat->Option Value}{hgl:Gl P w Z0}{hzF:∀ b,Z0 b->b<w.heap.size->¬ ∃ i,F i b}(hcx:cx=⟨w,fun b=>∃ i,F i b,Z0,pin,hgl,hzF⟩)(hpin:∀ t v,pin t=some v->a.tmps.getD t undef=v)(hdf:a.defers=[])(hZ:∀ b,Z0 b->b<w.heap.size)(hF:∀ i b,F i b->b<w.heap.size/\¬ Z0 b)(hd:∀ i j b,F i b->F j b->i=j) :
 ∀(ps:List PK) (x:PT ps) (vs:List Value) (i n:Nat),dv Z0 w F ps x vs n->(∀ j v,vs[j]? = some v->i+j<a.tmps.size/\a.tmps.getD (i+j) undef=v) ->
  ∃ g,Rel cx Z0 g ⟨nb ps x i,e9 ps x i⟩ a w/\(∀ r j b,g.fp r j b->∃ n',n<=n'/\F n' b)/\∀ r R,look (e9 ps x i) r=some R->R.box=true->∃ n',n<=n'/\F n' (g.be r)
 | [],x,[],i,n,_,_=>by
   subst hcx;refine⟨⟨fun _=>0,fun _ _=>undef,fun _ _ _=>False⟩,?_,fun _ _ _ h=>h.elim,fun r R hR=>by simp[e9,look]at hR⟩
   exact { os:=rfl,tape:=rfl,output:=rfl,size:=oR _,block:=fun _ _ _=>rfl,bL:=fun b hb=>⟨hZ b hb,.inl hb⟩,z0:=fun b hb _=>hb,fp:=fun _ _ _ h=>h.elim,disj:=fun _ _ _ _ _ h=>h.elim
           box:=fun r R hR=>by simp[e9,look]at hR
           cell:=fun r j c hc=>by simp[e9,St.cell,look]at hc
           tm:=fun t tv ht=>by simp[nb,look]at ht
           defers:=hdf
           pin:=hpin }
 | .c gg ks::ps,x,v::vs,i,n,h,ha=>by
   obtain⟨g,h1,h2,h3⟩:=gx hcx hpin hdf hZ hF hd ps x.2 vs (i+1) n h.2 fun j v hj=>by rw[show i+1+j=i+(j+1)by omega]; exact ha (j+1) v (by simpa using hj)
   have hv:=ha 0 v rfl;rw[aeQ]at hv;exact⟨g,h1.tell hv.1 (by rw[hv.2]; exact Ik h.1),h2,h3⟩
 | .fn f caps::ps,x,v::vs,i,n,h,ha=>by
   obtain⟨g,h1,h2,h3⟩:=gx hcx hpin hdf hZ hF hd ps x.2 vs (i+1) n h.2 fun j v hj=>by rw[show i+1+j=i+(j+1)by omega]; exact ha (j+1) v (by simpa using hj)
   have hv:=ha 0 v rfl;rw[aeQ]at hv;obtain⟨cs,e1,e2⟩:=h.1;exact⟨g,h1.tell hv.1 (by rw[hv.2]; exact⟨cs,e1,mJ _ _ _ e2⟩),h2,h3⟩
 | .nil::ps,x,v::vs,i,n,h,ha=>by
   obtain⟨g,h1,h2,h3⟩:=gx hcx hpin hdf hZ hF hd ps x vs (i+1) n h.2 fun j v hj=>by rw[show i+1+j=i+(j+1)by omega]; exact ha (j+1) v (by simpa using hj)
   have hv:=ha 0 v rfl;rw[aeQ]at hv;exact⟨g,h1.tell hv.1 (tv:= .v .nil) (by rw[hv.2]; exact h.1),h2,h3⟩
 | .pt ks::ps,x,v::vs,i,n,h,ha=>by
   obtain⟨g,h1,h2,h3⟩:=gx hcx hpin hdf hZ hF hd ps x.2 vs (i+1) n h.2 fun j v hj=>by rw[show i+1+j=i+(j+1)by omega]; exact ha (j+1) v (by simpa using hj)
   have hv:=ha 0 v rfl;rw[aeQ]at hv;exact⟨g,h1.tell hv.1 (tv:= .v (.rp none 0 ks [x.1] 0 0)) (by rw[hv.2]; exact Sm (g:=g) (st:=⟨nb ps x.2 (i+1),e9 ps x.2 (i+1)⟩) h.1),h2,h3⟩
 | .io gg ks::ps,x,v::vs,i,n,h,ha=>by
   obtain⟨g,h1,h2,h3⟩:=gx hcx hpin hdf hZ hF hd ps x.2 vs (i+1) (n+bD ks) h.2 fun j v hj=>by rw[show i+1+j=i+(j+1)by omega]; exact ha (j+1) v (by simpa using hj)
   have hv:=ha 0 v rfl;rw[aeQ]at hv;obtain⟨cs,e1,e2⟩:=h.1;have hlen:=eK ks x.1;obtain⟨_,hown⟩:=fz ks x.1 cs n e2;refine zu hcx hF hd h1 h2 h3 hv.1 hv.2 (by omega) (vals:=lV ks cs) (fun j c hj => ?_) fun g' st' q1 q2 => ?_
   . obtain⟨e,ks',y,u,g1,g2,g3⟩:=hown j c hj;exact⟨_,y,u,g1,g2,g3⟩
   . exact yc e1 (gB ks x.1 cs 0 (aV.ix n 0 ks x.1 cs e2) q1 q2)
 | .mv k::ps,x,v::vs,i,n,h,ha=>by
   obtain⟨g,h1,h2,h3⟩:=gx hcx hpin hdf hZ hF hd ps x.2 vs (i+1) (n+1) h.2 fun j v hj=>by rw[show i+1+j=i+(j+1)by omega]; exact ha (j+1) v (by simpa using hj)
   have hv:=ha 0 v rfl;rw[aeQ]at hv;refine zu hcx hF hd h1 h2 h3 hv.1 hv.2 (by simp) (vals:=[v]) (fun j c hj => ?_) fun g' st' q1 q2 => ?_
   . cases j with
     | zero => simp only[aeu,aen]at hj;subst hj;exact⟨k,x.1,v,rfl,rfl,h.1⟩
     | succ j=>simp at hj
   . exact⟨_,q1 0 _ rfl,oR _,fun _=>(q2 0 v rfl).symm⟩
 | .pw cs::ps,x,v::vs,i,n,h,ha=>by
   obtain⟨g,h1,h2,h3⟩:=gx hcx hpin hdf hZ hF hd ps x.2 vs (i+1) (n+(cs.length+1)) h.2 fun j v hj=>by rw[show i+1+j=i+(j+1)by omega]; exact ha (j+1) v (by simpa using hj)
   have hv:=ha 0 v rfl;rw[aeQ]at hv;cases hb:Nat.blt i 100000 with
   | false =>
     refine⟨g,?_,fun r j b h => ?_,fun r R hR h => ?_⟩
     . show Rel cx Z0 g ⟨(i,.v (bif Nat.blt i 100000 then .ptr i 0 else .dead))::nb ps x.2 (i+1),bif Nat.blt i 100000 then (i,⟨true,bK cs x.1⟩)::e9 ps x.2 (i+1)else e9 ps x.2 (i+1)⟩ a w;rw[hb];exact h1.tell hv.1 (tv:= .v .dead) trivial
     . obtain⟨n',k1,k2⟩:=h2 r j b h; exact⟨n',by omega,k2⟩
     . have hR:look (bif Nat.blt i 100000 then (i,(⟨true,bK cs x.1⟩:Rt))::e9 ps x.2 (i+1)else e9 ps x.2 (i+1)) r=some R:=hR;rw[hb]at hR;obtain⟨n',k1,k2⟩:=h3 r R hR h; exact⟨n',by omega,k2⟩
   | true =>
     obtain⟨g',k1,k2,k3⟩:=Jx hcx hF hd h1 h2 h3 hv.1 hv.2 h.1 (Nat.blt_eq.mp hb);refine⟨g',?_,k2,fun r R hR => ?_⟩
     . show Rel cx Z0 g' ⟨(i,.v (bif Nat.blt i 100000 then .ptr i 0 else .dead))::nb ps x.2 (i+1),bif Nat.blt i 100000 then (i,⟨true,bK cs x.1⟩)::e9 ps x.2 (i+1)else e9 ps x.2 (i+1)⟩ a w;rw[hb];exact k1
     . have hR:look (bif Nat.blt i 100000 then (i,(⟨true,bK cs x.1⟩:Rt))::e9 ps x.2 (i+1)else e9 ps x.2 (i+1)) r=some R:=hR;rw[hb]at hR;exact k3 r R hR
 | .pw _::_,_,[],_,_,h,_=>h.elim
 | [],_,_::_,_,_,h,_=>h.elim
 | .c _ _::_,_,[],_,_,h,_=>h.elim
 | .pt _::_,_,[],_,_,h,_=>h.elim
 | .nil::_,_,[],_,_,h,_=>h.elim
 | .fn _ _::_,_,[],_,_,h,_=>h.elim
 | .io _ _::_,_,[],_,_,h,_=>h.elim
 | .mv _::_,_,[],_,_,h,_=>h.elim
def qS(tmps:Array Value):ResultVar->Sem Value
 | .tmp t=>pure (tmps.getD t undef)
 | .cell a t=>do loadVar t (<- asAddr (tmps.getD a undef))
theorem qj(hT:cf P E)(h:Rel cx Z g st a w)(hn:ch st):∀(res:List ResultVar) (l:List (Bool×List AV)),la E st res=some l->∃ vs,(res.mapM (qS a.tmps)).run P w= .ok vs w/\gH Z g st w l vs
 | [],l,hr=>by simp only[la,aen]at hr;subst hr;exact⟨[],by simp[List.mapM_nil],trivial⟩
 | .tmp t::r,l,hr=>by
   simp only[la]at hr;split at hr
   . rename_i tv l' h1 h2;split at hr
     . rename_i p hp;simp only[aen]at hr;subst hr;obtain⟨vs,e1,e2⟩:=qj hT h hn r l' h2;exact⟨a.tmps.getD t undef::vs,by simp[List.mapM_cons,qS,e1],ki (ir h hn.cons.cons h1) hp,e2⟩
     . simp at hr
   . simp at hr
 | .cell t ty::r,l,hr=>by
   simp only[la]at hr;split at hr
   . rename_i r' j ti l' h1 h2 h3;split at hr
     . rename_i cs hl;simp only[aen]at hr;subst hr;obtain⟨vs,e1,e2⟩:=qj hT h hn r l' h3;obtain⟨b,of,us,f1,f2,f3,f4⟩:=yq h (v:=a.tmps.getD t undef) (p:= .ptr r' j) (ir h hn.cons.cons h1) hl;obtain⟨v,f5,f6⟩:=uy (hT ty ti h2) f2 f3;refine⟨v::vs,by simp only[List.mapM_cons,qS,f1,asAddr,aeN,aeX,aez,f5,e1],?_,e2⟩;cases hag:ti.agg with
       | true=>rw[hag]at f6; exact⟨us.toArray,f6,by simpa using f4⟩
       | false =>
         rw[hag]at f6;subst f6
         match cs,f4 with
         | [c],f4=>exact f4.1
         | [],f4=>exact f4.elim
         | _::_::_,f4=>exact f4.2.elim
     . simp at hr
   . simp at hr
theorem kf.trans{w w' w'':World}{g' g'':Gh}{st' st'':St}(h:kf Z w w' g g' st st')(h':kf Z w' w'' g' g'' st' st'')(hk:mA Z Z w w'' g g'' st st''):kf Z w w'' g g'' st st'' :=
 ⟨hk,h'.tm.trans h.tm,h'.be.trans h.be,fun r R' hR=>by obtain⟨R1,e1,e2⟩:=h'.box r R' hR;obtain⟨R,e3,e4⟩:=h.box r R1 e1;exact⟨R,e3,e2.trans e4⟩⟩
structure lN {P:Program} (cx:Cx P) (Z:Nat->Prop) (w:World) (g g':Gh) (st st':St) (H:Nat->Nat->Prop) (j n:Nat):Prop where
 rel:∀(p:Bool×List AV) (v:Value),rW Z g st w p v->rW Z g' st' w p v
 av:∀(x:AV) (v:Value),bj Z g st w x v->bj Z g' st' w x v
 fp:∀ r j b,g'.fp r j b->g.fp r j b
 free:∀ n,iw cx Z g' st' w (H n)
 sub:∀ n b,H n b->∃ r j,g.fp r j b
 disj:∀ n m b,H n b->H m b->n=m
 ix:∀ i b,H i b->j<=i/\i<j+n
 be:g'.be=g.be
 box:∀ r R',look st'.rt r=some R'->∃ R,look st.rt r=some R/\R'.box=R.box
theorem lN.refl(j:Nat):lN cx Z w g g st st (fun _ _=>False) j 0 :=
 ⟨fun _ _ h=>h,fun _ _ h=>h,fun _ _ _ h=>h,fun _=>iw.none _ _ _ _ _,fun _ _ h=>h.elim,fun _ _ _ h=>h.elim,fun _ _ h=>h.elim,rfl,fun r R h=>⟨R,h,rfl⟩⟩
theorem iw.mono{F:Nat->Prop}{g':Gh}{st':St}(h:iw cx Z g st w F)(hfp:∀ r j b,g'.fp r j b->g.fp r j b)(hbe:g'.be=g.be)(hbx:∀ r R',look st'.rt r=some R'->∃ R,look st.rt r=some R/\R'.box=R.box):iw cx Z g' st' w F :=
 ⟨h.lt,h.own,h.z,fun b hb r j hh=>h.fp b hb r j (hfp r j b hh),fun b hb r R' hR hx=>by obtain⟨R,e1,e2⟩:=hbx r R' hR;rw[hbe];exact h.box b hb r R e1 (by rw[<- e2]; exact hx)⟩
theorem lN.trans{g' g'':Gh}{st' st'':St}{H H':Nat->Nat->Prop}{j n m:Nat}(h:lN cx Z w g g' st st' H j n)(h':lN cx Z w g' g'' st' st'' H' (j+n) m):lN cx Z w g g'' st st'' (fun i b=>H i b∨H' i b) j (n+m) where
 rel:=fun p v hr=>h'.rel p v (h.rel p v hr)
 av:=fun x v hr=>h'.av x v (h.av x v hr)
 fp:=fun r j b hb=>h.fp r j b (h'.fp r j b hb)
 free:=fun i=>by have f1:=(h.free i).mono h'.fp h'.be h'.box;have f2:=h'.free i;exact⟨fun b hb=>hb.elim (f1.lt b) (f2.lt b),fun b hb=>hb.elim (f1.own b) (f2.own b),fun b hb=>hb.elim (f1.z b) (f2.z b),fun b hb=>hb.elim (f1.fp b) (f2.fp b),fun b hb=>hb.elim (f1.box b) (f2.box b)⟩
 sub:=fun i b hb=>by
  rcases hb with hb | hb
  . exact h.sub i b hb
  . obtain⟨r,j,hh⟩:=h'.sub i b hb;exact⟨r,j,h.fp r j b hh⟩
 disj:=fun i i' b hb hb'=>by
  have cross:∀ i i',H i b->H' i' b->False:=fun i i' k1 k2=>by obtain⟨r,j,hh⟩:=h'.sub i' b k2;exact(h.free i).fp b k1 r j hh
  rcases hb with hb | hb
  . rcases hb' with hb' | hb'
    . exact h.disj i i' b hb hb'
    . exact(cross i i' hb hb').elim
  . rcases hb' with hb' | hb'
    . exact(cross i' i hb' hb).elim
    . exact h'.disj i i' b hb hb'
 ix:=fun i b hb=>by
  rcases hb with hb | hb
  . have:=h.ix i b hb; omega
  . have:=h'.ix i b hb; omega
 be:=h'.be.trans h.be
 box:=fun r R' hR=>by obtain⟨R1,e1,e2⟩:=h'.box r R' hR;obtain⟨R,e3,e4⟩:=h.box r R1 e1;exact⟨R,e3,e2.trans e4⟩
theorem aV.mono{fresh:Bool}{H H':Nat->Nat->Prop}(hH:∀ n b,H n b->H' n b):∀(ks:List K) (x:Tl ks) (cs:List Value) (j:Nat),aV fresh Z w H ks x cs j->aV fresh Z w H' ks x cs j
 | [],_,[],_,_=>trivial
 | .sl e ks'::ks,x,v::vs,j,h=>by
   refine⟨?_,aV.mono hH ks x.2 vs _ h.2⟩;cases fresh with
   | true=>exact cO.frame _ _ _ _ _ (hH j) (fun _ _ _=>rfl) h.1
   | false=>exact h.1
 | .int _::ks,x,v::vs,j,h=>⟨h.1,aV.mono hH ks x.2 vs j h.2⟩
 | .bool::ks,x,v::vs,j,h=>⟨h.1,aV.mono hH ks x.2 vs j h.2⟩
 | .str::ks,x,v::vs,j,h=>⟨h.1,aV.mono hH ks x.2 vs j h.2⟩
 | [],_,_::_,_,h=>h.elim
 | .sl _ _::_,_,[],_,h=>h.elim
 | .int _::_,_,[],_,h=>h.elim
 | .bool::_,_,[],_,h=>h.elim
 | .str::_,_,[],_,h=>h.elim
theorem lk.mono{fresh:Bool}{H H':Nat->Nat->Prop}(hH:∀ n b,H n b->H' n b):∀(rs:List (Bool×List K)) (y:CT rs) (vs:List Value) (j:Nat),lk fresh Z w H rs y vs j->lk fresh Z w H' rs y vs j
 | [],_,[],_,_=>trivial
 | (gg,ks)::rs,y,v::vs,j,⟨⟨cs,e,h⟩,h'⟩=>⟨⟨cs,e,aV.mono hH ks y.1 cs j h⟩,lk.mono hH rs y.2 vs _ h'⟩
 | [],_,_::_,_,h=>h.elim
 | _::_,_,[],_,h=>h.elim
def SF(fresh:Bool)(ks:List K):Nat:=bif fresh then bD ks else 0
theorem kZ(fresh:Bool):∀(ks:List K) (l:List AV) (cs:List Value) (st:St) (g:Gh) (st':St) (x:Tl ks) (j:Nat),Rel cx Z g st a w->aU Z g st w l cs->iH st fresh ks l=some (st',x) ->
 ∃ g' H,Rel cx Z g' st' a w/\lN cx Z w g g' st st' H j (SF fresh ks)/\aV fresh Z w H ks x cs j
 | [],[],cs,st,g,st',x,j,h,hr,ht=>by
   simp only[iH,aen,aeT]at ht;obtain⟨rfl,_⟩:=ht;cases cs with
   | nil=>exact⟨g,fun _ _=>False,h,by cases fresh <;> exact lN.refl j,trivial⟩
   | cons _ _=>exact hr.elim
 | .sl e ks'::ks,av::l,[],st,g,st',x,j,h,hr,ht=>hr.elim
 | .sl e ks'::ks,av::l,v::vs,st,g,st',x,j,h,hr,ht=>by
   unfold iH at ht;split at ht
   . rename_i st1 y hy;split at ht
     . rename_i q hq;cases ht;cases fresh with
       | true =>
         simp only[oT]at hy;obtain⟨g1,F,k1,k2,k3,k4,k5,k6,k7⟩:=gr h hr.1 hy;have t1:lN cx Z w g g1 st st1 (fun n b=>n=j/\F b) j 1 :=
          ⟨fun p v=>rW.cg k2.cg p v,fun x v=>bj.cg k2.cg x v,k5,fun n=>⟨fun b hb=>k4.lt b hb.2,fun b hb=>k4.own b hb.2,fun b hb=>k4.z b hb.2,fun b hb=>k4.fp b hb.2,fun b hb=>k4.box b hb.2⟩,fun n b hb=>k6 b hb.2,fun n m b h1 h2=>h1.1.trans h2.1.symm,fun i b hb=>⟨by omega,by omega⟩,k2.be,k2.box⟩
         obtain⟨g',H,m1,m2,m3⟩:=kZ true ks l vs st1 g1 q.1 q.2 (j+1) k1 (aU.cg k2.cg _ _ hr.2) hq;refine⟨g',fun n b=>(n=j/\F b)∨H n b,m1,?_,?_⟩
         . have:=t1.trans m2;have e:SF true (.sl e ks'::ks)=1+SF true ks:=by simp[SF,bD]; omega
           rw[e];exact this
         . exact⟨cO.frame _ _ _ _ _ (fun b hb=> .inl ⟨rfl,hb⟩) (fun _ _ _=>rfl) k3,aV.mono (fun n b hb=> .inr hb) _ _ _ _ m3⟩
       | false =>
         simp only[oF]at hy;cases hf:av.bE||xk (st.bo (.sl e ks') av)with
         | false=>rw[hf]at hy; simp at hy
         | true =>
           rw[hf]at hy;simp only[oT]at hy;split at hy
           . rename_i y' hy';cases hy;obtain⟨g',H,m1,m2,m3⟩:=kZ false ks l vs st g q.1 q.2 j h hr.2 hq;refine⟨g',H,m1,m2,?_,m3⟩;show RO Z w (.sl e ks') y v;cases hf2:av.bE with
             | true=>exact bV h hr.1 hf2 hy'
             | false =>
               rw[hf2,hy']at hf;have hnil:aQ y=[]:=by
                simp only[Bool.false_or,xk]at hf;split at hf
                . rename_i hh; exact hh
                . simp at hf
               obtain⟨a1,c1,q1,q2,q3,q4,_⟩:=(show RO (gM w) w (.sl e ks') y v from mg h hr.1 hy');exact⟨a1,c1,q1,q2,q3,q4,fun hne=>(hne hnil).elim⟩
           . simp at hy
     . simp at ht
   . simp at ht
 | .int k::ks,av::l,cs,st,g,st',x,j,h,hr,ht=>by
   unfold iH at ht;split at ht
   . rename_i y q hy hf hq;cases ht
     match cs,hr with
     | v::vs,hr => obtain⟨g',H,m1,m2,m3⟩:=kZ fresh ks l vs st g q.1 q.2 j h hr.2 hq;exact⟨g',H,m1,m2,bV h hr.1 hf hy,m3⟩
   . simp at ht
 | .bool::ks,av::l,cs,st,g,st',x,j,h,hr,ht=>by
   unfold iH at ht;split at ht
   . rename_i y q hy hf hq;cases ht
     match cs,hr with
     | v::vs,hr => obtain⟨g',H,m1,m2,m3⟩:=kZ fresh ks l vs st g q.1 q.2 j h hr.2 hq;exact⟨g',H,m1,m2,bV h hr.1 hf hy,m3⟩
   . simp at ht
 | .str::ks,av::l,cs,st,g,st',x,j,h,hr,ht=>by
   unfold iH at ht;split at ht
   . rename_i y q hy hf hq;cases ht
     match cs,hr with
     | v::vs,hr => obtain⟨g',H,m1,m2,m3⟩:=kZ fresh ks l vs st g q.1 q.2 j h hr.2 hq;exact⟨g',H,m1,m2,bV h hr.1 hf hy,m3⟩
   . simp at ht
 | [],_::_,cs,st,g,st',x,j,h,hr,ht=>by simp[iH]at ht
 | .sl _ _::_,[],cs,st,g,st',x,j,h,hr,ht=>by simp[iH]at ht
 | .int _::_,[],cs,st,g,st',x,j,h,hr,ht=>by simp[iH]at ht
 | .bool::_,[],cs,st,g,st',x,j,h,hr,ht=>by simp[iH]at ht
 | .str::_,[],cs,st,g,st',x,j,h,hr,ht=>by simp[iH]at ht
def aaS(fresh:Bool):List (Bool×List K)->Nat
 | []=>0
 | (_,ks)::rs=>SF fresh ks+aaS fresh rs
theorem B3(fresh:Bool):∀(rs:List (Bool×List K)) (l:List (Bool×List AV)) (vs:List Value) (st:St) (g:Gh) (st':St) (y:CT rs) (j:Nat),Rel cx Z g st a w->gH Z g st w l vs->xu st fresh rs l=some (st',y) ->
 ∃ g' H,Rel cx Z g' st' a w/\lN cx Z w g g' st st' H j (aaS fresh rs)/\lk fresh Z w H rs y vs j
 | [],[],vs,st,g,st',y,j,h,hr,ht=>by
   simp only[xu,aen,aeT]at ht;obtain⟨rfl,_⟩:=ht;cases vs with
   | nil=>exact⟨g,fun _ _=>False,h,lN.refl j,trivial⟩
   | cons _ _=>exact hr.elim
 | (gg,ks)::rs,(gg',l)::r,vs,st,g,st',y,j,h,hr,ht=>by
   unfold xu at ht;cases hb:bS gg gg' with
   | false=>rw[hb]at ht; simp at ht
   | true =>
     rw[hb]at ht;simp only[oT]at ht;have:=dL hb;subst this;split at ht
     . rename_i st1 x hx;split at ht
       . rename_i q hq;cases ht
         match vs,hr with
         | v::vs,hr =>
           obtain⟨us,e1,e2⟩:=gD hr.1;obtain⟨g1,H1,m1,m2,m3⟩:=kZ fresh ks l us st g st1 x j h e2 hx;have hr2:gH Z g1 st1 w r vs:=by
            have:∀(r:List (Bool×List AV)) (vs:List Value),gH Z g st w r vs->gH Z g1 st1 w r vs:=by
             intro r;induction r with
             | nil=>intro vs h; cases vs with | nil=>trivial | cons _ _=>exact h.elim
             | cons p r ih=>intro vs h; cases vs with | nil=>exact h.elim | cons v vs=>exact⟨m2.rel _ _ h.1,ih vs h.2⟩
            exact this r vs hr.2
           obtain⟨g',H',n1,n2,n3⟩:=B3 fresh rs r vs st1 g1 q.1 q.2 (j+SF fresh ks) m1 hr2 hq;refine⟨g',fun n b=>H1 n b∨H' n b,n1,m2.trans n2,⟨us,e1,aV.mono (fun n b hb=> .inl hb) _ _ _ _ m3⟩,?_⟩;have e3:(bif fresh then j+bD ks else j)=j+SF fresh ks:=by cases fresh <;> simp[SF]
           rw[e3];exact lk.mono (fun n b hb=> .inr hb) _ _ _ _ n3
       . simp at ht
     . simp at ht
 | [],_::_,vs,st,g,st',y,j,h,hr,ht=>by simp[xu]at ht
 | (_,_)::_,[],vs,st,g,st',y,j,h,hr,ht=>by simp[xu]at ht
end
def TE(g:Gh)(st:St)(NM:List (Nat×Nat)):Nat->Nat->Prop:=fun m b=>∃ nm,NM[m]? = some nm/\(g.fp nm.1 nm.2 b∨(nm.2=200000/\(∃ R,look st.rt nm.1=some R/\R.box=true)/\b=g.be nm.1))
theorem jK{Z:Nat->Prop}{P:Program}{cx:Cx P}{g:Gh}{st:St}{a:Act}{w:World}(h:Rel cx Z g st a w)(NM:List (Nat×Nat)):∀(ks:List K) (l:List AV) (cs:List Value) (y:Tl ks) (pre post:List (Nat×Nat)),aU Z g st w l cs->fN st ks l=some y->NM=pre++(fO l++post) ->
 aV true Z w (TE g st NM) ks y cs pre.length/\(fO l).length=bD ks
 | [],[],[],y,_,_,_,_,_=>⟨trivial,rfl⟩
 | [],[],_::_,_,_,_,h1,_,_=>h1.elim
 | [],_::_,_,_,_,_,_,h2,_=>by simp[fN]at h2
 | .sl e ks'::ks,[],_,y,_,_,h1,h2,_=>by simp[fN]at h2
 | .sl e ks'::ks,av::l,[],y,_,_,h1,h2,_=>h1.elim
 | .sl e ks'::ks,av::l,v::vs,y,pre,post,h1,h2,hN=>by
   cases av with
   | ref r j s =>
     simp only[fN]at h2;split at h2
     . rename_i s' m k' x y' hc hr;cases hb:Nat.beq s' s with
       | false=>rw[hb]at h2; simp at h2
       | true =>
         rw[hb]at h2;simp only[oT]at h2;split at h2
         . rename_i x' hx;cases h2;obtain⟨rfl,hx⟩:=cq hx;have hx:x=x':=hx;subst hx;have:=beq_eq hb;subst this;obtain⟨c,q1,q2,q3⟩:=h1.1;rw[hc]at q1;cases q1;have q3:=q3 rfl;subst q3;simp only[fO]at hN ⊢;obtain⟨k1,k2⟩:=jK h NM ks l vs y' (pre++[(r,j)]) post h1.2 hr (by rw[hN]; simp);refine⟨⟨?_,by rw[aep]at k1; exact k1⟩,by simp[bD,k2]⟩;refine cO.frame _ _ _ _ _ (fun b hb=>⟨(r,j),?_,.inl hb⟩) (fun _ _ _=>rfl) (h.cell r j _ hc);rw[hN]; simp
         . simp at h2
     . simp at h2
   | _=>simp[fN,qT]at h2
 | .int k::ks,[],_,y,_,_,h1,h2,_=>by simp[fN]at h2
 | .int k::ks,av::l,[],y,_,_,h1,h2,_=>h1.elim
 | .int k::ks,av::l,v::vs,y,pre,post,h1,h2,hN=>by
   unfold fN at h2;simp only[qT,oF]at h2;split at h2
   . rename_i x y' hx hf hr;cases h2;have hno:fO (av::l)=fO l:=by cases av <;> first | rfl | simp[AV.bE]at hf
     rw[hno]at hN ⊢;obtain⟨k1,k2⟩:=jK h NM ks l vs y' pre post h1.2 hr hN;exact⟨⟨bV h h1.1 hf hx,k1⟩,k2⟩
   . simp at h2
 | .bool::ks,[],_,y,_,_,h1,h2,_=>by simp[fN]at h2
 | .bool::ks,av::l,[],y,_,_,h1,h2,_=>h1.elim
 | .bool::ks,av::l,v::vs,y,pre,post,h1,h2,hN=>by
   unfold fN at h2;simp only[qT,oF]at h2;split at h2
   . rename_i x y' hx hf hr;cases h2;have hno:fO (av::l)=fO l:=by cases av <;> first | rfl | simp[AV.bE]at hf
     rw[hno]at hN ⊢;obtain⟨k1,k2⟩:=jK h NM ks l vs y' pre post h1.2 hr hN;exact⟨⟨bV h h1.1 hf hx,k1⟩,k2⟩
   . simp at h2
 | .str::ks,[],_,y,_,_,h1,h2,_=>by simp[fN]at h2
 | .str::ks,av::l,[],y,_,_,h1,h2,_=>h1.elim
 | .str::ks,av::l,v::vs,y,pre,post,h1,h2,hN=>by
   unfold fN at h2;simp only[qT,oF]at h2;split at h2
   . rename_i x y' hx hf hr;cases h2;have hno:fO (av::l)=fO l:=by cases av <;> first | rfl | simp[AV.bE]at hf
     rw[hno]at hN ⊢;obtain⟨k1,k2⟩:=jK h NM ks l vs y' pre post h1.2 hr hN;exact⟨⟨bV h h1.1 hf hx,k1⟩,k2⟩
   . simp at h2
theorem vj.mono{Z:Nat->Prop}{w:World}{G G':Nat->Nat->Prop}(hG:∀ m b,G m b->G' m b):∀(cs:List (Bool×K)) (y:BT cs) (vs:List Value) (n:Nat),vj Z w G cs y vs n->vj Z w G' cs y vs n
 | [],_,[],_,_=>trivial
 | [],_,_::_,_,h=>h.elim
 | (true,_)::_,_,[],_,h=>h.elim
 | (false,_)::_,_,[],_,h=>h.elim
 | (true,k)::cs,y,v::vs,n,h=>⟨cO.frame _ _ _ _ _ (hG n) (fun _ _ _=>rfl) h.1,vj.mono hG cs y.2 vs _ h.2⟩
 | (false,k)::cs,y,v::vs,n,h=>⟨h.1,vj.mono hG cs y.2 vs _ h.2⟩
theorem PY.mono{Z:Nat->Prop}{w:World}{G G':Nat->Nat->Prop}(hG:∀ m b,G m b->G' m b){cs:List (Bool×K)}{y:BT cs}{v:Value}{n:Nat}(h:PY Z w G cs y v n):PY Z w G' cs y v n:=by obtain⟨b,vs,e,fr,h1,h2,h3,h4,h5⟩:=h;exact⟨b,vs,e,fr,h1,h2,h3,hG _ _ h4,vj.mono hG _ _ _ _ h5⟩
theorem tV.mono{Z:Nat->Prop}{w:World}{G G':Nat->Nat->Prop}(hG:∀ m b,G m b->G' m b):∀(ps:List PK) (y:rm ps) (vs:List Value) (n:Nat),tV Z w G ps y vs n->tV Z w G' ps y vs n
 | [],_,_,_,_=>trivial
 | .c _ _::ps,y,_::vs,n,h=>tV.mono hG ps y vs n h
 | .pt _::ps,y,_::vs,n,h=>tV.mono hG ps y vs n h
 | .nil::ps,y,_::vs,n,h=>tV.mono hG ps y vs n h
 | .fn _ _::ps,y,_::vs,n,h=>tV.mono hG ps y vs n h
 | .mv _::ps,y,_::vs,n,h=>tV.mono hG ps y vs (n+1) h
 | .pw _::ps,y,_::vs,n,h=>⟨PY.mono hG h.1,tV.mono hG ps y.2 vs _ h.2⟩
 | .pw _::_,_,[],_,h=>h.elim
 | .io _ ks::ps,y,_::vs,n,⟨⟨cs,e,h⟩,h'⟩=>⟨⟨cs,e,aV.mono hG ks y.1 cs n h⟩,tV.mono hG ps y.2 vs _ h'⟩
 | .c _ _::_,_,[],_,h=>h.elim
 | .fn _ _::_,_,[],_,h=>h.elim
 | .io _ _::_,_,[],_,h=>h.elim
 | .pt _::_,_,[],_,h=>h.elim
 | .nil::_,_,[],_,h=>h.elim
 | .mv _::_,_,[],_,h=>h.elim
theorem qi:∀(l:List (Nat×Nat)) (r j m:Nat) (n:Nat×Nat),hasName r j l=false->l[m]? = some n->¬ (n.1=r/\n.2=j)
 | [],_,_,_,_,_,h=>by simp at h
 | n0::l,r,j,m,n,h,hm=>by
   simp only[hasName,af2]at h;cases m with
   | zero => simp only[aeu,aen]at hm;subst hm;rintro⟨rfl,rfl⟩;simp at h
   | succ m=>exact qi l r j m n h.2 (by simpa using hm)
theorem pM:∀(l:List (Nat×Nat)) (m m':Nat) (n n':Nat×Nat),wZ l=true->l[m]? = some n->l[m']? = some n'->n.1=n'.1->n.2=n'.2->m=m'
 | [],_,_,_,_,_,h,_,_,_=>by simp at h
 | n0::l,m,m',n,n',h,h1,h2,e1,e2=>by
   simp only[wZ,aeo,ae8]at h;cases m with
   | zero =>
     cases m' with
     | zero=>rfl
     | succ m' => simp only[aeu,aen]at h1;subst h1;exact(qi l n0.1 n0.2 m' n' h.1 (by simpa using h2) ⟨e1.symm,e2.symm⟩).elim
   | succ m =>
     cases m' with
     | zero => simp only[aeu,aen]at h2;subst h2;exact(qi l n0.1 n0.2 m n h.1 (by simpa using h1) ⟨e1,e2⟩).elim
     | succ m'=>exact aeU (· + 1) (pM l m m' n n' h.2 (by simpa using h1) (by simpa using h2) e1 e2)
theorem sD(r:Nat):∀(cs:List (Bool×K)) (j:Nat),(df r cs j).length=cs.length
 | [],_=>rfl
 | _::cs,j=>aeU (· + 1) (sD r cs (j+1))
theorem lH{Z:Nat->Prop}{P:Program}{cx:Cx P}{g:Gh}{st:St}{a:Act}{w:World}(h:Rel cx Z g st a w){r:Nat}(NM:List (Nat×Nat)):∀(cs:List (Bool×K)) (l:List RC) (x:BT cs) (j:Nat) (us:List Value) (pre post:List (Nat×Nat)),
 (∀ q c,l[q]? = some c->st.cell r (j+q)=some c)->us.length=l.length->(∀ q u,us[q]? = some u->u=g.cv r (j+q))->ea st cs l=some x->NM=pre++(df r cs j++post)->vj Z w (TE g st NM) cs x us pre.length
 | [],[],_,_,[],_,_,_,_,_,_,_=>trivial
 | [],[],_,_,_::_,_,_,_,hl,_,_,_=>by simp at hl
 | [],_::_,_,_,_,_,_,_,_,_,hd,_=>by simp[ea]at hd
 | (b,k)::cs,[],_,_,_,_,_,_,_,_,hd,_=>by cases b <;> simp[ea]at hd
 | (b,k)::cs,_::_,_,_,[],_,_,_,hl,_,_,_=>by simp at hl
 | (true,k)::cs,⟨s,m,rv⟩::l,x,j,u::us,pre,post,hc,hl,hu,hd,hN=>by
   cases rv with
   | av _=>simp[ea]at hd
   | own k' y =>
     simp only[ea]at hd;split at hd
     . rename_i y' z h1 h2;cases hd;obtain⟨rfl,hy⟩:=cq h1;have hy:y=y':=hy;subst hy;have e0:=hu 0 u rfl;rw[aeQ]at e0;have c0:=hc 0 _ rfl;rw[aeQ]at c0;have hown:cO w k' y (g.cv r j) (g.fp r j):=h.cell r j _ c0;have k0:NM[pre.length]? = some (r,j):=by rw[hN]; simp[df]
       have ih:=lH h NM cs l z (j+1) us (pre++[(r,j)]) post (fun q c hq=>by rw[show j+1+q=j+(q+1)by omega]; exact hc (q+1) c (by simpa using hq)) (by simpa using hl) (fun q u hq=>by rw[show j+1+q=j+(q+1)by omega]; exact hu (q+1) u (by simpa using hq)) h2 (by rw[hN]; simp[df]);rw[aep]at ih;refine⟨?_,ih⟩;rw[e0];exact cO.frame _ _ _ _ _ (fun b hb=>⟨_,k0,.inl hb⟩) (fun _ _ _=>rfl) hown
     . simp at hd
 | (false,k)::cs,⟨s,m,rv⟩::l,x,j,u::us,pre,post,hc,hl,hu,hd,hN=>by
   cases rv with
   | own _ _=>simp[ea]at hd
   | av av0 =>
     simp only[ea]at hd;cases hf:av0.bE with
     | false=>rw[hf]at hd; simp at hd
     | true =>
       rw[hf]at hd;simp only[oT]at hd;split at hd
       . rename_i y' z h1 h2;cases hd;have e0:=hu 0 u rfl;rw[aeQ]at e0;have c0:=hc 0 _ rfl;rw[aeQ]at c0;have hrel:bj Z g st w av0 (g.cv r j):=h.cell r j _ c0;have ih:=lH h NM cs l z (j+1) us (pre++[(r,j)]) post (fun q c hq=>by rw[show j+1+q=j+(q+1)by omega]; exact hc (q+1) c (by simpa using hq)) (by simpa using hl) (fun q u hq=>by rw[show j+1+q=j+(q+1)by omega]; exact hu (q+1) u (by simpa using hq)) h2 (by rw[hN]; simp[df]);rw[aep]at ih;refine⟨?_,ih⟩;rw[e0];exact bV h hrel hf h1
       . simp at hd
theorem fk{Z:Nat->Prop}{P:Program}{cx:Cx P}{g:Gh}{st:St}{a:Act}{w:World}{pins:List Nat}(h:Rel cx Z g st a w)(NM:List (Nat×Nat)):∀(ps:List PK) (y:rm ps) (vs:List Value) (i:Nat) (pre:List (Nat×Nat)),iV pins st ps i=some y->vs.length=ps.length->(∀ j v,vs[j]? = some v->gW pins (i+j)=true->a.tmps.getD (i+j) undef=v)->NM=pre++kd st ps i ->
 tV Z w (TE g st NM) ps y vs pre.length
 | [],_,_,i,_,_,_,_,_=>trivial
 | .c _ _::ps,y,[],i,_,_,hl,_,_=>by simp at hl
 | .pt _::ps,y,[],i,_,_,hl,_,_=>by simp at hl
 | .nil::ps,y,[],i,_,_,hl,_,_=>by simp at hl
 | .fn _ _::ps,y,[],i,_,_,hl,_,_=>by simp at hl
 | .io _ _::ps,y,[],i,_,_,hl,_,_=>by simp at hl
 | .mv _::ps,y,[],i,_,_,hl,_,_=>by simp at hl
 | .c _ _::ps,y,v::vs,i,pre,hy,hl,hp,hN =>
   fk h NM ps y vs (i+1) pre hy (by simpa using hl) (fun j v hj hm=>by rw[show i+1+j=i+(j+1)by omega]at hm ⊢; exact hp (j+1) v (by simpa using hj) hm) hN
 | .nil::ps,y,v::vs,i,pre,hy,hl,hp,hN =>
   fk h NM ps y vs (i+1) pre hy (by simpa using hl) (fun j v hj hm=>by rw[show i+1+j=i+(j+1)by omega]at hm ⊢; exact hp (j+1) v (by simpa using hj) hm) hN
 | .pt _::ps,y,v::vs,i,pre,hy,hl,hp,hN =>
   fk h NM ps y vs (i+1) pre hy (by simpa using hl) (fun j v hj hm=>by rw[show i+1+j=i+(j+1)by omega]at hm ⊢; exact hp (j+1) v (by simpa using hj) hm) hN
 | .fn _ _::ps,y,v::vs,i,pre,hy,hl,hp,hN =>
   fk h NM ps y vs (i+1) pre hy (by simpa using hl) (fun j v hj hm=>by rw[show i+1+j=i+(j+1)by omega]at hm ⊢; exact hp (j+1) v (by simpa using hj) hm) hN
 | .pw _::ps,y,[],i,_,_,hl,_,_=>by simp at hl
 | .pw cs::ps,y,v::vs,i,pre,hy,hl,hp,hN=>by
   unfold iV at hy;split at hy
   . rename_i r l htm hrt;cases hb:Nat.beq r i&&gW pins i with
     | false=>rw[hb]at hy; simp at hy
     | true =>
       rw[hb]at hy;simp only[oT]at hy;simp only[aeo]at hb;have e:=beq_eq hb.1;subst e;split at hy
       . rename_i x y' hx hy';cases hy;have hv:=hp 0 v rfl hb.2;rw[aeQ]at hv;obtain⟨R,q1,q2,q3⟩:=(h.tm r _ htm).2;rw[hv]at q3;obtain⟨b1,b2,b3,b4,us,e,fr,b5,b6,b7,b8⟩:=h.box r _ hrt rfl;have hN':NM=pre++((r,200000)::(df r cs 0++kd st ps (r+1))):=by rw[hN]; rfl
         have k0:NM[pre.length]? = some (r,200000):=by rw[hN']; simp
         have k1:=lH h (r:=r) NM cs l x 0 us.toList (pre++[(r,200000)]) (kd st ps (r+1)) (fun q c hq=>by
          rw[aex];simp only[St.cell,hrt];exact hq) (by simpa using b7) (fun q u hq=>by
          have hlt:q<us.size:=by have:=(aeW.1 hq).1;simpa using this
          have:=b8 q hlt;rw[<- aer,hq]at this;rw[aex];exact ae9 this) hx (by rw[hN']; simp)
         have k2:=sD r cs 0;have k3:=fk h NM ps y' vs (r+1) (pre++[(r,200000)]++df r cs 0) hy' (by simpa using hl) (fun j v hj hm=>by rw[show r+1+j=r+(j+1)by omega]at hm ⊢; exact hp (j+1) v (by simpa using hj) hm) (by rw[hN']; simp);rw[aep]at k1;rw[aep,aep,k2]at k3;refine⟨⟨g.be r,us,e,fr,by rw[q3],b5,b6,⟨_,k0,.inr ⟨rfl,⟨_,hrt,rfl⟩,rfl⟩⟩,k1⟩,?_⟩;rw[show pre.length+(cs.length+1)=pre.length+[(r,200000)].length+cs.length by simp only[aeF,ae7]; omega];exact k3
       . simp at hy
   . simp at hy
 | .mv _::ps,y,v::vs,i,pre,hy,hl,hp,hN=>by have:=fk h NM ps y vs (i+1) (pre++[(300000+i,0)]) hy (by simpa using hl) (fun j v hj hm=>by rw[show i+1+j=i+(j+1)by omega]at hm ⊢; exact hp (j+1) v (by simpa using hj) hm) (by rw[hN]; simp[kd]);rw[aep]at this;exact this
 | .io gg ks::ps,y,v::vs,i,pre,hy,hl,hp,hN=>by
   unfold iV at hy;split at hy
   . rename_i tv htv;split at hy
     . rename_i gg' l hl2;cases hb:bS gg gg'&&gW pins i with
       | false=>rw[hb]at hy; simp at hy
       | true =>
         rw[hb]at hy;simp only[oT]at hy;simp only[aeo]at hb;have hg:=dL hb.1;subst hg;split at hy
         . rename_i x y' hx hy';cases hy;have hv:=hp 0 v rfl hb.2;rw[aeQ]at hv;have hC:=ki (h.tm i tv htv).2 hl2;rw[hv]at hC;obtain⟨cs,e1,e2⟩:=gD hC;have hN':NM=pre++(fO l++kd st ps (i+1)):=by rw[hN]; simp[kd,htv,hl2]
           obtain⟨k1,k2⟩:=jK h NM ks l cs x pre _ e2 hx hN';have k3:=fk h NM ps y' vs (i+1) (pre++fO l) hy' (by simpa using hl) (fun j v hj hm=>by rw[show i+1+j=i+(j+1)by omega]at hm ⊢; exact hp (j+1) v (by simpa using hj) hm) (by rw[hN']; simp);rw[aep,k2]at k3;exact⟨⟨cs,e1,k1⟩,k3⟩
         . simp at hy
     . simp at hy
   . simp at hy
theorem Fg{Z:Nat->Prop}{P:Program}{cx:Cx P}{g:Gh}{st:St}{a:Act}{w:World}{pins:List Nat}(h:Rel cx Z g st a w)(ps:List PK)(y:rm ps)(vs:List Value)(hy:qU pins st ps 0=some y)(hl:vs.length=ps.length)(hp:∀ j v,vs[j]? = some v->gW pins (0+j)=true->a.tmps.getD (0+j) undef=v) :
 ∃ G:Nat->Nat->Prop,tV Z w G ps y vs 0/\(∀ m b,G m b->(∃ r j,g.fp r j b)∨∃ r R,look st.rt r=some R/\R.box=true/\b=g.be r)/\∀ m m' b,G m b->G m' b->m=m':=by
 unfold qU at hy;cases hn:wZ (kd st ps 0)with
 | false=>rw[hn]at hy; simp at hy
 | true =>
   rw[hn]at hy;simp only[oT]at hy;refine⟨TE g st (kd st ps 0),fk h _ ps y vs 0 [] hy hl hp rfl,fun m b ⟨nm,_,hb⟩ => ?_,fun m m' b ⟨n1,q1,q2⟩ ⟨n2,q3,q4⟩ => ?_⟩
   . rcases hb with hb | ⟨_,⟨R,hR,hx⟩,e⟩
     . exact .inl ⟨_,_,hb⟩
     . exact .inr ⟨_,R,hR,hx,e⟩
   . rcases q2 with q2 | ⟨x1,⟨R,hR,hx⟩,e⟩
     . rcases q4 with q4 | ⟨_,⟨R',hR',hx'⟩,e'⟩
       . obtain⟨e1,e2⟩:=h.disj _ _ _ _ b q2 q4;exact pM _ m m' n1 n2 hn q1 q3 e1 e2
       . exact((h.box _ R' hR' hx').2.2.1 _ _ (e' ▸ q2)).elim
     . rcases q4 with q4 | ⟨x2,⟨R',hR',hx'⟩,e'⟩
       . exact((h.box _ R hR hx).2.2.1 _ _ (e ▸ q4)).elim
       . have:=(h.box _ R hR hx).2.2.2.1 _ R' hR' hx' (e'.symm.trans e);exact pM _ m m' n1 n2 hn q1 q3 this.symm (x1.trans x2.symm)
theorem gF{Z:Nat->Prop}{w:World}{F:Nat->Nat->Prop}:∀(ps:List PK) (x:PT ps) (vs:List Value) (i:Nat),dv Z w F ps x vs i->vs.length=ps.length
 | [],_,[],_,_=>rfl
 | .c _ _::ps,x,_::vs,i,h=>aeU (· + 1) (gF ps x.2 vs _ h.2)
 | .pt _::ps,x,_::vs,i,h=>aeU (· + 1) (gF ps x.2 vs _ h.2)
 | .nil::ps,x,_::vs,i,h=>aeU (· + 1) (gF ps x vs _ h.2)
 | .fn _ _::ps,x,_::vs,i,h=>aeU (· + 1) (gF ps x.2 vs _ h.2)
 | .io _ _::ps,x,_::vs,i,h=>aeU (· + 1) (gF ps x.2 vs _ h.2)
 | .mv _::ps,x,_::vs,i,h=>aeU (· + 1) (gF ps x.2 vs _ h.2)
 | .pw _::ps,x,_::vs,i,h=>aeU (· + 1) (gF ps x.2 vs _ h.2)
 | .pw _::_,_,[],_,h=>h.elim
 | [],_,_::_,_,h=>h.elim
 | .pt _::_,_,[],_,h=>h.elim
 | .nil::_,_,[],_,h=>h.elim
 | .c _ _::_,_,[],_,h=>h.elim
 | .fn _ _::_,_,[],_,h=>h.elim
 | .io _ _::_,_,[],_,h=>h.elim
 | .mv _::_,_,[],_,h=>h.elim
theorem vQ:∀(ps:List PK),lu ps=false->∀(y z:rm ps),y=z
 | [],_,_,_=>rfl
 | .c _ _::ps,h,y,z=>vQ ps h y z
 | .pt _::ps,h,y,z=>vQ ps h y z
 | .nil::ps,h,y,z=>vQ ps h y z
 | .fn _ _::ps,h,y,z=>vQ ps h y z
 | .mv _::ps,h,y,z=>vQ ps h y z
 | .io _ _::ps,h,_,_=>by simp[lu]at h
 | .pw _::ps,h,_,_=>by simp[lu]at h
def B1(E:En)(res:List ResultVar)(ps:List PK)(rs:List (Bool×List K))(fresh:Bool)(o:Ou):Tr (rm ps×CT rs):=match o with
 | .ext _ _=> .fail
 | .nrm st=>Tr.bQ (la E st res) fun l=>Tr.bQ (xu st fresh rs l) fun p=>Tr.bQ (qU E.pins p.1 ps 0) fun z=> .ret (z,p.2)
 | .ret st=>Tr.bQ (la E st res) fun l=>Tr.bQ (xu st fresh rs l) fun p=>Tr.bQ (qU E.pins p.1 ps 0) fun z=> .ret (z,p.2)
theorem Aa {P : Program} {E : En} (hT : cf P E) {f : Nat} {fn : Func} {c : Code} (hf : P.funcs[f]? = some fn) (hname : (fn.name == "runtime.NumGoroutine") = false) (hb : fn.body = some c) (hnt : E.nt = fn.ntmps)
 {s:Su} (hs:∀ x y,s.sO x=some y->∃ z,(lu s.ps=true->z=y.1)/\∀(cx:Cx P) (a:Act) (w:World),Good cx E (start s.ps x) a w->c.wp P (fun e a' w'=>∃ ou,QO cx E ou e a' w'/\(B1 E fn.results.toList s.ps s.rs s.fresh ou).run=some (z,y.2)) a w):au P f s:=by
 intro w Z F args x y hgl hargs hZ hF hd hy;have hzF:∀ b,Z b->b<w.heap.size->¬ ∃ i,F i b:=fun b hb _ ⟨i,hi⟩=>(hF i b hi).2 hb
 rw[MuLone.run_callFunc_enter hf hname hb];obtain⟨zio,hzio,hrun⟩:=hs x y hy;show Calls P f args w _;have hlen:=gF _ _ _ _ hargs;refine calls_of_wp hf hb ?_;have hsz:fn.ntmps<=(args++Array.replicate (fn.ntmps-args.size) undef).size:=by simp; omega
 have hget:∀ j v,args.toList[j]? = some v->0+j<(args++Array.replicate (fn.ntmps-args.size) undef).size/\(args++Array.replicate (fn.ntmps-args.size) undef).getD (0+j) undef=v:=fun j v hj=>by
  rw[aer]at hj;have hlt:j<args.size:=by
   rcases aeD j args.size with h | h
   . exact h
   . simp[aeH h]at hj
  rw[aex];refine⟨by simp; omega,?_⟩;rw[aev,afg hlt,hj];rfl
 let pin:Nat->Option Value:=fun t=>bif gW E.pins t then some ((args++Array.replicate (fn.ntmps-args.size) undef).getD t undef)else none
 have hpin:∀ t v,pin t=some v->(args++Array.replicate (fn.ntmps-args.size) undef).getD t undef=v/\gW E.pins t=true:=fun t v ht=>by
  show _/\_;simp only[pin]at ht;cases hm:gW E.pins t with
  | false=>rw[hm]at ht; simp at ht
  | true=>rw[hm]at ht; simp only[oT,aen]at ht; exact⟨ht,rfl⟩
 obtain⟨g,hrel,_⟩:=gx (cx:=⟨w,fun b=>∃ i,F i b,Z,pin,hgl,hzF⟩) (a:={ tmps:=args++Array.replicate (fn.ntmps-args.size) undef,defers:=[] }) rfl (fun t v ht=>(hpin t v ht).1) rfl hZ hF hd s.ps x args.toList 0 0 hargs hget;have hgood:Good ⟨w,fun b=>∃ i,F i b,Z,pin,hgl,hzF⟩ E (start s.ps x) { tmps:=args++Array.replicate (fn.ntmps-args.size) undef,defers:=[] } w :=
  ⟨fun t tv ht=>ew s.ps x 0 t tv (gY _ _ _ ht),⟨by rw[hnt]; exact hsz,fun t v ht=>(hpin t v ht).2⟩,Z,g,hrel⟩
 have fin:∀(st:St) (a:Act) (w':World),Good ⟨w,fun b=>∃ i,F i b,Z,pin,hgl,hzF⟩ E st a w'->(Tr.bQ (la E st fn.results.toList) fun l=>Tr.bQ (xu st s.fresh s.rs l) fun p=>Tr.bQ (qU E.pins p.1 s.ps 0) fun z=>Tr.ret (z,p.2)).run=some (zio,y.2) ->
  a.defers=[]/\∃ v,(results fn a.tmps).run P w'= .ok v w'/\∃(Z':Nat->Prop) (H:Nat->Nat->Prop) (vs:List Value),v=yu vs/\zP w w' F Z Z' H/\tV Z' w' (fun i=>H (2 * i)) s.ps y.1 args.toList 0/\lk s.fresh Z' w' (fun j=>H (2 * j+1)) s.rs y.2 vs 0:=by
  intro st a w' ⟨h1,h2,Z',g',h3⟩ hr;obtain⟨l,hl1,hr⟩:=Tr.af hr;obtain⟨p,hl2,hr⟩:=Tr.af hr;obtain⟨z,hl3,hr⟩:=Tr.af hr;simp only[Tr.run,aen,aeT]at hr;obtain⟨rfl,hy2⟩:=hr;obtain⟨vs,e1,e2⟩:=qj hT h3 h1 _ _ hl1;obtain⟨g2,H,k1,k2,k3⟩:=B3 s.fresh s.rs l vs st g' p.1 p.2 0 h3 e2 hl2;have hres:(results fn a.tmps).run P w'= .ok (yu vs) w':=by
   have hr0:results fn a.tmps=(do let vs <- fn.results.mapM (qS a.tmps); pure (if h:vs.size=1 then vs[0]else .tuple vs)):=by
    have:qS a.tmps=fun x=>(match x with
     | .tmp t=>pure (a.tmps.getD t undef)
     | .cell a' t=>do loadVar t (<- asAddr (a.tmps.getD a' undef)):Sem Value):=by funext x; cases x <;> rfl
    rw[this];rfl
   have hmm:fn.results.mapM (qS a.tmps)=(do let l <- fn.results.toList.mapM (qS a.tmps); pure l.toArray):=by rw[Array.mapM_eq_mapM_toList];rfl
   rw[hr0,hmm];simp only[aeN,e1,aez,aeX];congr 1
   match vs with
   | []=>rfl
   | [v]=>rfl
   | _::_::_=>simp[yu]
  have hzy:z=y.1:=by
   cases hh:lu s.ps with
   | true=>exact hzio hh
   | false=>exact vQ _ hh _ _
  subst hzy;obtain⟨G,m1,m2,m3⟩:=Fg k1 s.ps _ args.toList hl3 hlen fun j v hj hm=>by rw[aex]at hm ⊢;refine k1.pin j v ?_;show(bif gW E.pins j then _ else none)=_;rw[hm];have:=(hget j v hj).2;rw[aex]at this;rw[this]; rfl
  have hG:∀ m b,G m b->b<w'.heap.size/\¬ Z' b/\((∃ i,F i b)∨w.heap.size<=b):=fun m b hb=>by
   rcases m2 m b hb with ⟨i',j,hh⟩ | ⟨r',R',hR',hx',e'⟩
   . obtain⟨q1,q2,q3,_⟩:=k1.fp _ _ _ hh;exact⟨q1,q3,q2⟩
   . obtain⟨b1,b2,_,_,us,el,fr,b5,_⟩:=k1.box r' R' hR' hx';subst e';exact⟨(aeP.1 b5).1,b2,b1⟩
  have cross:∀ j m b,H j b->G m b->False:=fun j m b h1 h2=>by
   rcases m2 m b h2 with ⟨i',j',hh⟩ | ⟨r',R',hR',hx',e'⟩
   . exact(k2.free j).fp b h1 _ _ hh
   . exact(k2.free j).box b h1 r' R' hR' hx' e'.symm
  refine⟨h3.defers,_,hres,Z',fun n b=>(∃ j,n=2 * j+1/\H j b)∨∃ m,n=2 * m/\G m b,vs,rfl,?_,tV.mono (fun m b hb=> .inr ⟨m,rfl,hb⟩) _ _ _ _ m1,?_⟩
  . exact { os:=k1.os,tape:=k1.tape,output:=k1.output,size:=k1.size
            block:=fun b hb hf=>k1.block b hb (fun⟨i,hi⟩=>hf i hi)
            z:=fun b hb=>k1.z0 b hb (hZ b hb)
            bL:=fun b hb=>k1.bL b hb
            fp:=fun n b hb=>by
             rcases hb with ⟨j,e,hb⟩ | ⟨m,e,hb⟩
             . exact⟨(k2.free j).lt b hb,(k2.free j).z b hb,(k2.free j).own b hb⟩
             . exact hG m b hb
            disj:=fun n m b hb hb'=>by
             rcases hb with ⟨j,e,hb⟩ | ⟨q,e,hb⟩
             . rcases hb' with ⟨j',e',hb'⟩ | ⟨q',e',hb'⟩
               . have:=k2.disj j j' b hb hb'; omega
               . exact(cross _ _ b hb hb').elim
             . rcases hb' with ⟨j',e',hb'⟩ | ⟨q',e',hb'⟩
               . exact(cross _ _ b hb' hb).elim
               . have:=m3 q q' b hb hb'; omega }
  . rw[<- hy2];exact lk.mono (fun n b hb=> .inl ⟨n,rfl,hb⟩) _ _ _ _ k3
 refine wp_mono (hrun _ _ _ hgood) fun e a w' ⟨ou,hq,hfin⟩ => ?_
 cases ou with
 | ext id st=>simp[B1,Tr.run]at hfin
 | nrm st => cases e <;> first | exact hq.elim | exact fin st a w' hq hfin
 | ret st => cases e <;> first | exact hq.elim | exact fin st a w' hq hfin
theorem Ni {P : Program} {E : En} (hT : cf P E) (hga : cZ P E) (hW : qI P E) (hm : P.follows .mixedOrders = true) {f : Nat} {fn : Func} {c : Code} (hf : P.funcs[f]? = some fn) (hname : (fn.name == "runtime.NumGoroutine") = false) (hb : fn.body = some c) (hnt : E.nt = fn.ntmps) (hl : db P E c)
 {s:Su} (hs:∀ x y,s.sO x=some y->∃ z,(lu s.ps=true->z=y.1)/\(Ei E c fn.results.toList s.ps s.rs s.fresh x).run=some (z,y.2)):au P f s:=by
 refine Aa hT hf hname hb hnt fun x y hy => ?_
 obtain⟨z,h1,h2⟩:=hs x y hy;refine⟨z,h1,fun cx a w hg => ?_⟩;have h2:((cD E c (start s.ps x)).bind (B1 E fn.results.toList s.ps s.rs s.fresh)).run=some (z,y.2):=h2;rw[Tr.run_bind]at h2;cases ho:(cD E c (start s.ps x)).run with
 | none=>rw[ho]at h2; simp at h2
 | some ou => rw[ho]at h2;exact wp_mono (bN hT hga hW hm (uN E) c _ _ _ ou hl hg ho) fun e a' w' hq=>⟨ou,hq,h2⟩
end Go.Av
