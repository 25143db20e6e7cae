/- FnExactRunSwept, a part. -/
import Derived.Test.YtcmhjdkpbgncfaaGreatDoorFw1
import Derived.Orders
import Derived.Conc.MuLone
namespace Go.Av
open Go.RowKit (Below)
section
variable{st ay:St}{E:En}
theorem Ext.kz(x:Ext st ay){box:Bool}{ks:List K}{a:AV}{y:Tl ks}(h:st.kz box ks a=some y):ay.kz box ks a=some y:=by
 cases a with
 | rp dep e bZ xs i c=>
   cases dep with
   | none=>cases c <;> exact h
   | some _=>simp[St.kz]at h
 | ptr r j=>
   cases j with
   | succ j=>simp[St.kz]at h
   | zero=>
     simp only[St.kz]at h ⊢;cases box with
     | false=>simp at h
     | true=>
       simp only[oT]at h ⊢;cases hl:look st.rt r with
       | none=>rw[hl]at h;simp at h
       | some R=>
         rw[hl]at h;rw[x.rt r R hl];simp only at h ⊢;cases hb:R.box&&R.cells.all oZ with
         | false=>rw[hb]at h;simp at h
         | true=>rw[hb]at h;simp only[oT]at h ⊢;exact x.readAll h
 | _=>simp[St.kz]at h
theorem Ext.bR(x:Ext st ay){box:Bool}:∀ {cs:List Xv} {l:List (Bool×List AV)} {y:UY cs},st.bR box cs l=some y->ay.bR box cs l=some y
 | [],[],_,h=>h
 | .c gg ks::cs,(BY,l)::r,y,h=>by
   unfold St.bR at h ⊢;cases hb:cw gg BY&&l.all AV.bV with
   | false=>simp[hb]at h
   | true=>
     simp only[hb,oT]at h ⊢;split at h
     . rename_i z zs hz mR;rw[x.readAll hz,Ext.bR x mR];exact h
     . simp at h
 | .p ks::cs,(false,[a])::r,y,h=>by
   unfold St.bR at h ⊢;split at h
   . rename_i z zs hz mR;rw[x.kz hz,Ext.bR x mR];exact h
   . simp at h
 | .p ks::cs,(true,_)::r,y,h=>by simp[St.bR]at h
 | .p ks::cs,(false,[])::r,y,h=>by simp[St.bR]at h
 | .p ks::cs,(false,_::_::_)::r,y,h=>by simp[St.bR]at h
 | [],_::_,_,h=>by simp[St.bR]at h
 | .c _ _::_,[],_,h=>by simp[St.bR]at h
 | .p _::_,[],_,h=>by simp[St.bR]at h
theorem Ext.args(x:Ext st ay){bV:Bool}:∀ {ps:List PK} {l:List TV} {y:PT ps},st.args bV ps l=some y->ay.args bV ps l=some y
 | [],[],_,h=>h
 | .c gg ks::ps,tv::r,y,h=>by
   unfold St.args at h ⊢;cases hl:tv.dw with
   | none=>simp[hl]at h
   | some p=>
     obtain⟨BY,l⟩:=p;simp only[hl]at h ⊢;cases hb:cw gg BY&&(!bV||l.all AV.bV)with
     | false=>simp[hb]at h
     | true=>
       simp only[hb,oT]at h ⊢;split at h
       . rename_i z zs hz mR;rw[x.readAll hz,Ext.args x mR];exact h
       . simp at h
 | .fn f cs::ps,tv::r,y,h=>by
   cases tv with
   | fn f' cR=>
     unfold St.args at h ⊢;cases hb:Nat.beq f f' with
     | false=>simp[hb]at h
     | true=>
       simp only[hb,oT]at h ⊢;split at h
       . rename_i z zs hz mR;rw[x.bR hz,Ext.args x mR];exact h
       . simp at h
   | _=>simp[St.args]at h
 | .pt ks::ps,.v a::r,y,h=>by
   unfold St.args at h ⊢;split at h
   . rename_i z zs hz mR;rw[x.kz hz,Ext.args x mR];exact h
   . simp at h
 | .nil::ps,tv::r,y,h=>by
   have h:(bif fX tv then st.args bV ps r else (none:Option (PT ps)))=some (y:PT ps):=h;show(bif fX tv then ay.args bV ps r else (none:Option (PT ps)))=some (y:PT ps);cases hb:fX tv with
   | false=>rw[hb]at h;simp at h
   | true=>rw[hb]at h;exact Ext.args x h
 | .nil::ps,[],y,h=>by simp[St.args]at h
 | .pt ks::ps,.may _ _ _ _ _::r,y,h=>by simp[St.args]at h
 | .pt ks::ps,.agg _::r,y,h=>by simp[St.args]at h
 | .pt ks::ps,.tup _::r,y,h=>by simp[St.args]at h
 | .pt ks::ps,.fn _ _::r,y,h=>by simp[St.args]at h
 | .pt _::_,[],_,h=>by simp[St.args]at h
 | .io _ _::_,_::_,_,h=>by simp[St.args]at h
 | .mv _::_,_::_,_,h=>by simp[St.args]at h
 | [],_::_,_,h=>by simp[St.args]at h
 | .c _ _::_,[],_,h=>by simp[St.args]at h
 | .fn _ _::_,[],_,h=>by simp[St.args]at h
 | .io _ _::_,[],_,h=>by simp[St.args]at h
 | .mv _::_,[],_,h=>by simp[St.args]at h
theorem Ext.side(x:Ext st ay){c o:Operand}{want:Bool}{y:(k:K)×T k}(h:st.side c want o=some y):ay.side c want o=some y:=by
 unfold St.side at h ⊢;cases hg:st.get o with
 | none=>simp[hg]at h
 | some tv=>
   rw[hg]at h;rw[x.get hg];split at h
   . rename_i av hh;cases hf:av.bV with
     | false=>simp[hf]at h
     | true=>simp only[hf,oT]at h ⊢;exact x.read h
   . rename_i t w' y' av t' hh;cases hb:Nat.beq t t'&&cw w' want&&av.bV with
     | false=>simp[hb]at h
     | true=>simp only[hb,oT]at h ⊢;exact x.read h
   . simp at h
end
def Nk(gg:Bool)(v:Value)(cs:List Value):Prop:=match gg with | true=>v= .agg cs.toArray | false=>cs=[v]
def ROv(Z:Nat->Prop)(w:World)(gg:Bool)(ks:List K)(x:Tl ks)(v:Value):Prop:=
 ∃ cs:List Value,Nk gg v cs/\tT Z w ks x cs
def PJ(Z:Nat->Prop)(w:World):(cs:List (Bool×List K))->CT cs->List Value->Prop
 | [],_,[]=>True
 | (gg,ks)::cs,x,v::vs=>ROv Z w gg ks x.1 v/\PJ Z w cs x.2 vs
 | _,_,_=>False
def bb(fresh:Bool)(Z:Nat->Prop)(w:World)(H:Nat->Nat->Prop):(ks:List K)->Tl ks->List Value->Nat->Prop
 | [],_,[],_=>True
 | .sl e bZ::ks,x,v::vs,j=>(match fresh with | true=>dG w (.sl e bZ) x.1 v (H j) | false=>RO Z w (.sl e bZ) x.1 v)/\bb fresh Z w H ks x.2 vs (bif fresh then j+1 else j)
 | .int k::ks,x,v::vs,j=>RO Z w (.int k) x.1 v/\bb fresh Z w H ks x.2 vs j
 | .bool::ks,x,v::vs,j=>RO Z w .bool x.1 v/\bb fresh Z w H ks x.2 vs j
 | .str::ks,x,v::vs,j=>RO Z w .str x.1 v/\bb fresh Z w H ks x.2 vs j
 | _,_,_,_=>False
def ROp(Z:Nat->Prop)(w:World)(ks:List K)(x:Tl ks)(v:Value):Prop:=∃ b o,v= .pointer (some ⟨b,o,none⟩)/\Z b/\b<w.heap.size/\rR Z w ks x b o
def RH(Z:Nat->Prop)(w:World):(cs:List Xv)->UY cs->List Value->Prop
 | [],_,[]=>True
 | .c gg ks::cs,x,v::vs=>ROv Z w gg ks x.1 v/\RH Z w cs x.2 vs
 | .p ks::cs,x,v::vs=>ROp Z w ks x.1 v/\RH Z w cs x.2 vs
 | _,_,_=>False
def yk(Z:Nat->Prop)(w:World)(F:Nat->Nat->Prop):(cs:List (Bool×K))->BT cs->List Value->Nat->Prop
 | [],_,[],_=>True
 | (true,k)::cs,x,v::vs,n=>dG w k x.1 v (F n)/\yk Z w F cs x.2 vs (n+1)
 | (false,k)::cs,x,v::vs,n=>RO Z w k x.1 v/\yk Z w F cs x.2 vs (n+1)
 | _,_,_,_=>False
def XA(Z:Nat->Prop)(w:World)(F:Nat->Nat->Prop)(cs:List (Bool×K))(x:BT cs)(v:Value)(n:Nat):Prop:=
 ∃ b vs e fr,v= .pointer (some ⟨b,0,none⟩)/\w.heap[b]? = some (.cells vs e fr)/\(∀ q,q<vs.size->¬ (fr.1<=q/\q<fr.2))/\F n b/\yk Z w F cs x vs.toList (n+1)
def ej(Z:Nat->Prop)(w:World)(F:Nat->Nat->Prop):(ps:List PK)->PT ps->List Value->Nat->Prop
 | [],_,[],_=>True
 | .c gg ks::ps,x,v::vs,n=>ROv Z w gg ks x.1 v/\ej Z w F ps x.2 vs n
 | .pt ks::ps,x,v::vs,n=>ROp Z w ks x.1 v/\ej Z w F ps x.2 vs n
 | .nil::ps,x,v::vs,n=>v= .slice none 0 0/\ej Z w F ps x vs n
 | .fn f cR::ps,x,v::vs,n=>(∃ cs:Array Value,v= .func (.func f) #[] cs/\RH Z w cR x.1 cs.toList)/\ej Z w F ps x.2 vs n
 | .io gg ks::ps,x,v::vs,n=>(∃ cs:List Value,Nk gg v cs/\bb true Z w F ks x.1 cs n)/\ej Z w F ps x.2 vs (n+bU ks)
 | .mv k::ps,x,v::vs,n=>dG w k x.1 v (F n)/\ej Z w F ps x.2 vs (n+1)
 | .pw cs::ps,x,v::vs,n=>XA Z w F cs x.1 v n/\ej Z w F ps x.2 vs (n+(cs.length+1))
 | _,_,_,_=>False
def xm(Z:Nat->Prop)(w:World)(G:Nat->Nat->Prop):(ps:List PK)->uy ps->List Value->Nat->Prop
 | [],_,_,_=>True
 | .io gg ks::ps,y,v::vs,n=>(∃ cs:List Value,Nk gg v cs/\bb true Z w G ks y.1 cs n)/\xm Z w G ps y.2 vs (n+bU ks)
 | .c _ _::ps,y,_::vs,n=>xm Z w G ps y vs n
 | .pt _::ps,y,_::vs,n=>xm Z w G ps y vs n
 | .nil::ps,y,_::vs,n=>xm Z w G ps y vs n
 | .fn _ _::ps,y,_::vs,n=>xm Z w G ps y vs n
 | .mv _::ps,y,_::vs,n=>xm Z w G ps y vs (n+1)
 | .pw cs::ps,y,v::vs,n=>XA Z w G cs y.1 v n/\xm Z w G ps y.2 vs (n+(cs.length+1))
 | _::_,_,[],_=>False
def mT(fresh:Bool)(Z:Nat->Prop)(w:World)(H:Nat->Nat->Prop):(rs:List (Bool×List K))->CT rs->List Value->Nat->Prop
 | [],_,[],_=>True
 | (gg,ks)::rs,x,v::vs,j=>(∃ cs:List Value,Nk gg v cs/\bb fresh Z w H ks x.1 cs j)/\mT fresh Z w H rs x.2 vs (bif fresh then j+bU ks else j)
 | _,_,_,_=>False
def A2:List Value->Value
 | [v]=>v
 | vs=> .tuple vs.toArray
def EI(P:Program)(R:Value->World->Prop):Result Next->Prop
 | .ok (.value v) w'=>R v w'
 | .ok (.enter f args) w'=>Calls P f args w' fun | .returned v,w''=>R v w'' | _,_=>False
 | _=>False
theorem EI.mono{P:Program}{R R':Value->World->Prop}{r:Result Next}(h:EI P R r)(hR:∀ v w,R v w->R' v w):EI P R' r:=by
 unfold EI at h ⊢;split at h
 . exact hR _ _ h
 . exact Calls.mono h fun e w' he=>by cases e <;> first | exact hR _ _ he | exact he
 . exact h.elim
def bt0:(cs:List (Bool×K))->BT cs
 | []=>()
 | p::cs=>(dfl p.2,bt0 cs)
def U0:(ps:List PK)->uy ps
 | []=>()
 | .io _ ks::ps=>(jv ks,U0 ps)
 | .c _ _::ps=>U0 ps
 | .pt _::ps=>U0 ps
 | .nil::ps=>U0 ps
 | .fn _ _::ps=>U0 ps
 | .mv _::ps=>U0 ps
 | .pw cs::ps=>(bt0 cs,U0 ps)
def Su.v7(s:Su)(x:PT s.ps):Option (uy s.ps×CT s.rs):=match s.f with
 | .inl f=>f x
 | .inr g=>some (U0 s.ps,g x)
structure CK (w w':World) (F:Nat->Nat->Prop) (Z Z':Nat->Prop) (H:Nat->Nat->Prop):Prop where
 os:w'.os=w.os
 tape:w'.tape=w.tape
 output:w'.output=w.output
 size:w.heap.size<=w'.heap.size
 block:∀ b,b<w.heap.size->(∀ i,¬ F i b)->w'.heap[b]? = w.heap[b]?
 z:∀ b,Z b->Z' b
 cq:∀ b,Z' b->b<w'.heap.size/\(Z b∨w.heap.size<=b)
 fp:∀ n b,H n b->b<w'.heap.size/\¬ Z' b/\((∃ i,F i b)∨w.heap.size<=b)
 cS:∀ n m b,H n b->H m b->n=m
def lV(P:Program)(f:Nat)(s:Su):Prop:=
 ∀(w:World) (Z:Nat->Prop) (F:Nat->Nat->Prop) (args:Array Value) (x:PT s.ps) (y:uy s.ps×CT s.rs),
  Gl P w Z->ej Z w F s.ps x args.toList 0->(∀ b,Z b->b<w.heap.size)->(∀ i b,F i b->b<w.heap.size/\¬ Z b)->(∀ i j b,F i b->F j b->i=j)->s.v7 x=some y ->
  EI P (fun v w'=>∃(Z':Nat->Prop) (H:Nat->Nat->Prop) (vs:List Value),v=A2 vs/\CK w w' F Z Z' H/\xm Z' w' (fun i=>H (2 * i)) s.ps y.1 args.toList 0/\mT s.fresh Z' w' (fun j=>H (2 * j+1)) s.rs y.2 vs 0)
   ((callFunc f args).run P w)
def Je(P:Program)(f:Nat)(s:Sc):Prop:=
 ∀(w:World) (Z:Nat->Prop) (v:Value) (x:List (Tl s.ks)),
  Gl P w Z->RO Z w (.sl s.e s.ks) x v->(∀ b,Z b->b<w.heap.size)->x.length * s.HV<=bQ ->
  EI P (fun v w'=>∃(Z':Nat->Prop) (H:Nat->Nat->Prop),CK w w' (fun _ _=>False) Z Z' H/\Sh Z' (H 0) w' s.ks x v) ((callFunc f #[v]).run P w)
def dQ(P:Program)(E:En):Prop:=(∀ f s,s∈E.ga f->lV P f s)/\∀ f s,E.gc f=some s->Je P f s
section
variable{P:Program}{cx:Cx P}{Z:Nat->Prop}{g:Gh}{st:St}{a:Act}{w:World}{E:En}
def gB(Z:Nat->Prop)(g:Gh)(st:St)(w:World):List TV->List Value->Prop
 | [],[]=>True
 | t::l,v::vs=>bW Z g st w t v/\gB Z g st w l vs
 | _,_=>False
theorem gB.app:∀ {l l':List TV} {vs vs':List Value},gB Z g st w l vs->gB Z g st w l' vs'->gB Z g st w (l++l') (vs++vs')
 | [],_,[],_,_,h=>h
 | _::_,_,_::_,_,h,h'=>⟨h.1,gB.app h.2 h'⟩
 | [],_,_::_,_,h,_=>h.elim
 | _::_,_,[],_,h,_=>h.elim
theorem jT(h:Rel cx Z g st a w)(hc:Cons st):∀(os:List Operand) (l:List TV),st.getAll os=some l->gB Z g st w l (os.map a.eval)
 | [],l,h1=>by simp[St.getAll]at h1;subst h1;trivial
 | o::os,l,h1=>by
   simp only[St.getAll]at h1;split at h1
   . rename_i x r hx hr;simp only[amh]at h1;subst h1;exact⟨bg h hc hx,jT h hc os r hr⟩
   . simp at h1
theorem lX:∀(l:List (Bool×List AV)) (vs:List Value),iK Z g st w l vs->gB Z g st w (l.map fun p=>bif p.1 then .agg p.2 else (match p.2 with | [a]=> .v a | _=> .agg p.2)) vs
 | [],[],_=>trivial
 | (true,l)::r,v::vs,h=>⟨h.1,lX r vs h.2⟩
 | (false,[x])::r,v::vs,h=>⟨h.1,lX r vs h.2⟩
 | (false,[])::r,v::vs,h=>h.1.elim
 | (false,_::_::_)::r,v::vs,h=>h.1.elim
 | [],_::_,h=>h.elim
 | _::_,[],h=>h.elim
theorem iD{gg:Bool}{l:List AV}{v:Value}(h:vw Z g st w (gg,l) v):∃ cs:List Value,Nk gg v cs/\a8 Z g st w l cs:=by
 match gg,l,h with
 | true,l,⟨vs,e,h⟩=>exact⟨vs.toList,by simpa[Nk]using e,h⟩
 | false,[a],h=>exact⟨[v],rfl,h,trivial⟩
theorem tT.cq{Z':Nat->Prop}(hz:∀ b,Z b->b<w.heap.size->Z' b):∀(ks:List K) (x:Tl ks) (vs:List Value),tT Z w ks x vs->tT Z' w ks x vs
 | [],_,[],_=>trivial
 | k::ks,x,v::vs,h=>⟨h.1.cq hz,tT.cq hz ks x.2 vs h.2⟩
 | [],_,_::_,h=>h.elim
 | _::_,_,[],h=>h.elim
theorem PJ.cq{Z':Nat->Prop}(hz:∀ b,Z b->b<w.heap.size->Z' b):∀(cs:List (Bool×List K)) (x:CT cs) (vs:List Value),PJ Z w cs x vs->PJ Z' w cs x vs
 | [],_,[],_=>trivial
 | (gg,ks)::cs,x,v::vs,⟨⟨us,e,h⟩,h'⟩=>⟨⟨us,e,tT.cq hz ks x.1 us h⟩,PJ.cq hz cs x.2 vs h'⟩
 | [],_,_::_,h=>h.elim
 | _::_,_,[],h=>h.elim
theorem Tm{Z':Nat->Prop}(hz:∀ b,Z b->b<w.heap.size->Z' b):∀(ks:List K) (x:Tl ks) (us:List Value) (b o:Nat),tT Z w ks x us->(∀(j:Nat) (u:Value),us[j]? = some u->w.cell? ⟨b,o+j,none⟩=some u)->rR Z' w ks x b o
 | [],_,_,_,_,_,_=>trivial
 | k::ks,x,u::us,b,o,h,hc=>⟨⟨u,hc 0 u rfl,RO.mono (oR _) (fun b hb aV=>⟨hz b hb aV,rfl⟩) k _ u h.1⟩,Tm hz ks x.2 us b (o+1) h.2 fun j u hj=>by rw[show o+1+j=o+(j+1)by omega];exact hc (j+1) u (by simpa using hj)⟩
 | _::_,_,[],_,_,h,_=>h.elim
theorem LG(h:Rel cx Z g st a w){r:Nat}:∀(l:List RC) (i:Nat),(∀(j:Nat) (c:RC),l[j]? = some c->st.cell r (i+j)=some c)->l.all oZ=true->a8 Z g st w (l.map wT) ((List.range l.length).map fun j=>g.cv r (i+j))
 | [],_,_,_=>trivial
 | c::l,i,hc,hf=>by
   simp only[anc,ami]at hf;simp only[amw,List.range_succ_eq_map,amS,List.map_map];refine⟨?_,?_⟩
   . have:=h.cell r i c (by have:=hc 0 c rfl;rwa [amN]at this);obtain⟨s,m,v⟩:=c;cases v with
     | own k x=>simp[oZ]at hf
     | av x=>exact this
   . have:=LG h l (i+1) (fun j c hj=>by rw[show i+1+j=i+(j+1)by omega];exact hc (j+1) c (by simpa using hj)) hf.2;have e:((List.range l.length).map ((fun j=>g.cv r (i+j)) ∘ Nat.succ))=(List.range l.length).map fun j=>g.cv r (i+1+j):=by
      apply List.map_congr_left;intro j _;show g.cv r (i+(j+1))=_;rw[show i+(j+1)=i+1+j by omega]
     rw[e];exact this
theorem GA(h:Rel cx Z g st a w){box:Bool}{Z':Nat->Prop}(hz:∀ b,Z b->b<w.heap.size->Z' b)(hb:box=true->∀ r R,look st.rt r=some R->R.box=true->Z' (g.be r)){ks:List K}{av:AV}{v:Value}{x:Tl ks}(hr:bC Z g st w av v)(hx:st.kz box ks av=some x):ROp Z' w ks x v:=by
 cases av with
 | rp dep e bZ xs i c=>
   cases dep with
   | some _=>simp[St.kz]at hx
   | none=>
     cases c with
     | succ c=>simp[St.kz]at hx
     | zero=>
       simp only[St.kz]at hx;obtain⟨e,hx⟩:=xI hx;subst e;subst hx;obtain⟨h0,b,o,h1,h2,h3,h4⟩:=hr;refine⟨b,o+i * bZ.length,by rw[h3,amN],hz b h1 h2,h2,?_⟩;have lF:xs[i]? = some (xs.getD i (jv bZ)):=by simp[List.getD,amm h0]
       exact rR.mono (oR _) (fun b hb aV=>⟨hz b hb aV,rfl⟩) bZ _ b _ rfl (h4 i _ lF)
 | ptr r j=>
   cases j with
   | succ j=>simp[St.kz]at hx
   | zero=>
     simp only[St.kz]at hx;cases nP:box with
     | false=>rw[nP]at hx;simp at hx
     | true=>
       rw[nP]at hx;simp only[oT]at hx;cases hl:look st.rt r with
       | none=>rw[hl]at hx;simp at hx
       | some R=>
         rw[hl]at hx;simp only at hx;cases hf:R.box&&R.cells.all oZ with
         | false=>rw[hf]at hx;simp at hx
         | true=>
           rw[hf]at hx;simp only[oT]at hx;simp only[ami]at hf;obtain⟨R0,e1,_,e3⟩:=hr;obtain⟨_,_,_,_,cs,el,fr,b5,_,b7,b8⟩:=h.box r R hl hf.1;have aV:g.be r<w.heap.size:=by
            rcases amz (g.be r) w.heap.size with hh | hh
            . exact hh
            . simp[amC hh]at b5
           have h1:=LG h (r:=r) R.cells 0 (fun j c hj=>by simp only[St.cell,hl,amt];exact hj) hf.2;have h2:=dH h ks _ _ x h1 (by rw[List.all_map];refine amB.2 fun c hc=>?_;have:=amB.1 hf.2 c hc;obtain⟨s,m,v⟩:=c;cases v with | own k x=>simp[oZ]at this | av x=>exact this) hx;refine⟨g.be r,0,e3,hb nP r R hl hf.1,aV,Tm hz ks x _ _ 0 h2 fun j u hj=>?_⟩;simp only[amX,amt]at hj;rcases amz j R.cells.length with nQ | nQ
           . rw[List.getElem?_range nQ]at hj;simp only[amI,amh]at hj;subst hj;rw[amt];simp only[World.cell?,b5,anD,am1,anz];exact b8 j (by omega)
           . rw[amA (by simpa using nQ)]at hj;simp at hj
 | _=>simp[St.kz]at hx
theorem mZ(h:Rel cx Z g st a w){box:Bool}{Z':Nat->Prop}(hz:∀ b,Z b->b<w.heap.size->Z' b)(hb:box=true->∀ r R,look st.rt r=some R->R.box=true->Z' (g.be r)):∀(cs:List Xv) (l:List (Bool×List AV)) (vs:List Value) (x:UY cs),iK Z g st w l vs->st.bR box cs l=some x->RH Z' w cs x vs
 | [],[],[],_,_,_=>trivial
 | [],[],_::_,_,h1,_=>h1.elim
 | .c gg ks::cs,(BY,l)::r,v::vs,x,h1,h2=>by
   unfold St.bR at h2;cases Dq:cw gg BY&&l.all AV.bV with
   | false=>simp[Dq]at h2
   | true=>
     simp only[Dq,oT]at h2;simp only[ami]at Dq;have hg:=eL Dq.1;subst hg;split at h2
     . rename_i z zs yO mR;cases h2;obtain⟨us,e1,e2⟩:=iD h1.1;exact⟨⟨us,e1,tT.cq hz ks z us (dH h ks l us z e2 Dq.2 yO)⟩,mZ h hz hb cs r vs zs h1.2 mR⟩
     . simp at h2
 | .p ks::cs,(false,[av])::r,v::vs,x,h1,h2=>by
   unfold St.bR at h2;split at h2
   . rename_i z zs yO mR;cases h2;exact⟨GA h hz hb h1.1 yO,mZ h hz hb cs r vs zs h1.2 mR⟩
   . simp at h2
 | .p ks::cs,(true,_)::r,_,_,_,h=>by simp[St.bR]at h
 | .p ks::cs,(false,[])::r,_,_,_,h=>by simp[St.bR]at h
 | .p ks::cs,(false,_::_::_)::r,_,_,_,h=>by simp[St.bR]at h
 | .c _ _::_,_::_,[],_,h1,_=>h1.elim
 | .p _::_,(false,[_])::_,[],_,h1,_=>h1.elim
 | [],_::_,_,_,_,h2=>by simp[St.bR]at h2
 | .c _ _::_,[],_,_,_,h2=>by simp[St.bR]at h2
 | .p _::_,[],_,_,_,h2=>by simp[St.bR]at h2
theorem xe{tv:TV}{v:Value}(h:bW Z g st w tv v)(hb:fX tv=true):v= .slice none 0 0:=by
 cases tv with
 | v a=>
   cases a with
   | nil=>exact h
   | _=>simp[fX]at hb
 | _=>simp[fX]at hb
theorem Hl(h:Rel cx Z g st a w){bV:Bool}{Z':Nat->Prop}(uu:bV=false->Z'=iR w):(!bV)=true->∀ r R,look st.rt r=some R->R.box=true->Z' (g.be r):=fun hf r R hR hb=>by
 rw[uu (by simpa using hf)];obtain⟨_,_,_,_,cs,el,fr,b5,_⟩:=h.box r R hR hb;show g.be r<w.heap.size;rcases amz (g.be r) w.heap.size with hh | hh
 . exact hh
 . simp[amC hh]at b5
theorem uC(h:Rel cx Z g st a w)(bV:Bool){Z':Nat->Prop}(hz:∀ b,Z b->b<w.heap.size->Z' b)(uu:bV=false->Z'=iR w){F:Nat->Nat->Prop}:∀(ps:List PK) (l:List TV) (vs:List Value) (x:PT ps) (i:Nat),gB Z g st w l vs->st.args bV ps l=some x->ej Z' w F ps x vs i
 | [],[],[],_,_,_,_=>trivial
 | [],[],_::_,_,_,h1,_=>h1.elim
 | .c gg ks::ps,tv::r,v::vs,x,i,h1,h2=>by
   unfold St.args at h2;cases hl:tv.dw with
   | none=>simp[hl]at h2
   | some p=>
     obtain⟨BY,l⟩:=p;simp only[hl]at h2;cases hb:cw gg BY&&(!bV||l.all AV.bV)with
     | false=>simp[hb]at h2
     | true=>
       simp only[hb,oT]at h2;simp only[ami]at hb;have hg:=eL hb.1;subst hg;split at h2
       . rename_i z zs yO mR;cases h2;obtain⟨us,e1,e2⟩:=iD (lS h1.1 hl);refine⟨⟨us,e1,?_⟩,uC h bV hz uu ps r vs zs i h1.2 mR⟩;cases bV with
         | false=>rw[uu rfl];exact Bt h ks l us z e2 yO
         | true=>exact tT.cq hz _ _ _ (dH h ks l us z e2 (by simpa using hb.2) yO)
       . simp at h2
 | .fn f cs::ps,tv::r,v::vs,x,i,h1,h2=>by
   cases tv with
   | fn f' cR=>
     unfold St.args at h2;cases hb:Nat.beq f f' with
     | false=>simp[hb]at h2
     | true=>
       simp only[hb,oT]at h2;have hf:=beq_eq hb;subst hf;split at h2
       . rename_i z zs yO mR;cases h2;obtain⟨us,e1,e2⟩:=h1.1;exact⟨⟨us,e1,mZ h hz (Hl h uu) cs cR us.toList z e2 yO⟩,uC h bV hz uu ps r vs zs i h1.2 mR⟩
       . simp at h2
   | _=>simp[St.args]at h2
 | .c _ _::_,_::_,[],_,_,h1,_=>h1.elim
 | .fn _ _::_,_::_,[],_,_,h1,_=>h1.elim
 | .pt ks::ps,.v av::r,v::vs,x,i,h1,h2=>by
   unfold St.args at h2;split at h2
   . rename_i z zs yO mR;cases h2;exact⟨GA h hz (Hl h uu) h1.1 yO,uC h bV hz uu ps r vs zs i h1.2 mR⟩
   . simp at h2
 | .nil::ps,tv::r,v::vs,x,i,h1,h2=>by
   have h2:(bif fX tv then st.args bV ps r else (none:Option (PT ps)))=some (x:PT ps):=h2;cases hb:fX tv with
   | false=>rw[hb]at h2;simp at h2
   | true=>rw[hb]at h2;exact⟨xe h1.1 hb,uC h bV hz uu ps r vs x i h1.2 h2⟩
 | .nil::ps,_::r,[],_,_,h1,_=>h1.elim
 | .nil::ps,[],_,_,_,_,h2=>by simp[St.args]at h2
 | .pt ks::ps,.may _ _ _ _ _::r,_,_,_,_,h2=>by simp[St.args]at h2
 | .pt ks::ps,.agg _::r,_,_,_,_,h2=>by simp[St.args]at h2
 | .pt ks::ps,.tup _::r,_,_,_,_,h2=>by simp[St.args]at h2
 | .pt ks::ps,.fn _ _::r,_,_,_,_,h2=>by simp[St.args]at h2
 | .pt _::_,.v _::_,[],_,_,h1,_=>h1.elim
 | .pt _::_,[],_,_,_,_,h2=>by simp[St.args]at h2
 | .io _ _::_,_::_,_,_,_,_,h2=>by simp[St.args]at h2
 | .mv _::_,_::_,_,_,_,_,h2=>by simp[St.args]at h2
 | [],_::_,_,_,_,_,h2=>by simp[St.args]at h2
 | .c _ _::_,[],_,_,_,_,h2=>by simp[St.args]at h2
 | .fn _ _::_,[],_,_,_,_,h2=>by simp[St.args]at h2
 | .io _ _::_,[],_,_,_,_,h2=>by simp[St.args]at h2
 | .mv _::_,[],_,_,_,_,h2=>by simp[St.args]at h2
end
def cellsOf:Bool->Value->List Value
 | true,.agg vs=>vs.toList
 | _,v=>[v]
theorem Nk.eq{gg:Bool}{v:Value}{cs:List Value}(h:Nk gg v cs):cellsOf gg v=cs:=by
 cases gg with
 | true=>have h:v= .agg cs.toArray:=h;subst h;simp[cellsOf]
 | false=>have h:cs=[v]:=h;subst h;cases v <;> rfl
def nJ:List K->List Value->List Value
 | .sl _ _::ks,v::vs=>v::nJ ks vs
 | .int _::ks,_::vs=>nJ ks vs
 | .bool::ks,_::vs=>nJ ks vs
 | .str::ks,_::vs=>nJ ks vs
 | _,_=>[]
def vE:List (Bool×List K)->List Value->List Value
 | (gg,ks)::rs,v::vs=>nJ ks (cellsOf gg v)++vE rs vs
 | _,_=>[]
theorem fM:∀(ks:List K) (x:Tl ks),(mB ks x).length=bU ks
 | [],_=>rfl
 | .sl _ _::ks,x=>amP (· + 1) (fM ks x.2)
 | .int _::ks,x=>fM ks x.2
 | .bool::ks,x=>fM ks x.2
 | .str::ks,x=>fM ks x.2
section
variable{Z:Nat->Prop}{g:Gh}{st:St}{w:World}
theorem gy{H:Nat->Nat->Prop}:∀(ks:List K) (x:Tl ks) (cs:List Value) (j:Nat),bb true Z w H ks x cs j->(nJ ks cs).length=bU ks /\
 ∀(i:Nat) (c:RC),(mB ks x)[i]? = some c->∃(e:TypeId) (bZ:List K) (y:T (.sl e bZ)) (v:Value),c=⟨0,0,.own (.sl e bZ) y⟩/\(nJ ks cs)[i]? = some v/\dG w (.sl e bZ) y v (H (j+i))
 | [],_,[],_,_=>⟨rfl,fun i c h=>by simp[mB]at h⟩
 | .sl e bZ::ks,x,v::vs,j,h=>by
   obtain⟨h1,h2⟩:=gy ks x.2 vs (j+1) h.2;refine⟨amP (· + 1) h1,fun i c hi=>?_⟩;cases i with
   | zero=>simp only[mB,amn,amh]at hi;exact⟨e,bZ,x.1,v,hi.symm,rfl,h.1⟩
   | succ i=>simp only[mB,am7]at hi;obtain⟨e',k',y,u,g1,g2,g3⟩:=h2 i c hi;exact⟨e',k',y,u,g1,g2,by rw[show j+(i+1)=j+1+i by omega];exact g3⟩
 | .int _::ks,x,v::vs,j,h=>gy ks x.2 vs j h.2
 | .bool::ks,x,v::vs,j,h=>gy ks x.2 vs j h.2
 | .str::ks,x,v::vs,j,h=>gy ks x.2 vs j h.2
 | [],_,_::_,_,h=>h.elim
 | .sl _ _::_,_,[],_,h=>h.elim
 | .int _::_,_,[],_,h=>h.elim
 | .bool::_,_,[],_,h=>h.elim
 | .str::_,_,[],_,h=>h.elim
theorem mr{H:Nat->Nat->Prop}:∀(rs:List (Bool×List K)) (y:CT rs) (vs:List Value) (j:Nat),mT true Z w H rs y vs j ->
 ∀(i:Nat) (c:RC),(cO rs y)[i]? = some c->∃(e:TypeId) (bZ:List K) (y:T (.sl e bZ)) (v:Value),c=⟨0,0,.own (.sl e bZ) y⟩/\(vE rs vs)[i]? = some v/\dG w (.sl e bZ) y v (H (j+i))
 | [],_,_,_,_,i,c,h=>by simp[cO]at h
 | (gg,ks)::rs,y,v::vs,j,h,i,c,hi=>by
   obtain⟨⟨cs,e1,e2⟩,h3⟩:=h;obtain⟨h1,h2⟩:=gy ks y.1 cs j e2;have hl:=fM ks y.1;simp only[cO]at hi;simp only[vE,e1.eq];rcases amz i (bU ks)with aV | Mh
   . rw[am0 (by omega)]at hi;obtain⟨e,k',z,u,g1,g2,g3⟩:=h2 i c hi;exact⟨e,k',z,u,g1,by rw[am0 (by omega)];exact g2,g3⟩
   . rw[amY (by omega),hl]at hi;obtain⟨e,k',z,u,g1,g2,g3⟩:=mr rs y.2 vs (j+bU ks) h3 (i-bU ks) c hi;exact⟨e,k',z,u,g1,by rw[amY (by omega),h1];exact g2,by rw[show j+i=j+bU ks+(i-bU ks)by omega];exact g3⟩
 | _::_,_,[],_,h,_,_,_=>h.elim
theorem iA{Z':Nat->Prop}{H:Nat->Nat->Prop}{d:Nat}:∀(ks:List K) (x:Tl ks) (cs:List Value) (j:Nat),bb true Z w H ks x cs j ->
 (∀(i:Nat) (c:RC),(mB ks x)[i]? = some c->st.cell d (j+i)=some c)->(∀(i:Nat) (v:Value),(nJ ks cs)[i]? = some v->g.cv d (j+i)=v)->a8 Z' g st w (fZ d true ks x j) cs
 | [],_,[],_,_,_,_=>trivial
 | .sl e bZ::ks,x,v::vs,j,h,h1,h2=>by
   refine⟨⟨_,h1 0 _ rfl,oR _,fun _=>(h2 0 v rfl).symm⟩,iA ks x.2 vs (j+1) h.2 (fun i c hi=>?_) (fun i u hi=>?_)⟩
   . rw[show j+1+i=j+(i+1)by omega];exact h1 (i+1) c hi
   . rw[show j+1+i=j+(i+1)by omega];exact h2 (i+1) u hi
 | .int _::ks,x,v::vs,j,h,h1,h2=>⟨gL (Z':=Z') rfl h.1,iA ks x.2 vs j h.2 h1 h2⟩
 | .bool::ks,x,v::vs,j,h,h1,h2=>⟨gL (Z':=Z') (k:= .bool) rfl h.1,iA ks x.2 vs j h.2 h1 h2⟩
 | .str::ks,x,v::vs,j,h,h1,h2=>⟨gL (Z':=Z') (k:= .str) rfl h.1,iA ks x.2 vs j h.2 h1 h2⟩
 | [],_,_::_,_,h,_,_=>h.elim
 | .sl _ _::_,_,[],_,h,_,_=>h.elim
 | .int _::_,_,[],_,h,_,_=>h.elim
 | .bool::_,_,[],_,h,_,_=>h.elim
 | .str::_,_,[],_,h,_,_=>h.elim
theorem yD{gg:Bool}{l:List AV}{v:Value}{cs:List Value}(h:Nk gg v cs)(hr:a8 Z g st w l cs):vw Z g st w (gg,l) v:=by
 cases gg with
 | true=>exact⟨cs.toArray,h,by simpa using hr⟩
 | false=>
   have h:cs=[v]:=h;subst h
   match l,hr with
   | [a],hr=>exact hr.1
   | [],hr=>exact hr.elim
   | _::_::_,hr=>exact hr.2.elim
theorem vh{Z':Nat->Prop}{H:Nat->Nat->Prop}{d:Nat}:∀(rs:List (Bool×List K)) (y:CT rs) (vs:List Value) (j:Nat),mT true Z w H rs y vs j ->
 (∀(i:Nat) (c:RC),(cO rs y)[i]? = some c->st.cell d (j+i)=some c)->(∀(i:Nat) (v:Value),(vE rs vs)[i]? = some v->g.cv d (j+i)=v)->iK Z' g st w (tC d true rs y j) vs
 | [],_,[],_,_,_,_=>trivial
 | (gg,ks)::rs,y,v::vs,j,h,h1,h2=>by
   obtain⟨⟨cs,e1,e2⟩,h3⟩:=h;obtain⟨l1,_⟩:=gy ks y.1 cs j e2;have hl:=fM ks y.1;refine⟨yD e1 (iA ks y.1 cs j e2 (fun i c hi=>h1 i c ?_) (fun i u hi=>h2 i u ?_)),vh rs y.2 vs (j+bU ks) h3 (fun i c hi=>?_) (fun i u hi=>?_)⟩
   . have:i<bU ks:=by
      rw[<- hl];rcases amz i (mB ks y.1).length with hh | hh
      . exact hh
      . simp[amA hh]at hi
     simp only[cO];rw[am0 (by omega)];exact hi
   . have:i<bU ks:=by
      rw[<- l1];rcases amz i (nJ ks cs).length with hh | hh
      . exact hh
      . simp[amA hh]at hi
     simp only[vE,e1.eq];rw[am0 (by omega)];exact hi
   . rw[show j+bU ks+i=j+(bU ks+i)by omega];refine h1 _ c ?_;simp only[cO];rw[amY (by omega),hl,am6];exact hi
   . rw[show j+bU ks+i=j+(bU ks+i)by omega];refine h2 _ u ?_;simp only[vE,e1.eq];rw[amY (by omega),l1,am6];exact hi
 | [],_,_::_,_,h,_,_=>h.elim
 | _::_,_,[],_,h,_,_=>h.elim
theorem iW{fresh:Bool}{Z':Nat->Prop}{H:Nat->Nat->Prop}{d:Nat}:∀(ks:List K) (x:Tl ks) (cs:List Value) (j:Nat),bb fresh Z w H ks x cs j->(fresh=false->Z'=Z)->(fresh=true->bU ks=0)->a8 Z' g st w (fZ d fresh ks x j) cs
 | [],_,[],_,_,_,_=>trivial
 | .sl e bZ::ks,x,v::vs,j,h,h1,h2=>by
   cases fresh with
   | true=>exact absurd (h2 rfl) (by simp[bU])
   | false=>exact⟨(show RO Z' w (.sl e bZ) x.1 v from h1 rfl ▸ h.1),iW ks x.2 vs j h.2 h1 (fun hh=>by simp at hh)⟩
 | .int _::ks,x,v::vs,j,h,h1,h2=>⟨gL (Z':=Z') rfl h.1,iW ks x.2 vs j h.2 h1 h2⟩
 | .bool::ks,x,v::vs,j,h,h1,h2=>⟨gL (Z':=Z') (k:= .bool) rfl h.1,iW ks x.2 vs j h.2 h1 h2⟩
 | .str::ks,x,v::vs,j,h,h1,h2=>⟨gL (Z':=Z') (k:= .str) rfl h.1,iW ks x.2 vs j h.2 h1 h2⟩
 | [],_,_::_,_,h,_,_=>h.elim
 | .sl _ _::_,_,[],_,h,_,_=>h.elim
 | .int _::_,_,[],_,h,_,_=>h.elim
 | .bool::_,_,[],_,h,_,_=>h.elim
 | .str::_,_,[],_,h,_,_=>h.elim
theorem lY{fresh:Bool}{Z':Nat->Prop}{H:Nat->Nat->Prop}{d:Nat}:∀(rs:List (Bool×List K)) (y:CT rs) (vs:List Value) (j:Nat),mT fresh Z w H rs y vs j->(fresh=false->Z'=Z)->(fresh=true->lJ rs=false)->iK Z' g st w (tC d fresh rs y j) vs
 | [],_,[],_,_,_,_=>trivial
 | (gg,ks)::rs,y,v::vs,j,h,h1,h2=>by
   obtain⟨⟨cs,e1,e2⟩,h3⟩:=h;have h4:fresh=true->bU ks=0/\lJ rs=false:=fun hf=>by have:=h2 hf;simp only[lJ,an3,apa]at this;exact⟨beq_eq this.1,this.2⟩
   exact⟨yD e1 (iW ks y.1 cs j e2 h1 fun hf=>(h4 hf).1),lY rs y.2 vs _ h3 h1 fun hf=>(h4 hf).2⟩
 | [],_,_::_,_,h,_,_=>h.elim
 | _::_,_,[],_,h,_,_=>h.elim
theorem gq{l:List (Bool×List AV)}{vs:List Value}{tv:TV}(h:iK Z g st w l vs)(hw:js l=some tv):bW Z g st w tv (A2 vs):=by
 match l,vs,h,hw with
 | [(true,l)],[v],h,hw=>simp only[js,amh]at hw;subst hw;exact h.1
 | [(false,[a])],[v],h,hw=>simp only[js,amh]at hw;subst hw;exact h.1
 | [(false,[])],[v],h,hw=>simp[js]at hw
 | [(false,_::_::_)],[v],h,hw=>simp[js]at hw
 | [],[],h,hw=>simp only[js,amh]at hw;subst hw;exact⟨#[],rfl,trivial⟩
 | p::q::r,u::v::vs,h,hw=>
   have hw:some (TV.tup (p::q::r))=some tv:=by rw[<- hw];obtain⟨b,l⟩:=p;cases b <;> (try cases l) <;> first | rfl | (rename_i _ l;cases l <;> rfl)
   simp only[amh]at hw;subst hw;exact⟨(u::v::vs).toArray,rfl,by simpa using h⟩
 | [],_::_,h,_=>exact h.elim
 | [_],[],h,_=>exact h.elim
 | [_],_::_::_,h,_=>exact h.2.elim
 | _::_::_,[],h,_=>exact h.elim
 | _::_::_,[_],h,_=>exact h.2.elim
end
section
variable{P:Program}{cx:Cx P}{Z:Nat->Prop}{g:Gh}{st:St}{a:Act}{w:World}{E:En}
theorem uR{o:Oper}{next:Act->World->Prop}{Q:Exit->Act->World->Prop}{r:Result Next}{R:Value->World->Prop}(h:EI P R r)(hR:∀ v w',R v w'->next (a.put o.dst v) w'):o.upon P a next Q r:=by
 unfold EI at h;split at h
 . exact hR _ _ h
 . exact Calls.mono h fun e w' he=>by cases e <;> first | exact hR _ _ he | exact he.elim
 . exact h.elim
theorem qf{o:Oper}{c:Call}{f:Operand}{gid:Nat}{vs:Array Value}(ho:o.op= .call c)(fe:c.callee= .value f)(hv:a.eval f= .func (.func gid) #[] vs) :
 (execOp a.eval o).run P w=(callFunc gid (c.args.map a.eval++vs)).run P w:=by
 simp only[execOp,ho,resolve,fe,Deferred.ofValue,hv,amJ,amR,amu,invoke,Array.empty_append]
theorem adC(eF:dQ P E)(h:Rel cx Z g st a w)(hc:Cons st){o:Oper}{d:Nat}(hd:o.dst=some d)(cE:kR cx a d)(hf:st.free d=true){c:Call}{f:Operand}{gid:Nat}{cR:List (Bool×List AV)}{l:List TV}{s:Su}{x:PT s.ps}{z:uy s.ps}{y:CT s.rs}{p:TV×Option Rt}
 (ho:o.op= .call c)(fe:c.callee= .value f)(hg:st.get f=some (.fn gid cR))(hl:st.getAll c.args.toList=some l)(hs:s∈E.ga gid)
 (hx:st.args (!s.fresh) s.ps (l++cR.map fun p=>bif p.1 then .agg p.2 else (match p.2 with | [a]=> .v a | _=> .agg p.2))=some x)(hy:s.v7 x=some (z,y))(hp:fc d s y=some p):ea P cx st a w o d p:=by
 obtain⟨cv,ef,ec⟩:=bg h hc hg;intro next Q hk;unfold Oper.wp;rw[qf ho fe ef];have eQ:=gB.app (jT h hc _ _ hl) (lX _ _ ec);have Pg:c.args.toList.map a.eval++cv.toList=(c.args.map a.eval++cv).toList:=by simp
 rw[Pg]at eQ;obtain⟨Zc,yO,Mi,hz3,hz4⟩:∃ Zc:Nat->Prop,(∀ b,Z b->b<w.heap.size->Zc b)/\((!s.fresh)=false->Zc=iR w)/\(∀ b,Zc b->b<w.heap.size)/\(s.fresh=false->Zc=Z):=by
  cases yP:s.fresh with
  | true=>exact⟨iR w,fun _ _ h=>h,fun _=>rfl,fun _ h=>h,fun h=>by simp at h⟩
  | false=>exact⟨Z,fun _ h _=>h,fun h=>by simp at h,fun b hb=>(h.cq b hb).1,fun _=>rfl⟩
 have cF:=uC h (!s.fresh) yO Mi (F:=fun _ _=>False) s.ps _ _ x 0 eQ hx;have Uf:=eF.1 gid s hs w Zc (fun _ _=>False) _ x (z,y) (h.gl.mono (oR _) fun b hb hl=>⟨yO b hb hl,rfl⟩) cF hz3 (fun _ _ h=>h.elim) (fun _ _ _ h=>h.elim) hy;refine uR Uf ?_;rintro v w' ⟨Z',H,vs,rfl,ha,_,hr⟩;rw[hd];have lE:∀ b,b<w.heap.size->w'.heap[b]? = w.heap[b]? :=fun b hb=>ha.block b hb (fun _ h=>h)
 have nM:∀ n b,H n b->w.heap.size<=b/\b<w'.heap.size:=fun n b hb=>by
  obtain⟨h1,_,h3⟩:=ha.fp n b hb;rcases h3 with ⟨_,h3⟩ | h3
  . exact h3.elim
  . exact⟨h3,h1⟩
 unfold fc at hp;split at hp
 . rename_i tv hw;simp only[amh]at hp;cases hb:s.fresh&&lJ s.rs with
   | false=>
     rw[hb]at hp;subst hp;have hn:s.fresh=true->lJ s.rs=false:=fun hh=>by simpa[hh]using hb
     cases yP:s.fresh with
     | false=>have Uc:=hz4 yP;subst Uc;have Ug:=Rel.DX h ha.os ha.tape ha.output ha.size lE ha.z (fun b hb=>by obtain⟨h1,h2⟩:=ha.cq b hb;exact h2.imp id fun h2=>⟨h2,h1⟩);exact hk _ _ _ _ (Ug.nS cE (gq (lY _ _ _ _ hr (fun _=>rfl) hn) hw))
     | true=>have Ug:=Rel.DX h (Z':=Z) ha.os ha.tape ha.output ha.size lE (fun _ h=>h) (fun b hb=> .inl hb);exact hk _ _ _ _ (Ug.nS cE (gq (lY _ _ _ _ hr (fun hh=>by rw[yP]at hh;simp at hh) hn) hw))
   | true=>
     rw[hb]at hp;subst hp;simp only[ami]at hb;have yP:=hb.1;rw[yP]at hr hw;have mO:∀(i:Nat) (c:RC),(cO s.rs y)[i]? = some c->(st.ba d (tv,some ⟨false,cO s.rs y⟩)).cell d (0+i)=some c:=fun i c hi=>by show(match look ((d,_)::st.rt) d with | some R=>R.cells[0+i]? | none=>none)=_;rw[aN,if_pos rfl,amt];exact hi
     refine hk Z (g.at d 0 (fun j=>(vE s.rs vs).getD j undef) (fun j b=>j<(cO s.rs y).length/\H (2 * j+1) b)) _ _ (Rel.yB h cE hf ?_ ?_)
     . refine { os:=ha.os,tape:=ha.tape,output:=ha.output,size:=ha.size,block:=lE,cq:=fun b hb=> .inl hb,zle:=fun _ h=>h,fp:=?_,cS:=?_,box:=fun hb=>by simp at hb,cell:=?_ }
       . intro j b hb;simp only[Gh.at,if_true]at hb;obtain⟨h1,h2⟩:=nM _ _ hb.2;obtain⟨e,bZ,x',v',g1,g2,g3⟩:=mr _ _ _ _ hr j _ (amm hb.1);exact⟨h1,h2,fun hz=>by have:=(h.cq b hz).1;omega,_,_,x',amm hb.1,by rw[g1]⟩
       . intro j j' b h1 h2;simp only[Gh.at,if_true]at h1 h2;have:=ha.cS _ _ b h1.2 h2.2;omega
       . intro j c hj;obtain⟨e,bZ,x',v',g1,g2,g3⟩:=mr _ _ _ _ hr j c hj;subst g1;have nQ:j<(cO s.rs y).length:=by
          rcases amz j (cO s.rs y).length with hh | hh
          . exact hh
          . simp[amA hh]at hj
         show dG w' (.sl e bZ) x' _ _;simp only[Gh.at,if_true,List.getD,g2,anF];rw[amt]at g3;exact dG.frame _ _ _ _ _ (fun b hb=>⟨nQ,hb⟩) (fun _ _ _=>rfl) g3
     . refine gq (vh _ _ _ _ hr mO fun i v hi=>?_) hw;simp[Gh.at,List.getD,hi]
 . simp at hp
theorem abd{s:Sc}{gid:Nat}(eF:Je P gid s)(h:Rel cx Z g st a w)(hc:Cons st){o:Oper}{d:Nat}(hd:o.dst=some d)(cE:kR cx a d)(hf:st.free d=true){c:Call}{f:Operand}{l:List TV}{p:TV×Option Rt}
 (ho:o.op= .call c)(fe:c.callee= .value f)(hg:st.get f=some (.fn gid []))(hl:st.getAll c.args.toList=some l)(hq:(st.rQ d s l).run=some p):ea P cx st a w o d p:=by
 obtain⟨cv,ef,ec⟩:=bg h hc hg;have Pc:cv = #[]:=by
  obtain⟨l⟩:=cv;cases l with
  | nil=>rfl
  | cons _ _=>exact ec.elim
 subst Pc;have eQ:=jT h hc _ _ hl;unfold St.rQ at hq;split at hq
 . rename_i av;cases Yi:av.bV with
   | false=>rw[Yi]at hq;simp[Tr.run]at hq
   | true=>
   rw[Yi]at hq;simp only[oT]at hq;obtain⟨x,hx,hq⟩:=Tr.ai hq;obtain⟨hb,hq⟩:=Tr.bT hq;simp only[Tr.run,amh]at hq;subst hq;obtain⟨v,hv,hrv⟩:∃ v,c.args.toList.map a.eval=[v]/\bC Z g st w av v:=by
    cases hm:c.args.toList.map a.eval with
    | nil=>rw[hm]at eQ;exact eQ.elim
    | cons v r=>
      rw[hm]at eQ;cases r with
      | nil=>exact⟨v,rfl,eQ.1⟩
      | cons _ _=>exact eQ.2.elim
   have ur:RO Z w (.sl s.e s.ks) x v:=cB h hrv Yi hx;intro next Q hk;unfold Oper.wp;rw[qf ho fe ef];have hv':c.args.map a.eval ++ #[] = #[v]:=by rw[Array.append_empty];apply Array.ext';rw[Array.toList_map,hv]
   rw[hv'];refine uR (eF w Z v x h.gl ur (fun b hb=>(h.cq b hb).1) (amE hb)) ?_;rintro u w' ⟨Z',H,ha,hs⟩;rw[hd];have lE:∀ b,b<w.heap.size->w'.heap[b]? = w.heap[b]? :=fun b hb=>ha.block b hb (fun _ h=>h)
   have bD:(st.ba d (.bc d 0 0 0 s.e s.ks (aW x),some ⟨false,[⟨0,0,.own (.sl s.e s.ks) ([]:List (Tl s.ks))⟩]⟩)).cell d 0=some ⟨0,0,.own (.sl s.e s.ks) ([]:List (Tl s.ks))⟩:=by show(match look ((d,_)::st.rt) d with | some R=>R.cells[0]? | none=>none)=_;rw[aN,if_pos rfl];rfl
   refine hk Z' (g.at d 0 (fun _=> .slice none 0 0) (fun j b=>j=0/\H 0 b)) _ _ (Rel.yB h cE hf ?_ ⟨_,bD,oR _,oR _,fun _ _=>?_⟩)
   . refine { os:=ha.os,tape:=ha.tape,output:=ha.output,size:=ha.size,block:=lE,cq:=fun b hb=>(ha.cq b hb).2.imp id fun h2=>⟨h2,(ha.cq b hb).1⟩,zle:=ha.z,fp:=?_,cS:=?_,box:=fun hb=>by simp at hb,cell:=?_ }
     . intro j b hb;simp only[Gh.at,if_true]at hb;obtain⟨rfl,hb⟩:=hb;obtain⟨t1,t2,t3⟩:=ha.fp _ _ hb;exact⟨t3.elim (fun⟨_,h⟩=>h.elim) id,t1,t2,_,_,_,rfl,rfl⟩
     . intro j j' b h1 h2;simp only[Gh.at,if_true]at h1 h2;exact h1.1.trans h2.1.symm
     . intro j c' hj;cases j with
       | zero=>simp only[amn,amh]at hj;subst hj;simp only[Gh.at,if_true];exact kP s.e s.ks
       | succ j=>simp at hj
   . exact Sh.mono (oR _) (fun b hb _=>⟨hb,rfl⟩) (fun b hb _=>⟨by simp[Gh.at];exact hb,rfl⟩) hs
 . simp[Tr.run]at hq
theorem af6(hT:cH P E)(h:Rel cx Z g st a w)(hc:Cons st){o:Oper}{d:Nat}(hd:o.dst=some d)(cE:kR cx a d){c:Call}(ho:o.op= .call c)(fe:c.callee= .builtin .cap){x:Operand}{t:Nat}{ts:List Nat}(cF:c.args.toList=[x])(yN:c.argTypes.toList=t::ts){te:TI}
 (ht:E.sl t=some te){tv:TV}(hx:st.get x=some tv)(hb:fX tv=true):ea P cx st a w o d (.v (.d (.int .i64) (0:Int)),none):=by
 have ev:a.eval x= .slice none 0 0:=xe (bg h hc hx) hb;have iv:c.args = #[x]:=by rw[<- anh (xs:=c.args),cF]
 have Kh:c.argTypes[0]? = some t:=by rw[<- aml,yN];rfl
 obtain⟨_,_,_,_,_,_,hu⟩:=j5 hT ht;have hb:(Builtin.cap_ c.argTypes o.type #[.slice none 0 0]).run P w= .ok (.int .i64 0) w:=by simp[Builtin.cap_,Kh,amM hu,goInt]
 have au:(execOp a.eval o).run P w= .ok (.value (.int .i64 0)) w:=by simp only[execOp,ho,resolve,fe,iv,amJ,amR,amu,invoke,builtin,anZ,amS,aok,ev,hb]
 exact cK h hd cE au ⟨rfl,by unfold pT;decide⟩
end
section
variable{st ay:St}
theorem lH{t:Tr AV}{p:TV×Option Rt}(h:(t.bind fun a=>Tr.ret (TV.v a,(none:Option Rt))).run=some p):∃ av,t.run=some av/\p=(.v av,none):=by
 rw[Tr.run_bind]at h;cases ht:t.run with
 | none=>simp[ht]at h
 | some av=>simp only[ht,oB,Tr.run,amh]at h;exact⟨av,rfl,h.symm⟩
theorem Ext.indexAddr(x:Ext st ay){sz:Nat}{tv:TV}{n:Int}{p:AV}(h:(st.indexAddr sz tv n).run=some p):(ay.indexAddr sz tv n).run=some p:=by
 unfold St.indexAddr at h ⊢;split at h
 . rename_i r j s;cases hc:st.cell r j with
   | none=>simp[hc,Tr.run]at h
   | some c=>rw[hc]at h;rw[x.cell hc];exact h
 . exact h
 . rename_i r j s m e ks xs;cases hc:st.cell r j with
   | none=>simp[hc,Tr.run]at h
   | some c=>rw[hc]at h;rw[x.cell hc];exact h
 . rename_i r j s m i c;cases hc:st.cell r j with
   | none=>simp[hc,Tr.run]at h
   | some c=>rw[hc]at h;rw[x.cell hc];exact h
 . simp[Tr.run]at h
theorem Ext.rQ(x:Ext st ay){d:Nat}{s:Sc}{l:List TV}{p:TV×Option Rt}(h:(st.rQ d s l).run=some p):(ay.rQ d s l).run=some p:=by
 unfold St.rQ at h ⊢;split at h
 . rename_i a;cases hf:a.bV with
   | false=>rw[hf]at h;simp[Tr.run]at h
   | true=>rw[hf]at h;simp only[oT]at h;obtain⟨q,h1,h2⟩:=Tr.ai h;simp only[oT,x.bI h1];exact h2
 . simp[Tr.run]at h
theorem Ext.wK{β:Type}(x:Ext st ay){lo hi:Option Operand}{n:Nat}{f:Int×Int->Tr β}{p:β}(h:(Tr.cu (Av.o6 st lo hi n) f).run=some p):(Tr.cu (Av.o6 ay lo hi n) f).run=some p:=by obtain⟨q,h1,h2⟩:=Tr.ai h;rw[x.o6 h1];exact h2
theorem Ext.qK(x:Ext st ay){tv:TV}{lo hi:Option Operand}{p:AV}(h:(st.qK tv lo hi).run=some p):(ay.qK tv lo hi).run=some p:=by
 unfold St.qK at h ⊢;split at h
 . rename_i s hs;exact x.wK h
 . simp[Tr.run]at h
theorem Ext.qJ(x:Ext st ay){sz:Nat}{tv:TV}{lo hi:Option Operand}{p:AV}(h:(st.qJ sz tv lo hi).run=some p):(ay.qJ sz tv lo hi).run=some p:=by
 unfold St.qJ at h ⊢;split at h
 . exact x.wK h
 . rename_i e ks xs;cases hb:Nat.beq ks.length sz with
   | false=>simp[hb,Tr.run]at h
   | true=>simp only[hb,oT]at h ⊢;exact x.wK h
 . rename_i r j s m e ks xs;cases hc:st.cell r j with
   | none=>simp[hc,Tr.run]at h
   | some rc=>
     simp only[hc]at h;simp only[x.cell hc];cases hb:Nat.beq rc.s s&&Nat.beq rc.m m&&Nat.beq ks.length sz with
     | false=>simp[hb,Tr.run]at h
     | true=>simp only[hb,oT]at h ⊢;exact x.wK h
 . rename_i r j s m i c;cases hc:st.cell r j with
   | none=>simp[hc,Tr.run]at h
   | some rc=>
     simp only[hc]at h;simp only[x.cell hc];split at h
     . rename_i s' m' e0 gn x0 heq;simp only[amh]at heq;subst heq;cases hb:Nat.beq s' s&&Nat.beq m' m with
       | false=>simp[hb,Tr.run]at h
       | true=>
         simp only[hb,oT]at h ⊢;split at h
         . rename_i e ks xs bD;cases hb:Nat.beq ks.length sz with
           | false=>simp[hb,Tr.run]at h
           | true=>simp only[hb,oT]at h ⊢;exact x.wK h
         . simp[Tr.run]at h
     . simp[Tr.run]at h
 . rename_i r j s;cases hc:st.cell r j with
   | none=>simp[hc,Tr.run]at h
   | some rc=>
     simp only[hc]at h;simp only[x.cell hc];split at h
     . rename_i s' m' e ks xs heq;simp only[amh]at heq;subst heq;cases hb:Nat.beq s' s&&Nat.beq ks.length sz with
       | false=>simp[hb,Tr.run]at h
       | true=>simp only[hb,oT]at h ⊢;exact x.wK h
     . simp[Tr.run]at h
 . simp[Tr.run]at h
end
section
variable{P:Program}{cx:Cx P}{Z:Nat->Prop}{g:Gh}{gP st:St}{a:Act}{w:World}{E:En}
theorem x9(hT:cH P E){t:Nat}{te:TI}(h:E.sl t=some te){ti:TI}(iy:E.ti t=some ti):∃ ks,E.ti t=some ti/\ti.agg=false/\ti.ks=[.sl ti.elem ks]/\E.ti ti.elem=some te:=by obtain⟨tt,ks,t1,t2,t3,t4,_⟩:=j5 hT h;rw[t1]at iy;simp only[amh]at iy;subst iy;exact⟨ks,t1,t2,t3,t4⟩
theorem sF{dst:Nat}{Fc:List TV}:∀ {l:List Su} {p:TV×Option Rt},(gP.xG dst l Fc).run=some p->∃ s x z y,s∈l/\gP.args (!s.fresh) s.ps Fc=some x/\s.v7 x=some (z,y)/\fc dst s y=some p
 | [],p,h=>by simp[St.xG,Tr.run]at h
 | s::r,p,h=>by
   have again:(gP.xG dst r Fc).run=some p->∃ s' x z y,s'∈s::r/\gP.args (!s'.fresh) s'.ps Fc=some x/\s'.v7 x=some (z,y)/\fc dst s' y=some p:=fun h=>by obtain⟨s',x,z,y,h1,h2⟩:=sF h;exact⟨s',x,z,y,amy _ h1,h2⟩
   unfold St.xG at h;cases hq:jz s.ps with
   | false=>simp only[hq,oF]at h;exact again h
   | true=>
     simp only[hq,oT]at h;split at h
     . rename_i x hx;split at h
       . rename_i gg hg;obtain⟨q,h1,h2⟩:=Tr.ai h;simp only[Tr.run,amh]at h2;subst h2;exact⟨s,x,U0 s.ps,gg x,amD ..,hx,by simp[Su.v7,hg],h1⟩
       . rename_i f hf;simp only[Tr.run,anA]at h;obtain⟨⟨z,y⟩,h0,h⟩:=h;obtain⟨q,h1,h2⟩:=Tr.ai h;simp only[Tr.run,amh]at h2;subst h2;exact⟨s,x,z,y,amD ..,hx,by simp[Su.v7,hf,h0],h1⟩
     . exact again h
theorem Ct(hT:cH P E)(eF:dQ P E)(x:Ext gP st)(h:Rel cx Z g st a w)(hv:qL st){o:Oper}{d:Nat}(hd:o.dst=some d)(cE:kR cx a d)(hf:st.free d=true){p:TV×Option Rt}(hq:(yU E gP d o.op).run=some p):ea P cx st a w o d p:=by
 have hc:=hv.cons;generalize fD:o.op=op at hq;unfold yU at hq;split at hq
 . obtain⟨tv,h1,h2⟩:=Tr.ai hq;simp only[Tr.run,amh]at h2;subst h2;exact Ke h hc hd cE (.inl fD) (x.get h1)
 . obtain⟨tv,h1,h2⟩:=Tr.ai hq;simp only[Tr.run,amh]at h2;subst h2;exact Ke h hc hd cE (.inr fD) (x.get h1)
 ·
  rename_i c y z;split at hq
  . rename_i hg;obtain⟨tv,h1,h2⟩:=Tr.ai hq;simp only[Tr.run,amh]at h2;subst h2;exact Cy h hv hd cE fD (x.get hg) (x.get h1)
  . rename_i hg;obtain⟨tv,h1,h2⟩:=Tr.ai hq;simp only[Tr.run,amh]at h2;subst h2;exact Cy h hv hd cE fD (x.get hg) (x.get h1)
  . rename_i gd hg;split at hq
    . rename_i k y1 k' z1 h1 h2;split at hq
      . rename_i z2 h3;simp only[Tr.run,amh]at hq;subst hq;exact abV h hv hd cE fD (x.get hg) (x.side h1) (x.side h2) h3
      . simp[Tr.run]at hq
    . simp[Tr.run]at hq
  . simp[Tr.run]at hq
 . obtain⟨ti,h1,h2⟩:=Tr.ai hq;simp only[Tr.run,amh]at h2;subst h2;exact Wx hT h hd cE hf fD h1
 ·
  obtain⟨ti,h1,hq⟩:=Tr.ai hq;obtain⟨tv,h2,hq⟩:=Tr.ai hq;obtain⟨q,h3,hq⟩:=Tr.ai hq;cases hb:Nat.beq q.2.length ti.ks.length with
  | false=>simp[hb,Tr.run]at hq
  | true=>simp only[hb,oT]at hq;obtain⟨l,h4,hq⟩:=Tr.ai hq;simp only[Tr.run,amh]at hq;subst hq;exact ag0 hT h hc hd cE hf fD (x.get h2) h3 (x.mM h4)
 ·
  obtain⟨ti,h1,hq⟩:=Tr.ai hq;cases hb:ti.agg with
  | false=>simp[hb,Tr.run]at hq
  | true=>simp only[hb,oN,oF]at hq;obtain⟨l,h4,hq⟩:=Tr.ai hq;simp only[Tr.run,amh]at hq;subst hq;exact XJ hT h hc hd cE fD h1 hb (w8 (fun _ _ _ hh=>x.vu hh) h4)
 ·
  rename_i t n parts;obtain⟨ti,h1,hq⟩:=Tr.ai hq;obtain⟨te,h2,hq⟩:=Tr.ai hq;obtain⟨l,h3,hq⟩:=Tr.ai hq;have h3':=w8 (fun _ _ _ hh=>x.oo hh) h3;cases hb:Nat.ble (n * te.ks.length) 1000&&Nat.ble n 1000 with
  | false=>simp[hb,Tr.run]at hq
  | true=>
    simp only[hb,oT]at hq;simp only[ami]at hb;have hn:=amE hb.1;have Ph:n<=bQ:=amp (amE hb.2) (by decide);obtain⟨xs,h4,hq⟩:=Tr.ai hq;cases Pd:(flat te.ks||l.all qT)&& !(jb E.pins 999999&&l.all AV.bV)with
    | true=>simp only[Pd,oT,Tr.run,amh]at hq;subst hq;simp only[ami]at Pd;exact F7 hT h hc hd cE hf fD (x9 hT h2 h1) h3' hn (x.chunks h4) (by simpa using Pd.1) Ph
    | false=>
      simp only[Pd,oF]at hq;cases Yi:l.all AV.bV with
      | true=>simp only[Yi,oT,Tr.run,amh]at hq;subst hq;exact Jt hT h hc hd cE fD (x9 hT h2 h1) h3' hn (x.chunks h4) Yi Ph
      | false=>simp only[Yi,oF,Tr.run,amh]at hq;subst hq;exact Ev hT h hc hd cE hf fD (x9 hT h2 h1) h3' hn
 ·
  obtain⟨ti,h1,hq⟩:=Tr.ai hq;obtain⟨tx,h2,hq⟩:=Tr.ai hq;obtain⟨av,h3,hq⟩:=Tr.ai hq;obtain⟨l,h4,hq⟩:=Tr.ai hq;obtain⟨tv,h5,hq⟩:=Tr.ai hq;simp only[Tr.run,amh]at hq;subst hq;exact adO hT h hc hd cE fD h1 (x.get h2) h3 (x.load h4) h5
 ·
  obtain⟨tv,h1,hq⟩:=Tr.ai hq;split at hq
  . simp only[Tr.run,amh]at hq;subst hq;exact A6 h hc hd cE fD (x.get h1) (.inl ⟨_,_,rfl⟩)
  . rename_i r j s i c;cases hl:gP.live (.pel r j s i c)with
    | false=>simp[hl,Tr.run]at hq
    | true=>simp only[hl,oT,Tr.run,amh]at hq;subst hq;exact A6 h hc hd cE fD (x.get h1) (.inr ⟨⟨_,_,_,_,_,rfl⟩,x.live hl⟩)
  . simp[Tr.run]at hq
 ·
  obtain⟨tx,h1,hq⟩:=Tr.ai hq;obtain⟨ty,h2,hq⟩:=Tr.ai hq;obtain⟨av,h3,rfl⟩:=lH hq;exact ago hT h hc hd cE fD (x.get h1) (x.get h2) h3
 ·
  obtain⟨tx,h1,hq⟩:=Tr.ai hq;obtain⟨av,h3,rfl⟩:=lH hq;exact ajj h hc hd cE fD (x.get h1) h3
 ·
  obtain⟨ts,h1,hq⟩:=Tr.ai hq;obtain⟨td,h2,hq⟩:=Tr.ai hq;obtain⟨tx,h3,hq⟩:=Tr.ai hq;cases hb:ts.agg||td.agg with
  | true=>simp[hb,Tr.run]at hq
  | false=>
    simp only[hb,oF]at hq;simp only[an3]at hb;split at hq
    . rename_i k0 k e1 e2;obtain⟨q,h4,hq⟩:=Tr.ai hq;obtain⟨av,h5,rfl⟩:=lH hq;simp only[Tr.run,amh]at h5;subst h5;exact Jc hT h hc hd cE fD h1 h2 hb.1 hb.2 e1 e2 (x.get h3) h4
    . rename_i k0 e1 e2;obtain⟨q,h4,hq⟩:=Tr.ai hq;obtain⟨hn,hq⟩:=Tr.bT hq;obtain⟨av,h5,rfl⟩:=lH hq;simp only[Tr.run,amh]at h5;subst h5;exact GB hT h hc hd cE fD h1 h2 hb.1 hb.2 e1 e2 (x.get h3) h4 hn
    . rename_i e e1 e2;cases hu:E.u8 td.elem with
      | false=>simp[hu,Tr.run]at hq
      | true=>simp only[hu,oN,oF]at hq;obtain⟨q,h4,hq⟩:=Tr.ai hq;simp only[Tr.run,amh]at hq;subst hq;exact Bl hT h hc hd cE hf fD h1 h2 hb.1 hb.2 e1 e2 hu (x.get h3) h4
    . rename_i e e1 e2;cases hu:E.u8 ts.elem with
      | false=>simp[hu,Tr.run]at hq
      | true=>simp only[hu,oN,oF]at hq;obtain⟨q,h4,hq⟩:=Tr.ai hq;obtain⟨xs,h5,hq⟩:=Tr.ai hq;obtain⟨av,h6,rfl⟩:=lH hq;simp only[Tr.run,amh]at h6;subst h6;exact DE hT h hc hd cE fD h1 h2 hb.1 hb.2 e1 e2 hu (x.get h3) h4 (x.bI h5)
    . rename_i e1 e2;obtain⟨q,h4,hq⟩:=Tr.ai hq;obtain⟨av,h5,rfl⟩:=lH hq;simp only[Tr.run,amh]at h5;subst h5;exact JJ hT h hc hd cE fD h1 h2 hb.1 hb.2 e1 e2 (x.get h3) h4
    . simp[Tr.run]at hq
 ·
  rename_i t n n';obtain⟨ti,h1,hq⟩:=Tr.ai hq;obtain⟨te,h2,hq⟩:=Tr.ai hq;obtain⟨tv,h3,hq⟩:=Tr.ai hq;obtain⟨q,h4,hq⟩:=Tr.ai hq;cases hb:Nat.beq n n' with
  | false=>simp[hb,Tr.run]at hq
  | true=>simp only[hb,oT]at hq;have hn:=beq_eq hb;obtain⟨h5,hq⟩:=Tr.bT hq;simp only[Tr.run,amh]at hq;subst hq;simp only[ami,cl,anH]at h5;obtain⟨ev,_⟩:=gG (bg h hc (o:= .tmp n) (x.tv h3)) h4;exact FX hT h hd cE hf fD ev (hn ▸ ev) (x9 hT h2 h1) h5.1 h5.2.1 (Nat.lt_of_not_le fun hh=>by have:=h5.2.2;simp[Nat.blt,Nat.ble_eq]at this;omega)
 ·
  rename_i t k n k' n';obtain⟨ti,h1,hq⟩:=Tr.ai hq;obtain⟨te,h2,hq⟩:=Tr.ai hq;cases hb:n == n'&&(cl 0 n&&(cl (n * te.bytes) bQ&&Nat.blt 0 te.bytes))with
  | false=>simp[hb,Tr.run]at hq
  | true=>simp only[hb,oT,Tr.run,amh]at hq;subst hq;simp only[ami,cl,anH,beq_iff_eq]at hb;obtain⟨rfl,h5⟩:=hb;exact FX hT h hd cE hf fD rfl rfl (x9 hT h2 h1) h5.1 h5.2.1 (Nat.lt_of_not_le fun hh=>by have:=h5.2.2;simp[Nat.blt,Nat.ble_eq]at this;omega)
 ·
  rename_i t y lo hi;obtain⟨tv,h1,hq⟩:=Tr.ai hq;split at hq
  . rename_i te h2;obtain⟨av,h3,rfl⟩:=lH hq;exact V8 hT h hc hd cE fD h2 (x.get h1) (x.qJ h3)
  . cases hs:E.str t with
    | false=>simp[hs,Tr.run]at hq
    | true=>simp only[hs,oT]at hq;obtain⟨av,h3,rfl⟩:=lH hq;exact Tj hT h hc hd cE fD hs (x.get h1) (x.qK h3)
 ·
  obtain⟨ti,h1,hq⟩:=Tr.ai hq;obtain⟨q,h2,hq⟩:=Tr.ai hq;obtain⟨tv,h3,hq⟩:=Tr.ai hq;obtain⟨av,h4,hq⟩:=Tr.ai hq;cases hb:ti.agg&&gP.live av with
  | false=>simp[hb,Tr.run]at hq
  | true=>simp only[hb,oT]at hq;simp only[ami]at hb;obtain⟨av',h5,hq⟩:=Tr.ai hq;simp only[Tr.run,amh]at hq;subst hq;exact Gf hT h hc hd cE fD h1 hb.1 h2 (x.get h3) h4 (x.live hb.2) h5
 ·
  obtain⟨ti,h1,hq⟩:=Tr.ai hq;obtain⟨q,h2,hq⟩:=Tr.ai hq;obtain⟨tf,h3,hq⟩:=Tr.ai hq;obtain⟨tv,h4,hq⟩:=Tr.ai hq;split at hq
  . rename_i l;cases hb:ti.agg&&Nat.ble (q.1+tf.ks.length) l.length with
    | false=>simp[hb,Tr.run]at hq
    | true=>simp only[hb,oT]at hq;simp only[ami]at hb;obtain⟨kq,h5,hq⟩:=Tr.ai hq;simp only[Tr.run,amh]at hq;subst hq;exact Xe hT h hc hd cE fD h1 hb.1 h2 h3 (x.get h4) (amE hb.2) h5
  . simp[Tr.run]at hq
 ·
  obtain⟨te,h1,hq⟩:=Tr.ai hq;obtain⟨tv,h2,hq⟩:=Tr.ai hq;obtain⟨ti,h3,hq⟩:=Tr.ai hq;obtain⟨q,h4,hq⟩:=Tr.ai hq;obtain⟨av,h5,rfl⟩:=lH hq;exact HT hT h hc hd cE fD h1 (x.get h2) (x.get h3) h4 (x.indexAddr h5)
 ·
  rename_i t y i;cases hs:E.str t with
  | false=>simp[hs,Tr.run]at hq
  | true=>simp only[hs,oN,oF]at hq;obtain⟨tv,h2,hq⟩:=Tr.ai hq;obtain⟨ti,h3,hq⟩:=Tr.ai hq;obtain⟨q,h4,hq⟩:=Tr.ai hq;obtain⟨s,h5,hq⟩:=Tr.ai hq;obtain⟨h6,hq⟩:=Tr.bT hq;obtain⟨av,h7,rfl⟩:=lH hq;simp only[Tr.run,amh]at h7;subst h7;exact Xt hT h hc hd cE fD hs (x.get h2) (x.get h3) h4 h5 h6
 ·
  obtain⟨tv,h1,hq⟩:=Tr.ai hq;split at hq
  . rename_i l;split at hq
    . rename_i gg l' h2;obtain⟨kq,h3,hq⟩:=Tr.ai hq;simp only[Tr.run,amh]at hq;subst hq;exact Na h hc hd cE fD (x.get h1) h2 h3
    . simp[Tr.run]at hq
  . simp[Tr.run]at hq
 ·
  rename_i f first cR
  cases hb:Nat.beq first.size 0 with
  | false=>simp[hb,Tr.run]at hq
  | true=>simp only[hb,oT]at hq;obtain⟨l,h1,hq⟩:=Tr.ai hq;obtain⟨r,h2,hq⟩:=Tr.ai hq;simp only[Tr.run,amh]at hq;subst hq;exact Iu h hc hd cE fD (beq_eq hb) (x.getAll h1) h2
 ·
  rename_i c;split at hq
  . rename_i fe;split at hq
    . rename_i y t ts cF yN;cases hs:E.str t with
      | true=>simp only[hs,oT]at hq;obtain⟨tv,h1,hq⟩:=Tr.ai hq;obtain⟨n,h2,hq⟩:=Tr.ai hq;obtain⟨av,h3,rfl⟩:=lH hq;simp only[Tr.run,amh]at h3;subst h3;exact aay (isS:=true) hT h hc hd cE fD fe cF yN hs (x.get h1) (x.len h2)
      | false=>simp only[hs,oF]at hq;obtain⟨te,h0,hq⟩:=Tr.ai hq;obtain⟨tv,h1,hq⟩:=Tr.ai hq;obtain⟨n,h2,hq⟩:=Tr.ai hq;obtain⟨av,h3,rfl⟩:=lH hq;simp only[Tr.run,amh]at h3;subst h3;exact aay (isS:=false) hT h hc hd cE fD fe cF yN ⟨te,h0⟩ (x.get h1) (x.len h2)
    . simp[Tr.run]at hq
  . rename_i fe;split at hq
    . rename_i y t ts cF yN;obtain⟨te,h0,hq⟩:=Tr.ai hq;obtain⟨tv,h1,hq⟩:=Tr.ai hq;cases hb:fX tv with
      | false=>rw[hb]at hq;simp[Tr.run]at hq
      | true=>rw[hb]at hq;simp only[oT]at hq;obtain⟨av,h3,rfl⟩:=lH hq;simp only[Tr.run,amh]at h3;subst h3;exact af6 hT h hc hd cE fD fe cF yN h0 (x.get h1) hb
    . simp[Tr.run]at hq
  . rename_i fe;split at hq
    . rename_i y z cF;obtain⟨tx,h1,hq⟩:=Tr.ai hq;obtain⟨ty,h2,hq⟩:=Tr.ai hq;obtain⟨p1,h3,hq⟩:=Tr.ai hq;obtain⟨p2,h4,hq⟩:=Tr.ai hq;cases hk:(p1.1 == p2.1)with
      | false=>simp[hk,Tr.run]at hq
      | true=>simp only[hk,oT]at hq;obtain⟨av,h5,rfl⟩:=lH hq;simp only[Tr.run,amh]at h5;subst h5;exact GK (mn:=true) h hc hd cE fD fe cF (x.get h1) (x.get h2) h3 h4 (by simpa using hk)
    . simp[Tr.run]at hq
  . rename_i fe;split at hq
    . rename_i y z cF;obtain⟨tx,h1,hq⟩:=Tr.ai hq;obtain⟨ty,h2,hq⟩:=Tr.ai hq;obtain⟨p1,h3,hq⟩:=Tr.ai hq;obtain⟨p2,h4,hq⟩:=Tr.ai hq;cases hk:(p1.1 == p2.1)with
      | false=>simp[hk,Tr.run]at hq
      | true=>simp only[hk,oT]at hq;obtain⟨av,h5,rfl⟩:=lH hq;simp only[Tr.run,amh]at h5;subst h5;exact GK (mn:=false) h hc hd cE fD fe cF (x.get h1) (x.get h2) h3 h4 (by simpa using hk)
    . simp[Tr.run]at hq
  . rename_i f fe;obtain⟨tf,h1,hq⟩:=Tr.ai hq;split at hq
    . rename_i gid cR;obtain⟨l,h2,hq⟩:=Tr.ai hq;split at hq
      . rename_i hs _;exact abd (eF.2 _ _ hs) h hc hd cE hf fD fe (x.get h1) (x.getAll h2) (x.rQ hq)
      obtain⟨s,y,z,r,h3,h4,h5,h6⟩:=sF hq;exact adC eF h hc hd cE hf fD fe (x.get h1) (x.getAll h2) h3 (x.args h4) h5 h6
    . simp[Tr.run]at hq
  . simp[Tr.run]at hq
 . simp[Tr.run]at hq
end
def TV.iL:TV->Prop
 | .may _ _ _ _ _=>True
 | _=>False
theorem GH{gg:Bool}{l:List AV}{tv:TV}(h:iH gg l=some tv):¬ tv.iL:=by unfold iH at h;split at h <;> simp at h <;> subst h <;> exact fun h=>h
theorem nk{l:List (Bool×List AV)}{tv:TV}(h:js l=some tv):¬ tv.iL:=by unfold js at h;split at h <;> simp at h <;> subst h <;> exact fun h=>h
theorem Cq{st:St}{o:Operand}{tv:TV}(h:st.get o=some tv)(hm:tv.iL):∃ d,look st.tm d=some tv:=by
 cases tv with
 | may q want y gg l=>obtain⟨d,hd,_⟩:=L6 h;exact⟨d,hd⟩
 | _=>exact hm.elim
section
variable{gP:St}{E:En}
def NM(gP:St)(t:Tr (TV×Option Rt)):Prop:=∀ p,t.run=some p->p.1.iL->∃ d',look gP.tm d'=some p.1
theorem afM{α:Type}{o:Option α}{f:α->Tr (TV×Option Rt)}(h:∀ x,o=some x->NM gP (f x)):NM gP (Tr.cu o f):=fun p hp=>by obtain⟨x,h1,h2⟩:=Tr.ai hp;exact h x h1 p h2
theorem agQ{c:Bool}{t u:Tr (TV×Option Rt)}(h:NM gP t)(h':NM gP u):NM gP (bif c then t else u):=by cases c <;> assumption
theorem agc{c:Bool}{t:Tr (TV×Option Rt)}(h:NM gP t):NM gP (.need c t):=fun p hp=>h p (Tr.bT hp).2
theorem ady{p:TV×Option Rt}(h:¬ p.1.iL):NM gP (.ret p):=fun q hq hm=>by simp only[Tr.run,amh]at hq;subst hq;exact(h hm).elim
theorem aiV{t:Tr AV}:NM gP (t.bind fun a=> .ret (.v a,none)):=fun p hp hm=>by obtain⟨av,_,rfl⟩:=lH hp;exact hm.elim
theorem acp:NM gP .fail:=fun p hp=>by simp[Tr.run]at hp
theorem ajW{x:Operand}{tv:TV}(h:gP.get x=some tv):NM gP (.ret (tv,none)):=fun p hp hm=>by simp only[Tr.run,amh]at hp;subst hp;exact Cq h hm
theorem ajk{d:Nat}{l:List Su}{Fc:List TV}:NM gP (gP.xG d l Fc):=fun p hq hm=>by
 obtain⟨s,y,z,r,h3,h4,h5,h6⟩:=sF hq;unfold fc at h6;split at h6
 . rename_i tv hw;simp only[amh]at h6;subst h6;exact(nk hw hm).elim
 . simp at h6
theorem ai3{d:Nat}{s:Sc}{l:List TV}:NM gP (gP.rQ d s l):=by
 unfold St.rQ;split
 . exact agQ (afM fun _ _=>agc (ady fun h=>h)) acp
 . exact acp
theorem LL{d:Nat}{op:Op}{p:TV×Option Rt}(hq:(yU E gP d op).run=some p)(hm:p.1.iL):∃ d',look gP.tm d'=some p.1:=by
 have h:NM gP (yU E gP d op):=by
  unfold yU
  repeat' first | exact aiV | exact acp | exact ajk | exact ai3 | refine afM fun _ _=>?_ | exact ajW (by assumption) | refine agQ ?_ ?_ | refine agc ?_ | exact ady (GH (by assumption)) | exact ady fun h=>h | split
 exact h p hq hm
end
theorem cC(st:St)(d:Nat)(p:TV×Option Rt)(t:Nat):look (st.ba d p).tm t=if d=t then some p.1 else look st.tm t:=aN _ _ _ _
theorem AD(st:St)(d:Nat)(p:TV×Option Rt)(r:Nat):look (st.ba d p).rt r=match p.2 with | some R=>if d=r then some R else look st.rt r | none=>look st.rt r:=by
 unfold St.ba;cases p.2 with
 | none=>rfl
 | some R=>exact aN _ _ _ _
def eJ(nt:Nat->Prop)(base:St):Bd->Prop
 | []=>True
 | (i,t,p)::r=>nt t/\look base.tm t=none/\look base.rt t=none/\(∀ e∈r,e.1≠i/\e.2.1≠t)/\eJ nt base r
theorem eJ.mem{nt:Nat->Prop}{base:St}:∀ {bs:Bd} {i t:Nat} {p:TV×Option Rt},eJ nt base bs->(i,t,p)∈bs->nt t/\look base.tm t=none/\look base.rt t=none
 | [],_,_,_,_,h=>by simp at h
 | (i0,t0,p0)::r,i,t,p,hb,h=>by
   obtain⟨h1,h2,h3,h4,h5⟩:=hb;rcases ams.1 h with h | h
   . cases h;exact⟨h1,h2,h3⟩
   . exact eJ.mem h5 h
theorem eJ.uniq{nt:Nat->Prop}{base:St}:∀ {bs:Bd} {i i' t t':Nat} {p p':TV×Option Rt},eJ nt base bs->(i,t,p)∈bs->(i',t',p')∈bs->(i=i'∨t=t')->i=i'/\t=t'/\p=p'
 | [],_,_,_,_,_,_,_,h,_,_=>by simp at h
 | (i0,t0,p0)::r,i,i',t,t',p,p',hb,h,h',he=>by
   obtain⟨h1,h2,h3,h4,h5⟩:=hb;rcases ams.1 h with h | h
   . cases h;rcases ams.1 h' with h' | h'
     . cases h';exact⟨rfl,rfl,rfl⟩
     . have:=h4 _ h';rcases he with he | he
       . exact absurd he.symm this.1
       . exact absurd he.symm this.2
   . rcases ams.1 h' with h' | h'
     . cases h';have:=h4 _ h;rcases he with he | he
       . exact absurd he this.1
       . exact absurd he this.2
     . exact eJ.uniq h5 h h' he
theorem e9{nt:Nat->Prop}{base:St}(m:Nat):∀ {bs:Bd},eJ nt base bs->∀(t:Nat) (tv:TV),look (view base m bs).tm t=some tv↔(∃ i p,(i,t,p)∈bs/\m.testBit i=true/\p.1=tv)∨look base.tm t=some tv
 | [],_,t,tv=>by simp[view]
 | (i0,t0,p0)::r,hb,t,tv=>by
   obtain⟨h1,h2,h3,h4,h5⟩:=hb;have ih:=e9 m h5 t tv;unfold view;cases hm:m.testBit i0 with
   | false=>
     simp only[oF];rw[ih];constructor
     . rintro(⟨i,p,hp,hq⟩ | h)
       . exact .inl ⟨i,p,amy _ hp,hq⟩
       . exact .inr h
     . rintro(⟨i,p,hp,hq⟩ | h)
       . rcases ams.1 hp with hp | hp
         . cases hp;rw[hm]at hq;simp at hq
         . exact .inl ⟨i,p,hp,hq⟩
       . exact .inr h
   | true=>
     simp only[oT];rw[cC];by_cases ht:t0=t
     . subst ht;rw[if_pos rfl];constructor
       . intro h;exact .inl ⟨i0,p0,amD ..,hm,by simpa using h⟩
       . rintro(⟨i,p,hp,hq,rfl⟩ | h)
         . rcases ams.1 hp with hp | hp
           . cases hp;rfl
           . exact absurd rfl (h4 _ hp).2
         . rw[h2]at h;simp at h
     . rw[if_neg ht,ih];constructor
       . rintro(⟨i,p,hp,hq⟩ | h)
         . exact .inl ⟨i,p,amy _ hp,hq⟩
         . exact .inr h
       . rintro(⟨i,p,hp,hq⟩ | h)
         . rcases ams.1 hp with hp | hp
           . cases hp;exact absurd rfl ht
           . exact .inl ⟨i,p,hp,hq⟩
         . exact .inr h
theorem jt{nt:Nat->Prop}{base:St}(m:Nat):∀ {bs:Bd},eJ nt base bs->∀(t:Nat) (R:Rt),look (view base m bs).rt t=some R↔(∃ i p,(i,t,p)∈bs/\m.testBit i=true/\p.2=some R)∨look base.rt t=some R
 | [],_,t,tv=>by simp[view]
 | (i0,t0,p0)::r,hb,t,R=>by
   obtain⟨h1,h2,h3,h4,h5⟩:=hb;have ih:=jt m h5 t R;have skip:((∃ i p,(i,t,p)∈r/\m.testBit i=true/\p.2=some R)∨look base.rt t=some R)->(∃ i p,(i,t,p)∈(i0,t0,p0)::r/\m.testBit i=true/\p.2=some R)∨look base.rt t=some R:=by
    rintro(⟨i,p,hp,hq⟩ | h)
    . exact .inl ⟨i,p,amy _ hp,hq⟩
    . exact .inr h
   unfold view;cases hm:m.testBit i0 with
   | false=>
     simp only[oF];rw[ih];refine⟨skip,?_⟩;rintro(⟨i,p,hp,hq⟩ | h)
     . rcases ams.1 hp with hp | hp
       . cases hp;rw[hm]at hq;simp at hq
       . exact .inl ⟨i,p,hp,hq⟩
     . exact .inr h
   | true=>
     simp only[oT];rw[AD];cases BZ:p0.2 with
     | none=>
       simp only;rw[ih];refine⟨skip,?_⟩;rintro(⟨i,p,hp,hq,wb⟩ | h)
       . rcases ams.1 hp with hp | hp
         . cases hp;rw[BZ]at wb;simp at wb
         . exact .inl ⟨i,p,hp,hq,wb⟩
       . exact .inr h
     | some R0=>
       simp only;by_cases ht:t0=t
       . subst ht;rw[if_pos rfl];constructor
         . intro h;exact .inl ⟨i0,p0,amD ..,hm,by rw[BZ];exact h⟩
         . rintro(⟨i,p,hp,hq,wb⟩ | h)
           . rcases ams.1 hp with hp | hp
             . cases hp;rw[BZ]at wb;exact wb
             . exact absurd rfl (h4 _ hp).2
           . rw[h3]at h;simp at h
       . rw[if_neg ht,ih];refine⟨skip,?_⟩;rintro(⟨i,p,hp,hq⟩ | h)
         . rcases ams.1 hp with hp | hp
           . cases hp;exact absurd rfl ht
           . exact .inl ⟨i,p,hp,hq⟩
         . exact .inr h
def bitsOf:Bd->Nat
 | []=>0
 | (i,_,_)::r=>bitsOf r ||| 2 ^ i
theorem eZ:∀ {bs:Bd} {i t:Nat} {p:TV×Option Rt},(i,t,p)∈bs->(bitsOf bs).testBit i=true
 | (i0,t0,p0)::r,i,t,p,h=>by
   unfold bitsOf;rw[Nat.testBit_or];rcases ams.1 h with h | h
   . cases h;simp[Nat.testBit_two_pow_self]
   . rw[eZ h];rfl
theorem jC(base:St)(m:Nat):∀(bs:Bd),(∀ i t p,(i,t,p)∈bs->m.testBit i=true)->aG base bs=view base m bs
 | [],_=>rfl
 | (i,t,p)::r,h=>by unfold aG view;rw[h i t p (amD ..)];simp only[oT];rw[jC base m r fun i' t' p' h'=>h i' t' p' (amy _ h')]
def gp(tv kq:TV):Prop:=∀(Z:Nat->Prop) (g:Gh) (st:St) (w:World) (v:Value),bW Z g st w tv v->bW Z g st w kq v
theorem gp.refl(tv:TV):gp tv tv:=fun _ _ _ _ _ h=>h
theorem gp.trans{p q r:TV}(h:gp p q)(h':gp q r):gp p r:=fun Z g st w v x=>h' Z g st w v (h Z g st w v x)
def Alike(p p':TV×Option Rt):Prop:=p.2=p'.2/\gp p.1 p'.1/\gp p'.1 p.1
theorem Alike.refl(p:TV×Option Rt):Alike p p:=⟨rfl,gp.refl _,gp.refl _⟩
theorem Alike.trans{p q r:TV×Option Rt}(h:Alike p q)(h':Alike q r):Alike p r:=⟨h.1.trans h'.1,h.2.1.trans h'.2.1,h'.2.2.trans h.2.2⟩
def eE(bs kU:Bd):Prop:=∀ i t p,(i,t,p)∈bs->∃ p',(i,t,p')∈kU/\Alike p p'
theorem eE.refl(bs:Bd):eE bs bs:=fun i t p h=>⟨p,h,Alike.refl p⟩
theorem eE.trans{a b c:Bd}(h:eE a b)(h':eE b c):eE a c:=fun i t p hp=>by obtain⟨p',h1,h2⟩:=h i t p hp;obtain⟨U7,h3,h4⟩:=h' i t p' h1;exact⟨U7,h3,h2.trans h4⟩
theorem eE.cons{e:Nat×Nat×(TV×Option Rt)}{bs kU:Bd}(h:eE bs kU):eE bs (e::kU):=fun i t p hp=>by obtain⟨p',h1,h2⟩:=h i t p hp;exact⟨p',amy _ h1,h2⟩
def MB(st:St):Prop:=∀ d q want y gg l,look st.tm d=some (.may q want y gg l)->∃ tq,look st.tm q=some tq/\ia tq y
theorem MB.cons{st:St}(h:MB st):qL st:=fun d q want y gg l hl tq vT=>by obtain⟨tq',h1,h2⟩:=h d q want y gg l hl;rw[vT]at h1;simp only[amh]at h1;exact h1 ▸ h2
theorem ia.of{tv kq:TV}{y:Bool}(h:gp kq tv)(ht:ia tv y):ia kq y:=fun Z g st w v hr=>ht Z g st w v (h Z g st w v hr)
theorem ct{nt:Nat->Prop}{base:St}{bs:Bd}(hb:eJ nt base bs)(t:Nat)(tv:TV):look (aG base bs).tm t=some tv↔(∃ i p,(i,t,p)∈bs/\p.1=tv)∨look base.tm t=some tv:=by
 rw[jC base (bitsOf bs) bs (fun i t p h=>eZ h),e9 _ hb];constructor
 . rintro(⟨i,p,h1,_,h3⟩ | h)
   . exact .inl ⟨i,p,h1,h3⟩
   . exact .inr h
 . rintro(⟨i,p,h1,h3⟩ | h)
   . exact .inl ⟨i,p,h1,eZ h1,h3⟩
   . exact .inr h
section
variable{P:Program}{cx:Cx P}{Z:Nat->Prop}{g:Gh}{st:St}{a:Act}{w:World}{E:En}
theorem Rel.swap(h:Rel cx Z g st a w){ay:St}(hr:∀ r,look ay.rt r=look st.rt r)(ht:∀ t tv,look ay.tm t=some tv->t<a.tmps.size/\bW Z g st w tv (a.tmps.getD t undef)):Rel cx Z g ay a w:=by
 have bD:∀ r j,ay.cell r j=st.cell r j:=fun r j=>by simp only[St.cell,hr]
 have k:nW Z Z w w g g st ay:=
  { size:=oR _,z:=fun b hb _=>⟨hb,rfl⟩,root:=fun r R hR=>⟨R,by rw[hr];exact hR,rfl,fun _=>rfl⟩
    cell:=fun r j c hc=>⟨c,by rw[bD];exact hc,LI.refl w g r j c⟩
    own:=fun r j b hb=>(h.fp r j b hb).1
    block:=(fY h (ay:=st) (w':=w) rfl rfl).block }
 exact { os:=h.os,tape:=h.tape,output:=h.output,size:=h.size,block:=h.block,cq:=h.cq,z0:=h.z0
         fp:=fun r j b hb=>by rw[bD];exact h.fp r j b hb
         cS:=h.cS
         box:=fun r R hR hb=>by rw[hr]at hR;obtain⟨b1,b2,b3,b4,b5⟩:=h.box r R hR hb;exact⟨b1,b2,b3,fun r' R' lu=>by rw[hr]at lu;exact b4 r' R' lu,b5⟩
         cell:=fun r j c hc=>by rw[bD]at hc;exact lh.cI k _ _ _ _ (h.cell r j c hc) (fun _ h=>h) (fun _ _ _=>rfl)
         tm:=fun t tv htt=>⟨(ht t tv htt).1,bW.cI k _ _ (ht t tv htt).2⟩
         defers:=h.defers,nz:=h.nz }
theorem HQ{β:Type}(l l':List (Nat×β))(n:Nat):look (l++l') n=match look l n with | some x=>some x | none=>look l' n:=by
 induction l with
 | nil=>rfl
 | cons p l ih=>obtain⟨m,x⟩:=p;simp only[List.cons_append,look];cases Nat.beq m n <;> simp[ih]
def over(gP pW:St):St:=⟨gP.tm++pW.tm,pW.rt⟩
theorem uM(gP pW:St)(t:Nat):look (over gP pW).tm t=match look gP.tm t with | some x=>some x | none=>look pW.tm t:=by show look (gP.tm++pW.tm) t=_;rw[HQ];cases look gP.tm t <;> rfl
structure Fits (gP pW:St) (a:Act):Prop where
 rt:∀ r R,look gP.rt r=some R->look pW.rt r=some R
 tm:∀ t xq,look gP.tm t=some xq->∃ tv,look pW.tm t=some tv/\gp xq tv/\∀(Z:Nat->Prop) (g:Gh) (st:St) (w:World),bW Z g st w tv (a.tmps.getD t undef)->bW Z g st w xq (a.tmps.getD t undef)
 may:∀ d q want y gg l,look gP.tm d=some (.may q want y gg l)->∀ tq,look pW.tm q=some tq->ia tq y
 mayS:qL pW
theorem Fits.ext{gP pW:St}(f:Fits gP pW a):Ext gP (over gP pW) where
 tm:=fun t tv h=>by rw[uM,h]
 rt:=f.rt
theorem Fits.rel{gP pW:St}(f:Fits gP pW a)(h:Rel cx Z g pW a w):Rel cx Z g (over gP pW) a w:=by
 refine h.swap (fun _=>rfl) fun t tv ht=>?_
 rw[uM]at ht;cases h0:look gP.tm t with
 | none=>rw[h0]at ht;exact h.tm t tv ht
 | some xq=>rw[h0]at ht;simp only[amh]at ht;subst ht;obtain⟨tv,h1,h2,h3⟩:=f.tm t xq h0;exact⟨(h.tm t tv h1).1,h3 _ _ _ _ (h.tm t tv h1).2⟩
theorem Fits.cons{gP pW:St}(f:Fits gP pW a):qL (over gP pW):=by
 intro d q want y gg l hl tq vT;have key:∀ tqS,look pW.tm q=some tqS->ia tqS y:=by
  rw[uM]at hl;cases h0:look gP.tm d with
  | none=>rw[h0]at hl;exact f.mayS d q want y gg l hl
  | some xq=>rw[h0]at hl;simp only[amh]at hl;subst hl;exact f.may d q want y gg l h0
 rw[uM]at vT;cases h0:look gP.tm q with
 | none=>rw[h0]at vT;exact key _ vT
 | some xq=>rw[h0]at vT;simp only[amh]at vT;subst vT;obtain⟨tv,h1,h2,_⟩:=f.tm q xq h0;exact ia.of h2 (key tv h1)
theorem Fits.back{gP pW:St}(f:Fits gP pW a){t:Nat}{tv:TV}(h:look pW.tm t=some tv):∃ kq,look (over gP pW).tm t=some kq/\gp kq tv:=by
 rw[uM];cases h0:look gP.tm t with
 | none=>exact⟨tv,h,gp.refl _⟩
 | some xq=>obtain⟨tv1,h1,h2,_⟩:=f.tm t xq h0;rw[h]at h1;simp only[amh]at h1;subst h1;exact⟨xq,rfl,h2⟩
variable{nt:Nat->Prop}{base:St}{bs bsF:Bd}{mask S:Nat}
theorem MC(hb:eJ nt base bs)(hF:eJ nt base bsF)(hl:eE bs bsF)(hm:MB (aG base bs))(Fe:MB (aG base bsF))(hs:∀ i t p,(i,t,p)∈bs->mask.testBit i=true->S.testBit i=true):Fits (view base mask bs) (view base S bsF) a where
 rt:=fun r R h=>by
  rw[jt _ hb]at h;rw[jt _ hF];rcases h with ⟨i,p,h1,h2,h3⟩ | h
  . obtain⟨p',h4,h5⟩:=hl i r p h1;exact .inl ⟨i,p',h4,hs i r p h1 h2,by rw[<- h5.1];exact h3⟩
  . exact .inr h
 tm:=fun t xq h=>by
  rw[e9 _ hb]at h;rcases h with ⟨i,p,h1,h2,rfl⟩ | h
  . obtain⟨p',h4,h5⟩:=hl i t p h1;exact⟨p'.1,(e9 _ hF _ _).2 (.inl ⟨i,p',h4,hs i t p h1 h2,rfl⟩),h5.2.1,fun Z g st w hr=>h5.2.2 Z g st w _ hr⟩
  . exact⟨xq,(e9 _ hF _ _).2 (.inr h),gp.refl _,fun _ _ _ _ h=>h⟩
 may:=fun d q want y gg l h tq vT=>by
  have h1:look (aG base bs).tm d=some (.may q want y gg l):=by
   rw[ct hb];rw[e9 _ hb]at h;rcases h with ⟨i,p,h1,h2,h3⟩ | h
   . exact .inl ⟨i,p,h1,h3⟩
   . exact .inr h
  obtain⟨tq0,h2,h3⟩:=hm d q want y gg l h1;rw[ct hb]at h2;rw[e9 _ hF]at vT;rcases h2 with ⟨i,p,g1,rfl⟩ | h2
  . obtain⟨p',g2,g3⟩:=hl i q p g1;rcases vT with ⟨i',U7,k1,_,rfl⟩ | vT
    . obtain⟨_,_,rfl⟩:=hF.uniq g2 k1 (.inr rfl);exact ia.of g3.2.2 h3
    . rw[(hF.mem g2).2.1]at vT;simp at vT
  . rcases vT with ⟨i',U7,k1,_,rfl⟩ | vT
    . rw[(hF.mem k1).2.1]at h2;simp at h2
    . rw[h2]at vT;simp only[amh]at vT;exact vT ▸ h3
 mayS:=by
  intro d q want y gg l h tq vT;have up:∀ t tv,look (view base S bsF).tm t=some tv->look (aG base bsF).tm t=some tv:=fun t tv h=>by
   rw[ct hF];rw[e9 _ hF]at h;rcases h with ⟨i,p,h1,h2,h3⟩ | h
   . exact .inl ⟨i,p,h1,h3⟩
   . exact .inr h
  exact Fe.cons d q want y gg l (up _ _ h) tq (up _ _ vT)
theorem aY(S j i:Nat):(S ||| 2 ^ j).testBit i=(S.testBit i||decide (j=i)):=by rw[Nat.testBit_or,Nat.testBit_two_pow]
theorem HN(hF:eJ nt base bsF){j d:Nat}{p p':TV×Option Rt}(hj:(j,d,p')∈bsF){stX:St}(h:Rel cx Z g (stX.ba d p) a w)(Fp:∀ r,look stX.rt r=look (view base S bsF).rt r)
 (Fq:∀ t tv,look (view base S bsF).tm t=some tv->∃ kq,look stX.tm t=some kq/\gp kq tv)(Ck:p.2=p'.2)(yo:gp p.1 p'.1):Rel cx Z g (view base (S ||| 2 ^ j) bsF) a w:=by
 obtain⟨_,n1,n2⟩:=hF.mem hj;refine h.swap (fun r=>?_) fun t tv ht=>?_
 . apply Option.ext;intro R;show look _ r=some R↔look _ r=some R;rw[jt _ hF,AD,Fp];constructor
   . rintro(⟨i,U7,h1,h2,h3⟩ | h1)
     . rw[aY]at h2;by_cases Dr:j=i
       . obtain⟨_,e1,e2⟩:=hF.uniq hj h1 (.inl Dr);subst e1;subst e2;rw[Ck,h3];simp
       . have hS:S.testBit i=true:=by simpa[Dr]using h2
         have H2:¬ d=r:=fun e=>Dr ((hF.uniq hj h1 (.inr e)).1)
         have:look (view base S bsF).rt r=some R:=(jt _ hF _ _).2 (.inl ⟨i,U7,h1,hS,h3⟩);cases p.2 <;> simp[H2,this]
     . have H2:¬ d=r:=fun e=>by rw[<- e,n2]at h1;simp at h1
       have:look (view base S bsF).rt r=some R:=(jt _ hF _ _).2 (.inr h1);cases p.2 <;> simp[H2,this]
   . intro h1;have old:look (view base S bsF).rt r=some R->(∃ i p,(i,r,p)∈bsF/\(S ||| 2 ^ j).testBit i=true/\p.2=some R)∨look base.rt r=some R:=fun h1=>by
      rw[jt _ hF]at h1;rcases h1 with ⟨i,U7,k1,k2,k3⟩ | h1
      . exact .inl ⟨i,U7,k1,by rw[aY,k2];rfl,k3⟩
      . exact .inr h1
     cases hp:p.2 with
     | none=>rw[hp]at h1;exact old h1
     | some R0=>
       rw[hp]at h1;simp only at h1;by_cases H2:d=r
       . rw[if_pos H2]at h1;subst H2;exact .inl ⟨j,p',hj,by rw[aY];simp,by rw[<- Ck,hp];exact h1⟩
       . rw[if_neg H2]at h1;exact old h1
 . have old:¬ d=t->look (view base S bsF).tm t=some tv->t<a.tmps.size/\bW Z g (stX.ba d p) w tv (a.tmps.getD t undef):=fun hdt h1=>by
    obtain⟨kq,k1,k2⟩:=Fq t tv h1;have:=h.tm t kq (by rw[cC,if_neg hdt];exact k1);exact⟨this.1,k2 _ _ _ _ _ this.2⟩
   rw[e9 _ hF]at ht;rcases ht with ⟨i,U7,h1,h2,rfl⟩ | h1
   . rw[aY]at h2;by_cases Dr:j=i
     . obtain⟨_,e1,e2⟩:=hF.uniq hj h1 (.inl Dr);subst e1;subst e2;have:=h.tm d p.1 (by rw[cC,if_pos rfl]);exact⟨this.1,yo _ _ _ _ _ this.2⟩
     . have hS:S.testBit i=true:=by simpa[Dr]using h2
       exact old (fun e=>Dr ((hF.uniq hj h1 (.inr e)).1)) ((e9 _ hF _ _).2 (.inl ⟨i,U7,h1,hS,rfl⟩))
   . exact old (fun e=>by rw[<- e,n1]at h1;simp at h1) ((e9 _ hF _ _).2 (.inr h1))
theorem NW(hF:eJ nt base bsF){j d:Nat}{p':TV×Option Rt}(hj:(j,d,p')∈bsF)(hS:S.testBit j=false){gP:St}:(over gP (view base S bsF)).free d=true:=by
 have:look (view base S bsF).rt d=none:=by
  cases hl:look (view base S bsF).rt d with
  | none=>rfl
  | some R=>
    rw[jt _ hF]at hl;rcases hl with ⟨i,U7,h1,h2,_⟩ | hl
    . rw[(hF.uniq hj h1 (.inr rfl)).1,h2]at hS;simp at hS
    . rw[(hF.mem hj).2.2]at hl;simp at hl
 show(match look (view base S bsF).rt d with | none=>true | some _=>false)=true;rw[this]
def En.CJ(E:En)(t:Nat):Prop:=E.dB t=true
def Fit{P:Program}(cx:Cx P)(E:En)(a:Act):Prop:=E.nt<=a.tmps.size/\∀ t v,cx.nz t=some v->jb E.pins t=true
theorem Fit.dst{P:Program}{cx:Cx P}{a:Act}(h:Fit cx E a){d:Nat}(hd:E.CJ d):kR cx a d:=by
 unfold En.CJ En.dB at hd;simp only[ami,am4]at hd;refine⟨amG (ann (amE hd.1)) h.1,?_⟩;cases hp:cx.nz d with
 | none=>rfl
 | some v=>rw[h.2 d v hp]at hd;simp at hd
theorem Fit.put{P:Program}{cx:Cx P}{a:Act}(h:Fit cx E a)(d:Option Nat)(v:Value):Fit cx E (a.put d v):=⟨by rw[vg];exact h.1,h.2⟩
def su(P:Program)(E:En)(ops:Array Oper)(ns:List Nat)(base:St)(bsF:Bd)(i0 j:Nat):Prop:=
 ∀(cx:Cx P) (S:Nat) (a:Act) (w:World) (Z:Nat->Prop) (g:Gh) (next:Act->World->Prop) (Q:Exit->Act->World->Prop),
  (∀ i,i0<=i->i<j->(ns.getD j cW).testBit i=true->S.testBit i=true)->S.testBit j=false->Rel cx Z g (view base S bsF) a w->Fit cx E a ->
  (∀ Z' g' a' w',Rel cx Z' g' (view base (S ||| 2 ^ j) bsF) a' w'->Fit cx E a'->next a' w')->wpOp P ops Q j next a w
variable{ops:Array Oper}{ns:List Nat}{i0:Nat}
theorem Gc(hT:cH P E)(eF:dQ P E){j d:Nat}{o:Oper}{p p':TV×Option Rt}(ho:ops[j]? = some o)(hd:o.dst=some d)(hF:eJ E.CJ base bsF)(hj:(j,d,p')∈bsF)(Ck:p.2=p'.2)(yo:gp p.1 p'.1)
 {gP:St}(hq:(yU E gP d o.op).run=some p){cx:Cx P}{S:Nat}{a:Act}{w:World}{Z:Nat->Prop}{g:Gh}{next:Act->World->Prop}{Q:Exit->Act->World->Prop}(hS:S.testBit j=false)(h:Rel cx Z g (view base S bsF) a w)(dh:Fit cx E a)
 (f:Fits gP (view base S bsF) a)(hw:Region.wanted o (yielded ops a.tmps)=true)(hn:∀ Z' g' a' w',Rel cx Z' g' (view base (S ||| 2 ^ j) bsF) a' w'->Fit cx E a'->next a' w'):wpOp P ops Q j next a w:=by
 unfold wpOp;simp only[ho,hw,if_true];refine .inl ?_;have cE:kR cx a d:=dh.dst (hF.mem hj).1;refine Ct hT eF f.ext (f.rel h) f.cons hd cE (NW hF hj hS) hq _ _ fun Z' g' v w' hr=>hn Z' g' _ w' ?_ (dh.put _ _)
 exact HN hF hj hr (fun _=>rfl) (fun t tv ht=>f.back ht) Ck yo
theorem CL{j d:Nat}{o:Oper}{p':TV×Option Rt}(ho:ops[j]? = some o)(hd:o.dst=some d)(hF:eJ E.CJ base bsF)(hj:(j,d,p')∈bsF)(Ck:p'.2=none)
 {cx:Cx P}{S:Nat}{a:Act}{w:World}{Z:Nat->Prop}{g:Gh}{next:Act->World->Prop}{Q:Exit->Act->World->Prop}(h:Rel cx Z g (view base S bsF) a w)(dh:Fit cx E a)
 (yo:∀(Z:Nat->Prop) (g:Gh) (st:St) (w:World),bW Z g st w p'.1 undef)(hw:Region.wanted o (yielded ops a.tmps)=false)(hn:∀ Z' g' a' w',Rel cx Z' g' (view base (S ||| 2 ^ j) bsF) a' w'->Fit cx E a'->next a' w'):wpOp P ops Q j next a w:=by
 unfold wpOp;simp only[ho,hw,am1,anz];have cE:kR cx a d:=dh.dst (hF.mem hj).1;rw[hd];refine hn Z g _ w ?_ (dh.put _ _);exact HN hF hj (h.nS cE (tv:=p'.1) (yo _ _ _ _)) (fun _=>rfl) (fun t tv ht=>⟨tv,ht,gp.refl _⟩) Ck.symm (gp.refl _)
theorem CY{o:Oper}{j:Nat}{want x:Bool}{og:Oper}{gt:Nat}(hg:o.guard=some (j,want))(ho:ops[j]? = some og)(hd:og.dst=some gt){a:Act}(hv:a.tmps.getD gt undef= .bool x):Region.wanted o (yielded ops a.tmps)=(x == want):=by
 have:a.tmps[gt]? = some (.bool x):=by
  rw[amr]at hv;cases hh:a.tmps[gt]? with
  | none=>rw[hh]at hv;simp[undef]at hv
  | some v=>rw[hh]at hv;simpa using hv
 simp only[Region.wanted,hg,yielded,ho,oB,hd,this];cases x <;> cases want <;> rfl
end
section
variable{Z:Nat->Prop}{g:Gh}{st:St}{w:World}
theorem sB{gg:Bool}{l:List AV}{v:Value}:bW Z g st w (fP gg l) v↔(match fP gg l with | .v a=>bC Z g st w a v | .agg l=>∃ vs:Array Value,v= .agg vs/\a8 Z g st w l vs.toList | _=>True):=by unfold fP;split <;> simp[bW]
end
theorem EX{q:Nat}{want y gg:Bool}{l:List AV}(hy:y=want):gp (.may q want y gg l) (fP gg l)/\gp (fP gg l) (.may q want y gg l):=
 ⟨fun Z g st w v h=>sB.2 (h hy),fun Z g st w v h _=>sB.1 h⟩
theorem HA{q:Nat}{want y gg:Bool}{l:List AV}:gp (fP gg l) (.may q want y gg l):=fun Z g st w v h _=>sB.1 h
theorem zQ(x:Bool):gp (.v (.d .bool x)) (.v (.lb x))/\gp (.v (.lb x)) (.v (.d .bool x)):=⟨fun _ _ _ _ _ h=>h,fun _ _ _ _ _ h=>h⟩
theorem PW(x:Bool):ia (.v (.lb x)) x:=fun _ _ _ _ _ h=>h
theorem ED{st:St}(hc:qL st){t:Nat}{tv:TV}(h:st.tv t=some tv):∃ tq,look st.tm t=some tq/\gp tq tv/\gp tv tq:=by
 unfold St.tv at h;cases hl:look st.tm t with
 | none=>simp[hl]at h
 | some xq=>
   rw[hl]at h;refine⟨xq,rfl,?_⟩;cases xq with
   | may q want y gg l=>
     simp only at h;cases hq:look st.tm q with
     | none=>simp[hq]at h
     | some tq=>
       simp only[hq]at h;have ht:=hc t q want y gg l hl tq hq;split at h
       . rename_i x he;have he:tq= .v (.lb x):=by simpa using he
         subst he;have:=ht.lb;subst this;split at h
         . simp only[amh]at h;subst h;exact EX rfl
         . simp only[amh]at h;subst h;exact EX rfl
         . simp at h
       . simp only[amh]at h;subst h;exact⟨gp.refl _,gp.refl _⟩
       . simp at h
   | _=>simp only[amh]at h;subst h;exact⟨gp.refl _,gp.refl _⟩
theorem rF{gt:Nat}{x:Bool}:∀ {bs:Bd} {i t:Nat} {p:TV×Option Rt},(i,t,p)∈ib gt x bs->∃ p0,(i,t,p0)∈bs
 | [],_,_,_,h=>by simp[ib]at h
 | (i0,t0,p0)::r,i,t,p,h=>by
   unfold ib at h;cases hb:Nat.beq t0 gt with
   | true=>
     simp only[hb,oT]at h;rcases ams.1 h with h | h
     . cases h;exact⟨p0,amD ..⟩
     . exact⟨p,amy _ h⟩
   | false=>
     simp only[hb,oF]at h;rcases ams.1 h with h | h
     . cases h;exact⟨p0,amD ..⟩
     . obtain⟨p1,h1⟩:=rF h;exact⟨p1,amy _ h1⟩
theorem zT{nt:Nat->Prop}{base:St}{gt:Nat}{x:Bool}:∀ {bs:Bd},eJ nt base bs->eJ nt base (ib gt x bs)
 | [],h=>h
 | (i0,t0,p0)::r,h=>by
   obtain⟨h1,h2,h3,h4,h5⟩:=h;unfold ib;cases hb:Nat.beq t0 gt with
   | true=>exact⟨h1,h2,h3,h4,h5⟩
   | false=>refine⟨h1,h2,h3,fun e he=>?_,zT h5⟩;obtain⟨i,t,p⟩:=e;obtain⟨p1,hp⟩:=rF he;exact h4 (i,t,p1) hp
theorem rh{nt:Nat->Prop}{base:St}{gt:Nat}{x:Bool}:∀ {bs:Bd},eJ nt base bs->∀ {i t:Nat} {p:TV×Option Rt},(i,t,p)∈ib gt x bs↔(t≠gt/\(i,t,p)∈bs)∨(t=gt/\∃ p0,(i,gt,p0)∈bs/\p=(.v (.lb x),p0.2))
 | [],_,i,t,p=>by simp[ib]
 | (i0,t0,p0)::r,hb,i,t,p=>by
   obtain⟨h1,h2,h3,h4,h5⟩:=hb;have ih:=rh (gt:=gt) (x:=x) h5 (i:=i) (t:=t) (p:=p);unfold ib;cases hb:Nat.beq t0 gt with
   | true=>
     have e:=beq_eq hb;subst e;simp only[oT];constructor
     . intro h;rcases ams.1 h with h | h
       . cases h;exact .inr ⟨rfl,p0,amD ..,rfl⟩
       . exact .inl ⟨(h4 _ h).2,amy _ h⟩
     . rintro(⟨cY,h⟩ | ⟨rfl,p1,h,rfl⟩)
       . rcases ams.1 h with h | h
         . cases h;exact absurd rfl cY
         . exact amy _ h
       . rcases ams.1 h with h | h
         . cases h;exact amD ..
         . exact absurd rfl (h4 _ h).2
   | false=>
     have cY:t0≠gt:=fun e=>by subst e;simp at hb
     simp only[oF];constructor
     . intro h;rcases ams.1 h with h | h
       . cases h;exact .inl ⟨cY,amD ..⟩
       . rcases ih.1 h with ⟨h6,h7⟩ | ⟨rfl,p1,h6,rfl⟩
         . exact .inl ⟨h6,amy _ h7⟩
         . exact .inr ⟨rfl,p1,amy _ h6,rfl⟩
     . rintro(⟨HW,h⟩ | ⟨rfl,p1,h,rfl⟩)
       . rcases ams.1 h with h | h
         . cases h;exact amD ..
         . exact amy _ (ih.2 (.inl ⟨HW,h⟩))
       . rcases ams.1 h with h | h
         . cases h;exact absurd rfl cY
         . exact amy _ (ih.2 (.inr ⟨rfl,p1,h,rfl⟩))
section
variable{nt:Nat->Prop}{base:St}{bs:Bd}{gt d:Nat}{x:Bool}
def qG(base:St)(bs:Bd)(gt:Nat)(x:Bool):Prop:=∃ tq,look (aG base bs).tm gt=some tq/\gp tq (.v (.lb x))/\gp (.v (.lb x)) tq
theorem xz(hb:eJ nt base bs)(hk:qG base bs gt x):eE bs (ib gt x bs):=fun i t p h=>by
 by_cases ht:t=gt
 . subst ht;refine⟨(.v (.lb x),p.2),(rh hb).2 (.inr ⟨rfl,p,h,rfl⟩),rfl,?_⟩;obtain⟨tq,h1,h2,h3⟩:=hk;have:look (aG base bs).tm t=some p.1:=(ct hb _ _).2 (.inl ⟨i,p,h,rfl⟩);rw[this]at h1;simp only[amh]at h1;subst h1;exact⟨h2,h3⟩
 . exact⟨p,(rh hb).2 (.inl ⟨ht,h⟩),Alike.refl p⟩
theorem RA(hb:eJ nt base bs)(hm:MB (aG base bs))(hk:qG base bs gt x):MB (aG base (ib gt x bs)):=by
 have cz:=zT (gt:=gt) (x:=x) hb;intro d q want y gg l hl;have old:look (aG base bs).tm d=some (.may q want y gg l):=by
  rw[ct cz]at hl;rw[ct hb];rcases hl with ⟨i,p,h1,h2⟩ | hl
  . rcases(rh hb).1 h1 with ⟨h3,h4⟩ | ⟨rfl,p0,h3,rfl⟩
    . exact .inl ⟨i,p,h4,h2⟩
    . simp at h2
  . exact .inr hl
 obtain⟨tq,h1,h2⟩:=hm d q want y gg l old;have vP:=h1;rw[ct hb]at h1;rcases h1 with ⟨i,p,h3,rfl⟩ | h1
 . obtain⟨p',h4,h5⟩:=xz hb hk i q p h3;exact⟨p'.1,(ct cz _ _).2 (.inl ⟨i,p',h4,rfl⟩),ia.of h5.2.2 h2⟩
 . exact⟨tq,(ct cz _ _).2 (.inr h1),h2⟩
theorem wQ:∀ {bs:Bd} {gt:Nat},lL gt bs=false->∀ e∈bs,e.2.1≠gt
 | [],_,_,_,h=>by simp at h
 | (i0,t0,p0)::r,gt,h,e,he=>by
   simp only[lL,an3]at h;rcases ams.1 he with he | he
   . subst he;intro h';subst h';have:=h.1;simp at this
   . exact wQ h.2 e he
theorem eJ.yx{b:Bool}(Mj:b=true->nt d)(hb:eJ nt base bs){i:Nat}{p:TV×Option Rt}(h1:(b&&pR base d&&base.free d&& !lL d bs)=true)(hi:∀ e∈bs,e.1≠i):eJ nt base ((i,d,p)::bs):=by
 simp only[ami,am4]at h1;obtain⟨⟨⟨h1,h2⟩,h3⟩,h4⟩:=h1;refine⟨?_,?_,kB h3,fun e he=>⟨hi e he,wQ h4 e he⟩,hb⟩
 . exact Mj h1
 . unfold pR at h2;split at h2
   . assumption
   . simp at h2
theorem MB.yx(hm:MB (aG base bs)){i d:Nat}{p:TV×Option Rt}(hb:eJ nt base ((i,d,p)::bs))(hp:∀ q want y gg l,p.1= .may q want y gg l->∃ tq,look (aG base bs).tm q=some tq/\ia tq y):MB (aG base ((i,d,p)::bs)):=by
 have cY:∀ q tq,look (aG base bs).tm q=some tq->¬ d=q:=fun q tq hq e=>by
  subst e;rw[ct hb.2.2.2.2]at hq;rcases hq with ⟨i',p',h1,_⟩ | hq
  . exact absurd rfl (hb.2.2.2.1 _ h1).2
  . rw[hb.2.1]at hq;simp at hq
 intro t q want y gg l hl;have hl:look ((aG base bs).ba d p).tm t=_:=hl;rw[cC]at hl;have fin:(∃ tq,look (aG base bs).tm q=some tq/\ia tq y)->∃ tq,look (aG base ((i,d,p)::bs)).tm q=some tq/\ia tq y:=by rintro⟨tq,h1,h2⟩;refine⟨tq,?_,h2⟩;show look ((aG base bs).ba d p).tm q=_;rw[cC,if_neg (cY q tq h1)];exact h1
 by_cases ht:d=t
 . rw[if_pos ht]at hl;exact fin (hp q want y gg l (by simpa using hl))
 . rw[if_neg ht]at hl;exact fin (hm t q want y gg l hl)
end
theorem Hq(f:Nat×TV->Nat×TV)(hf:∀ p,(f p).1=p.1):∀(l:List (Nat×TV)) (t:Nat),look (l.map f) t=(look l t).map fun tv=>(f (t,tv)).2
 | [],t=>rfl
 | (m,x)::l,t=>by
   have h1:(f (m,x)).1=m:=hf _;show look (f (m,x)::l.map f) t=_;have:f (m,x)=(m,(f (m,x)).2):=Prod.ext h1 rfl;rw[this,aN,aN];by_cases h:m=t
   . subst h;simp
   . simp[h,Hq f hf l t]
def uT(gt:Nat)(want:Bool):TV->TV
 | .may t w' y g' l=>bif Nat.beq t gt&&cw w' want then fP g' l else .may t w' y g' l
 | tv=>tv
theorem GM(st:St)(gt:Nat)(want:Bool)(t:Nat):look (st.under gt want).tm t=(look st.tm t).map (uT gt want):=by
 unfold St.under;rw[Hq]
 . cases look st.tm t with
   | none=>rfl
   | some tv=>
     cases tv with
     | may q w' y g' l=>simp only[amI,uT];cases Nat.beq q gt&&cw w' want <;> rfl
     | _=>rfl
 . rintro⟨t,tv⟩;cases tv with
   | may q w' y g' l=>simp only;cases Nat.beq q gt&&cw w' want <;> rfl
   | _=>rfl
theorem Fits.under{gP pW:St}{a:Act}(f:Fits gP pW a){gt:Nat}{want:Bool}(hy:∀ tq,look pW.tm gt=some tq->∀ y,ia tq y->y=want)(hg:∃ tq,look pW.tm gt=some tq):Fits (gP.under gt want) pW a where
 rt:=f.rt
 tm:=fun t xq h=>by
  rw[GM]at h;cases hl:look gP.tm t with
  | none=>simp[hl]at h
  | some tv1=>
    rw[hl]at h;simp only[amI,amh]at h;subst h;obtain⟨tv,h1,h2,h3⟩:=f.tm t tv1 hl;cases tv1 with
    | may q w' y g' l=>
      simp only[uT];cases hb:Nat.beq q gt&&cw w' want with
      | false=>exact⟨tv,h1,h2,h3⟩
      | true=>simp only[oT];simp only[ami]at hb;have e1:=beq_eq hb.1;have e2:=eL hb.2;subst e1;subst e2;obtain⟨tq,vT⟩:=hg;have hyy:=hy tq vT y (f.may t q w' y g' l hl tq vT);have hs:=EX (q:=q) (gg:=g') (l:=l) hyy;exact⟨tv,h1,hs.2.trans h2,fun Z g st w hr=>hs.1 _ _ _ _ _ (h3 Z g st w hr)⟩
    | _=>exact⟨tv,h1,h2,h3⟩
 may:=fun d q w' y gg l h=>by
  rw[GM]at h;cases hl:look gP.tm d with
  | none=>simp[hl]at h
  | some tv1=>
    rw[hl]at h;simp only[amI,amh]at h;cases tv1 with
    | may q1 w1 y1 g1 l1=>
      simp only[uT]at h;cases hb:Nat.beq q1 gt&&cw w1 want with
      | true=>rw[hb]at h;exact(l5 h).elim
      | false=>rw[hb]at h;simp only[oF,TV.may.injEq]at h;obtain⟨rfl,rfl,rfl,rfl,rfl⟩:=h;exact f.may d _ _ _ _ _ hl
    | _=>simp[uT]at h
 mayS:=f.mayS
theorem Ka{gt:Nat}{want x:Bool}{t:Tr (TV×Option Rt)}{tv:TV}(h:Hk gt want x t=some tv):∃ gg l,t.run=some (fP gg l,none)/\tv= .may gt want x gg l:=by
 unfold Hk at h;split at h
 . rename_i a;simp only[amh]at h;exact⟨false,[a],rfl,h.symm⟩
 . rename_i l;simp only[amh]at h;exact⟨true,l,by cases l <;> rfl,h.symm⟩
 . simp at h
def cJ(st:St):Prop:=∀ t tv,look st.tm t=some tv->¬ tv.iL
theorem cJ.cons{st:St}(h:cJ st):qL st:=fun d q want y gg l hl=>(h d _ hl trivial).elim
theorem cJ.MB{st:St}(h:cJ st):MB st:=fun d q want y gg l hl=>(h d _ hl trivial).elim
section
variable{P:Program}{E:En}{ops:Array Oper}{ns:List Nat}{base:St}{i0:Nat}
def acI(ops:Array Oper)(i t:Nat):Prop:=∃ o,ops[i]? = some o/\o.dst=some t
def lK(P:Program)(E:En)(dr:Bool)(ops:Array Oper)(ns:List Nat)(base:St)(i0 i:Nat)(bs:Bd)(stF:St):Prop:=
 ∃(i1:Nat) (bsF:Bd),i<=i1/\eJ E.CJ base bsF/\MB (aG base bsF)/\(∀ e∈bsF,i0<=e.1/\e.1<i1/\acI ops e.1 e.2.1)/\(bO ops.toList=false->∀ i t p,(i,t,p)∈bsF->¬ p.1.iL)/\eE bs bsF /\
  (∀ j,i<=j->j<i1->su P E ops ns base bsF i0 j) /\
  ((i1=ops.size/\stF=lz (bO ops.toList) (aG base bsF)) ∨
    ∃(o:Oper) (ay:St),ops[i1]? = some o/\o.guard=none/\(dr=true->j6 ns i1=true)/\yc E o.dst=true/\(Cc E (lz (bO ops.toList) (aG base bsF)) o.dst o.op).run=some ay/\(fS E dr ops.toList ns (ops.toList.drop (i1+1)) (i1+1) ay []).run=some stF)
theorem lK.step{dr:Bool}{i:Nat}{d:Nat}{p:TV×Option Rt}{bs kU:Bd}{stF:St}(h:lK P E dr ops ns base i0 (i+1) ((i,d,p)::kU) stF)(hl:eE bs kU)
 (hs:∀ bsF,eJ E.CJ base bsF->MB (aG base bsF)->eE ((i,d,p)::kU) bsF->su P E ops ns base bsF i0 i):lK P E dr ops ns base i0 i bs stF:=by
 obtain⟨i1,bsF,h1,h2,h3,h4,h5,h6,h7,h8⟩:=h;refine⟨i1,bsF,by omega,h2,h3,h4,h5,(hl.trans (eE.cons (eE.refl kU))).trans h6,fun j hj H3=>?_,h8⟩;by_cases Im:i=j
 . subst Im;exact hs bsF h2 h3 h6
 . exact h7 j (by omega) H3
theorem pn{e:Nat×Nat×(TV×Option Rt)}{bs bsF:Bd}(h:eE (e::bs) bsF):eE bs bsF:=fun i t p hp=>h i t p (amy _ hp)
theorem qG.of{nt:Nat->Prop}{bs:Bd}{mask gt:Nat}{x:Bool}{tv:TV}(hb:eJ nt base bs)(hm:MB (aG base bs))(h:(view base mask bs).tv gt=some tv)(hx:gp tv (.v (.lb x))/\gp (.v (.lb x)) tv):qG base bs gt x:=by
 have up:Ext (view base mask bs) (aG base bs):=by
  refine⟨fun t tv h=>?_,fun r R h=>?_⟩
  . rw[ct hb];rw[e9 _ hb]at h;rcases h with ⟨i,p,h1,h2,h3⟩ | h
    . exact .inl ⟨i,p,h1,h3⟩
    . exact .inr h
  . rw[jC base (bitsOf bs) bs (fun i t p h=>eZ h),jt _ hb];rw[jt _ hb]at h;rcases h with ⟨i,p,h1,h2,h3⟩ | h
    . exact .inl ⟨i,p,h1,eZ h1,h3⟩
    . exact .inr h
 obtain⟨tq,h1,h2,h3⟩:=ED hm.cons (up.tv h);exact⟨tq,h1,h2.trans hx.1,hx.2.trans h3⟩
theorem qG.ae5{bs:Bd}{gt:Nat}{x:Bool}(h:qG base bs gt x):∃ tq,look (aG base bs).tm gt=some tq/\ia tq x:=by obtain⟨tq,h1,h2,h3⟩:=h;exact⟨tq,h1,ia.of h2 (PW x)⟩
theorem Iz{j gt:Nat}(h:my ops.toList j=some gt):∃ og,ops[j]? = some og/\og.dst=some gt:=by
 unfold my at h;split at h
 . rename_i o ho;rw[aml]at ho;exact⟨o,ho,h⟩
 . simp at h
theorem Gm{P:Program}{cx:Cx P}{Z:Nat->Prop}{g:Gh}{gP pW:St}{a:Act}{w:World}(f:Fits gP pW a)(h:Rel cx Z g pW a w){gt:Nat}{tv:TV}{x:Bool}(ht:gP.tv gt=some tv)(hx:gp tv (.v (.lb x))):a.tmps.getD gt undef= .bool x:=
 hx _ _ _ _ _ (jA (f.rel h) f.cons.cons (f.ext.tv ht))
theorem Ji{P:Program}{cx:Cx P}{Z:Nat->Prop}{g:Gh}{gP pW:St}{a:Act}{w:World}(f:Fits gP pW a)(h:Rel cx Z g pW a w){gt:Nat}(ht:gP.tv gt=some (.tup [])):a.tmps.getD gt undef=undef:=by
 obtain⟨vs,e,hv⟩:=(jA (f.rel h) f.cons.cons (f.ext.tv ht):bW Z g _ w (.tup []) _);cases hl:vs.toList with
 | nil=>
   have:vs = #[]:=by cases vs;simp_all
   rw[e,this];rfl
 | cons _ _=>rw[hl]at hv;exact hv.elim
theorem PV{nt:Nat->Prop}{bs:Bd}{mask d:Nat}{op:Op}{p:TV×Option Rt}(hb:eJ nt base bs)(hm:MB (aG base bs))(hq:(yU E (view base mask bs) d op).run=some p):∀ q want y gg l,p.1= .may q want y gg l->∃ tq,look (aG base bs).tm q=some tq/\ia tq y:=by
 intro q want y gg l hp;obtain⟨d',Pj⟩:=LL hq (by rw[hp];trivial);rw[hp]at Pj;refine hm d' q want y gg l ?_;rw[ct hb];rw[e9 _ hb]at Pj;rcases Pj with ⟨i,p',h1,h2,h3⟩ | h
 . exact .inl ⟨i,p',h1,h3⟩
 . exact .inr h
theorem mX{i:Nat}{o:Oper}{gd:Nat×Bool}(h:ops[i]? = some o)(hg:o.guard=some gd):bO ops.toList=true:=by unfold bO;rw[aoZ];refine⟨o,?_,by rw[hg]⟩;rw[<- aml]at h;exact amo h
structure jN (E:En) (ops:Array Oper) (base:St) (i0 i:Nat) (bs:Bd):Prop where
 ok:eJ E.CJ base bs
 mb:MB (aG base bs)
 idx:∀ e∈bs,i0<=e.1/\e.1<i/\acI ops e.1 e.2.1
 ng:bO ops.toList=false->∀ i t p,(i,t,p)∈bs->¬ p.1.iL
def vK(E:En)(base:St)(d:Nat)(bs:Bd):Bool:=E.dB d&&pR base d&&base.free d&& !lL d bs
theorem jN.fits{i:Nat}{bs bsF:Bd}(hs:jN E ops base i0 i bs)(hF:eJ E.CJ base bsF)(Fe:MB (aG base bsF))(hl:eE bs bsF){S:Nat}(hS:∀ i',i0<=i'->i'<i->(ns.getD i cW).testBit i'=true->S.testBit i'=true){a:Act}:Fits (view base (ns.getD i cW) bs) (view base S bsF) a:=
 MC hs.ok hF hl hs.mb Fe fun i' t' p' h1 h2=>hS i' (hs.idx _ h1).1 (hs.idx _ h1).2.1 h2
theorem zL{dr:Bool}{i:Nat}{r:List Oper}(ih:∀(bs:Bd) (stF:St),jN E ops base i0 (i+1) bs->(fS E dr ops.toList ns r (i+1) base bs).run=some stF->lK P E dr ops ns base i0 (i+1) bs stF)(Ds:i0<=i)
 {bs kU:Bd}{d:Nat}{p:TV×Option Rt}{stF:St}(hs:jN E ops base i0 i kU)(hl:eE bs kU)(hd:vK E base d kU=true)(hp:∀ q want y gg l,p.1= .may q want y gg l->∃ tq,look (aG base kU).tm q=some tq/\ia tq y)(hpm:bO ops.toList=false->¬ p.1.iL)(mW:acI ops i d)
 (au:(fS E dr ops.toList ns r (i+1) base ((i,d,p)::kU)).run=some stF)(oS:∀ bsF,eJ E.CJ base bsF->MB (aG base bsF)->eE ((i,d,p)::kU) bsF->su P E ops ns base bsF i0 i):lK P E dr ops ns base i0 i bs stF:=by
 have hbc:eJ E.CJ base ((i,d,p)::kU):=eJ.yx (fun h=>h) hs.ok hd fun e he=>Nat.ne_of_lt (hs.idx e he).2.1
 refine lK.step (ih ((i,d,p)::kU) stF ⟨hbc,hs.mb.yx hbc hp,fun e he=>?_,fun h0 i' t' p' Ff=>?_⟩ au) hl oS
 . rcases ams.1 he with he | he
   . subst he;exact⟨Ds,ani i,mW⟩
   . have:=hs.idx e he;exact⟨this.1,ape this.2.1,this.2.2⟩
 . rcases ams.1 Ff with he | he
   . cases he;exact hpm h0
   . exact hs.ng h0 i' t' p' he
theorem KT(hT:cH P E)(eF:dQ P E){i:Nat}{o:Oper}(ho:ops[i]? = some o){kU:Bd}{d:Nat}{p:TV×Option Rt}(hs:jN E ops base i0 i kU)(hd:o.dst=some d)(hq:(yU E (view base (ns.getD i cW) kU) d o.op).run=some p)
 (hw:∀(cx:Cx P) (a:Act) (w:World) (Z:Nat->Prop) (g:Gh) (bsF:Bd) (S:Nat),eJ E.CJ base bsF->MB (aG base bsF)->eE kU bsF->(∀ i',i0<=i'->i'<i->(ns.getD i cW).testBit i'=true->S.testBit i'=true)->Rel cx Z g (view base S bsF) a w->Region.wanted o (yielded ops a.tmps)=true) :
 ∀ bsF,eJ E.CJ base bsF->MB (aG base bsF)->eE ((i,d,p)::kU) bsF->su P E ops ns base bsF i0 i:=by
 intro bsF hF Fe hl cx S a w Z g next Q hS hSi h dh hn;obtain⟨p',hj,U8⟩:=hl i d p (amD ..);exact Gc hT eF ho hd hF hj U8.1 U8.2.1 hq hSi h dh (hs.fits hF Fe (pn hl) hS) (hw cx a w Z g bsF S hF Fe (pn hl) hS h) hn
theorem Hj{i:Nat}{o:Oper}(ho:ops[i]? = some o){kU:Bd}{d:Nat}(hs:jN E ops base i0 i kU)(hd:o.dst=some d)
 (hw:∀(cx:Cx P) (a:Act) (w:World) (Z:Nat->Prop) (g:Gh) (bsF:Bd) (S:Nat),eJ E.CJ base bsF->MB (aG base bsF)->eE kU bsF->(∀ i',i0<=i'->i'<i->(ns.getD i cW).testBit i'=true->S.testBit i'=true)->Rel cx Z g (view base S bsF) a w->Region.wanted o (yielded ops a.tmps)=false) :
 ∀ bsF,eJ E.CJ base bsF->MB (aG base bsF)->eE ((i,d,(.tup [],none))::kU) bsF->su P E ops ns base bsF i0 i:=by
 intro bsF hF Fe hl cx S a w Z g next Q hS hSi h dh hn;obtain⟨p',hj,U8⟩:=hl i d _ (amD ..);exact CL ho hd hF hj U8.1.symm h dh (fun Z g st w=>U8.2.1 _ _ _ _ _ ⟨#[],rfl,trivial⟩) (hw cx a w Z g bsF S hF Fe (pn hl) hS h) hn
theorem F6{d:Nat}:∀ {bs:Bd},lL d bs=true->∃ i p,(i,d,p)∈bs
 | [],h=>by simp[lL]at h
 | (i0,t0,p0)::r,h=>by
   simp only[lL,anv]at h;rcases h with h | h
   . have:=beq_eq h;subst this;exact⟨i0,p0,amD ..⟩
   . obtain⟨i,p,h⟩:=F6 h;exact⟨i,p,amy _ h⟩
theorem Gv{d gt:Nat}{x:Bool}{bs:Bd}(h:vK E base d bs=true):vK E base d (ib gt x bs)=true:=by
 unfold vK at h ⊢;simp only[ami,am4]at h ⊢;refine⟨h.1,?_⟩;cases h3:lL d (ib gt x bs)with
 | false=>rfl
 | true=>obtain⟨i',p',h4⟩:=F6 h3;obtain⟨p0,h5⟩:=rF h4;exact absurd rfl (wQ h.2 _ h5)
theorem jN.ib{i:Nat}{bs:Bd}(hs:jN E ops base i0 i bs){gt:Nat}{x:Bool}(hk:qG base bs gt x)(hg:bO ops.toList=true):jN E ops base i0 i (Av.ib gt x bs) where
 ok:=zT hs.ok
 mb:=RA hs.ok hs.mb hk
 idx:=fun e he=>by obtain⟨i',t',p'⟩:=e;obtain⟨p0,h1⟩:=rF he;exact hs.idx (i',t',p0) h1
 ng:=fun h0=>by rw[hg]at h0;simp at h0
theorem Le(hT:cH P E)(eF:dQ P E){dr:Bool}{i:Nat}{r:List Oper}{o:Oper}(ih:∀(bs:Bd) (stF:St),jN E ops base i0 (i+1) bs->(fS E dr ops.toList ns r (i+1) base bs).run=some stF->lK P E dr ops ns base i0 (i+1) bs stF)(Ds:i0<=i)
 (ho:ops[i]? = some o){bs:Bd}{stF:St}(hs:jN E ops base i0 i bs){jg:Nat}{want x:Bool}(p9:o.guard=some (jg,want)){og:Oper}{gt d:Nat}(hog:ops[jg]? = some og)(H4:og.dst=some gt)(fN:o.dst=some d)(yp:vK E base d bs=true){tv:TV}
 (oW:(view base (ns.getD i cW) bs).tv gt=some tv)(hx:gp tv (.v (.lb x))/\gp (.v (.lb x)) tv){kU:Bd}(hs':jN E ops base i0 i kU)(Mk:eE bs kU)(xv:vK E base d kU=true)
 (au:(bif cw x want then ((yU E (view base (ns.getD i cW) kU) d o.op).bind fun p=>fS E dr ops.toList ns r (i+1) base ((i,d,p)::kU)).run else (fS E dr ops.toList ns r (i+1) base ((i,d,(.tup [],none))::kU)).run)=some stF):lK P E dr ops ns base i0 i bs stF:=by
 have HX:bO ops.toList=true:=mX ho p9;have OO:∀(cx:Cx P) (a:Act) (w:World) (Z:Nat->Prop) (g:Gh) (bsF:Bd) (S:Nat),eJ E.CJ base bsF->MB (aG base bsF)->eE kU bsF->(∀ i',i0<=i'->i'<i->(ns.getD i cW).testBit i'=true->S.testBit i'=true)->Rel cx Z g (view base S bsF) a w->Region.wanted o (yielded ops a.tmps)=(x == want):=fun cx a w Z g bsF S hF Fe hl hS h=>
  CY p9 hog H4 (Gm (hs.fits hF Fe (Mk.trans hl) hS) h oW hx.1)
 cases hxx:cw x want with
 | true=>
   simp only[hxx,oT]at au;rw[Tr.run_bind]at au;cases hq:(yU E (view base (ns.getD i cW) kU) d o.op).run with
   | none=>rw[hq]at au;simp at au
   | some p=>rw[hq]at au;exact zL ih Ds hs' Mk xv (PV hs'.ok hs'.mb hq) (fun h0=>by rw[HX]at h0;simp at h0) ⟨o,ho,fN⟩ au (KT hT eF ho hs' fN hq fun cx a w Z g bsF S hF Fe hl hS h=>by rw[OO cx a w Z g bsF S hF Fe hl hS h,eL hxx];simp)
 | false=>simp only[hxx,oF]at au;refine zL ih Ds hs' Mk xv (fun q want y gg l h=>by simp at h) (fun h0=>by rw[HX]at h0;simp at h0) ⟨o,ho,fN⟩ au (Hj ho hs' fN fun cx a w Z g bsF S hF Fe hl hS h=>?_);rw[OO cx a w Z g bsF S hF Fe hl hS h];cases x <;> cases want <;> simp_all[cw]
theorem V5(hT:cH P E)(eF:dQ P E){dr:Bool}{i:Nat}{r:List Oper}{o:Oper}(ih:∀(bs:Bd) (stF:St),jN E ops base i0 (i+1) bs->(fS E dr ops.toList ns r (i+1) base bs).run=some stF->lK P E dr ops ns base i0 (i+1) bs stF)(Ds:i0<=i)
 (ho:ops[i]? = some o){bs:Bd}{stF:St}(hs:jN E ops base i0 i bs){jg:Nat}{want x:Bool}(p9:o.guard=some (jg,want)){og:Oper}{gt d:Nat}(hog:ops[jg]? = some og)(H4:og.dst=some gt)(fN:o.dst=some d)(yp:vK E base d bs=true)
 (oW:(view base (ns.getD i cW) bs).tv gt=some (.v (.d .bool x))){tv:TV}(H5:Hk gt want x (yU E ((view base (ns.getD i cW) bs).under gt want) d o.op)=some tv)
 (au:(fS E dr ops.toList ns r (i+1) base ((i,d,(tv,none))::bs)).run=some stF):lK P E dr ops ns base i0 i bs stF:=by
 have HX:bO ops.toList=true:=mX ho p9;have hk:qG base bs gt x:=qG.of hs.ok hs.mb oW (zQ x);obtain⟨gg,l,hq,rfl⟩:=Ka H5;refine zL ih Ds hs (eE.refl _) yp (fun q want' y BY l' h=>?_) (fun h0=>by rw[HX]at h0;simp at h0) ⟨o,ho,fN⟩ au ?_
 . simp only[TV.may.injEq]at h;obtain⟨rfl,rfl,rfl,rfl,rfl⟩:=h;exact hk.ae5
 . intro bsF hF Fe hl cx S a w Z g next Q hS hSi h dh hn;obtain⟨p',hj,U8⟩:=hl i d _ (amD ..);have f:Fits (view base (ns.getD i cW) bs) (view base S bsF) a:=hs.fits hF Fe (pn hl) hS;have hv:a.tmps.getD gt undef= .bool x:=Gm f h oW (zQ x).1;have hw:=CY p9 hog H4 hv;by_cases hxw:x=want
   . subst hxw;obtain⟨tq,vT⟩:∃ tq,look (view base S bsF).tm gt=some tq:=by
      have adW:=oW;unfold St.tv at adW;cases Il:look (view base (ns.getD i cW) bs).tm gt with
      | none=>rw[Il]at adW;simp at adW
      | some xq=>obtain⟨tv1,h1,_⟩:=f.tm gt xq Il;exact⟨tv1,h1⟩
     have fu:=f.under (gt:=gt) (want:=x) (fun tq' alq y ht=>by have:=ht _ _ _ _ _ (h.tm gt tq' alq).2;rw[hv]at this;simpa using this.symm) ⟨tq,vT⟩;exact Gc hT eF ho fN hF hj (p:=(fP gg l,none)) U8.1 (HA.trans U8.2.1) hq hSi h dh fu (by rw[hw];simp) hn
   . refine CL ho fN hF hj U8.1.symm h dh (fun Z g st w=>U8.2.1 _ _ _ _ _ ?_) (by rw[hw];simpa using hxw) hn;exact fun e=>absurd e hxw
theorem N1(hT:cH P E)(eF:dQ P E){dr:Bool}{i:Nat}{r:List Oper}{o:Oper}(ih:∀(bs:Bd) (stF:St),jN E ops base i0 (i+1) bs->(fS E dr ops.toList ns r (i+1) base bs).run=some stF->lK P E dr ops ns base i0 (i+1) bs stF)(Ds:i0<=i)
 (ho:ops[i]? = some o){bs:Bd}{stF:St}(hs:jN E ops base i0 i bs){jg:Nat}{want:Bool}(p9:o.guard=some (jg,want))(au:(fS E dr ops.toList ns (o::r) i base bs).run=some stF):lK P E dr ops ns base i0 i bs stF:=by
 unfold fS at au;rw[p9]at au;simp only at au;split at au
 . rename_i gt d hgt fN;obtain⟨og,hog,H4⟩:=Iz hgt;cases hc:E.dB d&&pR base d&&base.free d&& !lL d bs&& !qx o.op with
   | false=>rw[hc]at au;simp[Tr.run]at au
   | true=>
     rw[hc]at au;simp only[oT]at au;have yp:vK E base d bs=true:=by unfold vK;simp only[ami]at hc ⊢;exact hc.1
     split at au
     . rename_i x oW;refine Le hT eF ih Ds ho hs p9 hog H4 fN yp oW (x:=x) ⟨gp.refl _,gp.refl _⟩ hs (eE.refl _) yp ?_;rw[<- au];cases cw x want <;> rfl
     . rename_i x oW;have hk:qG base bs gt x:=qG.of hs.ok hs.mb oW (zQ x);split at au
       . rename_i tv H5;have H5:Hk gt want x (yU E ((view base (ns.getD i cW) bs).under gt want) d o.op)=some tv:=by
          cases Fa:TU ops.toList i with
          | true=>rw[Fa]at H5;simp at H5
          | false=>rw[Fa]at H5;exact H5
         exact V5 hT eF ih Ds ho hs p9 hog H4 fN yp oW H5 au
       . cases Pf:lL gt bs with
         | false=>rw[Pf]at au;simp[Tr.run]at au
         | true=>rw[Pf]at au;simp only[oT]at au;have HX:bO ops.toList=true:=mX ho p9;refine Le hT eF ih Ds ho hs p9 hog H4 fN yp oW (x:=x) (zQ x) (kU:=ib gt x bs) (hs.ib hk HX) (xz hs.ok hk) (Gv yp) ?_;rw[<- au];cases x <;> cases want <;> rfl
     . rename_i oW;have HX:bO ops.toList=true:=mX ho p9;refine zL ih Ds hs (eE.refl _) yp (fun q want y gg l h=>by simp at h) (fun h0=>by rw[HX]at h0;simp at h0) ⟨o,ho,fN⟩ au (Hj ho hs fN fun cx a w Z g bsF S hF Fe hl hS h=>?_);have hv:=Ji (hs.fits hF Fe hl hS) h oW;unfold Region.wanted yielded;rw[p9];simp only[hog,oB,H4];rw[amr]at hv;cases hq:a.tmps[gt]? with
       | none=>rfl
       | some v=>rw[hq]at hv;simp only[anF]at hv;subst hv;rfl
     . simp[Tr.run]at au
 . simp[Tr.run]at au
theorem KQ{dr:Bool}{i:Nat}{r:List Oper}{o:Oper}(nO:r=ops.toList.drop (i+1))(ho:ops[i]? = some o){bs:Bd}{stF:St}(hs:jN E ops base i0 i bs)(h0:o.guard=none)(H2:(!dr||j6 ns i)=true)(U9:yc E o.dst=true)
 (au:((Cc E (lz (bO ops.toList) (aG base bs)) o.dst o.op).bind fun ay=>fS E dr ops.toList ns r (i+1) ay []).run=some stF):lK P E dr ops ns base i0 i bs stF:=by
 rw[Tr.run_bind]at au;cases hw:(Cc E (lz (bO ops.toList) (aG base bs)) o.dst o.op).run with
 | none=>rw[hw]at au;simp at au
 | some ay=>rw[hw]at au;refine⟨i,bs,oR _,hs.ok,hs.mb,hs.idx,hs.ng,eE.refl _,fun j h1 h2=>by omega,.inr ⟨o,ay,ho,h0,fun h1=>by simpa[h1]using H2,U9,hw,?_⟩⟩;rw[<- nO];exact au
theorem NJ(hT:cH P E)(eF:dQ P E){dr:Bool}(vU:cJ base){i:Nat}{r:List Oper}{o:Oper}(ih:∀(bs:Bd) (stF:St),jN E ops base i0 (i+1) bs->(fS E dr ops.toList ns r (i+1) base bs).run=some stF->lK P E dr ops ns base i0 (i+1) bs stF)(Ds:i0<=i)
 (nO:r=ops.toList.drop (i+1))(ho:ops[i]? = some o){bs:Bd}{stF:St}(hs:jN E ops base i0 i bs)(p9:o.guard=none)(au:(fS E dr ops.toList ns (o::r) i base bs).run=some stF):lK P E dr ops ns base i0 i bs stF:=by
 unfold fS at au;rw[p9]at au;simp only at au;cases fN:o.dst with
 | none=>
   rw[fN]at au;simp only at au;cases hc:(!dr||j6 ns i)with
   | false=>rw[hc]at au;simp[Tr.run]at au
   | true=>rw[hc]at au;simp only[oT]at au;exact KQ nO ho hs p9 hc (by rw[fN];rfl) (by rw[fN];exact au)
 | some d=>
   rw[fN]at au;simp only at au;split at au
   . cases hc:(!dr||j6 ns i)&&yc E (some d)with
     | false=>rw[hc]at au;simp[Tr.run]at au
     | true=>rw[hc]at au;simp only[oT]at au;simp only[ami]at hc;exact KQ nO ho hs p9 hc.1 (by rw[fN];exact hc.2) (by rw[fN];exact au)
   . rw[Tr.run_bind]at au;cases hq:(Ai E (ns.getD i cW) o d base bs (dr&& !j6 ns i)).run with
     | none=>rw[hq]at au;simp at au
     | some p=>
       rw[hq]at au;simp only[oB]at au;unfold Ai at hq;cases hia:(qx o.op&& !(dr&& !j6 ns i))with
       | true=>rw[hia]at hq;simp[Tr.run]at hq
       | false=>
         rw[hia]at hq;simp only[oF]at hq;cases hc:E.dB d&&pR base d&&base.free d&& !lL d bs with
         | false=>rw[hc]at hq;simp[Tr.run]at hq
         | true=>
           rw[hc]at hq;simp only[oT]at hq;refine zL ih Ds hs (eE.refl _) hc (PV hs.ok hs.mb hq) (fun h0 hpm=>?_) ⟨o,ho,fN⟩ au (KT hT eF ho hs fN hq fun cx a w Z g bsF S hF Fe hl hS h=>by simp[Region.wanted,p9]);obtain⟨d',Pj⟩:=LL hq hpm;rw[e9 _ hs.ok]at Pj;rcases Pj with ⟨i',p',h1,h2,h3⟩ | h1
           . exact hs.ng h0 i' d' p' h1 (by rw[h3];exact hpm)
           . exact vU d' _ h1 hpm
theorem mw(hT:cH P E)(eF:dQ P E){dr:Bool}(vU:cJ base):∀(r:List Oper) (i:Nat),r=ops.toList.drop i->i<=ops.size->i0<=i->∀(bs:Bd) (stF:St),jN E ops base i0 i bs->(fS E dr ops.toList ns r i base bs).run=some stF->lK P E dr ops ns base i0 i bs stF
 | [],i,hr,hi,Ds,bs,stF,hs,au=>by
   simp only[fS,Tr.run,amh]at au;have:ops.size<=i:=by have:=amP List.length hr;simp at this;omega
   exact⟨i,bs,oR _,hs.ok,hs.mb,hs.idx,hs.ng,eE.refl _,fun j h1 h2=>by omega,.inl ⟨by omega,au.symm⟩⟩
 | o::r,i,hr,hi,Ds,bs,stF,hs,au=>by
   have aV:i<ops.size:=by
    rcases amz i ops.size with h | h
    . exact h
    . rw[List.drop_of_length_le (by simpa using h)]at hr;simp at hr
   have ho:ops[i]? = some o:=by have:=amP (·[0]?) hr;simp only[amn,anq,amN,aml]at this;exact this.symm
   have nO:r=ops.toList.drop (i+1):=by have:=amP List.tail hr;simpa using this
   have ih:=mw hT eF (dr:=dr) vU r (i+1) nO aV (Nat.le_succ_of_le Ds);cases p9:o.guard with
   | none=>exact NJ hT eF vU ih Ds nO ho hs p9 au
   | some gd=>exact N1 hT eF ih Ds ho hs (jg:=gd.1) (want:=gd.2) p9 au
end
theorem xC(f:Nat×TV->Bool):∀(l:List (Nat×TV)) (t:Nat) (tv:TV),look (l.filter f) t=some tv->(∀ kq,look l t=some kq->f (t,kq)=true)->look l t=some tv
 | [],t,tv,h,_=>by simp[look]at h
 | (m,x)::r,t,tv,h,hv=>by
   rw[aN]at hv ⊢;by_cases hm:m=t
   . subst hm;rw[if_pos rfl]at hv ⊢;have:=hv x rfl;rw[aoT this,aN,if_pos rfl]at h;exact h
   . rw[if_neg hm]at hv ⊢;refine xC f r t tv ?_ hv;rw[ana]at h;split at h
     . rw[aN,if_neg hm]at h;exact h
     . exact h
theorem ja{β:Type}:∀(l:List (Nat×β)) (t:Nat) (x:β),look l t=some x->(t,x)∈l
 | [],t,x,h=>by simp[look]at h
 | (m,y)::r,t,x,h=>by
   rw[aN]at h;split at h
   . rename_i e;subst e;simp only[amh]at h;subst h;exact amD ..
   . exact amy _ (ja r t x h)
def Ak(p:Nat×TV):Bool:=match p.2 with | .may _ _ _ _ _=>false | _=>true
theorem Vv(st:St):st.sure=⟨st.tm.filter Ak,st.rt⟩:=rfl
theorem zx{t:Nat}{tv:TV}:Ak (t,tv)=true↔¬ tv.iL:=by cases tv <;> simp[Ak,TV.iL]
theorem IS(st:St):cJ st.sure:=fun t tv h=>by have:=ja _ _ _ h;rw[Vv,anw]at this;exact zx.1 this.2
theorem CU{nt:Nat->Prop}{base:St}(vU:cJ base):∀ {bs:Bd},eJ nt base bs->∀(t:Nat) (tv:TV),look (aG base bs).sure.tm t=some tv->look (aG base bs).tm t=some tv
 | [],_,t,tv,h=>xC Ak _ t tv h fun kq h'=>zx.2 (vU t kq h')
 | (i,d,p)::r,hb,t,tv,h=>by
   have ih:=CU vU hb.2.2.2.2;have h:look (((d,p.1)::(aG base r).tm).filter Ak) t=some tv:=h;show look ((d,p.1)::(aG base r).tm) t=some tv;rw[aN];by_cases hd:d=t
   . subst hd;rw[if_pos rfl];rw[ana]at h;split at h
     . rw[aN,if_pos rfl]at h;exact h
     . have:=ih d tv h;rw[ct hb.2.2.2.2]at this;rcases this with ⟨i',p',h1,_⟩ | h1
       . exact absurd rfl (hb.2.2.2.1 _ h1).2
       . rw[hb.2.1]at h1;simp at h1
   . rw[if_neg hd];refine ih t tv ?_;rw[ana]at h;split at h
     . rw[aN,if_neg hd]at h;exact h
     . exact h
theorem pz{nt:Nat->Prop}{base:St}(vU:cJ base){bs:Bd}(hb:eJ nt base bs){hg:Bool}(Va:hg=false->∀ i t p,(i,t,p)∈bs->¬ p.1.iL):cJ (lz hg (aG base bs)):=by
 cases hg with
 | true=>exact IS _
 | false=>
   intro t tv h;have h:look (aG base bs).tm t=some tv:=h;rw[ct hb]at h;rcases h with ⟨i,p,h1,rfl⟩ | h
   . exact Va rfl i t p h1
   . exact vU t tv h
theorem sd{P:Program}{cx:Cx P}{Z:Nat->Prop}{g:Gh}{a:Act}{w:World}{nt:Nat->Prop}{base:St}(vU:cJ base){bs:Bd}(hb:eJ nt base bs){hg:Bool}(h:Rel cx Z g (aG base bs) a w):Rel cx Z g (lz hg (aG base bs)) a w:=by
 cases hg with
 | false=>exact h
 | true=>exact h.swap (fun _=>rfl) fun t tv ht=>h.tm t tv (CU vU hb t tv ht)
theorem kA{base:St}{S:Nat}:∀ {bs:Bd},(∀ e∈bs,S.testBit e.1=false)->view base S bs=base
 | [],_=>rfl
 | (i,t,p)::r,h=>by unfold view;rw[h _ (amD ..)];exact kA fun e he=>h e (amy _ he)
def LH:Nat->Nat->Nat
 | 0,_=>0
 | n+1,S=>LH n S+(match S.testBit n with | true=>0 | false=>1)
theorem vb:∀ n,LH n 0=n
 | 0=>rfl
 | n+1=>by simp[LH,vb n]
theorem Ei:∀(n j S:Nat),S.testBit j=false->LH n (S ||| 2 ^ j)+(if j<n then 1 else 0)=LH n S
 | 0,j,S,h=>by simp[LH]
 | n+1,j,S,h=>by
   have ih:=Ei n j S h;simp only[LH,aY];by_cases hj:j=n
   . subst hj;simp[h]at ih ⊢;omega
   . have h1:decide (j=n)=false:=by simpa using hj
     rw[h1,Bool.or_false];by_cases hl:j<n
     . simp only[hl,if_true]at ih;simp only[show j<n+1 by omega,if_true];omega
     . simp only[hl,anz]at ih;simp only[show ¬ j<n+1 by omega,anz];omega
theorem DD:∀(n S:Nat),LH n S=0->∀ k,k<n->S.testBit k=true
 | 0,_,_,k,hk=>by omega
 | n+1,S,h,k,hk=>by
   simp only[LH]at h;by_cases hn:k=n
   . subst hn;cases hb:S.testBit k with
     | true=>rfl
     | false=>rw[hb]at h;simp at h
   . exact DD n S (by omega) k (by omega)
def K3(f:Nat->Nat)(o:Oper):Nat:=o.after.toList.foldl (fun s e=>bif eV e then s ||| 2 ^ e.on ||| f e.on else s) 0
theorem FZ(f:Nat->Nat)(b:Nat):∀(l:List Edge) (s:Nat),(l.foldl (fun s e=>bif eV e then s ||| 2 ^ e.on ||| f e.on else s) s).testBit b=true->s.testBit b=true∨∃ e∈l,eV e=true/\(e.on=b∨(f e.on).testBit b=true)
 | [],s,h=> .inl h
 | e::l,s,h=>by
   rw[anb]at h;rcases FZ f b l _ h with h | ⟨e',h1,h2⟩
   . cases hb:eV e with
     | false=>rw[hb]at h;exact .inl h
     | true=>
       rw[hb]at h;simp only[oT,Nat.testBit_or,anv,Nat.testBit_two_pow,anH]at h;rcases h with (h | h) | h
       . exact .inl h
       . exact .inr ⟨e,amD ..,hb,.inl h⟩
       . exact .inr ⟨e,amD ..,hb,.inr h⟩
   . exact .inr ⟨e',amy _ h1,h2⟩
theorem qU:∀(l:List Oper) (acc:List Nat),(bM l acc).length=acc.length+l.length
 | [],acc=>by simp[bM]
 | o::r,acc=>by unfold bM;rw[qU];simp;omega
theorem wP:∀(l:List Oper) (acc:List Nat) (k:Nat),k<acc.length->(bM l acc)[k]? = acc[k]?
 | [],acc,k,_=>rfl
 | o::r,acc,k,h=>by unfold bM;rw[wP r _ k (by simp;omega),am0 h]
theorem rq:∀(l:List Oper) (acc:List Nat) (k:Nat) (o:Oper) (b:Nat),l[k]? = some o->((bM l acc).getD (acc.length+k) 0).testBit b=true ->
 ∃ e∈o.after.toList,eV e=true/\(e.on=b∨(e.on<acc.length+k/\((bM l acc).getD e.on 0).testBit b=true))
 | [],acc,k,o,b,h,_=>by simp at h
 | o0::r,acc,0,o,b,h,hb=>by
   simp only[amn,amh]at h;subst h;have h1:(bM (o0::r) acc)[acc.length]? = some (K3 (fun n=>acc.getD n 0) o0):=by unfold bM;rw[wP r _ _ (by simp),amY (oR _),an8];rfl
   rw[List.getD,amN,h1]at hb;simp only[anF]at hb;rcases FZ (fun n=>acc.getD n 0) b o0.after.toList 0 hb with h2 | ⟨e,h2,h3,h4⟩
   . simp at h2
   . refine⟨e,h2,h3,h4.imp id fun h4=>?_⟩;have aV:e.on<acc.length:=by
      rcases amz e.on acc.length with hh | hh
      . exact hh
      . simp[List.getD,amA hh]at h4
     refine⟨aV,?_⟩;rw[List.getD,wP _ _ _ aV];exact h4
 | o0::r,acc,k+1,o,b,h,hb=>by
   have hh:bM (o0::r) acc=bM r (acc++[K3 (fun n=>acc.getD n 0) o0]):=by rw[bM];rfl
   rw[hh]at hb ⊢;have hl:(acc++[K3 (fun n=>acc.getD n 0) o0]).length=acc.length+1:=by simp
   obtain⟨e,h1,h2,h3⟩:=rq r (acc++[K3 (fun n=>acc.getD n 0) o0]) k o b (by simpa using h) (by rw[hl,show acc.length+1+k=acc.length+(k+1)by omega];exact hb);exact⟨e,h1,h2,h3.imp id fun h3=>⟨by omega,h3.2⟩⟩
theorem lU:∀(l:List Oper) (i:Nat),kh l i=true->∀(k:Nat) (o:Oper),l[k]? = some o->∀ e∈o.after.toList,eV e=true->e.on<i+k
 | [],i,_,k,o,h,_,_,_=>by simp at h
 | o0::r,i,h,k,o,ho,e,he,hb=>by
   simp only[kh,ami]at h;cases k with
   | zero=>simp only[amn,amh]at ho;subst ho;have:=amB.1 h.1 e he;simp only[hb,oN,Bool.false_or]at this;exact ann (amE this)
   | succ k=>have:=lU r (i+1) h.2 k o (by simpa using ho) e he hb;omega
section
variable{P:Program}{E:En}
def sk(P:Program)(E:En):Prop:=∀(cx:Cx P) (Z:Nat->Prop) (g:Gh) (st:St) (a:Act) (w:World) (o:Oper) (ay:St),Rel cx Z g st a w->cJ st->Fit cx E a->yc E o.dst=true->(Cc E st o.dst o.op).run=some ay ->
 cJ ay/\∀(next:Act->World->Prop) (Q:Exit->Act->World->Prop),(∀ Z' g' a' w',Rel cx Z' g' ay a' w'->Fit cx E a'->next a' w')->o.wp P a w next Q
variable{ops:Array Oper}{ns:List Nat}{P:Program}{cx:Cx P}{Q:Exit->Act->World->Prop}
theorem mD{base:St}{bs:Bd}{S:Nat}(h:∀ e∈bs,S.testBit e.1=true):aG base bs=view base S bs:=jC base S bs fun i t p hm=>h _ hm
theorem kg{o:Oper}{i:Nat}(ho:ops[i]? = some o)(hg:o.guard=none){K:Act->World->Prop}{a:Act}{w:World}(h:o.wp P a w K Q):wpOp P ops Q i K a w:=by
 unfold wpOp;have:Region.wanted o (yielded ops a.tmps)=true:=by simp[Region.wanted,hg]
 simp only[ho,this,if_true];exact .inl h
theorem fB(j k:Nat):(2 ^ j-1).testBit k=decide (k<j):=Nat.testBit_two_pow_sub_one j k
theorem Qy(j:Nat):(2 ^ j-1) ||| 2 ^ j=2 ^ (j+1)-1:=by
 apply ao3;intro k;rw[aY,fB,fB];by_cases h:k<j
 . simp[h,ape h]
 . by_cases h':j=k
   . simp[h']
   . simp[h,h'];omega
theorem WC(hT:cH P E)(eF:dQ P E)(hW:sk P E){stF:St}(hQ:∀ Z g a w,Rel cx Z g stF a w->cJ stF->Fit cx E a->Q .normal a w) :
 ∀(n i:Nat) (base:St) (a:Act) (w:World) (Z:Nat->Prop) (g:Gh),ops.size-i=n->i<=ops.size->cJ base->Rel cx Z g base a w->Fit cx E a->(fS E false ops.toList ns (ops.toList.drop i) i base []).run=some stF->wpOps P ops Q (List.range' i (ops.size-i)) a w:=by
 intro n;induction n using Nat.strongRecOn with
 | _ n ih=>
   intro i base a w Z g hn hi vU h dh au;obtain⟨i1,bsF,h1,h2,h3,h4,h5,h6,h7,h8⟩:=mw (ops:=ops) (ns:=ns) (i0:=i) hT eF vU _ i rfl hi (oR i) [] stF ⟨trivial,vU.MB,fun e he=>by simp at he,fun _ _ _ _ he=>by simp at he⟩ au;have Ud:i1<=ops.size:=by
    rcases h8 with ⟨h8,_⟩ | ⟨o,ay,h8,_⟩
    . omega
    . exact aoB (amK.1 h8).1
   have inner:∀(m j:Nat) (a:Act) (w:World) (Z:Nat->Prop) (g:Gh),i1-j=m->i<=j->j<=i1->Rel cx Z g (view base (2 ^ j-1) bsF) a w->Fit cx E a->wpOps P ops Q (List.range' j (ops.size-j)) a w:=by
    intro m;induction m with
    | zero=>
      intro j a w Z g hm Dr hj h dh;have:j=i1:=by omega
      subst this;have gm:aG base bsF=view base (2 ^ j-1) bsF:=mD fun e he=>by rw[fB];simpa using(h4 e he).2.1
      rw[<- gm]at h;have hs:=sd (hg:=bO ops.toList) vU h2 h;have hsn:=pz (hg:=bO ops.toList) vU h2 h5;rcases h8 with ⟨e1,rfl⟩ | ⟨o,ay,ho,hg,_,U9,hw,Uh⟩
      . rw[e1,an8];exact hQ _ _ _ _ hs hsn dh
      . have aV:j<ops.size:=(amK.1 ho).1;obtain⟨k,hk⟩:∃ k,ops.size-j=k+1:=⟨ops.size-j-1,by omega⟩;rw[hk,List.range'_succ,wpOps_cons];refine kg ho hg ?_;obtain⟨Ph,Ml⟩:=hW cx Z g _ a w o ay hs hsn dh U9 hw;refine Ml _ _ fun Z' g' a' w' hr xw=>?_
        have Fg:k=ops.size-(j+1):=by omega
        rw[Fg];exact ih (ops.size-(j+1)) (by omega) (j+1) ay a' w' Z' g' rfl aV Ph hr xw Uh
    | succ m ihm=>
      intro j a w Z g hm Dr hj h dh;have Im:j<i1:=by omega
      have aV:j<ops.size:=by omega
      obtain⟨k,hk⟩:∃ k,ops.size-j=k+1:=⟨ops.size-j-1,by omega⟩;rw[hk,List.range'_succ,wpOps_cons];refine h7 j Dr Im cx (2 ^ j-1) a w Z g _ Q (fun i' _ wa _=>by rw[fB];simpa using wa) (by rw[fB];simp) h dh fun Z' g' a' w' hr xw=>?_
      have Fg:k=ops.size-(j+1):=by omega
      rw[Fg];rw[Qy]at hr;exact ihm (j+1) a' w' Z' g' (by omega) (by omega) (by omega) hr xw
   refine inner (i1-i) i a w Z g rfl (oR i) h1 ?_ dh;rw[kA fun e he=>by rw[fB];simpa using(h4 e he).1];exact h
theorem EY(hT:cH P E)(eF:dQ P E)(hW:sk P E)(Mm:kh ops.toList 0=true){stF:St}(hQ:∀ Z g a w,Rel cx Z g stF a w->cJ stF->Fit cx E a->Q .normal a w) :
 ∀(fuel:Nat) (listed:Array Bool) (S i i1:Nat) (base:St) (bsF:Bd) (a:Act) (w:World) (Z:Nat->Prop) (g:Gh),listed.size=ops.size->(∀ k,k<ops.size->listed.getD k false=S.testBit k)->LH ops.size S<=fuel->(∀ k,k<i->S.testBit k=true)->(∀ k,i1<=k->S.testBit k=false) ->
  (∀ k,S.testBit k=true->∀ b,((bM ops.toList []).getD k 0).testBit b=true->S.testBit b=true)->i<=i1->cJ base->eJ E.CJ base bsF->(∀ e∈bsF,i<=e.1/\e.1<i1)->(bO ops.toList=false->∀ i t p,(i,t,p)∈bsF->¬ p.1.iL) ->
  (∀ j,i<=j->j<i1->su P E ops (bM ops.toList []) base bsF i j) ->
  ((i1=ops.size/\stF=lz (bO ops.toList) (aG base bsF)) ∨
    ∃(o:Oper) (ay:St),ops[i1]? = some o/\o.guard=none/\(true=true->j6 (bM ops.toList []) i1=true)/\yc E o.dst=true/\(Cc E (lz (bO ops.toList) (aG base bsF)) o.dst o.op).run=some ay/\(fS E true ops.toList (bM ops.toList []) (ops.toList.drop (i1+1)) (i1+1) ay []).run=some stF) ->
  Rel cx Z g (view base S bsF) a w->Fit cx E a->wpAny P .any ops Q fuel listed a w:=by
 have hlen:(bM ops.toList []).length=ops.size:=by rw[qU];simp
 intro fuel;induction fuel with
 | zero=>
   intro listed S i i1 base bsF a w Z g uA hS rY Pe BM xx hii vU hb vV Va oS Dt h dh;have gm:=DD _ _ (Nat.le_zero.1 rY);have adX:Region.ready .any ops listed=[]:=by apply aoz.2;intro j hj;obtain⟨hj0,o,ho,_⟩:=mem_ready.1 hj;have aV:j<ops.size:=(amK.1 ho).1;have:=hS j aV;rw[gm j aV]at this;simp[amr,uA,aV]at hj0 this;rw[hj0]at this;simp at this
   refine⟨adX,?_⟩;rcases Dt with ⟨e1,rfl⟩ | ⟨o,ay,ho,_⟩
   . have Ui:aG base bsF=view base S bsF:=mD fun e he=>gm e.1 (by have:=(vV e he).2;omega)
     rw[<- Ui]at h;exact hQ _ _ _ _ (sd vU hb h) (pz vU hb Va) dh
   . have aV:i1<ops.size:=(amK.1 ho).1;have:=gm i1 aV;rw[BM i1 (oR _)]at this;simp at this
 | succ fuel ih=>
   intro listed S i i1 base bsF a w Z g uA hS rY Pe BM xx hii vU hb vV Va oS Dt h dh;have Ud:i1<=ops.size:=by
    rcases Dt with ⟨e1,_⟩ | ⟨o,ay,ho,_⟩
    . omega
    . exact aoB (amK.1 ho).1
   have BN:∀ j,j∈Region.ready .any ops listed->j<ops.size/\S.testBit j=false/\∀ b,((bM ops.toList []).getD j 0).testBit b=true->S.testBit b=true:=by
    intro j hj;obtain⟨hj0,o,ho,he⟩:=mem_ready.1 hj;have aV:j<ops.size:=(amK.1 ho).1;refine⟨aV,?_,fun b lG=>?_⟩
    . rw[<- hS j aV];simp[amr,uA,aV]at hj0 ⊢;exact hj0
    . obtain⟨e,h1,h2,h3⟩:=rq ops.toList [] j o b (by rw[aml];exact ho) (by simpa using lG);have hl:=he e (aou.1 h1) h2;have Io:e.on<ops.size:=by
       rcases amz e.on ops.size with hh | hh
       . exact hh
       . simp[amr,uA,hh]at hl
      rw[hS _ Io]at hl;rcases h3 with h3 | ⟨_,h3⟩
      . rw[<- h3];exact hl
      . exact xx _ hl b h3
   have rZ:∀ k,k<ops.size->S.testBit k=false->∃ j,j∈Region.ready .any ops listed:=by
    intro k;induction k using Nat.strongRecOn with
    | _ k ihk=>
      intro hk hkS;obtain⟨o,ho⟩:∃ o,ops[k]? = some o:=⟨ops[k],by simp[hk]⟩;by_cases gm:∀ e∈o.after,Region.binds .any e=true->listed.getD e.on false=true
      . refine⟨k,mem_ready.2 ⟨?_,o,ho,gm⟩⟩;have:=hS k hk;rw[hkS]at this;simp[amr,uA,hk]at this ⊢;exact this
      . have hex:∃ e,e∈o.after/\Region.binds .any e=true/\¬ listed.getD e.on false=true:=by
         apply anX;intro cY;apply gm;intro e he vW;apply anX;intro B0;exact cY ⟨e,he,vW,B0⟩
        obtain⟨e,he,vW,B0⟩:=hex;have Io:=lU ops.toList 0 Mm k o (by rw[aml];exact ho) e (aou.2 he) vW;rw[amt]at Io;have Uj:e.on<ops.size:=Nat.lt_trans Io hk;refine ihk e.on Io Uj ?_;rw[<- hS _ Uj];simpa using B0
   have OP:∀ j,j<ops.size->(∀ k,k<ops.size->(listed.setIfInBounds j true).getD k false=(S ||| 2 ^ j).testBit k):=by
    intro j hj k hk;rw[aY,<- hS k hk];by_cases Ki:j=k
    . subst Ki;simp[amr,uA,hj]
    . simp[amr,aow Ki,Ki]
   have OQ:∀ j,j<ops.size->S.testBit j=false->LH ops.size (S ||| 2 ^ j)<=fuel:=by intro j hj Uk;have:=Ei ops.size j S Uk;rw[if_pos hj]at this;omega
   have OR:∀ j,j∈Region.ready .any ops listed->∀ k,(S ||| 2 ^ j).testBit k=true->∀ b,((bM ops.toList []).getD k 0).testBit b=true->(S ||| 2 ^ j).testBit b=true:=by
    intro j hj k hk b lG;rw[aY]at hk ⊢;by_cases Ki:j=k
    . subst Ki;rw[(BN j hj).2.2 b lG];rfl
    . have hk:S.testBit k=true:=by simpa[Ki]using hk
      rw[xx k hk b lG];rfl
   by_cases vX:∀ k,k<i1->S.testBit k=true
   ·
    have Ui:aG base bsF=view base S bsF:=mD fun e he=>vX e.1 (vV e he).2
    have h':=h;rw[<- Ui]at h';have hs:=sd (hg:=bO ops.toList) vU hb h';have hsn:=pz (hg:=bO ops.toList) vU hb Va;rcases Dt with ⟨e1,rfl⟩ | ⟨o,ay,ho,hg,Kj,U9,hw,Uh⟩
    . refine⟨fun _=>hQ _ _ _ _ hs hsn dh,fun j hj=>?_⟩;obtain⟨h1,h2,_⟩:=BN j hj;rw[vX j (by omega)]at h2;simp at h2
    . have aV:i1<ops.size:=(amK.1 ho).1;refine⟨fun hr=>?_,fun j hj=>?_⟩
      . obtain⟨j,hj⟩:=rZ i1 aV (BM i1 (oR _));rw[hr]at hj;simp at hj
      . obtain⟨H3,Mn,Ul⟩:=BN j hj;have Im:j=i1:=by
         have Mh:i1<=j:=by
          rcases amz j i1 with hh | hh
          . rw[vX j hh]at Mn;simp at Mn
          . exact hh
         rcases Nat.lt_or_eq_of_le Mh with hgt | heq
         . have hf:=Kj rfl;unfold j6 at hf;simp only[ami,amB,anu]at hf;have:=hf.2 (j-i1-1) (by rw[hlen];omega);rw[show i1+1+(j-i1-1)=j by omega]at this;have:=Ul i1 this;rw[BM i1 (oR _)]at this;simp at this
         . exact heq.symm
        subst Im;refine kg ho hg ?_;obtain⟨Ph,Ml⟩:=hW cx Z g _ a w o ay hs hsn dh U9 hw;refine Ml _ _ fun Z' g' a' w' hr xw=>?_
        obtain⟨i2,alr,k1,k2,k3,k4,k5,k6,k7,k8⟩:=mw (ops:=ops) (ns:=bM ops.toList []) (i0:=j+1) hT eF Ph _ (j+1) rfl aV (oR _) [] stF ⟨trivial,Ph.MB,fun e he=>by simp at he,fun _ _ _ _ he=>by simp at he⟩ Uh;have OS:∀ k,j+1<=k->(S ||| 2 ^ j).testBit k=false:=fun k hk=>by rw[aY,BM k (by omega)];simp;omega
        refine ih (listed.setIfInBounds j true) (S ||| 2 ^ j) (j+1) i2 ay alr a' w' Z' g' (by simp[uA]) (OP j H3) (OQ j H3 Mn) (fun k hk=>?_) (fun k hk=>OS k (by omega)) (OR j hj) k1 Ph k2 (fun e he=>⟨(k4 e he).1,(k4 e he).2.1⟩) k5 k7 k8 ?_ xw
        . rw[aY];by_cases Ki:j=k
          . simp[Ki]
          . rw[vX k (by omega)];rfl
        . rw[kA fun e he=>OS e.1 (k4 e he).1];exact hr
   ·
    have hex:∃ k,k<i1/\S.testBit k=false:=by
     apply anX;intro cY;apply vX;intro k hk;cases hb:S.testBit k with
     | true=>rfl
     | false=>exact absurd ⟨k,hk,hb⟩ cY
    obtain⟨k,hk,hkS⟩:=hex;refine⟨fun hr=>?_,fun j hj=>?_⟩
    . obtain⟨j,hj⟩:=rZ k (by omega) hkS;rw[hr]at hj;simp at hj
    . obtain⟨H3,Mn,Ul⟩:=BN j hj;have Im:j<i1:=by
       rcases amz j i1 with hh | hh
       . exact hh
       . exfalso;rcases Dt with ⟨e1,_⟩ | ⟨o,ay,ho,hg,Kj,_⟩
         . omega
         . have hf:=Kj rfl;unfold j6 at hf;simp only[ami,amB,anu]at hf;rcases Nat.lt_or_eq_of_le hh with hgt | heq
           . have:=hf.2 (j-i1-1) (by rw[hlen];omega);rw[show i1+1+(j-i1-1)=j by omega]at this;have:=Ul i1 this;rw[BM i1 (oR _)]at this;simp at this
           . subst heq;have:=Ul k (hf.1 k hk);rw[hkS]at this;simp at this
      have Dr:i<=j:=by
       rcases amz j i with hh | hh
       . rw[Pe j hh]at Mn;simp at Mn
       . exact hh
      have lF:∀(x:Nat),(bM ops.toList []).getD j x=(bM ops.toList []).getD j 0:=fun x=>by
       have nQ:j<(bM ops.toList []).length:=by rw[hlen];exact H3
       simp[List.getD,nQ]
      refine oS j Dr Im cx S a w Z g _ Q (fun i' _ _ lG=>Ul i' (by rw[<- lF cW];exact lG)) Mn h dh fun Z' g' a' w' hr xw=>?_
      refine ih (listed.setIfInBounds j true) (S ||| 2 ^ j) i i1 base bsF a' w' Z' g' (by simp[uA]) (OP j H3) (OQ j H3 Mn) (fun k hk=>?_) (fun k hk=>?_) (OR j hj) hii vU hb vV Va oS Dt hr xw
      . rw[aY,Pe k hk];rfl
      . rw[aY,BM k hk];simp;omega
end
def Good{P:Program}(cx:Cx P)(E:En)(st:St)(a:Act)(w:World):Prop:=cJ st/\Fit cx E a/\∃ Z g,Rel cx Z g st a w
def QO{P:Program}(cx:Cx P)(E:En):Ou->Exit->Act->World->Prop
 | .qP st,.normal,a,w=>Good cx E st a w
 | .ext id st,.exit E7,a,w=>E7=id/\Good cx E st a w
 | .ret st,.ret,a,w=>Good cx E st a w
 | _,_,_,_=>False
def QL{P:Program}(cx:Cx P)(E:En)(L:Lo E.ρ):Sum (fg L.σ) (fg E.ρ)->Exit->Act->World->Prop
 | .inl y=>QO cx E (.qP (enc L.σ y))
 | .inr z=>QO cx E (.ret (enc E.ρ z))
def kl(P:Program)(E:En)(id:Nat)(c:Code)(L:Lo E.ρ):Prop:=
 ∀(cx:Cx P) (a:Act) (w:World) (x:fg L.σ) (r:Sum (fg L.σ) (fg E.ρ)),Good cx E (enc L.σ x) a w->L.f x=some r->(Code.block id c).wp P (QL cx E L r) a w
def dA(P:Program)(E:En)(c:Code)(F:St->Tr St):Prop:=
 ∀(cx:Cx P) (a:Act) (w:World) (st ay:St),Good cx E st a w->(F st).run=some ay->c.wp P (QO cx E (.qP ay)) a w
def dS(P:Program)(E:En):Code->Prop
 | .region id ops dr=>∀ F,E.rg id=some F->dA P E (.region id ops dr) F
 | .seq a b=>dS P E a/\dS P E b
 | .cond _ a b=>dS P E a/\dS P E b
 | .block id c=>(∀ L,E.lo id=some L->kl P E id c L)/\(E.lo id=none->dS P E c)
 | .loop c=>dS P E c
 | _=>True
def Tc(P:Program)(E:En):Prop:=∀(cx:Cx P) (σ:List SE) (st:St) (a:Act) (w:World) (x:fg σ),Good cx E st a w->dec σ st=some x->Good cx E (enc σ x) a w
section
variable{P:Program}{E:En}{cx:Cx P}
theorem J0{st:St}{a:Act}{w:World}{t:Nat}{x:Bool}(h:Good cx E st a w)(hx:st.tv t=some (.v (.d .bool x))):Good cx E (st.TO t x) a w:=by
 obtain⟨h1,h2,Z,g,h3⟩:=h;refine⟨fun t' tv h=>?_,h2,Z,g,h3.swap (fun _=>rfl) fun t' tv h=>?_⟩
 . have h:look ((t,.v (.lb x))::st.tm) t'=some tv:=h;rw[aN]at h;split at h
   . cases h;exact fun h=>h
   . exact h1 t' tv h
 . have hh:look ((t,.v (.lb x))::st.tm) t'=some tv:=h;clear h;rw[aN]at hh;split at hh
   . rename_i e;subst e;cases hh;refine⟨?_,(zQ x).1 _ _ _ _ _ (jA h3 h1.cons.cons hx)⟩;obtain⟨tq,h4,_⟩:=ED h1.cons hx;exact(h3.tm t tq h4).1
   . exact h3.tm t' tv hh
theorem least{p:Nat->Prop}:∀ n,p n->∃ m,p m/\∀ k,p k->m<=k:=by
 intro n;induction n using Nat.strongRecOn with
 | _ n ih=>
   intro h;by_cases hx:∃ k,k<n/\p k
   . obtain⟨k,hk,hp⟩:=hx;exact ih k hk hp
   . exact⟨n,h,fun k hp=>Nat.le_of_not_lt fun hk=>hx ⟨k,hk,hp⟩⟩
open Classical in
noncomputable def TA(I:Nat->Act->World->Prop)(a:Act)(w:World):Nat:=if h:∃ n,I n a w then Classical.choose (least (p:=fun n=>I n a w) (Classical.choose h) (anK h))else 0
theorem CZ{I:Nat->Act->World->Prop}{a:Act}{w:World}{n:Nat}(h:I n a w):I (TA I a w) a w/\∀ k,I k a w->TA I a w<=k:=by have he:∃ n,I n a w:=⟨n,h⟩;unfold TA;rw[dif_pos he];exact anK (least (p:=fun n=>I n a w) (Classical.choose he) (anK he))
theorem CC{Q:Exit->Act->World->Prop}{c:Code}(I:Nat->Act->World->Prop)(h0:∀ a w,¬ I 0 a w)(round:∀ n a w,I (n+1) a w->c.wp P (Exit.then (I n) Q) a w){n:Nat}{a:Act}{w:World}(h:I n a w):(Code.loop c).wp P Q a w:=by
 refine wp_loop (fun a w=>∃ n,I n a w) (TA I) ⟨n,h⟩ fun a w ⟨n,h⟩=>?_
 obtain⟨h1,h2⟩:=CZ h;cases hm:TA I a w with
 | zero=>rw[hm]at h1;exact(h0 _ _ h1).elim
 | succ m=>
   rw[hm]at h1;refine wp_mono (round m a w h1) fun e a' w' hq=>?_
   cases e <;> first | exact hq | exact⟨⟨m,hq⟩,Nat.lt_succ_of_le ((CZ hq).2 m hq)⟩
theorem wp_loop_once{Q:Exit->Act->World->Prop}{c:Code}{a:Act}{w:World}(h:c.wp P (fun e a w=>(∀ x,e=x->x≠ .normal)/\Exit.then (fun _ _=>False) Q e a w) a w):(Code.loop c).wp P Q a w:=by
 refine CC (fun n a' w'=>n=1/\a'=a/\w'=w) (fun a w h=>by omega) (n:=1) (fun n a' w' ⟨h1,h2,h3⟩=>?_) ⟨rfl,rfl,rfl⟩;subst h2 h3;refine wp_mono h fun e a1 w1 ⟨hn,hq⟩=>?_
 cases e <;> first | exact hq | exact absurd rfl (hn _ rfl)
theorem cr(hT:cH P E)(eF:dQ P E)(hW:sk P E)(hm:P.follows .mixedOrders=true)(uv:Tc P E):∀(c:Code) (st:St) (a:Act) (w:World) (ou:Ou),dS P E c->Good cx E st a w->(da E c st).run=some ou->c.wp P (QO cx E ou) a w
 | .skip,st,a,w,ou,_,h,hr=>by have hr:some (Ou.qP st)=some ou:=hr;simp only[amh]at hr;subst hr;exact wp_skip h
 | .region id ops false,st,a,w,ou,hl,h,hr=>by
   simp only[da]at hr;split at hr
   . rename_i F hF;rw[Tr.run_bind]at hr;cases au:(F st).run with
     | none=>rw[au]at hr;simp at hr
     | some ay=>rw[au]at hr;simp only[oB,Tr.run,amh]at hr;subst hr;exact hl F hF cx a w st ay h au
   rw[Tr.run_bind]at hr;cases au:(fS E false ops.toList [] ops.toList 0 st []).run with
   | none=>rw[au]at hr;simp at hr
   | some ay=>rw[au]at hr;simp only[oB,Tr.run,amh]at hr;subst hr;obtain⟨h1,h2,Z,g,h3⟩:=h;refine wp_region ?_;have:=WC (ns:=[]) (cx:=cx) (Q:=QO cx E (.qP ay)) hT eF hW (stF:=ay) (fun Z g a w hr hn hs=>⟨hn,hs,Z,g,hr⟩) ops.size 0 st a w Z g rfl (amv _) h1 h3 h2 au;rw[Nat.sub_zero]at this;rw[List.range_eq_range'];exact this
 | .region id ops true,st,a,w,ou,hl,h,hr=>by
   simp only[da]at hr;split at hr
   . rename_i F hF;rw[Tr.run_bind]at hr;cases au:(F st).run with
     | none=>rw[au]at hr;simp at hr
     | some ay=>rw[au]at hr;simp only[oB,Tr.run,amh]at hr;subst hr;exact hl F hF cx a w st ay h au
   cases Mm:kh ops.toList 0 with
   | false=>rw[Mm]at hr;simp[Tr.run]at hr
   | true=>
     rw[Mm]at hr;simp only[oT]at hr;rw[Tr.run_bind]at hr;cases au:(fS E true ops.toList (bM ops.toList []) ops.toList 0 st []).run with
     | none=>rw[au]at hr;simp at hr
     | some ay=>
       rw[au]at hr;simp only[oB,Tr.run,amh]at hr;subst hr;obtain⟨h1,h2,Z,g,h3⟩:=h;refine wp_region_any hm ?_;obtain⟨i1,bsF,k1,k2,k3,k4,k5,k6,k7,k8⟩:=mw (ops:=ops) (ns:=bM ops.toList []) (i0:=0) hT eF h1 _ 0 rfl (amv _) (oR _) [] ay ⟨trivial,h1.MB,fun e he=>by simp at he,fun _ _ _ _ he=>by simp at he⟩ au;refine EY (cx:=cx) (Q:=QO cx E (.qP ay)) hT eF hW Mm (stF:=ay) (fun Z g a w hr hn hs=>⟨hn,hs,Z,g,hr⟩) ops.size (Array.replicate ops.size false) 0 0 i1 st bsF a _ Z g (by simp) (fun k hk=>?_) (by rw[vb];exact oR _) (fun k hk=>by omega) (fun k _=>anR k) (fun k hk=>by rw[anR]at hk;simp at hk) k1 h1 k2 (fun e he=>⟨(k4 e he).1,(k4 e he).2.1⟩) k5 k7 k8 ?_ h2
       . rw[anR];simp[amr,hk]
       . rw[kA fun e _=>anR _];exact h3.world rfl rfl rfl rfl
 | .seq x y,st,a,w,ou,hl,h,hr=>by
   simp only[da]at hr;rw[Tr.run_bind]at hr;cases au:(da E x st).run with
   | none=>rw[au]at hr;simp at hr
   | some o=>
     rw[au]at hr;simp only[oB]at hr;refine wp_seq (wp_mono (cr hT eF hW hm uv x st a w o hl.1 h au) fun e a' w' hq=>?_);cases o with
     | qP ay=>
       cases e <;> first | exact hq.elim | skip
       exact cr hT eF hW hm uv y ay a' w' ou hl.2 hq hr
     | ext id ay=>simp only[Tr.run,amh]at hr;subst hr;cases e <;> first | exact hq.elim | exact hq
     | ret ay=>simp only[Tr.run,amh]at hr;subst hr;cases e <;> first | exact hq.elim | exact hq
 | .cond c x y,st,a,w,ou,hl,h,hr=>by
   obtain⟨h1,h2,Z,g,h3⟩:=h;simp only[da]at hr;split at hr
   . rename_i c _ _ hg;have:a.eval c= .bool true:=bg h3 h1.cons.cons hg;exact wp_cond_true this (cr hT eF hW hm uv x st a w ou hl.1 ⟨h1,h2,Z,g,h3⟩ hr)
   . rename_i c _ _ hg;have:a.eval c= .bool false:=bg h3 h1.cons.cons hg;exact wp_cond_false this (cr hT eF hW hm uv y st a w ou hl.2 ⟨h1,h2,Z,g,h3⟩ hr)
   . rename_i v t hg;have hv:a.eval (.tmp t)= .bool v:=bg h3 h1.cons.cons hg;have hs:=J0 (x:=v) (t:=t) ⟨h1,h2,Z,g,h3⟩ hg;refine wp_cond_split hv (fun e=>?_) (fun e=>?_)
     . subst e;exact cr hT eF hW hm uv x _ a w ou hl.1 hs hr
     . subst e;exact cr hT eF hW hm uv y _ a w ou hl.2 hs hr
   . simp[Tr.run]at hr
 | .block id c,st,a,w,ou,hl,h,hr=>by
   simp only[da]at hr;split at hr
   . rename_i L hL;obtain⟨x,hx,hr⟩:=Tr.ai hr;simp only[Tr.run,anA]at hr;obtain⟨r,hf,hr⟩:=hr;have:=hl.1 L hL cx a w x r (uv cx L.σ st a w x h hx) hf;refine wp_mono this fun e a' w' hq=>?_
     cases r with
     | inl y=>simp only[oL,Tr.run,amh]at hr;subst hr;exact hq
     | inr z=>simp only[Sum.elim_inr,Tr.run,amh]at hr;subst hr;exact hq
   . rename_i hL;rw[Tr.run_bind]at hr;cases au:(da E c st).run with
     | none=>rw[au]at hr;simp at hr
     | some o=>
       rw[au]at hr;simp only[oB]at hr;refine wp_block (wp_mono (cr hT eF hW hm uv c st a w o (hl.2 hL) h au) fun e a' w' hq=>?_);cases o with
       | qP ay=>simp only[Tr.run,amh]at hr;subst hr;cases e <;> first | exact hq.elim | exact hq
       | ext E7 ay=>
         cases e <;> first | exact hq.elim | skip
         obtain⟨rfl,hq⟩:=hq;simp only at hr;simp only[Exit.inBlock];rename_i e';cases hb:Nat.beq e' id with
         | true=>rw[hb]at hr;simp only[oT,Tr.run,amh]at hr;subst hr;rw[if_pos (beq_eq hb)];exact hq
         | false=>rw[hb]at hr;simp only[oF,Tr.run,amh]at hr;subst hr;rw[if_neg (ant hb)];exact⟨rfl,hq⟩
       | ret ay=>simp only[Tr.run,amh]at hr;subst hr;cases e <;> first | exact hq.elim | exact hq
 | .exit id,st,a,w,ou,_,h,hr=>by simp only[da,Tr.run,amh]at hr;subst hr;exact wp_exit ⟨rfl,h⟩
 | .ret,st,a,w,ou,_,h,hr=>by simp only[da,Tr.run,amh]at hr;subst hr;exact wp_ret h
 | .loop c,st,a,w,ou,hl,h,hr=>by
   simp only[da]at hr;rw[Tr.run_bind]at hr;cases au:(da E c st).run with
   | none=>rw[au]at hr;simp at hr
   | some o=>
     rw[au]at hr;simp only[oB]at hr;refine wp_loop_once (wp_mono (cr hT eF hW hm uv c st a w o hl h au) fun e a' w' hq=>?_);cases o with
     | qP ay=>simp[Tr.run]at hr
     | ext id ay=>simp only[Tr.run,amh]at hr;subst hr;cases e <;> first | exact hq.elim | exact⟨fun x e=>by subst e;simp,hq⟩
     | ret ay=>simp only[Tr.run,amh]at hr;subst hr;cases e <;> first | exact hq.elim | exact⟨fun x e=>by subst e;simp,hq⟩
 | .goto _,_,_,_,_,_,_,hr=>by simp[da,Tr.run]at hr
 | .label _,_,_,_,_,_,_,hr=>by simp[da,Tr.run]at hr
 | .scope _,_,_,_,_,_,_,hr=>by simp[da,Tr.run]at hr
 | .rangeFunc _ _ _ _,_,_,_,_,_,_,hr=>by simp[da,Tr.run]at hr
theorem JL(hT:cH P E)(eF:dQ P E)(hW:sk P E)(hm:P.follows .mixedOrders=true)(uv:Tc P E){id:Nat}{body:Code}{L:Lo E.ρ}(hl:dS P E body)
 (hf:∀ x r,L.f x=some r->∃ n,iter (fun x=>(nE E id L.σ body x).run) n x=some r):kl P E id (.loop body) L:=by
 intro cx a w x r h hr;obtain⟨n,hn⟩:=hf x r hr;refine wp_block ?_;refine CC (fun n a w=>∃ x,Good cx E (enc L.σ x) a w/\iter (fun x=>(nE E id L.σ body x).run) n x=some r) (fun a w ⟨x,_,h⟩=>by simp[iter]at h) (fun n a w ⟨x,hg,hi⟩=>?_) ⟨x,h,hn⟩;unfold iter at hi
 have Um:∀ r',(nE E id L.σ body x).run=some r'->∃ o,(da E body (enc L.σ x)).run=some o/\(match o with
  | .qP st=>Tr.cu (dec L.σ st) fun y=>Tr.ret (Sum.inl y)
  | .ext E7 st=>bif Nat.beq E7 id then Tr.cu (dec L.σ st) fun y=> .ret (.inr (.inl y))else .fail
  | .ret st=>Tr.cu (dec E.ρ st) fun y=> .ret (.inr (.inr y)):Tr (Sum (fg L.σ) (Sum (fg L.σ) (fg E.ρ)))).run=some r':=fun r' nO=>by
  unfold nE at nO;rw[Tr.run_bind]at nO;cases ho:(da E body (enc L.σ x)).run with
  | none=>rw[ho]at nO;simp at nO
  | some o=>rw[ho]at nO;exact⟨o,rfl,nO⟩
 split at hi
 . rename_i y hy;obtain⟨o,ho,jY⟩:=Um _ hy;refine wp_mono (cr hT eF hW hm uv body _ a w o hl hg ho) fun e a' w' hq=>?_
   cases o with
   | qP st=>obtain⟨z,hz,uu⟩:=Tr.ai jY;simp only[Tr.run,amh,amx]at uu;subst uu;cases e <;> first | exact hq.elim | exact⟨z,uv cx _ st a' w' z hq hz,hi⟩
   | ext E7 st=>
     simp only at jY;cases hb:Nat.beq E7 id with
     | false=>rw[hb]at jY;simp[Tr.run]at jY
     | true=>rw[hb]at jY;obtain⟨z,hz,uu⟩:=Tr.ai jY;simp[Tr.run]at uu
   | ret st=>obtain⟨z,hz,uu⟩:=Tr.ai jY;simp[Tr.run]at uu
 . rename_i y hy;simp only[amh]at hi;subst hi;obtain⟨o,ho,jY⟩:=Um _ hy;refine wp_mono (cr hT eF hW hm uv body _ a w o hl hg ho) fun e a' w' hq=>?_
   cases o with
   | qP st=>obtain⟨z,hz,uu⟩:=Tr.ai jY;simp[Tr.run]at uu
   | ext E7 st=>
     simp only at jY;cases hb:Nat.beq E7 id with
     | false=>rw[hb]at jY;simp[Tr.run]at jY
     | true=>
       rw[hb]at jY;obtain⟨z,hz,uu⟩:=Tr.ai jY;simp only[Tr.run,amh,Sum.inr.injEq]at uu;subst uu;cases e <;> first | exact hq.elim | skip
       obtain⟨rfl,hq⟩:=hq;have:=beq_eq hb;subst this;show Exit.then _ _ (.exit _) a' w';simp only[Exit.then,Exit.inBlock,if_true];exact uv cx _ st a' w' z hq hz
   | ret st=>obtain⟨z,hz,uu⟩:=Tr.ai jY;simp only[Tr.run,amh,Sum.inr.injEq]at uu;subst uu;cases e <;> first | exact hq.elim | exact uv cx _ st a' w' z hq hz
 . simp at hi
end
theorem GZ{α:Type}:∀(l:List (Nat×α)) (n:Nat) (x:α) (m:Nat),look (upd l n x) m=if n=m then (look l m).map (fun _=>x)else look l m
 | [],n,x,m=>by simp[upd,look]
 | (k,y)::r,n,x,m=>by
   unfold upd;cases hb:Nat.beq k n with
   | true=>have e:=beq_eq hb;subst e;simp only[oT,aN];by_cases h:k=m <;> simp[h]
   | false=>
     have cY:k≠n:=fun e=>by subst e;simp at hb
     simp only[oF,aN];rw[GZ r n x m];by_cases h:k=m
     . have:¬ n=m:=fun e=>cY (h.trans e.symm)
       simp[h,this]
     . simp[h]
theorem Aq{α:Type}:∀(l:List α) (j:Nat) (x:α) (i:Nat),(mq l j x)[i]? = if j=i then (l[i]?).map (fun _=>x)else l[i]?
 | [],j,x,i=>by simp[mq]
 | y::r,0,x,i=>by cases i <;> simp[mq]
 | y::r,j+1,x,i=>by
   cases i with
   | zero=>simp[mq]
   | succ i=>simp[mq,Aq r j x i]
theorem kM{α:Type}:∀(l:List α) (j:Nat) (x:α),(mq l j x).length=l.length
 | [],_,_=>rfl
 | _::_,0,_=>rfl
 | _::r,j+1,x=>amP (· + 1) (kM r j x)
section
variable{st:St}{r j:Nat}{c:RC}
theorem jH(r':Nat):look (st.setCell r j c).rt r'=if r=r' then (look st.rt r').map (fun R=>⟨R.box,mq R.cells j c⟩)else look st.rt r':=by
 unfold St.setCell;cases h:look st.rt r with
 | none=>
   simp only;by_cases e:r=r'
   . subst e;simp[h]
   . simp[e]
 | some R=>
   simp only;rw[GZ];by_cases e:r=r'
   . subst e;simp[h]
   . simp[e]
theorem dI(r' j':Nat):(st.setCell r j c).cell r' j'=if r=r'/\j=j' then (st.cell r' j').map (fun _=>c)else st.cell r' j':=by
 simp only[St.cell,jH];by_cases e:r=r'
 . subst e;cases h:look st.rt r with
   | none=>simp[h]
   | some R=>simp only[h,if_true,amI,Aq,true_and]
 . simp[e]
theorem fH:(st.setCell r j c).tm=st.tm:=by unfold St.setCell;cases look st.rt r <;> rfl
end
structure jB {P:Program} (cx:Cx P) (Z:Nat->Prop) (g:Gh) (st:St) (w:World) (F:Nat->Prop):Prop where
 lt:∀ b,F b->b<w.heap.size
 own:∀ b,F b->cx.F0 b∨cx.w0.heap.size<=b
 z:∀ b,F b->¬ Z b
 fp:∀ b,F b->∀ r j,¬ g.fp r j b
 box:∀ b,F b->∀ r R,look st.rt r=some R->R.box=true->g.be r≠b
theorem jB.none{P:Program}(cx:Cx P)(Z:Nat->Prop)(g:Gh)(st:St)(w:World):jB cx Z g st w (fun _=>False):=
 ⟨fun _ h=>h.elim,fun _ h=>h.elim,fun _ h=>h.elim,fun _ h=>h.elim,fun _ h=>h.elim⟩
def Gh.rN(g:Gh)(r j:Nat)(F:Nat->Prop):Gh:=⟨g.be,g.cv,fun r' j' b=>if r'=r/\j'=j then F b else g.fp r' j' b⟩
structure lN (Z:Nat->Prop) (w w':World) (g g':Gh) (st ay:St):Prop where
 cI:nW Z Z w w' g g' st ay
 tm:ay.tm=st.tm
 be:g'.be=g.be
 box:∀ r R',look ay.rt r=some R'->∃ R,look st.rt r=some R/\R'.box=R.box
theorem lN.refl{P:Program}{cx:Cx P}{Z:Nat->Prop}{g:Gh}{st:St}{a:Act}{w:World}(h:Rel cx Z g st a w):lN Z w w g g st st:=
 ⟨fY h rfl rfl,rfl,rfl,fun r R h=>⟨R,h,rfl⟩⟩
section
variable{P:Program}{cx:Cx P}{Z:Nat->Prop}{g:Gh}{st:St}{a:Act}{w:World}{E:En}
theorem Rel.kill(h:Rel cx Z g st a w){r j:Nat}{c:RC}(hc:st.cell r j=some c):Rel cx Z (g.rN r j fun _=>False) (st.setCell r j ⟨c.s+1,c.m+1,.av .dead⟩) a w /\
 lN Z w w g (g.rN r j fun _=>False) st (st.setCell r j ⟨c.s+1,c.m+1,.av .dead⟩)/\jB cx Z (g.rN r j fun _=>False) (st.setCell r j ⟨c.s+1,c.m+1,.av .dead⟩) w (g.fp r j):=by
 have yn:∀ r' j' b,(g.rN r j fun _=>False).fp r' j' b->g.fp r' j' b/\¬ (r'=r/\j'=j):=fun r' j' b hb=>by
  simp only[Gh.rN]at hb;split at hb
  . exact hb.elim
  . rename_i cY;exact⟨hb,cY⟩
 have Fp:∀ r' R',look (st.setCell r j ⟨c.s+1,c.m+1,.av .dead⟩).rt r'=some R'->∃ R,look st.rt r'=some R/\R'.box=R.box/\R'.cells.length=R.cells.length:=fun r' R' hR=>by
  rw[jH]at hR;split at hR
  . cases hl:look st.rt r' with
    | none=>rw[hl]at hR;simp at hR
    | some R=>rw[hl]at hR;simp only[amI,amh]at hR;subst hR;exact⟨R,rfl,rfl,kM _ _ _⟩
  . exact⟨R',hR,rfl,rfl⟩
 have k:nW Z Z w w g (g.rN r j fun _=>False) st (st.setCell r j ⟨c.s+1,c.m+1,.av .dead⟩):=by
  refine { size:=oR _,z:=fun b hb _=>⟨hb,rfl⟩,root:=fun r' R hR=>?_,cell:=fun r' j' c' xv=>?_,own:=fun r j b hb=>(h.fp r j b hb).1,block:=(fY h (ay:=st) (w':=w) rfl rfl).block }
  . rw[jH];by_cases e:r=r'
    . rw[if_pos e,hR];exact⟨_,rfl,rfl,fun _=>rfl⟩
    . rw[if_neg e];exact⟨R,hR,rfl,fun _=>rfl⟩
  . rw[dI];by_cases e:r=r'/\j=j'
    . obtain⟨rfl,rfl⟩:=e;rw[xv]at hc;simp only[amh]at hc;subst hc;rw[if_pos ⟨rfl,rfl⟩,xv];exact⟨_,rfl,aog _,aog _,fun e=>absurd e (aoG _),fun e=>absurd e (aoG _),fun e=>absurd e (aoG _)⟩
    . rw[if_neg e];refine⟨c',xv,oR _,oR _,fun _=>rfl,fun _ e ks xs hh=>⟨xs,hh,rfl⟩,fun _ _=>⟨rfl,fun b hb _=>⟨?_,rfl⟩⟩⟩;simp only[Gh.rN];rw[if_neg (fun e'=>e ⟨e'.1.symm,e'.2.symm⟩)];exact hb
 refine⟨?_,⟨k,fH,rfl,fun r' R' hR=>by obtain⟨R,h1,h2,_⟩:=Fp r' R' hR;exact⟨R,h1,h2⟩⟩,?_⟩
 . refine { os:=h.os,tape:=h.tape,output:=h.output,size:=h.size,block:=h.block,cq:=h.cq,z0:=h.z0,fp:=?_,cS:=?_,box:=?_,cell:=?_,tm:=?_,defers:=h.defers,nz:=h.nz }
   . intro r' j' b hb;obtain⟨h1,cY⟩:=yn r' j' b hb;obtain⟨h2,h3,h4,c',kk,x,h5,h6⟩:=h.fp r' j' b h1;exact⟨h2,h3,h4,c',kk,x,by rw[dI,if_neg (fun e=>cY ⟨e.1.symm,e.2.symm⟩)];exact h5,h6⟩
   . intro r1 j1 r2 j2 b h1 h2;exact h.cS r1 j1 r2 j2 b (yn _ _ _ h1).1 (yn _ _ _ h2).1
   . intro r' R' hR hb;obtain⟨R,h1,h2,h3⟩:=Fp r' R' hR;obtain⟨b1,b2,b3,b4,cs,e,fr,b5,b6,b7,b8⟩:=h.box r' R h1 (by rw[<- h2];exact hb);refine⟨b1,b2,fun OT j'' hh=>b3 OT j'' (yn _ _ _ hh).1,fun OT Yd mP xt he=>?_,cs,e,fr,b5,b6,by rw[h3];exact b7,b8⟩;obtain⟨R2,h4,h5,_⟩:=Fp OT Yd mP;exact b4 OT R2 h4 (by rw[<- h5];exact xt) he
   . intro r' j' c' xv;rw[dI]at xv;split at xv
     . rename_i e;cases hl:st.cell r' j' with
       | none=>rw[hl]at xv;simp at xv
       | some c0=>rw[hl]at xv;simp only[amI,amh]at xv;subst xv;trivial
     . rename_i e;refine lh.cI k _ _ _ _ (h.cell r' j' c' xv) (fun b hb=>?_) (fun _ _ _=>rfl);simp only[Gh.rN];rw[if_neg (fun e'=>e ⟨e'.1.symm,e'.2.symm⟩)];exact hb
   . intro t tv ht;rw[fH]at ht;exact⟨(h.tm t tv ht).1,bW.cI k _ _ (h.tm t tv ht).2⟩
 . refine⟨fun b hb=>(h.fp r j b hb).1,fun b hb=>(h.fp r j b hb).2.1,fun b hb=>(h.fp r j b hb).2.2.1,fun b hb r' j' cz=>?_,fun b hb r' R' hR nP he=>?_⟩
   . obtain⟨h1,cY⟩:=yn r' j' b cz;exact cY (h.cS r' j' r j b h1 hb)
   . obtain⟨R,h1,h2,h3⟩:=Fp r' R' hR;obtain⟨_,_,b3,_⟩:=h.box r' R h1 (by rw[<- h2];exact nP);have he:g.be r'=b:=he;exact b3 r j (by rw[he];exact hb)
theorem PH{w:World}{e:TypeId}{ks:List K}{xs:T (.sl e ks)}{aa:Option Addr}{l cap n:Nat}{F:Nat->Prop}(h:dG w (.sl e ks) xs (.slice aa l cap) F)(hn:n<=l):dG w (.sl e ks) (List.take n (aW xs)) (.slice aa n cap) F:=by
 obtain⟨a',c',h1,h2,h3,h4,h5⟩:=h;simp only[anj]at h1;obtain⟨rfl,rfl,rfl⟩:=h1;have hlen:(aW (e:=e) (ks:=ks) (List.take n (aW xs))).length=n:=(am9 (l:=aW xs) (i:=n)).trans (ao1 hn);refine⟨aa,cap,by rw[hlen],by omega,by omega,h4,fun a' ha=>?_⟩;obtain⟨b,o,cs,e',fr,g1,g2,g3,g4,g5,G,g6,g7,g8⟩:=h5 a' ha;refine⟨b,o,cs,e',fr,g1,g2,g3,g4,g5,G,g6,g7,fun i x hx=>g8 i x ?_⟩;have lQ:(List.take n (aW xs))[i]? = some x:=hx;rw[anp]at lQ;split at lQ
 . exact lQ
 . simp at lQ
theorem hO(h:Rel cx Z g st a w){av:AV}{v:Value}(hr:bC Z g st w av v){k:K}{ay:St}{x:T k}(ht:st.cU k av=some (ay,x)) :
 ∃ g' F,Rel cx Z g' ay a w/\lN Z w w g g' st ay/\dG w k x v F/\jB cx Z g' ay w F/\(∀ r j b,g'.fp r j b->g.fp r j b)/\(∀ b,F b->∃ r j,g.fp r j b)/\g'.cv=g.cv:=by
 have nilc:∀(e:TypeId) (ks:List K),av= .nil->k= .sl e ks->ay=st->HEq x ([]:List (Tl ks))->∃ g' F,Rel cx Z g' ay a w/\lN Z w w g g' st ay/\dG w k x v F/\jB cx Z g' ay w F/\(∀ r j b,g'.fp r j b->g.fp r j b)/\(∀ b,F b->∃ r j,g.fp r j b)/\g'.cv=g.cv:=by intro e ks h1 h2 h3 h4;subst h1;subst h2;subst h3;have h4:=aox h4;subst h4;have hv:v= .slice none 0 0:=hr;subst hv;exact⟨g,fun _=>False,h,lN.refl h,kP e ks,jB.none _ _ _ _ _,fun _ _ _ h=>h,fun _ h=>h.elim,rfl⟩
 have main:(∀ z,st.cU k av=some z->∃ q,st.take av=some q/\∃ y,gJ q.2.1 k q.2.2=some y/\z=(q.1,y))->∃ g' F,Rel cx Z g' ay a w/\lN Z w w g g' st ay/\dG w k x v F/\jB cx Z g' ay w F/\(∀ r j b,g'.fp r j b->g.fp r j b)/\(∀ b,F b->∃ r j,g.fp r j b)/\g'.cv=g.cv:=by
  intro ahS;obtain⟨⟨ca,k',x'⟩,hq,y,hy,hz⟩:=ahS _ ht;simp only[amO]at hz;obtain⟨rfl,rfl⟩:=hz;obtain⟨e,hy⟩:=cN hy;subst e;subst hy;cases av with
  | ref r j s=>
    simp only[St.take]at hq;split at hq
    . rename_i s' m k1 x1 hc;cases hb:Nat.beq s' s with
      | false=>rw[hb]at hq;simp at hq
      | true=>
        rw[hb]at hq;simp only[oT,amh,amO]at hq;obtain⟨rfl,hx⟩:=hq;cases hx;obtain⟨k1,k2,k3⟩:=h.kill hc;obtain⟨c,h1,h2,h3⟩:=hr;rw[hc]at h1;simp only[amh]at h1;subst h1;refine⟨_,g.fp r j,k1,k2,?_,k3,fun r' j' b hb=>?_,fun b hb=>⟨r,j,hb⟩,rfl⟩
        . rw[h3 (beq_eq hb)];exact fj h hc rfl
        . simp only[Gh.rN]at hb;split at hb
          . exact hb.elim
          . exact hb
    . simp at hq
  | cut r j s n=>
    simp only[St.take]at hq;split at hq
    . rename_i s' m e1 Kk x1 hc;cases hb:Nat.beq s' s with
      | false=>rw[hb]at hq;simp at hq
      | true=>
        rw[hb]at hq;simp only[oT,amh,amO]at hq;obtain⟨rfl,hx⟩:=hq;cases hx;obtain⟨k1,k2,k3⟩:=h.kill hc;obtain⟨c,h1,h2,h3⟩:=hr;rw[hc]at h1;simp only[amh]at h1;subst h1;obtain⟨aa,l,cap,e1,e2,e3⟩:=h3 (beq_eq hb);refine⟨_,g.fp r j,k1,k2,?_,k3,fun r' j' b hb=>?_,fun b hb=>⟨r,j,hb⟩,rfl⟩
        . rw[e3];have:=fj h hc rfl;rw[e1]at this;exact PH this e2
        . simp only[Gh.rN]at hb;split at hb
          . exact hb.elim
          . exact hb
    . simp at hq
  | _=>simp[St.take]at hq
 unfold St.cU at ht main;split at ht
 . rename_i e ks;cases ht;exact nilc e ks rfl rfl rfl HEq.rfl
 . rename_i cY;apply main;intro z hz;split at hz
   . rename_i e ks;exact(cY e ks rfl rfl).elim
   . split at hz
     . rename_i Yj k2 x2 hq;split at hz
       . rename_i y hy;simp only[amh]at hz;exact⟨_,hq,y,hy,hz.symm⟩
       . simp at hz
     . simp at hz
theorem Rel.nr(h:Rel cx Z g st a w){r be:Nat}{R:Rt}{cv:Nat->Value}{fp:Nat->Nat->Prop}(hr:look st.rt r=none)
 (yn:∀ j b,fp j b->b<w.heap.size/\(cx.F0 b∨cx.w0.heap.size<=b)/\¬ Z b/\(∀ r j,¬ g.fp r j b)/\(∀ r' R',look st.rt r'=some R'->R'.box=true->g.be r'≠b)/\∃(c:RC) (k:K) (x:T k),R.cells[j]? = some c/\c.v= .own k x)
 (hd:∀ j j' b,fp j b->fp j' b->j=j')
 (hb:R.box=true->(cx.F0 be∨cx.w0.heap.size<=be)/\¬ Z be/\(∀ r' j',¬ g.fp r' j' be)/\(∀ j,¬ fp j be)/\(∀ r' R',look st.rt r'=some R'->R'.box=true->g.be r'≠be)/\∃ cs e fr,w.heap[be]? = some (.cells cs e fr)/\(∀ q,q<cs.size->¬ (fr.1<=q/\q<fr.2))/\cs.size=R.cells.length/\∀ j,j<cs.size->cs[j]? = some (cv j))
 (hc:∀(j:Nat) (c:RC),R.cells[j]? = some c->match c.v with | .own k x=>dG w k x (cv j) (fp j) | .av (.d k x)=>RO Z w k x (cv j) | .av _=>False) :
 Rel cx Z (g.at r be cv fp) ⟨st.tm,(r,R)::st.rt⟩ a w:=by
 have mO:∀ r',look ((r,R)::st.rt) r'=if r=r' then some R else look st.rt r':=fun r'=>aN _ _ _ _
 have bD:∀ r' j',St.cell ⟨st.tm,(r,R)::st.rt⟩ r' j'=if r=r' then R.cells[j']? else st.cell r' j':=fun r' j'=>by simp only[St.cell,mO];by_cases hh:r=r' <;> simp[hh]
 have cY:∀ r' R',look st.rt r'=some R'->¬ r'=r:=fun r' R' h1 e=>by rw[e,hr]at h1;simp at h1
 have hnc:∀ r' j' c',st.cell r' j'=some c'->¬ r'=r:=fun r' j' c' h1 e=>by simp[St.cell,e,hr]at h1
 have k:nW Z Z w w g (g.at r be cv fp) st ⟨st.tm,(r,R)::st.rt⟩:=by
  refine { size:=oR _,z:=fun b hb _=>⟨hb,rfl⟩,root:=fun r' R' hR=>?_,cell:=fun r' j' c' xv=>?_,own:=fun r j b hb=>(h.fp r j b hb).1,block:=(fY h (ay:=st) (w':=w) rfl rfl).block }
  . have:=cY r' R' hR;exact⟨R',by rw[mO,if_neg (fun e=>this e.symm)];exact hR,rfl,fun _=>by simp[Gh.at,this]⟩
  . have:=hnc r' j' c' xv;exact⟨c',by rw[bD,if_neg (fun e=>this e.symm)];exact xv,oR _,oR _,fun _=>by simp[Gh.at,this],fun _ e ks xs hh=>⟨xs,hh,rfl⟩,fun _ _=>⟨rfl,fun b hb _=>⟨by simp[Gh.at,this];exact hb,rfl⟩⟩⟩
 have hf1:∀ r' j' b,(g.at r be cv fp).fp r' j' b->(r'=r/\fp j' b)∨(¬ r'=r/\g.fp r' j' b):=fun r' j' b hb=>by
  simp only[Gh.at]at hb;by_cases e:r'=r
  . simp[e]at hb;exact .inl ⟨e,hb⟩
  . simp[e]at hb;exact .inr ⟨e,hb⟩
 refine { os:=h.os,tape:=h.tape,output:=h.output,size:=h.size,block:=h.block,cq:=h.cq,z0:=h.z0,fp:=?_,cS:=?_,box:=?_,cell:=?_,tm:=fun t tv ht=>⟨(h.tm t tv ht).1,bW.cI k _ _ (h.tm t tv ht).2⟩,defers:=h.defers,nz:=h.nz }
 . intro r' j' b hb;rcases hf1 r' j' b hb with ⟨rfl,h1⟩ | ⟨e,h1⟩
   . obtain⟨k1,k2,k3,_,_,c,kk,x,k4,k5⟩:=yn j' b h1;exact⟨k1,k2,k3,c,kk,x,by rw[bD,if_pos rfl];exact k4,k5⟩
   . obtain⟨k1,k2,k3,c,kk,x,k4,k5⟩:=h.fp r' j' b h1;exact⟨k1,k2,k3,c,kk,x,by rw[bD,if_neg (fun e'=>e e'.symm)];exact k4,k5⟩
 . intro r1 j1 r2 j2 b h1 h2;rcases hf1 _ _ _ h1 with ⟨e1,k1⟩ | ⟨e1,k1⟩
   . rcases hf1 _ _ _ h2 with ⟨e2,k2⟩ | ⟨e2,k2⟩
     . exact⟨e1.trans e2.symm,hd _ _ _ k1 k2⟩
     . exact absurd k2 ((yn j1 b k1).2.2.2.1 r2 j2)
   . rcases hf1 _ _ _ h2 with ⟨e2,k2⟩ | ⟨e2,k2⟩
     . exact absurd k1 ((yn j2 b k2).2.2.2.1 r1 j1)
     . exact h.cS _ _ _ _ _ k1 k2
 . intro r' R' hR nP;rw[mO]at hR;by_cases e:r=r'
   . subst e;rw[if_pos rfl]at hR;simp only[amh]at hR;subst hR;obtain⟨b1,b2,b3,b4,b5,cs,el,fr,b6,b7,b8,b9⟩:=hb nP;have e1:(g.at r be cv fp).be r=be:=by simp[Gh.at]
     rw[e1];refine⟨b1,b2,fun r' j' hh=>?_,fun r' R' lu cz he=>?_,cs,el,fr,b6,b7,b8,fun j hj=>by simp[Gh.at];simpa using b9 j hj⟩
     . rcases hf1 _ _ _ hh with ⟨rfl,h1⟩ | ⟨e1,h1⟩
       . exact b4 j' h1
       . exact b3 r' j' h1
     . rw[mO]at lu;by_cases e2:r=r'
       . exact e2.symm
       . rw[if_neg e2]at lu;have e3:(g.at r be cv fp).be r'=g.be r':=by
          have e4:¬ _=r:=fun e=>e2 (Eq.symm e)
          simp only[Gh.at];rw[if_neg e4]
         rw[e3]at he;exact absurd he (b5 r' R' lu cz)
   . rw[if_neg e]at hR;obtain⟨b1,b2,b3,b4,cs,el,fr,b5,b6,b7,b8⟩:=h.box r' R' hR nP;have e':¬ r'=r:=fun x=>e x.symm
     have e1:(g.at r be cv fp).be r'=g.be r':=by simp[Gh.at,e']
     rw[e1];refine⟨b1,b2,fun OT j'' hh=>?_,fun OT Yd mP xt he=>?_,cs,el,fr,b5,b6,b7,fun j hj=>by simp[Gh.at,e'];simpa using b8 j hj⟩
     . rcases hf1 _ _ _ hh with ⟨rfl,h1⟩ | ⟨_,h1⟩
       . exact(yn j'' _ h1).2.2.2.2.1 r' R' hR nP rfl
       . exact b3 OT j'' h1
     . rw[mO]at mP;by_cases e2:r=OT
       . subst e2;rw[if_pos rfl]at mP;simp only[amh]at mP;subst mP;have e3:(g.at r be cv fp).be r=be:=by simp[Gh.at]
         rw[e3]at he;exact absurd he.symm ((hb xt).2.2.2.2.1 r' R' hR nP)
       . rw[if_neg e2]at mP;have e3:(g.at r be cv fp).be OT=g.be OT:=by
          have e4:¬ _=r:=fun e=>e2 (Eq.symm e)
          simp only[Gh.at];rw[if_neg e4]
         rw[e3]at he;exact b4 OT Yd mP xt he
 . intro r' j' c' xv;rw[bD]at xv;by_cases e:r=r'
   . subst e;rw[if_pos rfl]at xv;have h1:=hc j' c' xv;have e1:(g.at r be cv fp).cv r j'=cv j':=by simp[Gh.at]
     have e2:(g.at r be cv fp).fp r j'=fp j':=by funext b;simp[Gh.at]
     rw[e1,e2];cases hv:c'.v with
     | own kk x=>rw[hv]at h1;exact h1
     | av x=>rw[hv]at h1;cases x <;> first | exact h1 | exact h1.elim
   . rw[if_neg e]at xv;have e':¬ r'=r:=fun x=>e x.symm
     have e1:(g.at r be cv fp).cv r' j'=g.cv r' j':=by simp[Gh.at,e']
     have e2:(g.at r be cv fp).fp r' j'=g.fp r' j':=by funext b;simp[Gh.at,e']
     rw[e1,e2];exact lh.cI k _ _ _ _ (h.cell r' j' c' xv) (fun _ h=>h) (fun _ _ _=>rfl)
end
theorem jQ:∀(σ:List SE) (x:fg σ) (t:Nat) (tv:TV),(t,tv)∈oH σ x->¬ tv.iL
 | [],_,t,tv,h=>by simp[oH]at h
 | .d t k::σ,x,t',tv,h=>by
   rcases ams.1 h with h | h
   . cases h;exact fun h=>h
   . exact jQ σ x.2 t' tv h
 | .own t k::σ,x,t',tv,h=>by
   rcases ams.1 h with h | h
   . cases h;exact fun h=>h
   . exact jQ σ x.2 t' tv h
 | .fn t f cR::σ,x,t',tv,h=>by
   rcases ams.1 h with h | h
   . cases h;exact fun h=>h
   . exact jQ σ x.2 t' tv h
 | .ag t ks::σ,x,t',tv,h=>by
   rcases ams.1 h with h | h
   . cases h;exact fun h=>h
   . exact jQ σ x.2 t' tv h
 | .box r cs::σ,x,t',tv,h=>by
   rcases ams.1 h with h | h
   . cases h;exact fun h=>h
   . exact jQ σ x.2 t' tv h
 | .al t t2::σ,x,t',tv,h=>by
   rcases ams.1 h with h | h
   . cases h;exact fun h=>h
   . exact jQ σ x.2 t' tv h
 | .fr t f r::σ,x,t',tv,h=>by
   rcases ams.1 h with h | h
   . cases h;exact fun h=>h
   . exact jQ σ x.2 t' tv h
theorem Di(σ:List SE)(x:fg σ):cJ (enc σ x):=fun t tv h=>jQ σ x t tv (ja _ _ _ h)
def z6(r:Nat):List SE->Prop
 | []=>False
 | .box r' _::σ=>r'=r∨z6 r σ
 | _::σ=>z6 r σ
theorem gz:∀(σ:List SE) (x:fg σ) (r:Nat) (R:Rt),(r,R)∈fO σ x->(∃ t,r=cn t/\rO t σ=true/\R.box=false)∨(z6 r σ/\R.box=true)
 | [],_,r,R,h=>by simp[fO]at h
 | .d t k::σ,x,r,R,h=>gz σ x.2 r R h
 | .fn t f cR::σ,x,r,R,h=>gz σ x.2 r R h
 | .ag t ks::σ,x,r,R,h=>gz σ x.2 r R h
 | .al _ _::σ,x,r,R,h=>gz σ x.2 r R h
 | .fr _ _ _::σ,x,r,R,h=>gz σ x.2 r R h
 | .own t k::σ,x,r,R,h=>by
   rcases ams.1 h with h | h
   . cases h;exact .inl ⟨t,rfl,by simp[rO],rfl⟩
   . rcases gz σ x.2 r R h with ⟨t',h1,h2,h3⟩ | h1
     . exact .inl ⟨t',h1,by simp[rO,h2],h3⟩
     . exact .inr h1
 | .box r' cs::σ,x,r,R,h=>by
   rcases ams.1 h with h | h
   . cases h;exact .inr ⟨.inl rfl,rfl⟩
   . rcases gz σ x.2 r R h with h1 | ⟨h1,h2⟩
     . exact .inl h1
     . exact .inr ⟨.inr h1,h2⟩
theorem jw:∀ {σ:List SE} {r:Nat},zF r σ=true->¬ z6 r σ/\∀ t,rO t σ=false
 | [],r,_=>⟨fun h=>h,fun _=>rfl⟩
 | .d _ _::σ,r,h=>jw (σ:=σ) h
 | .fn _ _ _::σ,r,h=>jw (σ:=σ) h
 | .ag _ _::σ,r,h=>jw (σ:=σ) h
 | .al _ _::σ,r,h=>jw (σ:=σ) h
 | .fr _ _ _::σ,r,h=>jw (σ:=σ) h
 | .own _ _::σ,r,h=>by simp[zF]at h
 | .box r' cs::σ,r,h=>by simp only[zF,ami,am4]at h;obtain⟨h1,h2⟩:=jw h.2;exact⟨fun hh=>hh.elim (fun e=>by subst e;have:=h.1;simp at this) h1,h2⟩
theorem nu{st:St}:∀(cs:List (Bool×K)) (l:List RC) (bx:BT cs),eS st cs l=some bx->l.length=(cf cs bx).length/\∀(j:Nat) (c:RC),(cf cs bx)[j]? = some c ->
 (∃(k:K) (x:T k) (c0:RC),cs[j]? = some (true,k)/\c=⟨0,0,.own k x⟩/\l[j]? = some c0/\c0.v= .own k x)∨(∃(k:K) (x:T k) (c0:RC) (av:AV),c=⟨0,0,.av (.d k x)⟩/\l[j]? = some c0/\c0.v= .av av/\av.bV=true/\st.bI k av=some x)
 | [],[],bx,h=>⟨rfl,fun j c h=>by simp[cf]at h⟩
 | (true,k)::cs,⟨s,m,.own k' x⟩::r,bx,h=>by
   simp only[eS]at h;split at h
   . rename_i y z hy hz;cases h;obtain⟨e,hy⟩:=cN hy;subst e;subst hy;obtain⟨h1,h2⟩:=nu cs r z hz;refine⟨amP (· + 1) h1,fun j c hj=>?_⟩;cases j with
     | zero=>simp only[cf,amn,amh]at hj;exact .inl ⟨k',x,_,rfl,hj.symm,rfl,rfl⟩
     | succ j=>simp only[cf,am7]at hj ⊢;exact h2 j c hj
   . simp at h
 | (false,k)::cs,⟨s,m,.av av⟩::r,bx,h=>by
   simp only[eS]at h;cases hf:av.bV with
   | false=>rw[hf]at h;simp at h
   | true=>
     rw[hf]at h;simp only[oT]at h;split at h
     . rename_i y z hy hz;cases h;obtain⟨h1,h2⟩:=nu cs r z hz;refine⟨amP (· + 1) h1,fun j c hj=>?_⟩;cases j with
       | zero=>simp only[cf,amn,amh]at hj;exact .inr ⟨k,y,_,av,hj.symm,rfl,rfl,hf,hy⟩
       | succ j=>simp only[cf,am7]at hj ⊢;exact h2 j c hj
     . simp at h
 | [],_::_,bx,h=>by simp[eS]at h
 | (true,_)::_,⟨_,_,.av _⟩::_,bx,h=>by simp[eS]at h
 | (false,_)::_,⟨_,_,.own _ _⟩::_,bx,h=>by simp[eS]at h
 | (true,_)::_,[],bx,h=>by simp[eS]at h
 | (false,_)::_,[],bx,h=>by simp[eS]at h
theorem gX{Z:Nat->Prop}{g:Gh}{st:St}{w:World}{d:Nat}:∀(ks:List K) (x:Tl ks) (cs:List Value) (j:Nat),tT Z w ks x cs->a8 Z g st w (fZ d false ks x j) cs
 | [],_,[],_,_=>trivial
 | .sl e bZ::ks,x,v::vs,j,h=>⟨h.1,gX ks x.2 vs j h.2⟩
 | .int _::ks,x,v::vs,j,h=>⟨h.1,gX ks x.2 vs j h.2⟩
 | .bool::ks,x,v::vs,j,h=>⟨h.1,gX ks x.2 vs j h.2⟩
 | .str::ks,x,v::vs,j,h=>⟨h.1,gX ks x.2 vs j h.2⟩
 | [],_,_::_,_,h=>h.elim
 | .sl _ _::_,_,[],_,h=>h.elim
 | .int _::_,_,[],_,h=>h.elim
 | .bool::_,_,[],_,h=>h.elim
 | .str::_,_,[],_,h=>h.elim
theorem YZ{Z:Nat->Prop}{g:Gh}{st:St}{w:World}{ks:List K}{x:Tl ks}{v:Value}(h:ROp Z w ks x v):bC Z g st w (.rp none 0 ks [x] 0 0) v:=by
 obtain⟨b,o,h1,h2,h3,h4⟩:=h;refine⟨by simp,b,o,h2,h3,by rw[h1];simp,fun i y hy=>?_⟩;cases i with
 | zero=>simp only[amn,amh]at hy;subst hy;simpa using h4
 | succ i=>simp at hy
theorem px{Z:Nat->Prop}{g:Gh}{st:St}{w:World}:∀(cs:List Xv) (x:UY cs) (vs:List Value),RH Z w cs x vs->iK Z g st w (uO cs x) vs
 | [],_,[],_=>trivial
 | .c gg ks::cs,x,v::vs,⟨⟨us,e,h⟩,h'⟩=>⟨yD e (gX ks x.1 us 0 h),px cs x.2 vs h'⟩
 | .p ks::cs,x,v::vs,h=>⟨YZ (g:=g) (st:=st) h.1,px cs x.2 vs h.2⟩
 | [],_,_::_,h=>h.elim
 | .c _ _::_,_,[],h=>h.elim
 | .p _::_,_,[],h=>h.elim
section
variable{P:Program}{cx:Cx P}{Z:Nat->Prop}{a:Act}{w:World}
theorem zW{g:Gh}{st:St}(h:Rel cx Z g st a w)(hn:cJ st){t:Nat}{tv:TV}(ht:st.tv t=some tv):t<a.tmps.size:=by obtain⟨tq,h1,_⟩:=ED hn.cons ht;exact(h.tm t tq h1).1
theorem Rel.tell{g:Gh}{tm:List (Nat×TV)}{rt:List (Nat×Rt)}(h:Rel cx Z g ⟨tm,rt⟩ a w){t:Nat}{tv:TV}(ht:t<a.tmps.size)(hr:bW Z g ⟨tm,rt⟩ w tv (a.tmps.getD t undef)):Rel cx Z g ⟨(t,tv)::tm,rt⟩ a w:=by
 refine h.swap (fun _=>rfl) fun t' kq hh=>?_
 have hh:look ((t,tv)::tm) t'=some kq:=hh;rw[aN]at hh;split at hh
 . rename_i e;cases hh;rw[<- e];exact⟨ht,hr⟩
 . exact h.tm t' kq hh
theorem nv:∀(σ:List SE) (st:St) (g:Gh) (x:fg σ),Rel cx Z g st a w->cJ st->dec σ st=some x->∃ gE,Rel cx Z gE (enc σ x) a w/\(∀ r j b,gE.fp r j b->∃ r0 j0,g.fp r0 j0 b)/\((∀ t,rO t σ=false)->∀ r j b,gE.fp r j b->g.fp r j b) /\
 (∀ r R',look (enc σ x).rt r=some R'->R'.box=true->gE.be r=g.be r/\∃ R,look st.rt r=some R/\R.box=true)/\(∀ r,z6 r σ->r<100000)
 | [],st,g,x,h,hn,hd=>by
   refine⟨⟨g.be,g.cv,fun _ _ _=>False⟩,?_,fun _ _ _ h=>h.elim,fun _ _ _ _ h=>h.elim,fun r R' hR=>by simp[enc,fO,look]at hR,fun _ h=>h.elim⟩
   exact { os:=h.os,tape:=h.tape,output:=h.output,size:=h.size,block:=h.block,cq:=h.cq,z0:=h.z0,fp:=fun _ _ _ h=>h.elim,cS:=fun _ _ _ _ _ h=>h.elim
           box:=fun r R hR=>by simp[enc,fO,look]at hR
           cell:=fun r j c hc=>by simp[enc,fO,St.cell,look]at hc
           tm:=fun t tv ht=>by simp[enc,oH,look]at ht
           defers:=h.defers,nz:=h.nz }
 | .d t k::σ,st,g,x,h,hn,hd=>by
   simp only[dec]at hd;split at hd
   . rename_i av oW;cases hf:av.bV with
     | false=>rw[hf]at hd;simp at hd
     | true=>
       rw[hf]at hd;simp only[oT]at hd;split at hd
       . rename_i y z hy hz;cases hd;obtain⟨gE,h1,h2,h3,h4,h5⟩:=nv σ st g z h hn hz;refine⟨gE,h1.tell (zW h hn oW) ?_,h2,h3,h4,h5⟩;exact cB h (jA h hn.cons.cons oW) hf hy
       . simp at hd
   . simp at hd
 | .fn t f cR::σ,st,g,x,h,hn,hd=>by
   simp only[dec]at hd;split at hd
   . rename_i f' l oW;cases hf:Nat.beq f f' with
     | false=>rw[hf]at hd;simp at hd
     | true=>
       rw[hf]at hd;simp only[oT]at hd;split at hd
       . rename_i y z hy hz;cases hd;obtain⟨gE,h1,h2,h3,h4,h5⟩:=nv σ st g z h hn hz;refine⟨gE,h1.tell (zW h hn oW) ?_,h2,h3,h4,h5⟩;obtain⟨vs,e1,e2⟩:=jA h hn.cons.cons oW;have:=beq_eq hf;subst this;exact⟨vs,e1,px _ _ _ (mZ h (fun _ h _=>h) (fun hh=>by simp at hh) cR l vs.toList y e2 hy)⟩
       . simp at hd
   . simp at hd
 | .ag t ks::σ,st,g,x,h,hn,hd=>by
   simp only[dec]at hd;split at hd
   . rename_i l oW;cases hf:l.all AV.bV with
     | false=>rw[hf]at hd;simp at hd
     | true=>
       rw[hf]at hd;simp only[oT]at hd;split at hd
       . rename_i y z hy hz;cases hd;obtain⟨gE,h1,h2,h3,h4,h5⟩:=nv σ st g z h hn hz;refine⟨gE,h1.tell (zW h hn oW) ?_,h2,h3,h4,h5⟩;obtain⟨vs,e1,e2⟩:=jA h hn.cons.cons oW;exact⟨vs,e1,gX ks y vs.toList 0 (dH h ks l vs.toList y e2 hf hy)⟩
       . simp at hd
   . simp at hd
 | .al t t2::σ,st,g,x,h,hn,hd=>by
   simp only[dec]at hd;split at hd
   . rename_i r j s r2 j2 s2 ht1 ht2;cases hb:Nat.beq r r2&&(Nat.beq j j2&&(Nat.beq s s2&&TS st r j s))with
     | false=>rw[hb]at hd;simp at hd
     | true=>
       rw[hb]at hd;simp only[oT]at hd;simp only[ami]at hb;obtain⟨e1,e2,e3,hv⟩:=hb;have e1:=beq_eq e1;have e2:=beq_eq e2;have e3:=beq_eq e3;subst e1 e2 e3;split at hd
       . rename_i z hz;cases hl:JQ (oH σ z) t2 with
         | false=>rw[hl]at hd;simp at hd
         | true=>
           rw[hl]at hd;simp only[oT]at hd;cases hd;obtain⟨gE,h1,h2,h3,h4,h5⟩:=nv σ st g z h hn hz;refine⟨gE,h1.tell (zW h hn ht1) ?_,h2,h3,h4,h5⟩;have hq:(enc σ z).tv t2=some (.v (.ref (cn t2) 0 0)):=by
            unfold JQ at hl;split at hl
            . rename_i q hq;have:=beq_eq hl;subst this;have hq:look (enc σ z).tm t2=some (.v (.ref (cn t2) 0 0)):=hq;simp only[St.tv,hq]
            . simp at hl
           obtain⟨c1,k1,k2,k3⟩:=(jA h hn.cons.cons ht1:bC Z g st w (.ref r j s) _);obtain⟨c2,k4,k5,k6⟩:=(jA h hn.cons.cons ht2:bC Z g st w (.ref r j s) _);have hs:c1.s=s:=by unfold TS at hv;rw[k1]at hv;exact beq_eq hv
           have:c2=c1:=am5 (k4.symm.trans k1);subst this;have e:a.tmps.getD t undef=a.tmps.getD t2 undef:=(k3 hs).trans (k6 hs).symm;rw[e];exact(jA h1 (Di σ z).cons.cons hq:bC Z gE (enc σ z) w (.ref (cn t2) 0 0) _)
       . simp at hd
   . simp at hd
 | .fr t f r::σ,st,g,x,h,hn,hd=>by
   simp only[dec]at hd;split at hd
   . rename_i f' r' oW;cases hf:Nat.beq f f'&&Nat.beq r r' with
     | false=>rw[hf]at hd;simp at hd
     | true=>
       rw[hf]at hd;simp only[oT]at hd;simp only[ami]at hf;have e1:=beq_eq hf.1;have e2:=beq_eq hf.2;subst e1 e2;split at hd
       . rename_i z hz;cases hl:DG (fO σ z) r with
         | false=>rw[hl]at hd;simp at hd
         | true=>
           rw[hl]at hd;simp only[oT]at hd;cases hd;obtain⟨gE,h1,h2,h3,h4,h5⟩:=nv σ st g z h hn hz;refine⟨gE,h1.tell (zW h hn oW) ?_,h2,h3,h4,h5⟩;obtain⟨vs,e1,e2⟩:=jA h hn.cons.cons oW;refine⟨vs,e1,?_⟩;unfold DG at hl;split at hl
           . rename_i R' lu;obtain⟨vW,_⟩:=h4 r R' lu hl
             match Pg:vs.toList,e2 with
             | [u],e2=>obtain⟨⟨R,r1,r2,r3⟩,_⟩:=e2;exact⟨⟨R',lu,hl,by rw[r3,vW]⟩,trivial⟩
             | [],e2=>exact e2.elim
             | _::_::_,e2=>exact e2.2.elim
           . simp at hl
       . simp at hd
   . simp at hd
 | .own t k::σ,st,g,x,h,hn,hd=>by
   simp only[dec]at hd;split at hd
   . rename_i av oW;cases ho:rO t σ with
     | true=>rw[ho]at hd;simp at hd
     | false=>
       rw[ho]at hd;simp only[oF]at hd;split at hd
       . rename_i ay y ht;split at hd
         . rename_i z hz;cases hd;obtain⟨g1,F,k1,k2,k3,k4,k5,k6,k7⟩:=hO h (jA h hn.cons.cons oW) ht;have Ph:cJ ay:=fun t tv ht=>hn t tv (by rw[<- k2.tm];exact ht)
           obtain⟨gE,h1,h2,h3,h4,h5⟩:=nv σ ay g1 z k1 Ph hz;have vY:look (fO σ z) (cn t)=none:=by
            cases hl:look (fO σ z) (cn t)with
            | none=>rfl
            | some R=>
              rcases gz σ z _ R (ja _ _ _ hl)with ⟨t',e1,e2,_⟩ | ⟨e1,_⟩
              . have:t=t':=by unfold cn at e1;omega
                subst this;rw[ho]at e2;simp at e2
              . have:=h5 _ e1;unfold cn at this;omega
           have h6:=Rel.nr h1 (r:=cn t) (be:=0) (R:=⟨false,[⟨0,0,.own k y⟩]⟩) (cv:=fun _=>a.tmps.getD t undef) (fp:=fun j b=>j=0/\F b) vY
            (fun j b hb=>⟨k4.lt b hb.2,k4.own b hb.2,k4.z b hb.2,fun r j hh=>by
              obtain⟨r0,j0,hh⟩:=h2 r j b hh;exact k4.fp b hb.2 r0 j0 hh,fun r' R' lu cz=>by
              obtain⟨e1,R,e2,e3⟩:=h4 r' R' lu cz;rw[e1];exact k4.box b hb.2 r' R e2 e3,⟨0,0,.own k y⟩,k,y,by rw[hb.1];rfl,rfl⟩)
            (fun j j' b h1 h2=>h1.1.trans h2.1.symm) (fun hb=>by simp at hb)
            (fun j c hj=>by
              cases j with
              | zero=>simp only[amn,amh]at hj;subst hj;exact dG.frame _ _ _ _ _ (fun b hb=>⟨rfl,hb⟩) (fun _ _ _=>rfl) k3
              | succ j=>simp at hj)
           have hlk:∀ r',look ((cn t,(⟨false,[⟨0,0,.own k y⟩]⟩:Rt))::fO σ z) r'=if cn t=r' then some ⟨false,[⟨0,0,.own k y⟩]⟩else look (fO σ z) r':=fun r'=>aN _ _ _ _
           refine⟨_,h6.tell (zW h hn oW) (tv:= .v (.ref (cn t) 0 0)) ?_,fun r j b hb=>?_,fun BO=>?_,fun r R' hR nP=>?_,h5⟩
           . refine⟨⟨0,0,.own k y⟩,?_,oR _,fun _=>by simp[Gh.at]⟩;simp only[St.cell];have:=hlk (cn t);rw[if_pos rfl]at this;show(match look ((cn t,(⟨false,[⟨0,0,.own k y⟩]⟩:Rt))::fO σ z) (cn t)with | some R=>R.cells[0]? | none=>none)=_;rw[this];rfl
           . simp only[Gh.at]at hb;split at hb
             . exact k6 b hb.2
             . obtain⟨r0,j0,hh⟩:=h2 r j b hb;exact⟨r0,j0,k5 _ _ _ hh⟩
           . have:=BO t;simp[rO]at this
           . have hR:look ((cn t,(⟨false,[⟨0,0,.own k y⟩]⟩:Rt))::fO σ z) r=some R':=hR;rw[hlk]at hR;split at hR
             . cases hR;simp at nP
             . rename_i cY;obtain⟨e1,R,e2,e3⟩:=h4 r R' hR nP;refine⟨?_,?_⟩
               . simp only[Gh.at];rw[if_neg (fun e=>cY e.symm),e1,k2.be]
               . obtain⟨R0,e4,e5⟩:=k2.box r R e2;exact⟨R0,e4,e5 ▸ e3⟩
         . simp at hd
       . simp at hd
   . simp at hd
 | .box r cs::σ,st,g,x,h,hn,hd=>by
   simp only[dec]at hd;split at hd
   . rename_i r' l oW adY;cases hb:Nat.beq r r'&&Nat.blt r 100000&&zF r σ with
     | false=>rw[hb]at hd;simp at hd
     | true=>
       rw[hb]at hd;simp only[oT]at hd;simp only[ami]at hb;obtain⟨⟨yQ,l6⟩,hb3⟩:=hb;have e:=beq_eq yQ;subst e;have aV:r<100000:=ann (amE l6);obtain⟨U6,BO⟩:=jw hb3;split at hd
       . rename_i y z hy hz;cases hd;obtain⟨gE,h1,h2,h3,h4,h5⟩:=nv σ st g z h hn hz;obtain⟨d1,d2⟩:=nu cs l y hy;have vY:look (fO σ z) r=none:=by
          cases hl:look (fO σ z) r with
          | none=>rfl
          | some R=>
            rcases gz σ z _ R (ja _ _ _ hl)with ⟨t',e1,e2,_⟩ | ⟨e1,_⟩
            . rw[BO t']at e2;simp at e2
            . exact absurd e1 U6
         obtain⟨b1,b2,b3,b4,bcs,el,fr,b5,b6,b7,b8⟩:=h.box r _ adY rfl;have Mo:∀ j c,l[j]? = some c->st.cell r j=some c:=fun j c hj=>by simp only[St.cell,adY];exact hj
         have h6:=Rel.nr h1 (r:=r) (be:=g.be r) (R:=⟨true,cf cs y⟩) (cv:=g.cv r) (fp:=fun j b=>g.fp r j b/\∃(c:RC) (k:K) (x:T k),(cf cs y)[j]? = some c/\c.v= .own k x) vY
          (fun j b hb=>⟨(h.fp r j b hb.1).1,(h.fp r j b hb.1).2.1,(h.fp r j b hb.1).2.2.1,fun r0 j0 hh=>by
            have hg:=h3 BO r0 j0 b hh;obtain⟨e1,e2⟩:=h.cS _ _ _ _ _ hg hb.1;subst e1;obtain⟨_,_,_,c,k,x,e3,_⟩:=h1.fp r0 j0 b hh;simp only[St.cell]at e3;have:look (enc σ z).rt r0=none:=vY;rw[this]at e3;simp at e3,fun r' R' lu cz=>by
            obtain⟨e1,R,e2,e3⟩:=h4 r' R' lu cz;rw[e1];intro he;obtain⟨_,_,c3,_⟩:=h.box r' R e2 e3;exact c3 r j (by rw[he];exact hb.1),hb.2⟩)
          (fun j j' b hj BP=>(h.cS _ _ _ _ _ hj.1 BP.1).2)
          (fun _=>⟨b1,b2,fun r0 j0 hh=>b3 r0 j0 (h3 BO r0 j0 _ hh),fun j hh=>b3 r j hh.1,fun r' R' lu cz he=>by obtain⟨e1,R,e2,e3⟩:=h4 r' R' lu cz;rw[e1]at he;have:=b4 r' R e2 e3 he;subst this;have hh:look (fO σ z) r'=some R':=lu;rw[vY]at hh;simp at hh,bcs,el,fr,b5,b6,by rw[b7];exact d1,b8⟩)
          (fun j c hj=>by
            rcases d2 j c hj with ⟨k,x,c0,e1,e2,e3,e4⟩ | ⟨k,x,c0,av,e2,e3,e4,e5,e6⟩
            . subst e2;exact dG.frame _ _ _ _ _ (fun b hb=>⟨hb,_,k,x,hj,rfl⟩) (fun _ _ _=>rfl) (fj h (Mo j c0 e3) e4)
            . subst e2;exact cB h (yC h (Mo j c0 e3) e4) e5 e6)
         have hlk:∀ r',look ((r,(⟨true,cf cs y⟩:Rt))::fO σ z) r'=if r=r' then some ⟨true,cf cs y⟩else look (fO σ z) r':=fun r'=>aN _ _ _ _
         refine⟨_,h6.tell (zW h hn oW) (tv:= .v (.ptr r 0)) ?_,fun r0 j0 b hb=>?_,fun _ r0 j0 b hb=>?_,fun r0 R' hR nP=>?_,fun r0 hr0=>?_⟩
         . obtain⟨R,e1,e2,e3⟩:=(jA h hn.cons.cons oW:bC Z g st w (.ptr r 0) _);refine⟨⟨true,cf cs y⟩,?_,rfl,?_⟩
           . show look ((r,(⟨true,cf cs y⟩:Rt))::fO σ z) r=_;rw[hlk,if_pos rfl]
           . simp only[Gh.at,if_true];exact e3
         . simp only[Gh.at]at hb;split at hb
           . exact⟨r,j0,hb.1⟩
           . exact h2 r0 j0 b hb
         . simp only[Gh.at]at hb;split at hb
           . rename_i e;rw[e];exact hb.1
           . exact h3 BO r0 j0 b hb
         . have hR:look ((r,(⟨true,cf cs y⟩:Rt))::fO σ z) r0=some R':=hR;rw[hlk]at hR;split at hR
           . rename_i e;refine⟨by simp[Gh.at,e.symm],_,e ▸ adY,rfl⟩
           . rename_i cY;obtain⟨e1,R,e2,e3⟩:=h4 r0 R' hR nP;refine⟨?_,R,e2,e3⟩;simp only[Gh.at];rw[if_neg (fun e=>cY e.symm),e1]
         . rcases hr0 with hr0 | hr0
           . rw[<- hr0];exact aV
           . exact h5 r0 hr0
       . simp at hd
   . simp at hd
end
theorem x4{P:Program}(E:En):Tc P E:=fun cx σ st a w x ⟨h1,h2,Z,g,h3⟩ hd=>by obtain⟨gE,h4,_⟩:=nv σ st g x h3 h1 hd;exact⟨Di σ x,h2,Z,gE,h4⟩
section
variable{P:Program}{cx:Cx P}{Z:Nat->Prop}{g:Gh}{st:St}{a:Act}{w:World}{E:En}
theorem zg{gg:Bool}{l:List AV}{cs:List Value}{v:Value}(e:Nk gg v cs)(h1:a8 Z g st w l cs):bW Z g st w (fP gg l) v:=by
 have h2:=yD e h1;cases gg with
 | true=>unfold fP;cases hl:l <;> (rw[hl]at h2;exact h2)
 | false=>
   have e:cs=[v]:=e;subst e
   match hl:l,h1 with
   | [b],h1=>exact h1.1
   | [],h1=>exact h1.elim
   | _::_::_,h1=>exact h1.2.elim
theorem ND{gg:Bool}{ks:List K}{x:Tl ks}{v:Value}(h:ROv Z w gg ks x v):bW Z g st w (fP gg (fZ 0 false ks x 0)) v:=by obtain⟨cs,e,h⟩:=h;exact zg e (gX (g:=g) (st:=st) (d:=0) ks x cs 0 h)
theorem fI:∀(ps:List PK) (x:PT ps) (i r:Nat) (R:Rt),(r,R)∈gb ps x i->∃ i',i<=i'/\((r=cn i'/\R.box=false)∨(r=i'/\i'<100000/\R.box=true))
 | [],_,_,_,_,h=>by simp[gb]at h
 | .c _ _::ps,x,i,r,R,h=>by obtain⟨i',h1,h2⟩:=fI ps x.2 (i+1) r R h;exact⟨i',by omega,h2⟩
 | .fn _ _::ps,x,i,r,R,h=>by obtain⟨i',h1,h2⟩:=fI ps x.2 (i+1) r R h;exact⟨i',by omega,h2⟩
 | .pt _::ps,x,i,r,R,h=>by obtain⟨i',h1,h2⟩:=fI ps x.2 (i+1) r R h;exact⟨i',by omega,h2⟩
 | .nil::ps,x,i,r,R,h=>by obtain⟨i',h1,h2⟩:=fI ps x (i+1) r R h;exact⟨i',by omega,h2⟩
 | .io _ ks::ps,x,i,r,R,h=>by
   rcases ams.1 h with h | h
   . cases h;exact⟨i,oR _,.inl ⟨rfl,rfl⟩⟩
   . obtain⟨i',h1,h2⟩:=fI ps x.2 (i+1) r R h;exact⟨i',by omega,h2⟩
 | .mv k::ps,x,i,r,R,h=>by
   rcases ams.1 h with h | h
   . cases h;exact⟨i,oR _,.inl ⟨rfl,rfl⟩⟩
   . obtain⟨i',h1,h2⟩:=fI ps x.2 (i+1) r R h;exact⟨i',by omega,h2⟩
 | .pw cs::ps,x,i,r,R,h=>by
   have h:(r,R)∈bif Nat.blt i 100000 then (i,(⟨true,cf cs x.1⟩:Rt))::gb ps x.2 (i+1)else gb ps x.2 (i+1):=h;cases hb:Nat.blt i 100000 with
   | false=>rw[hb]at h;obtain⟨i',h1,h2⟩:=fI ps x.2 (i+1) r R h;exact⟨i',by omega,h2⟩
   | true=>
     rw[hb]at h;rcases ams.1 h with h | h
     . cases h;exact⟨i,oR _,.inr ⟨rfl,Nat.blt_eq.mp hb,rfl⟩⟩
     . obtain⟨i',h1,h2⟩:=fI ps x.2 (i+1) r R h;exact⟨i',by omega,h2⟩
theorem fy:∀(ps:List PK) (x:PT ps) (i t:Nat) (tv:TV),(t,tv)∈pL ps x i->¬ tv.iL
 | [],_,_,_,_,h=>by simp[pL]at h
 | .c gg ks::ps,x,i,t,tv,h=>by
   rcases ams.1 h with h | h
   . cases h;intro hm;cases ho:fP gg (fZ 0 false ks x.1 0)with
     | may q w y g' l=>exact l5 ho
     | _=>rw[ho]at hm;exact hm
   . exact fy ps x.2 (i+1) t tv h
 | .pt _::ps,x,i,t,tv,h=>by
   rcases ams.1 h with h | h
   . cases h;exact fun h=>h
   . exact fy ps x.2 (i+1) t tv h
 | .nil::ps,x,i,t,tv,h=>by
   rcases ams.1 h with h | h
   . cases h;exact fun h=>h
   . exact fy ps x (i+1) t tv h
 | .fn _ _::ps,x,i,t,tv,h=>by
   rcases ams.1 h with h | h
   . cases h;exact fun h=>h
   . exact fy ps x.2 (i+1) t tv h
 | .io gg ks::ps,x,i,t,tv,h=>by
   rcases ams.1 h with h | h
   . cases h;intro hm;cases ho:fP gg (fZ (cn i) true ks x.1 0)with
     | may q w y g' l=>exact l5 ho
     | _=>rw[ho]at hm;exact hm
   . exact fy ps x.2 (i+1) t tv h
 | .mv _::ps,x,i,t,tv,h=>by
   rcases ams.1 h with h | h
   . cases h;exact fun h=>h
   . exact fy ps x.2 (i+1) t tv h
 | .pw _::ps,x,i,t,tv,h=>by
   rcases ams.1 h with h | h
   . cases h;exact fun h=>h
   . exact fy ps x.2 (i+1) t tv h
theorem bb.ix{F:Nat->Nat->Prop}(n j0:Nat):∀(ks:List K) (x:Tl ks) (cs:List Value),bb true Z w F ks x cs n->bb true Z w (fun m=>F (n+(m-j0))) ks x cs j0:=by
 suffices h:∀(ks:List K) (x:Tl ks) (cs:List Value) (d:Nat),bb true Z w F ks x cs (n+d)->bb true Z w (fun m=>F (n+(m-j0))) ks x cs (j0+d)by intro ks x cs h0;exact h ks x cs 0 h0
 intro ks;induction ks with
 | nil=>intro x cs d h;cases cs with | nil=>trivial | cons _ _=>exact h.elim
 | cons k ks ih=>
   intro x cs d h;cases cs with
   | nil=>cases k <;> exact h.elim
   | cons v vs=>
     cases k with
     | sl e bZ=>exact⟨by show dG w _ x.1 v (F (n+(j0+d-j0)));rw[show j0+d-j0=d by omega];exact h.1,ih x.2 vs (d+1) h.2⟩
     | int _=>exact⟨h.1,ih x.2 vs d h.2⟩
     | bool=>exact⟨h.1,ih x.2 vs d h.2⟩
     | str=>exact⟨h.1,ih x.2 vs d h.2⟩
theorem C5{Z0:Nat->Prop}{F:Nat->Nat->Prop}{nz:Nat->Option Value}{yR:Gl P w Z0}{Yk:∀ b,Z0 b->b<w.heap.size->¬ ∃ i,F i b}(yf:cx=⟨w,fun b=>∃ i,F i b,Z0,nz,yR,Yk⟩)(hF:∀ i b,F i b->b<w.heap.size/\¬ Z0 b)(hd:∀ i j b,F i b->F j b->i=j){ps:List PK}{x:PT ps}{i n m:Nat}{g:Gh}{cells:List RC}{vals:List Value}{v:Value}{tv:TV}
 (h1:Rel cx Z0 g ⟨pL ps x (i+1),gb ps x (i+1)⟩ a w)(h2:∀ r j b,g.fp r j b->∃ n',n+m<=n'/\F n' b)(h3:∀ r R,look (gb ps x (i+1)) r=some R->R.box=true->∃ n',n+m<=n'/\F n' (g.be r))(hi:i<a.tmps.size)(hv:a.tmps.getD i undef=v)
 (hm:cells.length<=m)
 (hc:∀ j c,cells[j]? = some c->∃ k y u,c=⟨0,0,.own k y⟩/\vals[j]? = some u/\dG w k y u (F (n+j)))
 (ht:∀(g':Gh) (ay:St),(∀ j c,cells[j]? = some c->ay.cell (cn i) (0+j)=some c)->(∀ j u,vals[j]? = some u->g'.cv (cn i) (0+j)=u)->bW Z0 g' ay w tv v) :
 ∃ g,Rel cx Z0 g ⟨(i,tv)::pL ps x (i+1),(cn i,⟨false,cells⟩)::gb ps x (i+1)⟩ a w/\(∀ r j b,g.fp r j b->∃ n',n<=n'/\F n' b)/\∀ r R,look ((cn i,(⟨false,cells⟩:Rt))::gb ps x (i+1)) r=some R->R.box=true->∃ n',n<=n'/\F n' (g.be r):=by
 have vY:look (gb ps x (i+1)) (cn i)=none:=by
  cases hl:look (gb ps x (i+1)) (cn i)with
  | none=>rfl
  | some R=>obtain⟨i',e2,e1⟩:=fI _ _ _ _ _ (ja _ _ _ hl);unfold cn at e1;omega
 have h6:=Rel.nr h1 (r:=cn i) (be:=0) (R:=⟨false,cells⟩) (cv:=fun j=>vals.getD j undef) (fp:=fun j b=>j<cells.length/\F (n+j) b) vY
  (fun j b hb=>⟨(hF _ b hb.2).1,.inl (by rw[yf];exact⟨_,hb.2⟩),(hF _ b hb.2).2,fun r0 j0 hh=>by
    obtain⟨n',k4,k3⟩:=h2 r0 j0 b hh;have:=hd _ n' b hb.2 k3;have:=hb.1;omega,fun r' R' lu cz e=>by
    obtain⟨n',k4,k3⟩:=h3 r' R' lu cz;have:=hd _ n' b hb.2 (e ▸ k3);have:=hb.1;omega,by
    obtain⟨k,y,u,e1,e2,e3⟩:=hc j _ (amm hb.1);exact⟨_,k,y,amm hb.1,by rw[e1]⟩⟩)
  (fun j j' b h1 h2=>by have:=hd _ _ b h1.2 h2.2;omega) (fun hb=>by simp at hb)
  (fun j c hj=>by
    obtain⟨k,y,u,e1,e2,e3⟩:=hc j c hj;subst e1;have nQ:j<cells.length:=by
     rcases amz j cells.length with hh | hh
     . exact hh
     . simp[amA hh]at hj
    show dG w k y _ _;simp only[List.getD,e2,anF];exact dG.frame _ _ _ _ _ (fun b hb=>⟨nQ,hb⟩) (fun _ _ _=>rfl) e3)
 refine⟨_,h6.tell hi (tv:=tv) ?_,fun r j b hb=>?_,fun r R hR hb=>?_⟩
 . rw[hv];refine ht _ _ (fun j c hj=>?_) fun j u hj=>?_
   . show(match look ((cn i,(⟨false,cells⟩:Rt))::gb ps x (i+1)) (cn i)with | some R=>R.cells[0+j]? | none=>none)=_;rw[aN,if_pos rfl,amt];exact hj
   . simp[Gh.at,List.getD,hj]
 . simp only[Gh.at]at hb;split at hb
   . exact⟨n+j,by omega,hb.2⟩
   . obtain⟨n',k4,k3⟩:=h2 r j b hb;exact⟨n',by omega,k3⟩
 . rw[aN]at hR;split at hR
   . cases hR;simp at hb
   . rename_i cY;obtain⟨n',k4,k3⟩:=h3 r R hR hb;refine⟨n',by omega,?_⟩;simp only[Gh.at];rw[if_neg (fun e=>cY e.symm)];exact k3
theorem oY{F:Nat->Nat->Prop}:∀(cs:List (Bool×K)) (x:BT cs) (vs:List Value) (n j:Nat) (c:RC),yk Z w F cs x vs n->(cf cs x)[j]? = some c ->
 ∃ u,vs[j]? = some u/\((∃ k y,c=⟨0,0,.own k y⟩/\dG w k y u (F (n+j)))∨∃ k y,c=⟨0,0,.av (.d k y)⟩/\RO Z w k y u)
 | [],_,_,_,_,_,_,h=>by simp[cf]at h
 | (true,k)::cs,x,[],_,_,_,h,_=>h.elim
 | (false,k)::cs,x,[],_,_,_,h,_=>h.elim
 | (true,k)::cs,x,v::vs,n,0,c,h,hc=>by simp only[cf,amn,amh]at hc;subst hc;exact⟨v,rfl,.inl ⟨k,x.1,rfl,h.1⟩⟩
 | (false,k)::cs,x,v::vs,n,0,c,h,hc=>by simp only[cf,amn,amh]at hc;subst hc;exact⟨v,rfl,.inr ⟨k,x.1,rfl,h.1⟩⟩
 | (true,k)::cs,x,v::vs,n,j+1,c,h,hc=>by obtain⟨u,h1,h2⟩:=oY cs x.2 vs (n+1) j c h.2 (by simpa[cf]using hc);rw[show n+1+j=n+(j+1)by omega]at h2;exact⟨u,by simpa using h1,h2⟩
 | (false,k)::cs,x,v::vs,n,j+1,c,h,hc=>by obtain⟨u,h1,h2⟩:=oY cs x.2 vs (n+1) j c h.2 (by simpa[cf]using hc);rw[show n+1+j=n+(j+1)by omega]at h2;exact⟨u,by simpa using h1,h2⟩
theorem uD{F:Nat->Nat->Prop}:∀(cs:List (Bool×K)) (x:BT cs) (vs:List Value) (n:Nat),yk Z w F cs x vs n->vs.length=cs.length
 | [],_,[],_,_=>rfl
 | [],_,_::_,_,h=>h.elim
 | (true,_)::_,_,[],_,h=>h.elim
 | (false,_)::_,_,[],_,h=>h.elim
 | (true,k)::cs,x,v::vs,n,h=>amP (· + 1) (uD cs x.2 vs _ h.2)
 | (false,k)::cs,x,v::vs,n,h=>amP (· + 1) (uD cs x.2 vs _ h.2)
theorem mC:∀(cs:List (Bool×K)) (x:BT cs),(cf cs x).length=cs.length
 | [],_=>rfl
 | (true,k)::cs,x=>amP (· + 1) (mC cs x.2)
 | (false,k)::cs,x=>amP (· + 1) (mC cs x.2)
theorem N9{Z0:Nat->Prop}{F:Nat->Nat->Prop}{nz:Nat->Option Value}{yR:Gl P w Z0}{Yk:∀ b,Z0 b->b<w.heap.size->¬ ∃ i,F i b}(yf:cx=⟨w,fun b=>∃ i,F i b,Z0,nz,yR,Yk⟩)(hF:∀ i b,F i b->b<w.heap.size/\¬ Z0 b)(hd:∀ i j b,F i b->F j b->i=j)
 {ps:List PK}{x:PT ps}{cs:List (Bool×K)}{z:BT cs}{v:Value}{i n:Nat}
 (h1:Rel cx Z0 g ⟨pL ps x (i+1),gb ps x (i+1)⟩ a w)(h2:∀ r j b,g.fp r j b->∃ n',n+(cs.length+1)<=n'/\F n' b)(h3:∀ r R,look (gb ps x (i+1)) r=some R->R.box=true->∃ n',n+(cs.length+1)<=n'/\F n' (g.be r))(hi:i<a.tmps.size)(hv:a.tmps.getD i undef=v)
 (hp:XA Z0 w F cs z v n)(aV:i<100000) :
 ∃ g,Rel cx Z0 g ⟨(i,.v (.ptr i 0))::pL ps x (i+1),(i,⟨true,cf cs z⟩)::gb ps x (i+1)⟩ a w/\(∀ r j b,g.fp r j b->∃ n',n<=n'/\F n' b)/\∀ r R,look ((i,(⟨true,cf cs z⟩:Rt))::gb ps x (i+1)) r=some R->R.box=true->∃ n',n<=n'/\F n' (g.be r):=by
 obtain⟨b0,vs,e,fr,p1,p2,p3,p4,p5⟩:=hp;have hlen:=uD cs z vs.toList (n+1) p5;have Un:=mC cs z;have vY:look (gb ps x (i+1)) i=none:=by
  cases hl:look (gb ps x (i+1)) i with
  | none=>rfl
  | some R=>obtain⟨i',e2,e1⟩:=fI _ _ _ _ _ (ja _ _ _ hl);unfold cn at e1;omega
 have h6:=Rel.nr h1 (r:=i) (be:=b0) (R:=⟨true,cf cs z⟩) (cv:=fun j=>vs.toList.getD j undef) (fp:=fun j b=>(∃ k y,(cf cs z)[j]? = some ⟨0,0,.own k y⟩)/\F (n+1+j) b) vY
  (fun j b hb=>⟨(hF _ b hb.2).1,.inl (by rw[yf];exact⟨_,hb.2⟩),(hF _ b hb.2).2,fun r0 j0 hh=>by
    obtain⟨n',k4,k3⟩:=h2 r0 j0 b hh;have:=hd _ n' b hb.2 k3;obtain⟨⟨k,y,hc⟩,_⟩:=hb;have:=(amQ.1 hc).1;omega,fun r' R' lu cz e=>by
    obtain⟨n',k4,k3⟩:=h3 r' R' lu cz;have:=hd _ n' b hb.2 (e ▸ k3);obtain⟨⟨k,y,hc⟩,_⟩:=hb;have:=(amQ.1 hc).1;omega,by
    obtain⟨⟨k,y,hc⟩,_⟩:=hb;exact⟨_,k,y,hc,rfl⟩⟩)
  (fun j j' b h1 h2=>by have:=hd _ _ b h1.2 h2.2;omega)
  (fun _=>⟨.inl (by rw[yf];exact⟨_,p4⟩),(hF _ _ p4).2,fun r' j' hh=>by
    obtain⟨n',k4,k3⟩:=h2 r' j' _ hh;have:=hd _ _ _ p4 k3;omega,fun j hh=>by have:=hd _ _ _ p4 hh.2;omega,fun r' R' lu cz e=>by
    obtain⟨n',k4,k3⟩:=h3 r' R' lu cz;have:=hd _ _ _ p4 (e ▸ k3);omega,vs,e,fr,p2,p3,by rw[<- amT,hlen];exact Un.symm,fun j hj=>by
    rw[<- aml];have BP:j<vs.toList.length:=by simpa using hj
    rw[List.getD,amm BP];rfl⟩)
  (fun j c hj=>by
    obtain⟨u,q1,q2⟩:=oY cs z vs.toList (n+1) j c p5 hj;have hu:vs.toList.getD j undef=u:=by rw[List.getD,q1];rfl
    rcases q2 with ⟨k,y,rfl,q3⟩ | ⟨k,y,rfl,q3⟩
    . show dG w k y _ _;rw[hu];exact dG.frame _ _ _ _ _ (fun b hb=>⟨⟨k,y,hj⟩,hb⟩) (fun _ _ _=>rfl) q3
    . show RO Z0 w k y _;rw[hu];exact q3)
 refine⟨_,h6.tell hi (tv:= .v (.ptr i 0)) ?_,fun r j b hb=>?_,fun r R hR hb=>?_⟩
 . rw[hv,p1];exact⟨_,by show look ((i,(⟨true,cf cs z⟩:Rt))::gb ps x (i+1)) i=_;rw[aN,if_pos rfl],rfl,by simp[Gh.at]⟩
 . simp only[Gh.at]at hb;split at hb
   . exact⟨n+1+j,by omega,hb.2⟩
   . obtain⟨n',k4,k3⟩:=h2 r j b hb;exact⟨n',by omega,k3⟩
 . rw[aN]at hR;split at hR
   . rename_i e;refine⟨n,oR _,?_⟩;simp only[Gh.at];rw[if_pos e.symm];exact p4
   . rename_i cY;obtain⟨n',k4,k3⟩:=h3 r R hR hb;refine⟨n',by omega,?_⟩;simp only[Gh.at];rw[if_neg (fun e=>cY e.symm)];exact k3
theorem iE{Z0:Nat->Prop}{F:Nat->Nat->Prop}{nz:Nat->Option Value}{yR:Gl P w Z0}{Yk:∀ b,Z0 b->b<w.heap.size->¬ ∃ i,F i b}(yf:cx=⟨w,fun b=>∃ i,F i b,Z0,nz,yR,Yk⟩)(BQ:∀ t v,nz t=some v->a.tmps.getD t undef=v)(hdf:a.defers=[])(hZ:∀ b,Z0 b->b<w.heap.size)(hF:∀ i b,F i b->b<w.heap.size/\¬ Z0 b)(hd:∀ i j b,F i b->F j b->i=j) :
 ∀(ps:List PK) (x:PT ps) (vs:List Value) (i n:Nat),ej Z0 w F ps x vs n->(∀ j v,vs[j]? = some v->i+j<a.tmps.size/\a.tmps.getD (i+j) undef=v) ->
  ∃ g,Rel cx Z0 g ⟨pL ps x i,gb ps x i⟩ a w/\(∀ r j b,g.fp r j b->∃ n',n<=n'/\F n' b)/\∀ r R,look (gb ps x i) r=some R->R.box=true->∃ n',n<=n'/\F n' (g.be r)
 | [],x,[],i,n,_,_=>by
   subst yf;refine⟨⟨fun _=>0,fun _ _=>undef,fun _ _ _=>False⟩,?_,fun _ _ _ h=>h.elim,fun r R hR=>by simp[gb,look]at hR⟩
   exact { os:=rfl,tape:=rfl,output:=rfl,size:=oR _,block:=fun _ _ _=>rfl,cq:=fun b hb=>⟨hZ b hb,.inl hb⟩,z0:=fun b hb _=>hb,fp:=fun _ _ _ h=>h.elim,cS:=fun _ _ _ _ _ h=>h.elim
           box:=fun r R hR=>by simp[gb,look]at hR
           cell:=fun r j c hc=>by simp[gb,St.cell,look]at hc
           tm:=fun t tv ht=>by simp[pL,look]at ht
           defers:=hdf
           nz:=BQ }
 | .c gg ks::ps,x,v::vs,i,n,h,ha=>by
   obtain⟨g,h1,h2,h3⟩:=iE yf BQ hdf hZ hF hd ps x.2 vs (i+1) n h.2 fun j v hj=>by rw[show i+1+j=i+(j+1)by omega];exact ha (j+1) v (by simpa using hj)
   have hv:=ha 0 v rfl;rw[amN]at hv;exact⟨g,h1.tell hv.1 (by rw[hv.2];exact ND h.1),h2,h3⟩
 | .fn f cR::ps,x,v::vs,i,n,h,ha=>by
   obtain⟨g,h1,h2,h3⟩:=iE yf BQ hdf hZ hF hd ps x.2 vs (i+1) n h.2 fun j v hj=>by rw[show i+1+j=i+(j+1)by omega];exact ha (j+1) v (by simpa using hj)
   have hv:=ha 0 v rfl;rw[amN]at hv;obtain⟨cs,e1,e2⟩:=h.1;exact⟨g,h1.tell hv.1 (by rw[hv.2];exact⟨cs,e1,px _ _ _ e2⟩),h2,h3⟩
 | .nil::ps,x,v::vs,i,n,h,ha=>by
   obtain⟨g,h1,h2,h3⟩:=iE yf BQ hdf hZ hF hd ps x vs (i+1) n h.2 fun j v hj=>by rw[show i+1+j=i+(j+1)by omega];exact ha (j+1) v (by simpa using hj)
   have hv:=ha 0 v rfl;rw[amN]at hv;exact⟨g,h1.tell hv.1 (tv:= .v .nil) (by rw[hv.2];exact h.1),h2,h3⟩
 | .pt ks::ps,x,v::vs,i,n,h,ha=>by
   obtain⟨g,h1,h2,h3⟩:=iE yf BQ hdf hZ hF hd ps x.2 vs (i+1) n h.2 fun j v hj=>by rw[show i+1+j=i+(j+1)by omega];exact ha (j+1) v (by simpa using hj)
   have hv:=ha 0 v rfl;rw[amN]at hv;exact⟨g,h1.tell hv.1 (tv:= .v (.rp none 0 ks [x.1] 0 0)) (by rw[hv.2];exact YZ (g:=g) (st:=⟨pL ps x.2 (i+1),gb ps x.2 (i+1)⟩) h.1),h2,h3⟩
 | .io gg ks::ps,x,v::vs,i,n,h,ha=>by
   obtain⟨g,h1,h2,h3⟩:=iE yf BQ hdf hZ hF hd ps x.2 vs (i+1) (n+bU ks) h.2 fun j v hj=>by rw[show i+1+j=i+(j+1)by omega];exact ha (j+1) v (by simpa using hj)
   have hv:=ha 0 v rfl;rw[amN]at hv;obtain⟨cs,e1,e2⟩:=h.1;have hlen:=fM ks x.1;obtain⟨_,kn⟩:=gy ks x.1 cs n e2;refine C5 yf hF hd h1 h2 h3 hv.1 hv.2 (by omega) (vals:=nJ ks cs) (fun j c hj=>?_) fun g' ay q1 q2=>?_
   . obtain⟨e,bZ,y,u,g1,g2,g3⟩:=kn j c hj;exact⟨_,y,u,g1,g2,g3⟩
   . exact zg e1 (iA ks x.1 cs 0 (bb.ix n 0 ks x.1 cs e2) q1 q2)
 | .mv k::ps,x,v::vs,i,n,h,ha=>by
   obtain⟨g,h1,h2,h3⟩:=iE yf BQ hdf hZ hF hd ps x.2 vs (i+1) (n+1) h.2 fun j v hj=>by rw[show i+1+j=i+(j+1)by omega];exact ha (j+1) v (by simpa using hj)
   have hv:=ha 0 v rfl;rw[amN]at hv;refine C5 yf hF hd h1 h2 h3 hv.1 hv.2 (by simp) (vals:=[v]) (fun j c hj=>?_) fun g' ay q1 q2=>?_
   . cases j with
     | zero=>simp only[amn,amh]at hj;subst hj;exact⟨k,x.1,v,rfl,rfl,h.1⟩
     | succ j=>simp at hj
   . exact⟨_,q1 0 _ rfl,oR _,fun _=>(q2 0 v rfl).symm⟩
 | .pw cs::ps,x,v::vs,i,n,h,ha=>by
   obtain⟨g,h1,h2,h3⟩:=iE yf BQ hdf hZ hF hd ps x.2 vs (i+1) (n+(cs.length+1)) h.2 fun j v hj=>by rw[show i+1+j=i+(j+1)by omega];exact ha (j+1) v (by simpa using hj)
   have hv:=ha 0 v rfl;rw[amN]at hv;cases hb:Nat.blt i 100000 with
   | false=>
     refine⟨g,?_,fun r j b h=>?_,fun r R hR h=>?_⟩
     . show Rel cx Z0 g ⟨(i,.v (bif Nat.blt i 100000 then .ptr i 0 else .dead))::pL ps x.2 (i+1),bif Nat.blt i 100000 then (i,⟨true,cf cs x.1⟩)::gb ps x.2 (i+1)else gb ps x.2 (i+1)⟩ a w;rw[hb];exact h1.tell hv.1 (tv:= .v .dead) trivial
     . obtain⟨n',k1,k2⟩:=h2 r j b h;exact⟨n',by omega,k2⟩
     . have hR:look (bif Nat.blt i 100000 then (i,(⟨true,cf cs x.1⟩:Rt))::gb ps x.2 (i+1)else gb ps x.2 (i+1)) r=some R:=hR;rw[hb]at hR;obtain⟨n',k1,k2⟩:=h3 r R hR h;exact⟨n',by omega,k2⟩
   | true=>
     obtain⟨g',k1,k2,k3⟩:=N9 yf hF hd h1 h2 h3 hv.1 hv.2 h.1 (Nat.blt_eq.mp hb);refine⟨g',?_,k2,fun r R hR=>?_⟩
     . show Rel cx Z0 g' ⟨(i,.v (bif Nat.blt i 100000 then .ptr i 0 else .dead))::pL ps x.2 (i+1),bif Nat.blt i 100000 then (i,⟨true,cf cs x.1⟩)::gb ps x.2 (i+1)else gb ps x.2 (i+1)⟩ a w;rw[hb];exact k1
     . have hR:look (bif Nat.blt i 100000 then (i,(⟨true,cf cs x.1⟩:Rt))::gb ps x.2 (i+1)else gb ps x.2 (i+1)) r=some R:=hR;rw[hb]at hR;exact k3 r R hR
 | .pw _::_,_,[],_,_,h,_=>h.elim
 | [],_,_::_,_,_,h,_=>h.elim
 | .c _ _::_,_,[],_,_,h,_=>h.elim
 | .pt _::_,_,[],_,_,h,_=>h.elim
 | .nil::_,_,[],_,_,h,_=>h.elim
 | .fn _ _::_,_,[],_,_,h,_=>h.elim
 | .io _ _::_,_,[],_,_,h,_=>h.elim
 | .mv _::_,_,[],_,_,h,_=>h.elim
def tL(tmps:Array Value):ResultVar->Sem Value
 | .tmp t=>pure (tmps.getD t undef)
 | .cell a t=>do loadVar t (<- asAddr (tmps.getD a undef))
theorem sr(hT:cH P E)(h:Rel cx Z g st a w)(hn:cJ st):∀(res:List ResultVar) (l:List (Bool×List AV)),ml E st res=some l->∃ vs,(res.mapM (tL a.tmps)).run P w= .ok vs w/\iK Z g st w l vs
 | [],l,hr=>by simp only[ml,amh]at hr;subst hr;exact⟨[],by simp[List.mapM_nil],trivial⟩
 | .tmp t::r,l,hr=>by
   simp only[ml]at hr;split at hr
   . rename_i tv l' h1 h2;split at hr
     . rename_i p hp;simp only[amh]at hr;subst hr;obtain⟨vs,e1,e2⟩:=sr hT h hn r l' h2;exact⟨a.tmps.getD t undef::vs,by simp[List.mapM_cons,tL,e1],lS (jA h hn.cons.cons h1) hp,e2⟩
     . simp at hr
   . simp at hr
 | .cell t ty::r,l,hr=>by
   simp only[ml]at hr;split at hr
   . rename_i r' j ti l' h1 h2 h3;split at hr
     . rename_i cs hl;simp only[amh]at hr;subst hr;obtain⟨vs,e1,e2⟩:=sr hT h hn r l' h3;obtain⟨b,of,us,f1,f2,f3,f4⟩:=zj h (v:=a.tmps.getD t undef) (p:= .ptr r' j) (jA h hn.cons.cons h1) hl;obtain⟨v,f5,f6⟩:=xE (hT ty ti h2) f2 f3;refine⟨v::vs,by simp only[List.mapM_cons,tL,f1,asAddr,amJ,amR,amu,f5,e1],?_,e2⟩;cases ye:ti.agg with
       | true=>rw[ye]at f6;exact⟨us.toArray,f6,by simpa using f4⟩
       | false=>
         rw[ye]at f6;subst f6
         match cs,f4 with
         | [c],f4=>exact f4.1
         | [],f4=>exact f4.elim
         | _::_::_,f4=>exact f4.2.elim
     . simp at hr
   . simp at hr
theorem lN.trans{w w' w'':World}{g' g'':Gh}{ay Kl:St}(h:lN Z w w' g g' st ay)(h':lN Z w' w'' g' g'' ay Kl)(hk:nW Z Z w w'' g g'' st Kl):lN Z w w'' g g'' st Kl:=
 ⟨hk,h'.tm.trans h.tm,h'.be.trans h.be,fun r R' hR=>by obtain⟨R1,e1,e2⟩:=h'.box r R' hR;obtain⟨R,e3,e4⟩:=h.box r R1 e1;exact⟨R,e3,e2.trans e4⟩⟩
structure nj {P:Program} (cx:Cx P) (Z:Nat->Prop) (w:World) (g g':Gh) (st ay:St) (H:Nat->Nat->Prop) (j n:Nat):Prop where
 rel:∀(p:Bool×List AV) (v:Value),vw Z g st w p v->vw Z g' ay w p v
 av:∀(x:AV) (v:Value),bC Z g st w x v->bC Z g' ay w x v
 fp:∀ r j b,g'.fp r j b->g.fp r j b
 free:∀ n,jB cx Z g' ay w (H n)
 sub:∀ n b,H n b->∃ r j,g.fp r j b
 cS:∀ n m b,H n b->H m b->n=m
 ix:∀ i b,H i b->j<=i/\i<j+n
 be:g'.be=g.be
 box:∀ r R',look ay.rt r=some R'->∃ R,look st.rt r=some R/\R'.box=R.box
theorem nj.refl(j:Nat):nj cx Z w g g st st (fun _ _=>False) j 0:=
 ⟨fun _ _ h=>h,fun _ _ h=>h,fun _ _ _ h=>h,fun _=>jB.none _ _ _ _ _,fun _ _ h=>h.elim,fun _ _ _ h=>h.elim,fun _ _ h=>h.elim,rfl,fun r R h=>⟨R,h,rfl⟩⟩
theorem jB.mono{F:Nat->Prop}{g':Gh}{ay:St}(h:jB cx Z g st w F)(yn:∀ r j b,g'.fp r j b->g.fp r j b)(vW:g'.be=g.be)(nP:∀ r R',look ay.rt r=some R'->∃ R,look st.rt r=some R/\R'.box=R.box):jB cx Z g' ay w F:=
 ⟨h.lt,h.own,h.z,fun b hb r j hh=>h.fp b hb r j (yn r j b hh),fun b hb r R' hR hx=>by obtain⟨R,e1,e2⟩:=nP r R' hR;rw[vW];exact h.box b hb r R e1 (by rw[<- e2];exact hx)⟩
theorem nj.trans{g' g'':Gh}{ay Kl:St}{H H':Nat->Nat->Prop}{j n m:Nat}(h:nj cx Z w g g' st ay H j n)(h':nj cx Z w g' g'' ay Kl H' (j+n) m):nj cx Z w g g'' st Kl (fun i b=>H i b∨H' i b) j (n+m) where
 rel:=fun p v hr=>h'.rel p v (h.rel p v hr)
 av:=fun x v hr=>h'.av x v (h.av x v hr)
 fp:=fun r j b hb=>h.fp r j b (h'.fp r j b hb)
 free:=fun i=>by have f1:=(h.free i).mono h'.fp h'.be h'.box;have f2:=h'.free i;exact⟨fun b hb=>hb.elim (f1.lt b) (f2.lt b),fun b hb=>hb.elim (f1.own b) (f2.own b),fun b hb=>hb.elim (f1.z b) (f2.z b),fun b hb=>hb.elim (f1.fp b) (f2.fp b),fun b hb=>hb.elim (f1.box b) (f2.box b)⟩
 sub:=fun i b hb=>by
  rcases hb with hb | hb
  . exact h.sub i b hb
  . obtain⟨r,j,hh⟩:=h'.sub i b hb;exact⟨r,j,h.fp r j b hh⟩
 cS:=fun i i' b hb cz=>by
  have cross:∀ i i',H i b->H' i' b->False:=fun i i' k1 k2=>by obtain⟨r,j,hh⟩:=h'.sub i' b k2;exact(h.free i).fp b k1 r j hh
  rcases hb with hb | hb
  . rcases cz with cz | cz
    . exact h.cS i i' b hb cz
    . exact(cross i i' hb cz).elim
  . rcases cz with cz | cz
    . exact(cross i' i cz hb).elim
    . exact h'.cS i i' b hb cz
 ix:=fun i b hb=>by
  rcases hb with hb | hb
  . have:=h.ix i b hb;omega
  . have:=h'.ix i b hb;omega
 be:=h'.be.trans h.be
 box:=fun r R' hR=>by obtain⟨R1,e1,e2⟩:=h'.box r R' hR;obtain⟨R,e3,e4⟩:=h.box r R1 e1;exact⟨R,e3,e2.trans e4⟩
theorem bb.mono{fresh:Bool}{H H':Nat->Nat->Prop}(hH:∀ n b,H n b->H' n b):∀(ks:List K) (x:Tl ks) (cs:List Value) (j:Nat),bb fresh Z w H ks x cs j->bb fresh Z w H' ks x cs j
 | [],_,[],_,_=>trivial
 | .sl e bZ::ks,x,v::vs,j,h=>by
   refine⟨?_,bb.mono hH ks x.2 vs _ h.2⟩;cases fresh with
   | true=>exact dG.frame _ _ _ _ _ (hH j) (fun _ _ _=>rfl) h.1
   | false=>exact h.1
 | .int _::ks,x,v::vs,j,h=>⟨h.1,bb.mono hH ks x.2 vs j h.2⟩
 | .bool::ks,x,v::vs,j,h=>⟨h.1,bb.mono hH ks x.2 vs j h.2⟩
 | .str::ks,x,v::vs,j,h=>⟨h.1,bb.mono hH ks x.2 vs j h.2⟩
 | [],_,_::_,_,h=>h.elim
 | .sl _ _::_,_,[],_,h=>h.elim
 | .int _::_,_,[],_,h=>h.elim
 | .bool::_,_,[],_,h=>h.elim
 | .str::_,_,[],_,h=>h.elim
theorem mT.mono{fresh:Bool}{H H':Nat->Nat->Prop}(hH:∀ n b,H n b->H' n b):∀(rs:List (Bool×List K)) (y:CT rs) (vs:List Value) (j:Nat),mT fresh Z w H rs y vs j->mT fresh Z w H' rs y vs j
 | [],_,[],_,_=>trivial
 | (gg,ks)::rs,y,v::vs,j,⟨⟨cs,e,h⟩,h'⟩=>⟨⟨cs,e,bb.mono hH ks y.1 cs j h⟩,mT.mono hH rs y.2 vs _ h'⟩
 | [],_,_::_,_,h=>h.elim
 | _::_,_,[],_,h=>h.elim
def Z3(fresh:Bool)(ks:List K):Nat:=bif fresh then bU ks else 0
theorem l8(fresh:Bool):∀(ks:List K) (l:List AV) (cs:List Value) (st:St) (g:Gh) (ay:St) (x:Tl ks) (j:Nat),Rel cx Z g st a w->a8 Z g st w l cs->jV st fresh ks l=some (ay,x) ->
 ∃ g' H,Rel cx Z g' ay a w/\nj cx Z w g g' st ay H j (Z3 fresh ks)/\bb fresh Z w H ks x cs j
 | [],[],cs,st,g,ay,x,j,h,hr,ht=>by
   simp only[jV,amh,amO]at ht;obtain⟨rfl,_⟩:=ht;cases cs with
   | nil=>exact⟨g,fun _ _=>False,h,by cases fresh <;> exact nj.refl j,trivial⟩
   | cons _ _=>exact hr.elim
 | .sl e bZ::ks,av::l,[],st,g,ay,x,j,h,hr,ht=>hr.elim
 | .sl e bZ::ks,av::l,v::vs,st,g,ay,x,j,h,hr,ht=>by
   unfold jV at ht;split at ht
   . rename_i ca y hy;split at ht
     . rename_i q hq;cases ht;cases fresh with
       | true=>
         simp only[oT]at hy;obtain⟨g1,F,k1,k2,k3,k4,k5,k6,k7⟩:=hO h hr.1 hy;have t1:nj cx Z w g g1 st ca (fun n b=>n=j/\F b) j 1:=
          ⟨fun p v=>vw.cI k2.cI p v,fun x v=>bC.cI k2.cI x v,k5,fun n=>⟨fun b hb=>k4.lt b hb.2,fun b hb=>k4.own b hb.2,fun b hb=>k4.z b hb.2,fun b hb=>k4.fp b hb.2,fun b hb=>k4.box b hb.2⟩,fun n b hb=>k6 b hb.2,fun n m b h1 h2=>h1.1.trans h2.1.symm,fun i b hb=>⟨by omega,by omega⟩,k2.be,k2.box⟩
         obtain⟨g',H,m1,m2,m3⟩:=l8 true ks l vs ca g1 q.1 q.2 (j+1) k1 (a8.cI k2.cI _ _ hr.2) hq;refine⟨g',fun n b=>(n=j/\F b)∨H n b,m1,?_,?_⟩
         . have:=t1.trans m2;have e:Z3 true (.sl e bZ::ks)=1+Z3 true ks:=by simp[Z3,bU];omega
           rw[e];exact this
         . exact⟨dG.frame _ _ _ _ _ (fun b hb=> .inl ⟨rfl,hb⟩) (fun _ _ _=>rfl) k3,bb.mono (fun n b hb=> .inr hb) _ _ _ _ m3⟩
       | false=>
         simp only[oF]at hy;cases hf:av.bV||AZ (st.bI (.sl e bZ) av)with
         | false=>rw[hf]at hy;simp at hy
         | true=>
           rw[hf]at hy;simp only[oT]at hy;split at hy
           . rename_i y' hy';cases hy;obtain⟨g',H,m1,m2,m3⟩:=l8 false ks l vs st g q.1 q.2 j h hr.2 hq;refine⟨g',H,m1,m2,?_,m3⟩;show RO Z w (.sl e bZ) y v;cases hf2:av.bV with
             | true=>exact cB h hr.1 hf2 hy'
             | false=>
               rw[hf2,hy']at hf;have adZ:aW y=[]:=by
                simp only[Bool.false_or,AZ]at hf;split at hf
                . rename_i hh;exact hh
                . simp at hf
               obtain⟨a1,c1,q1,q2,q3,q4,_⟩:=(show RO (iR w) w (.sl e bZ) y v from oq h hr.1 hy');exact⟨a1,c1,q1,q2,q3,q4,fun cY=>(cY adZ).elim⟩
           . simp at hy
     . simp at ht
   . simp at ht
 | .int k::ks,av::l,cs,st,g,ay,x,j,h,hr,ht=>by
   unfold jV at ht;split at ht
   . rename_i y q hy hf hq;cases ht
     match cs,hr with
     | v::vs,hr=>obtain⟨g',H,m1,m2,m3⟩:=l8 fresh ks l vs st g q.1 q.2 j h hr.2 hq;exact⟨g',H,m1,m2,cB h hr.1 hf hy,m3⟩
   . simp at ht
 | .bool::ks,av::l,cs,st,g,ay,x,j,h,hr,ht=>by
   unfold jV at ht;split at ht
   . rename_i y q hy hf hq;cases ht
     match cs,hr with
     | v::vs,hr=>obtain⟨g',H,m1,m2,m3⟩:=l8 fresh ks l vs st g q.1 q.2 j h hr.2 hq;exact⟨g',H,m1,m2,cB h hr.1 hf hy,m3⟩
   . simp at ht
 | .str::ks,av::l,cs,st,g,ay,x,j,h,hr,ht=>by
   unfold jV at ht;split at ht
   . rename_i y q hy hf hq;cases ht
     match cs,hr with
     | v::vs,hr=>obtain⟨g',H,m1,m2,m3⟩:=l8 fresh ks l vs st g q.1 q.2 j h hr.2 hq;exact⟨g',H,m1,m2,cB h hr.1 hf hy,m3⟩
   . simp at ht
 | [],_::_,cs,st,g,ay,x,j,h,hr,ht=>by simp[jV]at ht
 | .sl _ _::_,[],cs,st,g,ay,x,j,h,hr,ht=>by simp[jV]at ht
 | .int _::_,[],cs,st,g,ay,x,j,h,hr,ht=>by simp[jV]at ht
 | .bool::_,[],cs,st,g,ay,x,j,h,hr,ht=>by simp[jV]at ht
 | .str::_,[],cs,st,g,ay,x,j,h,hr,ht=>by simp[jV]at ht
def agJ(fresh:Bool):List (Bool×List K)->Nat
 | []=>0
 | (_,ks)::rs=>Z3 fresh ks+agJ fresh rs
theorem HM(fresh:Bool):∀(rs:List (Bool×List K)) (l:List (Bool×List AV)) (vs:List Value) (st:St) (g:Gh) (ay:St) (y:CT rs) (j:Nat),Rel cx Z g st a w->iK Z g st w l vs->A3 st fresh rs l=some (ay,y) ->
 ∃ g' H,Rel cx Z g' ay a w/\nj cx Z w g g' st ay H j (agJ fresh rs)/\mT fresh Z w H rs y vs j
 | [],[],vs,st,g,ay,y,j,h,hr,ht=>by
   simp only[A3,amh,amO]at ht;obtain⟨rfl,_⟩:=ht;cases vs with
   | nil=>exact⟨g,fun _ _=>False,h,nj.refl j,trivial⟩
   | cons _ _=>exact hr.elim
 | (gg,ks)::rs,(BY,l)::r,vs,st,g,ay,y,j,h,hr,ht=>by
   unfold A3 at ht;cases hb:cw gg BY with
   | false=>rw[hb]at ht;simp at ht
   | true=>
     rw[hb]at ht;simp only[oT]at ht;have:=eL hb;subst this;split at ht
     . rename_i ca x hx;split at ht
       . rename_i q hq;cases ht
         match vs,hr with
         | v::vs,hr=>
           obtain⟨us,e1,e2⟩:=iD hr.1;obtain⟨g1,H1,m1,m2,m3⟩:=l8 fresh ks l us st g ca x j h e2 hx;have Fs:iK Z g1 ca w r vs:=by
            have:∀(r:List (Bool×List AV)) (vs:List Value),iK Z g st w r vs->iK Z g1 ca w r vs:=by
             intro r;induction r with
             | nil=>intro vs h;cases vs with | nil=>trivial | cons _ _=>exact h.elim
             | cons p r ih=>intro vs h;cases vs with | nil=>exact h.elim | cons v vs=>exact⟨m2.rel _ _ h.1,ih vs h.2⟩
            exact this r vs hr.2
           obtain⟨g',H',n1,n2,n3⟩:=HM fresh rs r vs ca g1 q.1 q.2 (j+Z3 fresh ks) m1 Fs hq;refine⟨g',fun n b=>H1 n b∨H' n b,n1,m2.trans n2,⟨us,e1,bb.mono (fun n b hb=> .inl hb) _ _ _ _ m3⟩,?_⟩;have e3:(bif fresh then j+bU ks else j)=j+Z3 fresh ks:=by cases fresh <;> simp[Z3]
           rw[e3];exact mT.mono (fun n b hb=> .inr hb) _ _ _ _ n3
       . simp at ht
     . simp at ht
 | [],_::_,vs,st,g,ay,y,j,h,hr,ht=>by simp[A3]at ht
 | (_,_)::_,[],vs,st,g,ay,y,j,h,hr,ht=>by simp[A3]at ht
end
def Fam(g:Gh)(st:St)(NM:List (Nat×Nat)):Nat->Nat->Prop:=fun m b=>∃ nm,NM[m]? = some nm/\(g.fp nm.1 nm.2 b∨(nm.2=200000/\(∃ R,look st.rt nm.1=some R/\R.box=true)/\b=g.be nm.1))
theorem lg{Z:Nat->Prop}{P:Program}{cx:Cx P}{g:Gh}{st:St}{a:Act}{w:World}(h:Rel cx Z g st a w)(NM:List (Nat×Nat)):∀(ks:List K) (l:List AV) (cs:List Value) (y:Tl ks) (pre post:List (Nat×Nat)),a8 Z g st w l cs->gS st ks l=some y->NM=pre++(gR l++post) ->
 bb true Z w (Fam g st NM) ks y cs pre.length/\(gR l).length=bU ks
 | [],[],[],y,_,_,_,_,_=>⟨trivial,rfl⟩
 | [],[],_::_,_,_,_,h1,_,_=>h1.elim
 | [],_::_,_,_,_,_,_,h2,_=>by simp[gS]at h2
 | .sl e bZ::ks,[],_,y,_,_,h1,h2,_=>by simp[gS]at h2
 | .sl e bZ::ks,av::l,[],y,_,_,h1,h2,_=>h1.elim
 | .sl e bZ::ks,av::l,v::vs,y,pre,post,h1,h2,hN=>by
   cases av with
   | ref r j s=>
     simp only[gS]at h2;split at h2
     . rename_i s' m k' x y' hc hr;cases hb:Nat.beq s' s with
       | false=>rw[hb]at h2;simp at h2
       | true=>
         rw[hb]at h2;simp only[oT]at h2;split at h2
         . rename_i x' hx;cases h2;obtain⟨rfl,hx⟩:=cN hx;have hx:x=x':=hx;subst hx;have:=beq_eq hb;subst this;obtain⟨c,q1,q2,q3⟩:=h1.1;rw[hc]at q1;cases q1;have q3:=q3 rfl;subst q3;simp only[gR]at hN ⊢;obtain⟨k1,k2⟩:=lg h NM ks l vs y' (pre++[(r,j)]) post h1.2 hr (by rw[hN];simp);refine⟨⟨?_,by rw[amj]at k1;exact k1⟩,by simp[bU,k2]⟩;refine dG.frame _ _ _ _ _ (fun b hb=>⟨(r,j),?_,.inl hb⟩) (fun _ _ _=>rfl) (h.cell r j _ hc);rw[hN];simp
         . simp at h2
     . simp at h2
   | _=>simp[gS,tB]at h2
 | .int k::ks,[],_,y,_,_,h1,h2,_=>by simp[gS]at h2
 | .int k::ks,av::l,[],y,_,_,h1,h2,_=>h1.elim
 | .int k::ks,av::l,v::vs,y,pre,post,h1,h2,hN=>by
   unfold gS at h2;simp only[tB,oF]at h2;split at h2
   . rename_i x y' hx hf hr;cases h2;have BO:gR (av::l)=gR l:=by cases av <;> first | rfl | simp[AV.bV]at hf
     rw[BO]at hN ⊢;obtain⟨k1,k2⟩:=lg h NM ks l vs y' pre post h1.2 hr hN;exact⟨⟨cB h h1.1 hf hx,k1⟩,k2⟩
   . simp at h2
 | .bool::ks,[],_,y,_,_,h1,h2,_=>by simp[gS]at h2
 | .bool::ks,av::l,[],y,_,_,h1,h2,_=>h1.elim
 | .bool::ks,av::l,v::vs,y,pre,post,h1,h2,hN=>by
   unfold gS at h2;simp only[tB,oF]at h2;split at h2
   . rename_i x y' hx hf hr;cases h2;have BO:gR (av::l)=gR l:=by cases av <;> first | rfl | simp[AV.bV]at hf
     rw[BO]at hN ⊢;obtain⟨k1,k2⟩:=lg h NM ks l vs y' pre post h1.2 hr hN;exact⟨⟨cB h h1.1 hf hx,k1⟩,k2⟩
   . simp at h2
 | .str::ks,[],_,y,_,_,h1,h2,_=>by simp[gS]at h2
 | .str::ks,av::l,[],y,_,_,h1,h2,_=>h1.elim
 | .str::ks,av::l,v::vs,y,pre,post,h1,h2,hN=>by
   unfold gS at h2;simp only[tB,oF]at h2;split at h2
   . rename_i x y' hx hf hr;cases h2;have BO:gR (av::l)=gR l:=by cases av <;> first | rfl | simp[AV.bV]at hf
     rw[BO]at hN ⊢;obtain⟨k1,k2⟩:=lg h NM ks l vs y' pre post h1.2 hr hN;exact⟨⟨cB h h1.1 hf hx,k1⟩,k2⟩
   . simp at h2
theorem yk.mono{Z:Nat->Prop}{w:World}{G G':Nat->Nat->Prop}(hG:∀ m b,G m b->G' m b):∀(cs:List (Bool×K)) (y:BT cs) (vs:List Value) (n:Nat),yk Z w G cs y vs n->yk Z w G' cs y vs n
 | [],_,[],_,_=>trivial
 | [],_,_::_,_,h=>h.elim
 | (true,_)::_,_,[],_,h=>h.elim
 | (false,_)::_,_,[],_,h=>h.elim
 | (true,k)::cs,y,v::vs,n,h=>⟨dG.frame _ _ _ _ _ (hG n) (fun _ _ _=>rfl) h.1,yk.mono hG cs y.2 vs _ h.2⟩
 | (false,k)::cs,y,v::vs,n,h=>⟨h.1,yk.mono hG cs y.2 vs _ h.2⟩
theorem XA.mono{Z:Nat->Prop}{w:World}{G G':Nat->Nat->Prop}(hG:∀ m b,G m b->G' m b){cs:List (Bool×K)}{y:BT cs}{v:Value}{n:Nat}(h:XA Z w G cs y v n):XA Z w G' cs y v n:=by obtain⟨b,vs,e,fr,h1,h2,h3,h4,h5⟩:=h;exact⟨b,vs,e,fr,h1,h2,h3,hG _ _ h4,yk.mono hG _ _ _ _ h5⟩
theorem xm.mono{Z:Nat->Prop}{w:World}{G G':Nat->Nat->Prop}(hG:∀ m b,G m b->G' m b):∀(ps:List PK) (y:uy ps) (vs:List Value) (n:Nat),xm Z w G ps y vs n->xm Z w G' ps y vs n
 | [],_,_,_,_=>trivial
 | .c _ _::ps,y,_::vs,n,h=>xm.mono hG ps y vs n h
 | .pt _::ps,y,_::vs,n,h=>xm.mono hG ps y vs n h
 | .nil::ps,y,_::vs,n,h=>xm.mono hG ps y vs n h
 | .fn _ _::ps,y,_::vs,n,h=>xm.mono hG ps y vs n h
 | .mv _::ps,y,_::vs,n,h=>xm.mono hG ps y vs (n+1) h
 | .pw _::ps,y,_::vs,n,h=>⟨XA.mono hG h.1,xm.mono hG ps y.2 vs _ h.2⟩
 | .pw _::_,_,[],_,h=>h.elim
 | .io _ ks::ps,y,_::vs,n,⟨⟨cs,e,h⟩,h'⟩=>⟨⟨cs,e,bb.mono hG ks y.1 cs n h⟩,xm.mono hG ps y.2 vs _ h'⟩
 | .c _ _::_,_,[],_,h=>h.elim
 | .fn _ _::_,_,[],_,h=>h.elim
 | .io _ _::_,_,[],_,h=>h.elim
 | .pt _::_,_,[],_,h=>h.elim
 | .nil::_,_,[],_,h=>h.elim
 | .mv _::_,_,[],_,h=>h.elim
theorem sU:∀(l:List (Nat×Nat)) (r j m:Nat) (n:Nat×Nat),hasName r j l=false->l[m]? = some n->¬ (n.1=r/\n.2=j)
 | [],_,_,_,_,_,h=>by simp at h
 | n0::l,r,j,m,n,h,hm=>by
   simp only[hasName,an3]at h;cases m with
   | zero=>simp only[amn,amh]at hm;subst hm;rintro⟨rfl,rfl⟩;simp at h
   | succ m=>exact sU l r j m n h.2 (by simpa using hm)
theorem sL:∀(l:List (Nat×Nat)) (m m':Nat) (n n':Nat×Nat),Bk l=true->l[m]? = some n->l[m']? = some n'->n.1=n'.1->n.2=n'.2->m=m'
 | [],_,_,_,_,_,h,_,_,_=>by simp at h
 | n0::l,m,m',n,n',h,h1,h2,e1,e2=>by
   simp only[Bk,ami,am4]at h;cases m with
   | zero=>
     cases m' with
     | zero=>rfl
     | succ m'=>simp only[amn,amh]at h1;subst h1;exact(sU l n0.1 n0.2 m' n' h.1 (by simpa using h2) ⟨e1.symm,e2.symm⟩).elim
   | succ m=>
     cases m' with
     | zero=>simp only[amn,amh]at h2;subst h2;exact(sU l n0.1 n0.2 m n h.1 (by simpa using h1) ⟨e1,e2⟩).elim
     | succ m'=>exact amP (· + 1) (sL l m m' n n' h.2 (by simpa using h1) (by simpa using h2) e1 e2)
theorem vt(r:Nat):∀(cs:List (Bool×K)) (j:Nat),(dW r cs j).length=cs.length
 | [],_=>rfl
 | _::cs,j=>amP (· + 1) (vt r cs (j+1))
theorem np{Z:Nat->Prop}{P:Program}{cx:Cx P}{g:Gh}{st:St}{a:Act}{w:World}(h:Rel cx Z g st a w){r:Nat}(NM:List (Nat×Nat)):∀(cs:List (Bool×K)) (l:List RC) (x:BT cs) (j:Nat) (us:List Value) (pre post:List (Nat×Nat)),
 (∀ q c,l[q]? = some c->st.cell r (j+q)=some c)->us.length=l.length->(∀ q u,us[q]? = some u->u=g.cv r (j+q))->eS st cs l=some x->NM=pre++(dW r cs j++post)->yk Z w (Fam g st NM) cs x us pre.length
 | [],[],_,_,[],_,_,_,_,_,_,_=>trivial
 | [],[],_,_,_::_,_,_,_,hl,_,_,_=>by simp at hl
 | [],_::_,_,_,_,_,_,_,_,_,hd,_=>by simp[eS]at hd
 | (b,k)::cs,[],_,_,_,_,_,_,_,_,hd,_=>by cases b <;> simp[eS]at hd
 | (b,k)::cs,_::_,_,_,[],_,_,_,hl,_,_,_=>by simp at hl
 | (true,k)::cs,⟨s,m,rv⟩::l,x,j,u::us,pre,post,hc,hl,hu,hd,hN=>by
   cases rv with
   | av _=>simp[eS]at hd
   | own k' y=>
     simp only[eS]at hd;split at hd
     . rename_i y' z h1 h2;cases hd;obtain⟨rfl,hy⟩:=cN h1;have hy:y=y':=hy;subst hy;have e0:=hu 0 u rfl;rw[amN]at e0;have c0:=hc 0 _ rfl;rw[amN]at c0;have kn:dG w k' y (g.cv r j) (g.fp r j):=h.cell r j _ c0;have k0:NM[pre.length]? = some (r,j):=by rw[hN];simp[dW]
       have ih:=np h NM cs l z (j+1) us (pre++[(r,j)]) post (fun q c hq=>by rw[show j+1+q=j+(q+1)by omega];exact hc (q+1) c (by simpa using hq)) (by simpa using hl) (fun q u hq=>by rw[show j+1+q=j+(q+1)by omega];exact hu (q+1) u (by simpa using hq)) h2 (by rw[hN];simp[dW]);rw[amj]at ih;refine⟨?_,ih⟩;rw[e0];exact dG.frame _ _ _ _ _ (fun b hb=>⟨_,k0,.inl hb⟩) (fun _ _ _=>rfl) kn
     . simp at hd
 | (false,k)::cs,⟨s,m,rv⟩::l,x,j,u::us,pre,post,hc,hl,hu,hd,hN=>by
   cases rv with
   | own _ _=>simp[eS]at hd
   | av av0=>
     simp only[eS]at hd;cases hf:av0.bV with
     | false=>rw[hf]at hd;simp at hd
     | true=>
       rw[hf]at hd;simp only[oT]at hd;split at hd
       . rename_i y' z h1 h2;cases hd;have e0:=hu 0 u rfl;rw[amN]at e0;have c0:=hc 0 _ rfl;rw[amN]at c0;have eQ:bC Z g st w av0 (g.cv r j):=h.cell r j _ c0;have ih:=np h NM cs l z (j+1) us (pre++[(r,j)]) post (fun q c hq=>by rw[show j+1+q=j+(q+1)by omega];exact hc (q+1) c (by simpa using hq)) (by simpa using hl) (fun q u hq=>by rw[show j+1+q=j+(q+1)by omega];exact hu (q+1) u (by simpa using hq)) h2 (by rw[hN];simp[dW]);rw[amj]at ih;refine⟨?_,ih⟩;rw[e0];exact cB h eQ hf h1
       . simp at hd
theorem gw{Z:Nat->Prop}{P:Program}{cx:Cx P}{g:Gh}{st:St}{a:Act}{w:World}{pins:List Nat}(h:Rel cx Z g st a w)(NM:List (Nat×Nat)):∀(ps:List PK) (y:uy ps) (vs:List Value) (i:Nat) (pre:List (Nat×Nat)),ki pins st ps i=some y->vs.length=ps.length->(∀ j v,vs[j]? = some v->jb pins (i+j)=true->a.tmps.getD (i+j) undef=v)->NM=pre++lI st ps i ->
 xm Z w (Fam g st NM) ps y vs pre.length
 | [],_,_,i,_,_,_,_,_=>trivial
 | .c _ _::ps,y,[],i,_,_,hl,_,_=>by simp at hl
 | .pt _::ps,y,[],i,_,_,hl,_,_=>by simp at hl
 | .nil::ps,y,[],i,_,_,hl,_,_=>by simp at hl
 | .fn _ _::ps,y,[],i,_,_,hl,_,_=>by simp at hl
 | .io _ _::ps,y,[],i,_,_,hl,_,_=>by simp at hl
 | .mv _::ps,y,[],i,_,_,hl,_,_=>by simp at hl
 | .c _ _::ps,y,v::vs,i,pre,hy,hl,hp,hN=>
   gw h NM ps y vs (i+1) pre hy (by simpa using hl) (fun j v hj hm=>by rw[show i+1+j=i+(j+1)by omega]at hm ⊢;exact hp (j+1) v (by simpa using hj) hm) hN
 | .nil::ps,y,v::vs,i,pre,hy,hl,hp,hN=>
   gw h NM ps y vs (i+1) pre hy (by simpa using hl) (fun j v hj hm=>by rw[show i+1+j=i+(j+1)by omega]at hm ⊢;exact hp (j+1) v (by simpa using hj) hm) hN
 | .pt _::ps,y,v::vs,i,pre,hy,hl,hp,hN=>
   gw h NM ps y vs (i+1) pre hy (by simpa using hl) (fun j v hj hm=>by rw[show i+1+j=i+(j+1)by omega]at hm ⊢;exact hp (j+1) v (by simpa using hj) hm) hN
 | .fn _ _::ps,y,v::vs,i,pre,hy,hl,hp,hN=>
   gw h NM ps y vs (i+1) pre hy (by simpa using hl) (fun j v hj hm=>by rw[show i+1+j=i+(j+1)by omega]at hm ⊢;exact hp (j+1) v (by simpa using hj) hm) hN
 | .pw _::ps,y,[],i,_,_,hl,_,_=>by simp at hl
 | .pw cs::ps,y,v::vs,i,pre,hy,hl,hp,hN=>by
   unfold ki at hy;split at hy
   . rename_i r l Fq Fp;cases hb:Nat.beq r i&&jb pins i with
     | false=>rw[hb]at hy;simp at hy
     | true=>
       rw[hb]at hy;simp only[oT]at hy;simp only[ami]at hb;have e:=beq_eq hb.1;subst e;split at hy
       . rename_i x y' hx hy';cases hy;have hv:=hp 0 v rfl hb.2;rw[amN]at hv;obtain⟨R,q1,q2,q3⟩:=(h.tm r _ Fq).2;rw[hv]at q3;obtain⟨b1,b2,b3,b4,us,e,fr,b5,b6,b7,b8⟩:=h.box r _ Fp rfl;have hN':NM=pre++((r,200000)::(dW r cs 0++lI st ps (r+1))):=by rw[hN];rfl
         have k0:NM[pre.length]? = some (r,200000):=by rw[hN'];simp
         have k1:=np h (r:=r) NM cs l x 0 us.toList (pre++[(r,200000)]) (lI st ps (r+1)) (fun q c hq=>by
          rw[amt];simp only[St.cell,Fp];exact hq) (by simpa using b7) (fun q u hq=>by
          have aV:q<us.size:=by have:=(amQ.1 hq).1;simpa using this
          have:=b8 q aV;rw[<- aml,hq]at this;rw[amt];exact am5 this) hx (by rw[hN'];simp)
         have k2:=vt r cs 0;have k3:=gw h NM ps y' vs (r+1) (pre++[(r,200000)]++dW r cs 0) hy' (by simpa using hl) (fun j v hj hm=>by rw[show r+1+j=r+(j+1)by omega]at hm ⊢;exact hp (j+1) v (by simpa using hj) hm) (by rw[hN'];simp);rw[amj]at k1;rw[amj,amj,k2]at k3;refine⟨⟨g.be r,us,e,fr,by rw[q3],b5,b6,⟨_,k0,.inr ⟨rfl,⟨_,Fp,rfl⟩,rfl⟩⟩,k1⟩,?_⟩;rw[show pre.length+(cs.length+1)=pre.length+[(r,200000)].length+cs.length by simp only[amw,am3];omega];exact k3
       . simp at hy
   . simp at hy
 | .mv _::ps,y,v::vs,i,pre,hy,hl,hp,hN=>by have:=gw h NM ps y vs (i+1) (pre++[(300000+i,0)]) hy (by simpa using hl) (fun j v hj hm=>by rw[show i+1+j=i+(j+1)by omega]at hm ⊢;exact hp (j+1) v (by simpa using hj) hm) (by rw[hN];simp[lI]);rw[amj]at this;exact this
 | .io gg ks::ps,y,v::vs,i,pre,hy,hl,hp,hN=>by
   unfold ki at hy;split at hy
   . rename_i tv oW;split at hy
     . rename_i BY l Mp;cases hb:cw gg BY&&jb pins i with
       | false=>rw[hb]at hy;simp at hy
       | true=>
         rw[hb]at hy;simp only[oT]at hy;simp only[ami]at hb;have hg:=eL hb.1;subst hg;split at hy
         . rename_i x y' hx hy';cases hy;have hv:=hp 0 v rfl hb.2;rw[amN]at hv;have hC:=lS (h.tm i tv oW).2 Mp;rw[hv]at hC;obtain⟨cs,e1,e2⟩:=iD hC;have hN':NM=pre++(gR l++lI st ps (i+1)):=by rw[hN];simp[lI,oW,Mp]
           obtain⟨k1,k2⟩:=lg h NM ks l cs x pre _ e2 hx hN';have k3:=gw h NM ps y' vs (i+1) (pre++gR l) hy' (by simpa using hl) (fun j v hj hm=>by rw[show i+1+j=i+(j+1)by omega]at hm ⊢;exact hp (j+1) v (by simpa using hj) hm) (by rw[hN'];simp);rw[amj,k2]at k3;exact⟨⟨cs,e1,k1⟩,k3⟩
         . simp at hy
     . simp at hy
   . simp at hy
theorem JG{Z:Nat->Prop}{P:Program}{cx:Cx P}{g:Gh}{st:St}{a:Act}{w:World}{pins:List Nat}(h:Rel cx Z g st a w)(ps:List PK)(y:uy ps)(vs:List Value)(hy:sW pins st ps 0=some y)(hl:vs.length=ps.length)(hp:∀ j v,vs[j]? = some v->jb pins (0+j)=true->a.tmps.getD (0+j) undef=v) :
 ∃ G:Nat->Nat->Prop,xm Z w G ps y vs 0/\(∀ m b,G m b->(∃ r j,g.fp r j b)∨∃ r R,look st.rt r=some R/\R.box=true/\b=g.be r)/\∀ m m' b,G m b->G m' b->m=m':=by
 unfold sW at hy;cases hn:Bk (lI st ps 0)with
 | false=>rw[hn]at hy;simp at hy
 | true=>
   rw[hn]at hy;simp only[oT]at hy;refine⟨Fam g st (lI st ps 0),gw h _ ps y vs 0 [] hy hl hp rfl,fun m b ⟨nm,_,hb⟩=>?_,fun m m' b ⟨n1,q1,q2⟩ ⟨n2,q3,q4⟩=>?_⟩
   . rcases hb with hb | ⟨_,⟨R,hR,hx⟩,e⟩
     . exact .inl ⟨_,_,hb⟩
     . exact .inr ⟨_,R,hR,hx,e⟩
   . rcases q2 with q2 | ⟨x1,⟨R,hR,hx⟩,e⟩
     . rcases q4 with q4 | ⟨_,⟨R',lu,lQ⟩,e'⟩
       . obtain⟨e1,e2⟩:=h.cS _ _ _ _ b q2 q4;exact sL _ m m' n1 n2 hn q1 q3 e1 e2
       . exact((h.box _ R' lu lQ).2.2.1 _ _ (e' ▸ q2)).elim
     . rcases q4 with q4 | ⟨x2,⟨R',lu,lQ⟩,e'⟩
       . exact((h.box _ R hR hx).2.2.1 _ _ (e ▸ q4)).elim
       . have:=(h.box _ R hR hx).2.2.2.1 _ R' lu lQ (e'.symm.trans e);exact sL _ m m' n1 n2 hn q1 q3 this.symm (x1.trans x2.symm)
theorem iF{Z:Nat->Prop}{w:World}{F:Nat->Nat->Prop}:∀(ps:List PK) (x:PT ps) (vs:List Value) (i:Nat),ej Z w F ps x vs i->vs.length=ps.length
 | [],_,[],_,_=>rfl
 | .c _ _::ps,x,_::vs,i,h=>amP (· + 1) (iF ps x.2 vs _ h.2)
 | .pt _::ps,x,_::vs,i,h=>amP (· + 1) (iF ps x.2 vs _ h.2)
 | .nil::ps,x,_::vs,i,h=>amP (· + 1) (iF ps x vs _ h.2)
 | .fn _ _::ps,x,_::vs,i,h=>amP (· + 1) (iF ps x.2 vs _ h.2)
 | .io _ _::ps,x,_::vs,i,h=>amP (· + 1) (iF ps x.2 vs _ h.2)
 | .mv _::ps,x,_::vs,i,h=>amP (· + 1) (iF ps x.2 vs _ h.2)
 | .pw _::ps,x,_::vs,i,h=>amP (· + 1) (iF ps x.2 vs _ h.2)
 | .pw _::_,_,[],_,h=>h.elim
 | [],_,_::_,_,h=>h.elim
 | .pt _::_,_,[],_,h=>h.elim
 | .nil::_,_,[],_,h=>h.elim
 | .c _ _::_,_,[],_,h=>h.elim
 | .fn _ _::_,_,[],_,h=>h.elim
 | .io _ _::_,_,[],_,h=>h.elim
 | .mv _::_,_,[],_,h=>h.elim
theorem Ao:∀(ps:List PK),nh ps=false->∀(y z:uy ps),y=z
 | [],_,_,_=>rfl
 | .c _ _::ps,h,y,z=>Ao ps h y z
 | .pt _::ps,h,y,z=>Ao ps h y z
 | .nil::ps,h,y,z=>Ao ps h y z
 | .fn _ _::ps,h,y,z=>Ao ps h y z
 | .mv _::ps,h,y,z=>Ao ps h y z
 | .io _ _::ps,h,_,_=>by simp[nh]at h
 | .pw _::ps,h,_,_=>by simp[nh]at h
def Gi(E:En)(res:List ResultVar)(ps:List PK)(rs:List (Bool×List K))(fresh:Bool)(o:Ou):Tr (uy ps×CT rs):=match o with
 | .ext _ _=> .fail
 | .qP st=>Tr.cu (ml E st res) fun l=>Tr.cu (A3 st fresh rs l) fun p=>Tr.cu (sW E.pins p.1 ps 0) fun z=> .ret (z,p.2)
 | .ret st=>Tr.cu (ml E st res) fun l=>Tr.cu (A3 st fresh rs l) fun p=>Tr.cu (sW E.pins p.1 ps 0) fun z=> .ret (z,p.2)
theorem Da {P:Program} {E:En} (hT:cH P E) {f:Nat} {fn:Func} {c:Code} (hf:P.funcs[f]? = some fn) (iw:(fn.name == "runtime.NumGoroutine") = false) (hb:fn.body = some c) (Mj:E.nt = fn.ntmps)
 {s:Su} (hs:∀ x y,s.v7 x=some y->∃ z,(nh s.ps=true->z=y.1)/\∀(cx:Cx P) (a:Act) (w:World),Good cx E (start s.ps x) a w->c.wp P (fun e a' w'=>∃ ou,QO cx E ou e a' w'/\(Gi E fn.results.toList s.ps s.rs s.fresh ou).run=some (z,y.2)) a w):lV P f s:=by
 intro w Z F args x y yR cF hZ hF hd hy;have Yk:∀ b,Z b->b<w.heap.size->¬ ∃ i,F i b:=fun b hb _ ⟨i,hi⟩=>(hF i b hi).2 hb
 rw[MuLone.run_callFunc_enter hf iw hb];obtain⟨zio,als,au⟩:=hs x y hy;show Calls P f args w _;have hlen:=iF _ _ _ _ cF;refine calls_of_wp hf hb ?_;have dh:fn.ntmps<=(args++Array.replicate (fn.ntmps-args.size) undef).size:=by simp;omega
 have lF:∀ j v,args.toList[j]? = some v->0+j<(args++Array.replicate (fn.ntmps-args.size) undef).size/\(args++Array.replicate (fn.ntmps-args.size) undef).getD (0+j) undef=v:=fun j v hj=>by
  rw[aml]at hj;have aV:j<args.size:=by
   rcases amz j args.size with h | h
   . exact h
   . simp[amC h]at hj
  rw[amt];refine⟨by simp;omega,?_⟩;rw[amr,ane aV,hj];rfl
 let nz:Nat->Option Value:=fun t=>bif jb E.pins t then some ((args++Array.replicate (fn.ntmps-args.size) undef).getD t undef)else none
 have BQ:∀ t v,nz t=some v->(args++Array.replicate (fn.ntmps-args.size) undef).getD t undef=v/\jb E.pins t=true:=fun t v ht=>by
  show _/\_;simp only[nz]at ht;cases hm:jb E.pins t with
  | false=>rw[hm]at ht;simp at ht
  | true=>rw[hm]at ht;simp only[oT,amh]at ht;exact⟨ht,rfl⟩
 obtain⟨g,eQ,_⟩:=iE (cx:=⟨w,fun b=>∃ i,F i b,Z,nz,yR,Yk⟩) (a:={ tmps:=args++Array.replicate (fn.ntmps-args.size) undef,defers:=[] }) rfl (fun t v ht=>(BQ t v ht).1) rfl hZ hF hd s.ps x args.toList 0 0 cF lF;have Uo:Good ⟨w,fun b=>∃ i,F i b,Z,nz,yR,Yk⟩ E (start s.ps x) { tmps:=args++Array.replicate (fn.ntmps-args.size) undef,defers:=[] } w:=
  ⟨fun t tv ht=>fy s.ps x 0 t tv (ja _ _ _ ht),⟨by rw[Mj];exact dh,fun t v ht=>(BQ t v ht).2⟩,Z,g,eQ⟩
 have fin:∀(st:St) (a:Act) (w':World),Good ⟨w,fun b=>∃ i,F i b,Z,nz,yR,Yk⟩ E st a w'->(Tr.cu (ml E st fn.results.toList) fun l=>Tr.cu (A3 st s.fresh s.rs l) fun p=>Tr.cu (sW E.pins p.1 s.ps 0) fun z=>Tr.ret (z,p.2)).run=some (zio,y.2) ->
  a.defers=[]/\∃ v,(results fn a.tmps).run P w'= .ok v w'/\∃(Z':Nat->Prop) (H:Nat->Nat->Prop) (vs:List Value),v=A2 vs/\CK w w' F Z Z' H/\xm Z' w' (fun i=>H (2 * i)) s.ps y.1 args.toList 0/\mT s.fresh Z' w' (fun j=>H (2 * j+1)) s.rs y.2 vs 0:=by
  intro st a w' ⟨h1,h2,Z',g',h3⟩ hr;obtain⟨l,hl1,hr⟩:=Tr.ai hr;obtain⟨p,Mp,hr⟩:=Tr.ai hr;obtain⟨z,hl3,hr⟩:=Tr.ai hr;simp only[Tr.run,amh,amO]at hr;obtain⟨rfl,hy2⟩:=hr;obtain⟨vs,e1,e2⟩:=sr hT h3 h1 _ _ hl1;obtain⟨g2,H,k1,k2,k3⟩:=HM s.fresh s.rs l vs st g' p.1 p.2 0 h3 e2 Mp;have Up:(results fn a.tmps).run P w'= .ok (A2 vs) w':=by
   have hr0:results fn a.tmps=(do let vs <- fn.results.mapM (tL a.tmps);pure (if h:vs.size=1 then vs[0]else .tuple vs)):=by
    have:tL a.tmps=fun x=>(match x with
     | .tmp t=>pure (a.tmps.getD t undef)
     | .cell a' t=>do loadVar t (<- asAddr (a.tmps.getD a' undef)):Sem Value):=by funext x;cases x <;> rfl
    rw[this];rfl
   have hmm:fn.results.mapM (tL a.tmps)=(do let l <- fn.results.toList.mapM (tL a.tmps);pure l.toArray):=by rw[Array.mapM_eq_mapM_toList];rfl
   rw[hr0,hmm];simp only[amJ,e1,amu,amR];congr 1
   match vs with
   | []=>rfl
   | [v]=>rfl
   | _::_::_=>simp[A2]
  have hzy:z=y.1:=by
   cases hh:nh s.ps with
   | true=>exact als hh
   | false=>exact Ao _ hh _ _
  subst hzy;obtain⟨G,m1,m2,m3⟩:=JG k1 s.ps _ args.toList hl3 hlen fun j v hj hm=>by rw[amt]at hm ⊢;refine k1.nz j v ?_;show(bif jb E.pins j then _ else none)=_;rw[hm];have:=(lF j v hj).2;rw[amt]at this;rw[this];rfl
  have hG:∀ m b,G m b->b<w'.heap.size/\¬ Z' b/\((∃ i,F i b)∨w.heap.size<=b):=fun m b hb=>by
   rcases m2 m b hb with ⟨i',j,hh⟩ | ⟨r',R',lu,lQ,e'⟩
   . obtain⟨q1,q2,q3,_⟩:=k1.fp _ _ _ hh;exact⟨q1,q3,q2⟩
   . obtain⟨b1,b2,_,_,us,el,fr,b5,_⟩:=k1.box r' R' lu lQ;subst e';exact⟨(amK.1 b5).1,b2,b1⟩
  have cross:∀ j m b,H j b->G m b->False:=fun j m b h1 h2=>by
   rcases m2 m b h2 with ⟨i',j',hh⟩ | ⟨r',R',lu,lQ,e'⟩
   . exact(k2.free j).fp b h1 _ _ hh
   . exact(k2.free j).box b h1 r' R' lu lQ e'.symm
  refine⟨h3.defers,_,Up,Z',fun n b=>(∃ j,n=2 * j+1/\H j b)∨∃ m,n=2 * m/\G m b,vs,rfl,?_,xm.mono (fun m b hb=> .inr ⟨m,rfl,hb⟩) _ _ _ _ m1,?_⟩
  . exact { os:=k1.os,tape:=k1.tape,output:=k1.output,size:=k1.size
            block:=fun b hb hf=>k1.block b hb (fun⟨i,hi⟩=>hf i hi)
            z:=fun b hb=>k1.z0 b hb (hZ b hb)
            cq:=fun b hb=>k1.cq b hb
            fp:=fun n b hb=>by
             rcases hb with ⟨j,e,hb⟩ | ⟨m,e,hb⟩
             . exact⟨(k2.free j).lt b hb,(k2.free j).z b hb,(k2.free j).own b hb⟩
             . exact hG m b hb
            cS:=fun n m b hb cz=>by
             rcases hb with ⟨j,e,hb⟩ | ⟨q,e,hb⟩
             . rcases cz with ⟨j',e',cz⟩ | ⟨q',e',cz⟩
               . have:=k2.cS j j' b hb cz;omega
               . exact(cross _ _ b hb cz).elim
             . rcases cz with ⟨j',e',cz⟩ | ⟨q',e',cz⟩
               . exact(cross _ _ b cz hb).elim
               . have:=m3 q q' b hb cz;omega }
  . rw[<- hy2];exact mT.mono (fun n b hb=> .inl ⟨n,rfl,hb⟩) _ _ _ _ k3
 refine wp_mono (au _ _ _ Uo) fun e a w' ⟨ou,hq,Km⟩=>?_
 cases ou with
 | ext id st=>simp[Gi,Tr.run]at Km
 | qP st=>cases e <;> first | exact hq.elim | exact fin st a w' hq Km
 | ret st=>cases e <;> first | exact hq.elim | exact fin st a w' hq Km
theorem Ru {P:Program} {E:En} (hT:cH P E) (eF:dQ P E) (hW:sk P E) (hm:P.follows .mixedOrders = true) {f:Nat} {fn:Func} {c:Code} (hf:P.funcs[f]? = some fn) (iw:(fn.name == "runtime.NumGoroutine") = false) (hb:fn.body = some c) (Mj:E.nt = fn.ntmps) (hl:dS P E c)
 {s:Su} (hs:∀ x y,s.v7 x=some y->∃ z,(nh s.ps=true->z=y.1)/\(Ik E c fn.results.toList s.ps s.rs s.fresh x).run=some (z,y.2)):lV P f s:=by
 refine Da hT hf iw hb Mj fun x y hy=>?_
 obtain⟨z,h1,h2⟩:=hs x y hy;refine⟨z,h1,fun cx a w hg=>?_⟩;have h2:((da E c (start s.ps x)).bind (Gi E fn.results.toList s.ps s.rs s.fresh)).run=some (z,y.2):=h2;rw[Tr.run_bind]at h2;cases ho:(da E c (start s.ps x)).run with
 | none=>rw[ho]at h2;simp at h2
 | some ou=>rw[ho]at h2;exact wp_mono (cr hT eF hW hm (x4 E) c _ _ _ ou hl hg ho) fun e a' w' hq=>⟨ou,hq,h2⟩
end Go.Av
