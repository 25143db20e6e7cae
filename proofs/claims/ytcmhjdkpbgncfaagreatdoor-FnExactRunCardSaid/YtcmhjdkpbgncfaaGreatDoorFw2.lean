/- FnExactRun, a part. -/
import Derived.Test.YtcmhjdkpbgncfaaGreatDoorFw1
import Derived.Orders
import Derived.Conc.MuLone
namespace Go.Av
open Go.RowKit (Below)
section
variable{st ay:St}{E:En}
theorem Ext.kr(x:Ext st ay){box:Bool}{ks:List K}{a:AV}{y:Tl ks}(h:st.kr box ks a=some y):ay.kr box ks a=some y:=by
 cases a with
 | rp dep e bZ xs i c =>
   cases dep with
   | none=>cases c <;> exact h
   | some _=>simp[St.kr]at h
 | ptr r j =>
   cases j with
   | succ j=>simp[St.kr]at h
   | zero =>
     simp only[St.kr]at h ⊢;cases box with
     | false=>simp at h
     | true =>
       simp only[oT]at h ⊢;cases hl:look st.rt r with
       | none=>rw[hl]at h; simp at h
       | some R =>
         rw[hl]at h;rw[x.rt r R hl];simp only at h ⊢;cases hb:R.box&&R.cells.all pE with
         | false=>rw[hb]at h; simp at h
         | true=>rw[hb]at h; simp only[oT]at h ⊢; exact x.readAll h
 | _=>simp[St.kr]at h
theorem Ext.bT(x:Ext st ay){box:Bool}:∀ {cs:List Vw} {l:List (Bool×List AV)} {y:U0 cs},st.bT box cs l=some y->ay.bT box cs l=some y
 | [],[],_,h=>h
 | .c gg ks::cs,(BU,l)::r,y,h=>by
   unfold St.bT at h ⊢;cases hb:cw gg BU&&l.all AV.bV with
   | false=>simp[hb]at h
   | true =>
     simp only[hb,oT]at h ⊢;split at h
     . rename_i z zs hz mQ;rw[x.readAll hz,Ext.bT x mQ];exact h
     . simp at h
 | .p ks::cs,(false,[a])::r,y,h=>by
   unfold St.bT at h ⊢;split at h
   . rename_i z zs hz mQ;rw[x.kr hz,Ext.bT x mQ];exact h
   . simp at h
 | .p ks::cs,(true,_)::r,y,h=>by simp[St.bT]at h
 | .p ks::cs,(false,[])::r,y,h=>by simp[St.bT]at h
 | .p ks::cs,(false,_::_::_)::r,y,h=>by simp[St.bT]at h
 | [],_::_,_,h=>by simp[St.bT]at h
 | .c _ _::_,[],_,h=>by simp[St.bT]at h
 | .p _::_,[],_,h=>by simp[St.bT]at h
theorem Ext.args(x:Ext st ay){bV:Bool}:∀ {ps:List PK} {l:List TV} {y:PT ps},st.args bV ps l=some y->ay.args bV ps l=some y
 | [],[],_,h=>h
 | .c gg ks::ps,tv::r,y,h=>by
   unfold St.args at h ⊢;cases hl:tv.dn with
   | none=>simp[hl]at h
   | some p =>
     obtain⟨BU,l⟩:=p;simp only[hl]at h ⊢;cases hb:cw gg BU&&(!bV||l.all AV.bV)with
     | false=>simp[hb]at h
     | true =>
       simp only[hb,oT]at h ⊢;split at h
       . rename_i z zs hz mQ;rw[x.readAll hz,Ext.args x mQ];exact h
       . simp at h
 | .fn f cs::ps,tv::r,y,h=>by
   cases tv with
   | fn f' cR =>
     unfold St.args at h ⊢;cases hb:Nat.beq f f' with
     | false=>simp[hb]at h
     | true =>
       simp only[hb,oT]at h ⊢;split at h
       . rename_i z zs hz mQ;rw[x.bT hz,Ext.args x mQ];exact h
       . simp at h
   | _=>simp[St.args]at h
 | .pt ks::ps,.v a::r,y,h=>by
   unfold St.args at h ⊢;split at h
   . rename_i z zs hz mQ;rw[x.kr hz,Ext.args x mQ];exact h
   . simp at h
 | .nil::ps,tv::r,y,h=>by
   have h:(bif fV tv then st.args bV ps r else (none:Option (PT ps)))=some (y:PT ps):=h;show(bif fV tv then ay.args bV ps r else (none:Option (PT ps)))=some (y:PT ps);cases hb:fV tv with
   | false=>rw[hb]at h; simp at h
   | true=>rw[hb]at h; exact Ext.args x h
 | .nil::ps,[],y,h=>by simp[St.args]at h
 | .pt ks::ps,.may _ _ _ _ _::r,y,h=>by simp[St.args]at h
 | .pt ks::ps,.agg _::r,y,h=>by simp[St.args]at h
 | .pt ks::ps,.tup _::r,y,h=>by simp[St.args]at h
 | .pt ks::ps,.fn _ _::r,y,h=>by simp[St.args]at h
 | .pt _::_,[],_,h=>by simp[St.args]at h
 | .io _ _::_,_::_,_,h=>by simp[St.args]at h
 | .mv _::_,_::_,_,h=>by simp[St.args]at h
 | [],_::_,_,h=>by simp[St.args]at h
 | .c _ _::_,[],_,h=>by simp[St.args]at h
 | .fn _ _::_,[],_,h=>by simp[St.args]at h
 | .io _ _::_,[],_,h=>by simp[St.args]at h
 | .mv _::_,[],_,h=>by simp[St.args]at h
theorem Ext.side(x:Ext st ay){c o:Operand}{want:Bool}{y:(k:K)×T k}(h:st.side c want o=some y):ay.side c want o=some y:=by
 unfold St.side at h ⊢;cases hg:st.get o with
 | none=>simp[hg]at h
 | some tv =>
   rw[hg]at h;rw[x.get hg];split at h
   . rename_i av hh;cases hf:av.bV with
     | false=>simp[hf]at h
     | true=>simp only[hf,oT]at h ⊢; exact x.read h
   . rename_i t w' y' av t' hh;cases hb:Nat.beq t t'&&cw w' want&&av.bV with
     | false=>simp[hb]at h
     | true=>simp only[hb,oT]at h ⊢; exact x.read h
   . simp at h
end
def NZ(gg:Bool)(v:Value)(cs:List Value):Prop:=match gg with | true=>v= .agg cs.toArray | false=>cs=[v]
def ROv(Z:Nat->Prop)(w:World)(gg:Bool)(ks:List K)(x:Tl ks)(v:Value):Prop :=
 ∃ cs:List Value,NZ gg v cs/\sL Z w ks x cs
def Qa(Z:Nat->Prop)(w:World):(cs:List (Bool×List K))->CT cs->List Value->Prop
 | [],_,[]=>True
 | (gg,ks)::cs,x,v::vs=>ROv Z w gg ks x.1 v/\Qa Z w cs x.2 vs
 | _,_,_=>False
def bb(fresh:Bool)(Z:Nat->Prop)(w:World)(H:Nat->Nat->Prop):(ks:List K)->Tl ks->List Value->Nat->Prop
 | [],_,[],_=>True
 | .sl e bZ::ks,x,v::vs,j=>(match fresh with | true=>dI w (.sl e bZ) x.1 v (H j) | false=>RO Z w (.sl e bZ) x.1 v)/\bb fresh Z w H ks x.2 vs (bif fresh then j+1 else j)
 | .int k::ks,x,v::vs,j=>RO Z w (.int k) x.1 v/\bb fresh Z w H ks x.2 vs j
 | .bool::ks,x,v::vs,j=>RO Z w .bool x.1 v/\bb fresh Z w H ks x.2 vs j
 | .str::ks,x,v::vs,j=>RO Z w .str x.1 v/\bb fresh Z w H ks x.2 vs j
 | _,_,_,_=>False
def ROp(Z:Nat->Prop)(w:World)(ks:List K)(x:Tl ks)(v:Value):Prop:=∃ b o,v= .pointer (some ⟨b,o,none⟩)/\Z b/\b<w.heap.size/\rO Z w ks x b o
def RD(Z:Nat->Prop)(w:World):(cs:List Vw)->U0 cs->List Value->Prop
 | [],_,[]=>True
 | .c gg ks::cs,x,v::vs=>ROv Z w gg ks x.1 v/\RD Z w cs x.2 vs
 | .p ks::cs,x,v::vs=>ROp Z w ks x.1 v/\RD Z w cs x.2 vs
 | _,_,_=>False
def yj(Z:Nat->Prop)(w:World)(F:Nat->Nat->Prop):(cs:List (Bool×K))->BT cs->List Value->Nat->Prop
 | [],_,[],_=>True
 | (true,k)::cs,x,v::vs,n=>dI w k x.1 v (F n)/\yj Z w F cs x.2 vs (n+1)
 | (false,k)::cs,x,v::vs,n=>RO Z w k x.1 v/\yj Z w F cs x.2 vs (n+1)
 | _,_,_,_=>False
def Ww(Z:Nat->Prop)(w:World)(F:Nat->Nat->Prop)(cs:List (Bool×K))(x:BT cs)(v:Value)(n:Nat):Prop :=
 ∃ b vs e fr,v= .pointer (some ⟨b,0,none⟩)/\w.heap[b]? = some (.cells vs e fr)/\(∀ q,q<vs.size->¬ (fr.1<=q/\q<fr.2))/\F n b/\yj Z w F cs x vs.toList (n+1)
def ee(Z:Nat->Prop)(w:World)(F:Nat->Nat->Prop):(ps:List PK)->PT ps->List Value->Nat->Prop
 | [],_,[],_=>True
 | .c gg ks::ps,x,v::vs,n=>ROv Z w gg ks x.1 v/\ee Z w F ps x.2 vs n
 | .pt ks::ps,x,v::vs,n=>ROp Z w ks x.1 v/\ee Z w F ps x.2 vs n
 | .nil::ps,x,v::vs,n=>v= .slice none 0 0/\ee Z w F ps x vs n
 | .fn f cR::ps,x,v::vs,n=>(∃ cs:Array Value,v= .func (.func f) #[] cs/\RD Z w cR x.1 cs.toList)/\ee Z w F ps x.2 vs n
 | .io gg ks::ps,x,v::vs,n=>(∃ cs:List Value,NZ gg v cs/\bb true Z w F ks x.1 cs n)/\ee Z w F ps x.2 vs (n+bU ks)
 | .mv k::ps,x,v::vs,n=>dI w k x.1 v (F n)/\ee Z w F ps x.2 vs (n+1)
 | .pw cs::ps,x,v::vs,n=>Ww Z w F cs x.1 v n/\ee Z w F ps x.2 vs (n+(cs.length+1))
 | _,_,_,_=>False
def wa(Z:Nat->Prop)(w:World)(G:Nat->Nat->Prop):(ps:List PK)->ux ps->List Value->Nat->Prop
 | [],_,_,_=>True
 | .io gg ks::ps,y,v::vs,n=>(∃ cs:List Value,NZ gg v cs/\bb true Z w G ks y.1 cs n)/\wa Z w G ps y.2 vs (n+bU ks)
 | .c _ _::ps,y,_::vs,n=>wa Z w G ps y vs n
 | .pt _::ps,y,_::vs,n=>wa Z w G ps y vs n
 | .nil::ps,y,_::vs,n=>wa Z w G ps y vs n
 | .fn _ _::ps,y,_::vs,n=>wa Z w G ps y vs n
 | .mv _::ps,y,_::vs,n=>wa Z w G ps y vs (n+1)
 | .pw cs::ps,y,v::vs,n=>Ww Z w G cs y.1 v n/\wa Z w G ps y.2 vs (n+(cs.length+1))
 | _::_,_,[],_=>False
def mU(fresh:Bool)(Z:Nat->Prop)(w:World)(H:Nat->Nat->Prop):(rs:List (Bool×List K))->CT rs->List Value->Nat->Prop
 | [],_,[],_=>True
 | (gg,ks)::rs,x,v::vs,j=>(∃ cs:List Value,NZ gg v cs/\bb fresh Z w H ks x.1 cs j)/\mU fresh Z w H rs x.2 vs (bif fresh then j+bU ks else j)
 | _,_,_,_=>False
def A6:List Value->Value
 | [v]=>v
 | vs=> .tuple vs.toArray
def EU(P:Program)(R:Value->World->Prop):Result Next->Prop
 | .ok (.value v) w'=>R v w'
 | .ok (.enter f args) w'=>Calls P f args w' fun | .returned v,w''=>R v w'' | _,_=>False
 | _=>False
theorem EU.mono{P:Program}{R R':Value->World->Prop}{r:Result Next}(h:EU P R r)(hR:∀ v w,R v w->R' v w):EU P R' r:=by
 unfold EU at h ⊢;split at h
 . exact hR _ _ h
 . exact Calls.mono h fun e w' he=>by cases e <;> first | exact hR _ _ he | exact he
 . exact h.elim
def bt0:(cs:List (Bool×K))->BT cs
 | []=>()
 | p::cs=>(dfl p.2,bt0 cs)
def UU:(ps:List PK)->ux ps
 | []=>()
 | .io _ ks::ps=>(jE ks,UU ps)
 | .c _ _::ps=>UU ps
 | .pt _::ps=>UU ps
 | .nil::ps=>UU ps
 | .fn _ _::ps=>UU ps
 | .mv _::ps=>UU ps
 | .pw cs::ps=>(bt0 cs,UU ps)
def Su.vX(s:Su)(x:PT s.ps):Option (ux s.ps×CT s.rs):=match s.f with
 | .inl f=>f x
 | .inr g=>some (UU s.ps,g x)
structure Dk (w w':World) (F:Nat->Nat->Prop) (Z Z':Nat->Prop) (H:Nat->Nat->Prop):Prop where
 os:w'.os=w.os
 tape:w'.tape=w.tape
 output:w'.output=w.output
 size:w.heap.size<=w'.heap.size
 block:∀ b,b<w.heap.size->(∀ i,¬ F i b)->w'.heap[b]? = w.heap[b]?
 z:∀ b,Z b->Z' b
 cq:∀ b,Z' b->b<w'.heap.size/\(Z b∨w.heap.size<=b)
 fp:∀ n b,H n b->b<w'.heap.size/\¬ Z' b/\((∃ i,F i b)∨w.heap.size<=b)
 cS:∀ n m b,H n b->H m b->n=m
def lU(P:Program)(f:Nat)(s:Su):Prop :=
 ∀(w:World) (Z:Nat->Prop) (F:Nat->Nat->Prop) (args:Array Value) (x:PT s.ps) (y:ux s.ps×CT s.rs),
  Gl P w Z->ee Z w F s.ps x args.toList 0->(∀ b,Z b->b<w.heap.size)->(∀ i b,F i b->b<w.heap.size/\¬ Z b)->(∀ i j b,F i b->F j b->i=j)->s.vX x=some y ->
  EU P (fun v w'=>∃(Z':Nat->Prop) (H:Nat->Nat->Prop) (vs:List Value),v=A6 vs/\Dk w w' F Z Z' H/\wa Z' w' (fun i=>H (2 * i)) s.ps y.1 args.toList 0/\mU s.fresh Z' w' (fun j=>H (2 * j+1)) s.rs y.2 vs 0)
   ((callFunc f args).run P w)
def Jp(P:Program)(f:Nat)(s:Sc):Prop :=
 ∀(w:World) (Z:Nat->Prop) (v:Value) (x:List (Tl s.ks)),
  Gl P w Z->RO Z w (.sl s.e s.ks) x v->(∀ b,Z b->b<w.heap.size)->x.length * s.HT<=bQ ->
  EU P (fun v w'=>∃(Z':Nat->Prop) (H:Nat->Nat->Prop),Dk w w' (fun _ _=>False) Z Z' H/\Sh Z' (H 0) w' s.ks x v) ((callFunc f #[v]).run P w)
def dO(P:Program)(E:En):Prop:=(∀ f s,s∈E.ga f->lU P f s)/\∀ f s,E.gc f=some s->Jp P f s
section
variable{P:Program}{cx:Cx P}{Z:Nat->Prop}{g:Gh}{st:St}{a:Act}{w:World}{E:En}
def gz(Z:Nat->Prop)(g:Gh)(st:St)(w:World):List TV->List Value->Prop
 | [],[]=>True
 | t::l,v::vs=>bW Z g st w t v/\gz Z g st w l vs
 | _,_=>False
theorem gz.app:∀ {l l':List TV} {vs vs':List Value},gz Z g st w l vs->gz Z g st w l' vs'->gz Z g st w (l++l') (vs++vs')
 | [],_,[],_,_,h=>h
 | _::_,_,_::_,_,h,h'=>⟨h.1,gz.app h.2 h'⟩
 | [],_,_::_,_,h,_=>h.elim
 | _::_,_,[],_,h,_=>h.elim
theorem jS(h:Rel cx Z g st a w)(hc:Cons st):∀(os:List Operand) (l:List TV),st.getAll os=some l->gz Z g st w l (os.map a.eval)
 | [],l,h1=>by simp[St.getAll]at h1; subst h1; trivial
 | o::os,l,h1=>by
   simp only[St.getAll]at h1;split at h1
   . rename_i x r hx hr;simp only[amd]at h1;subst h1;exact⟨bg h hc hx,jS h hc os r hr⟩
   . simp at h1
theorem lZ:∀(l:List (Bool×List AV)) (vs:List Value),iJ Z g st w l vs->gz Z g st w (l.map fun p=>bif p.1 then .agg p.2 else (match p.2 with | [a]=> .v a | _=> .agg p.2)) vs
 | [],[],_=>trivial
 | (true,l)::r,v::vs,h=>⟨h.1,lZ r vs h.2⟩
 | (false,[x])::r,v::vs,h=>⟨h.1,lZ r vs h.2⟩
 | (false,[])::r,v::vs,h=>h.1.elim
 | (false,_::_::_)::r,v::vs,h=>h.1.elim
 | [],_::_,h=>h.elim
 | _::_,[],h=>h.elim
theorem iB{gg:Bool}{l:List AV}{v:Value}(h:vr Z g st w (gg,l) v):∃ cs:List Value,NZ gg v cs/\ba Z g st w l cs:=by
 match gg,l,h with
 | true,l,⟨vs,e,h⟩=>exact⟨vs.toList,by simpa[NZ]using e,h⟩
 | false,[a],h=>exact⟨[v],rfl,h,trivial⟩
theorem sL.cq{Z':Nat->Prop}(hz:∀ b,Z b->b<w.heap.size->Z' b):∀(ks:List K) (x:Tl ks) (vs:List Value),sL Z w ks x vs->sL Z' w ks x vs
 | [],_,[],_=>trivial
 | k::ks,x,v::vs,h=>⟨h.1.cq hz,sL.cq hz ks x.2 vs h.2⟩
 | [],_,_::_,h=>h.elim
 | _::_,_,[],h=>h.elim
theorem Qa.cq{Z':Nat->Prop}(hz:∀ b,Z b->b<w.heap.size->Z' b):∀(cs:List (Bool×List K)) (x:CT cs) (vs:List Value),Qa Z w cs x vs->Qa Z' w cs x vs
 | [],_,[],_=>trivial
 | (gg,ks)::cs,x,v::vs,⟨⟨us,e,h⟩,h'⟩=>⟨⟨us,e,sL.cq hz ks x.1 us h⟩,Qa.cq hz cs x.2 vs h'⟩
 | [],_,_::_,h=>h.elim
 | _::_,_,[],h=>h.elim
theorem TN{Z':Nat->Prop}(hz:∀ b,Z b->b<w.heap.size->Z' b):∀(ks:List K) (x:Tl ks) (us:List Value) (b o:Nat),sL Z w ks x us->(∀(j:Nat) (u:Value),us[j]? = some u->w.cell? ⟨b,o+j,none⟩=some u)->rO Z' w ks x b o
 | [],_,_,_,_,_,_=>trivial
 | k::ks,x,u::us,b,o,h,hc=>⟨⟨u,hc 0 u rfl,RO.mono (oR _) (fun b hb aV=>⟨hz b hb aV,rfl⟩) k _ u h.1⟩,TN hz ks x.2 us b (o+1) h.2 fun j u hj=>by rw[show o+1+j=o+(j+1)by omega]; exact hc (j+1) u (by simpa using hj)⟩
 | _::_,_,[],_,_,h,_=>h.elim
theorem KW(h:Rel cx Z g st a w){r:Nat}:∀(l:List RC) (i:Nat),(∀(j:Nat) (c:RC),l[j]? = some c->st.cell r (i+j)=some c)->l.all pE=true->ba Z g st w (l.map wg) ((List.range l.length).map fun j=>g.cv r (i+j))
 | [],_,_,_=>trivial
 | c::l,i,hc,hf=>by
   simp only[am8,ame]at hf;simp only[ams,List.range_succ_eq_map,amO,List.map_map];refine⟨?_,?_⟩
   . have:=h.cell r i c (by have:=hc 0 c rfl; rwa [amJ]at this);obtain⟨s,m,v⟩:=c;cases v with
     | own k x=>simp[pE]at hf
     | av x=>exact this
   . have:=KW h l (i+1) (fun j c hj=>by rw[show i+1+j=i+(j+1)by omega]; exact hc (j+1) c (by simpa using hj)) hf.2;have e:((List.range l.length).map ((fun j=>g.cv r (i+j)) ∘ Nat.succ))=(List.range l.length).map fun j=>g.cv r (i+1+j):=by
      apply List.map_congr_left;intro j _;show g.cv r (i+(j+1))=_;rw[show i+(j+1)=i+1+j by omega]
     rw[e];exact this
theorem F2(h:Rel cx Z g st a w){box:Bool}{Z':Nat->Prop}(hz:∀ b,Z b->b<w.heap.size->Z' b)(hb:box=true->∀ r R,look st.rt r=some R->R.box=true->Z' (g.be r)){ks:List K}{av:AV}{v:Value}{x:Tl ks}(hr:bC Z g st w av v)(hx:st.kr box ks av=some x):ROp Z' w ks x v:=by
 cases av with
 | rp dep e bZ xs i c =>
   cases dep with
   | some _=>simp[St.kr]at hx
   | none =>
     cases c with
     | succ c=>simp[St.kr]at hx
     | zero =>
       simp only[St.kr]at hx;obtain⟨e,hx⟩:=xZ hx;subst e;subst hx;obtain⟨h0,b,o,h1,h2,h3,h4⟩:=hr;refine⟨b,o+i * bZ.length,by rw[h3,amJ],hz b h1 h2,h2,?_⟩;have lE:xs[i]? = some (xs.getD i (jE bZ)):=by simp[List.getD,ami h0]
       exact rO.mono (oR _) (fun b hb aV=>⟨hz b hb aV,rfl⟩) bZ _ b _ rfl (h4 i _ lE)
 | ptr r j =>
   cases j with
   | succ j=>simp[St.kr]at hx
   | zero =>
     simp only[St.kr]at hx;cases nO:box with
     | false=>rw[nO]at hx; simp at hx
     | true =>
       rw[nO]at hx;simp only[oT]at hx;cases hl:look st.rt r with
       | none=>rw[hl]at hx; simp at hx
       | some R =>
         rw[hl]at hx;simp only at hx;cases hf:R.box&&R.cells.all pE with
         | false=>rw[hf]at hx; simp at hx
         | true =>
           rw[hf]at hx;simp only[oT]at hx;simp only[ame]at hf;obtain⟨R0,e1,_,e3⟩:=hr;obtain⟨_,_,_,_,cs,el,fr,b5,_,b7,b8⟩:=h.box r R hl hf.1;have aV:g.be r<w.heap.size:=by
            rcases amv (g.be r) w.heap.size with hh | hh
            . exact hh
            . simp[amy hh]at b5
           have h1:=KW h (r:=r) R.cells 0 (fun j c hj=>by simp only[St.cell,hl,amp]; exact hj) hf.2;have h2:=dG h ks _ _ x h1 (by rw[List.all_map]; refine amx.2 fun c hc => ?_; have:=amx.1 hf.2 c hc; obtain⟨s,m,v⟩:=c; cases v with | own k x=>simp[pE]at this | av x=>exact this) hx;refine⟨g.be r,0,e3,hb nO r R hl hf.1,aV,TN hz ks x _ _ 0 h2 fun j u hj => ?_⟩;simp only[amT,amp]at hj;rcases amv j R.cells.length with nP | nP
           . rw[List.getElem?_range nP]at hj;simp only[amE,amd]at hj;subst hj;rw[amp];simp only[World.cell?,b5,anz,amX,anu];exact b8 j (by omega)
           . rw[amw (by simpa using nP)]at hj;simp at hj
 | _=>simp[St.kr]at hx
theorem nh(h:Rel cx Z g st a w){box:Bool}{Z':Nat->Prop}(hz:∀ b,Z b->b<w.heap.size->Z' b)(hb:box=true->∀ r R,look st.rt r=some R->R.box=true->Z' (g.be r)):∀(cs:List Vw) (l:List (Bool×List AV)) (vs:List Value) (x:U0 cs),iJ Z g st w l vs->st.bT box cs l=some x->RD Z' w cs x vs
 | [],[],[],_,_,_=>trivial
 | [],[],_::_,_,h1,_=>h1.elim
 | .c gg ks::cs,(BU,l)::r,v::vs,x,h1,h2=>by
   unfold St.bT at h2;cases Dn:cw gg BU&&l.all AV.bV with
   | false=>simp[Dn]at h2
   | true =>
     simp only[Dn,oT]at h2;simp only[ame]at Dn;have hg:=eL Dn.1;subst hg;split at h2
     . rename_i z zs yN mQ;cases h2;obtain⟨us,e1,e2⟩:=iB h1.1;exact⟨⟨us,e1,sL.cq hz ks z us (dG h ks l us z e2 Dn.2 yN)⟩,nh h hz hb cs r vs zs h1.2 mQ⟩
     . simp at h2
 | .p ks::cs,(false,[av])::r,v::vs,x,h1,h2=>by
   unfold St.bT at h2;split at h2
   . rename_i z zs yN mQ;cases h2;exact⟨F2 h hz hb h1.1 yN,nh h hz hb cs r vs zs h1.2 mQ⟩
   . simp at h2
 | .p ks::cs,(true,_)::r,_,_,_,h=>by simp[St.bT]at h
 | .p ks::cs,(false,[])::r,_,_,_,h=>by simp[St.bT]at h
 | .p ks::cs,(false,_::_::_)::r,_,_,_,h=>by simp[St.bT]at h
 | .c _ _::_,_::_,[],_,h1,_=>h1.elim
 | .p _::_,(false,[_])::_,[],_,h1,_=>h1.elim
 | [],_::_,_,_,_,h2=>by simp[St.bT]at h2
 | .c _ _::_,[],_,_,_,h2=>by simp[St.bT]at h2
 | .p _::_,[],_,_,_,h2=>by simp[St.bT]at h2
theorem wY{tv:TV}{v:Value}(h:bW Z g st w tv v)(hb:fV tv=true):v= .slice none 0 0:=by
 cases tv with
 | v a =>
   cases a with
   | nil=>exact h
   | _=>simp[fV]at hb
 | _=>simp[fV]at hb
theorem F7(h:Rel cx Z g st a w){bV:Bool}{Z':Nat->Prop}(ur:bV=false->Z'=iR w):(!bV)=true->∀ r R,look st.rt r=some R->R.box=true->Z' (g.be r):=fun hf r R hR hb=>by
 rw[ur (by simpa using hf)];obtain⟨_,_,_,_,cs,el,fr,b5,_⟩:=h.box r R hR hb;show g.be r<w.heap.size;rcases amv (g.be r) w.heap.size with hh | hh
 . exact hh
 . simp[amy hh]at b5
theorem uJ(h:Rel cx Z g st a w)(bV:Bool){Z':Nat->Prop}(hz:∀ b,Z b->b<w.heap.size->Z' b)(ur:bV=false->Z'=iR w){F:Nat->Nat->Prop}:∀(ps:List PK) (l:List TV) (vs:List Value) (x:PT ps) (i:Nat),gz Z g st w l vs->st.args bV ps l=some x->ee Z' w F ps x vs i
 | [],[],[],_,_,_,_=>trivial
 | [],[],_::_,_,_,h1,_=>h1.elim
 | .c gg ks::ps,tv::r,v::vs,x,i,h1,h2=>by
   unfold St.args at h2;cases hl:tv.dn with
   | none=>simp[hl]at h2
   | some p =>
     obtain⟨BU,l⟩:=p;simp only[hl]at h2;cases hb:cw gg BU&&(!bV||l.all AV.bV)with
     | false=>simp[hb]at h2
     | true =>
       simp only[hb,oT]at h2;simp only[ame]at hb;have hg:=eL hb.1;subst hg;split at h2
       . rename_i z zs yN mQ;cases h2;obtain⟨us,e1,e2⟩:=iB (lR h1.1 hl);refine⟨⟨us,e1,?_⟩,uJ h bV hz ur ps r vs zs i h1.2 mQ⟩;cases bV with
         | false=>rw[ur rfl]; exact A0 h ks l us z e2 yN
         | true=>exact sL.cq hz _ _ _ (dG h ks l us z e2 (by simpa using hb.2) yN)
       . simp at h2
 | .fn f cs::ps,tv::r,v::vs,x,i,h1,h2=>by
   cases tv with
   | fn f' cR =>
     unfold St.args at h2;cases hb:Nat.beq f f' with
     | false=>simp[hb]at h2
     | true =>
       simp only[hb,oT]at h2;have hf:=beq_eq hb;subst hf;split at h2
       . rename_i z zs yN mQ;cases h2;obtain⟨us,e1,e2⟩:=h1.1;exact⟨⟨us,e1,nh h hz (F7 h ur) cs cR us.toList z e2 yN⟩,uJ h bV hz ur ps r vs zs i h1.2 mQ⟩
       . simp at h2
   | _=>simp[St.args]at h2
 | .c _ _::_,_::_,[],_,_,h1,_=>h1.elim
 | .fn _ _::_,_::_,[],_,_,h1,_=>h1.elim
 | .pt ks::ps,.v av::r,v::vs,x,i,h1,h2=>by
   unfold St.args at h2;split at h2
   . rename_i z zs yN mQ;cases h2;exact⟨F2 h hz (F7 h ur) h1.1 yN,uJ h bV hz ur ps r vs zs i h1.2 mQ⟩
   . simp at h2
 | .nil::ps,tv::r,v::vs,x,i,h1,h2=>by
   have h2:(bif fV tv then st.args bV ps r else (none:Option (PT ps)))=some (x:PT ps):=h2;cases hb:fV tv with
   | false=>rw[hb]at h2; simp at h2
   | true=>rw[hb]at h2; exact⟨wY h1.1 hb,uJ h bV hz ur ps r vs x i h1.2 h2⟩
 | .nil::ps,_::r,[],_,_,h1,_=>h1.elim
 | .nil::ps,[],_,_,_,_,h2=>by simp[St.args]at h2
 | .pt ks::ps,.may _ _ _ _ _::r,_,_,_,_,h2=>by simp[St.args]at h2
 | .pt ks::ps,.agg _::r,_,_,_,_,h2=>by simp[St.args]at h2
 | .pt ks::ps,.tup _::r,_,_,_,_,h2=>by simp[St.args]at h2
 | .pt ks::ps,.fn _ _::r,_,_,_,_,h2=>by simp[St.args]at h2
 | .pt _::_,.v _::_,[],_,_,h1,_=>h1.elim
 | .pt _::_,[],_,_,_,_,h2=>by simp[St.args]at h2
 | .io _ _::_,_::_,_,_,_,_,h2=>by simp[St.args]at h2
 | .mv _::_,_::_,_,_,_,_,h2=>by simp[St.args]at h2
 | [],_::_,_,_,_,_,h2=>by simp[St.args]at h2
 | .c _ _::_,[],_,_,_,_,h2=>by simp[St.args]at h2
 | .fn _ _::_,[],_,_,_,_,h2=>by simp[St.args]at h2
 | .io _ _::_,[],_,_,_,_,h2=>by simp[St.args]at h2
 | .mv _::_,[],_,_,_,_,h2=>by simp[St.args]at h2
end
def cellsOf:Bool->Value->List Value
 | true,.agg vs=>vs.toList
 | _,v=>[v]
theorem NZ.eq{gg:Bool}{v:Value}{cs:List Value}(h:NZ gg v cs):cellsOf gg v=cs:=by
 cases gg with
 | true=>have h:v= .agg cs.toArray:=h; subst h; simp[cellsOf]
 | false=>have h:cs=[v]:=h; subst h; cases v <;> rfl
def nA:List K->List Value->List Value
 | .sl _ _::ks,v::vs=>v::nA ks vs
 | .int _::ks,_::vs=>nA ks vs
 | .bool::ks,_::vs=>nA ks vs
 | .str::ks,_::vs=>nA ks vs
 | _,_=>[]
def vk:List (Bool×List K)->List Value->List Value
 | (gg,ks)::rs,v::vs=>nA ks (cellsOf gg v)++vk rs vs
 | _,_=>[]
theorem fG:∀(ks:List K) (x:Tl ks),(mA ks x).length=bU ks
 | [],_=>rfl
 | .sl _ _::ks,x=>amL (· + 1) (fG ks x.2)
 | .int _::ks,x=>fG ks x.2
 | .bool::ks,x=>fG ks x.2
 | .str::ks,x=>fG ks x.2
section
variable{Z:Nat->Prop}{g:Gh}{st:St}{w:World}
theorem gy{H:Nat->Nat->Prop}:∀(ks:List K) (x:Tl ks) (cs:List Value) (j:Nat),bb true Z w H ks x cs j->(nA ks cs).length=bU ks /\
 ∀(i:Nat) (c:RC),(mA ks x)[i]? = some c->∃(e:TypeId) (bZ:List K) (y:T (.sl e bZ)) (v:Value),c=⟨0,0,.own (.sl e bZ) y⟩/\(nA ks cs)[i]? = some v/\dI w (.sl e bZ) y v (H (j+i))
 | [],_,[],_,_=>⟨rfl,fun i c h=>by simp[mA]at h⟩
 | .sl e bZ::ks,x,v::vs,j,h=>by
   obtain⟨h1,h2⟩:=gy ks x.2 vs (j+1) h.2;refine⟨amL (· + 1) h1,fun i c hi => ?_⟩;cases i with
   | zero => simp only[mA,amj,amd]at hi;exact⟨e,bZ,x.1,v,hi.symm,rfl,h.1⟩
   | succ i => simp only[mA,am3]at hi;obtain⟨e',k',y,u,g1,g2,g3⟩:=h2 i c hi;exact⟨e',k',y,u,g1,g2,by rw[show j+(i+1)=j+1+i by omega]; exact g3⟩
 | .int _::ks,x,v::vs,j,h=>gy ks x.2 vs j h.2
 | .bool::ks,x,v::vs,j,h=>gy ks x.2 vs j h.2
 | .str::ks,x,v::vs,j,h=>gy ks x.2 vs j h.2
 | [],_,_::_,_,h=>h.elim
 | .sl _ _::_,_,[],_,h=>h.elim
 | .int _::_,_,[],_,h=>h.elim
 | .bool::_,_,[],_,h=>h.elim
 | .str::_,_,[],_,h=>h.elim
theorem ma{H:Nat->Nat->Prop}:∀(rs:List (Bool×List K)) (y:CT rs) (vs:List Value) (j:Nat),mU true Z w H rs y vs j ->
 ∀(i:Nat) (c:RC),(cP rs y)[i]? = some c->∃(e:TypeId) (bZ:List K) (y:T (.sl e bZ)) (v:Value),c=⟨0,0,.own (.sl e bZ) y⟩/\(vk rs vs)[i]? = some v/\dI w (.sl e bZ) y v (H (j+i))
 | [],_,_,_,_,i,c,h=>by simp[cP]at h
 | (gg,ks)::rs,y,v::vs,j,h,i,c,hi=>by
   obtain⟨⟨cs,e1,e2⟩,h3⟩:=h;obtain⟨h1,h2⟩:=gy ks y.1 cs j e2;have hl:=fG ks y.1;simp only[cP]at hi;simp only[vk,e1.eq];rcases amv i (bU ks)with aV | Me
   . rw[amW (by omega)]at hi;obtain⟨e,k',z,u,g1,g2,g3⟩:=h2 i c hi;exact⟨e,k',z,u,g1,by rw[amW (by omega)]; exact g2,g3⟩
   . rw[amU (by omega),hl]at hi;obtain⟨e,k',z,u,g1,g2,g3⟩:=ma rs y.2 vs (j+bU ks) h3 (i-bU ks) c hi;exact⟨e,k',z,u,g1,by rw[amU (by omega),h1]; exact g2,by rw[show j+i=j+bU ks+(i-bU ks)by omega]; exact g3⟩
 | _::_,_,[],_,h,_,_,_=>h.elim
theorem iD{Z':Nat->Prop}{H:Nat->Nat->Prop}{d:Nat}:∀(ks:List K) (x:Tl ks) (cs:List Value) (j:Nat),bb true Z w H ks x cs j ->
 (∀(i:Nat) (c:RC),(mA ks x)[i]? = some c->st.cell d (j+i)=some c)->(∀(i:Nat) (v:Value),(nA ks cs)[i]? = some v->g.cv d (j+i)=v)->ba Z' g st w (gf d true ks x j) cs
 | [],_,[],_,_,_,_=>trivial
 | .sl e bZ::ks,x,v::vs,j,h,h1,h2=>by
   refine⟨⟨_,h1 0 _ rfl,oR _,fun _=>(h2 0 v rfl).symm⟩,iD ks x.2 vs (j+1) h.2 (fun i c hi => ?_) (fun i u hi => ?_)⟩
   . rw[show j+1+i=j+(i+1)by omega]; exact h1 (i+1) c hi
   . rw[show j+1+i=j+(i+1)by omega]; exact h2 (i+1) u hi
 | .int _::ks,x,v::vs,j,h,h1,h2=>⟨gK (Z':=Z') rfl h.1,iD ks x.2 vs j h.2 h1 h2⟩
 | .bool::ks,x,v::vs,j,h,h1,h2=>⟨gK (Z':=Z') (k:= .bool) rfl h.1,iD ks x.2 vs j h.2 h1 h2⟩
 | .str::ks,x,v::vs,j,h,h1,h2=>⟨gK (Z':=Z') (k:= .str) rfl h.1,iD ks x.2 vs j h.2 h1 h2⟩
 | [],_,_::_,_,h,_,_=>h.elim
 | .sl _ _::_,_,[],_,h,_,_=>h.elim
 | .int _::_,_,[],_,h,_,_=>h.elim
 | .bool::_,_,[],_,h,_,_=>h.elim
 | .str::_,_,[],_,h,_,_=>h.elim
theorem yH{gg:Bool}{l:List AV}{v:Value}{cs:List Value}(h:NZ gg v cs)(hr:ba Z g st w l cs):vr Z g st w (gg,l) v:=by
 cases gg with
 | true=>exact⟨cs.toArray,h,by simpa using hr⟩
 | false =>
   have h:cs=[v]:=h;subst h
   match l,hr with
   | [a],hr=>exact hr.1
   | [],hr=>exact hr.elim
   | _::_::_,hr=>exact hr.2.elim
theorem uV{Z':Nat->Prop}{H:Nat->Nat->Prop}{d:Nat}:∀(rs:List (Bool×List K)) (y:CT rs) (vs:List Value) (j:Nat),mU true Z w H rs y vs j ->
 (∀(i:Nat) (c:RC),(cP rs y)[i]? = some c->st.cell d (j+i)=some c)->(∀(i:Nat) (v:Value),(vk rs vs)[i]? = some v->g.cv d (j+i)=v)->iJ Z' g st w (tN d true rs y j) vs
 | [],_,[],_,_,_,_=>trivial
 | (gg,ks)::rs,y,v::vs,j,h,h1,h2=>by
   obtain⟨⟨cs,e1,e2⟩,h3⟩:=h;obtain⟨l1,_⟩:=gy ks y.1 cs j e2;have hl:=fG ks y.1;refine⟨yH e1 (iD ks y.1 cs j e2 (fun i c hi=>h1 i c ?_) (fun i u hi=>h2 i u ?_)),uV rs y.2 vs (j+bU ks) h3 (fun i c hi => ?_) (fun i u hi => ?_)⟩
   . have:i<bU ks:=by
      rw[<- hl];rcases amv i (mA ks y.1).length with hh | hh
      . exact hh
      . simp[amw hh]at hi
     simp only[cP];rw[amW (by omega)];exact hi
   . have:i<bU ks:=by
      rw[<- l1];rcases amv i (nA ks cs).length with hh | hh
      . exact hh
      . simp[amw hh]at hi
     simp only[vk,e1.eq];rw[amW (by omega)];exact hi
   . rw[show j+bU ks+i=j+(bU ks+i)by omega];refine h1 _ c ?_;simp only[cP];rw[amU (by omega),hl,am2];exact hi
   . rw[show j+bU ks+i=j+(bU ks+i)by omega];refine h2 _ u ?_;simp only[vk,e1.eq];rw[amU (by omega),l1,am2];exact hi
 | [],_,_::_,_,h,_,_=>h.elim
 | _::_,_,[],_,h,_,_=>h.elim
theorem iY{fresh:Bool}{Z':Nat->Prop}{H:Nat->Nat->Prop}{d:Nat}:∀(ks:List K) (x:Tl ks) (cs:List Value) (j:Nat),bb fresh Z w H ks x cs j->(fresh=false->Z'=Z)->(fresh=true->bU ks=0)->ba Z' g st w (gf d fresh ks x j) cs
 | [],_,[],_,_,_,_=>trivial
 | .sl e bZ::ks,x,v::vs,j,h,h1,h2=>by
   cases fresh with
   | true=>exact absurd (h2 rfl) (by simp[bU])
   | false => exact⟨(show RO Z' w (.sl e bZ) x.1 v from h1 rfl ▸ h.1),iY ks x.2 vs j h.2 h1 (fun hh=>by simp at hh)⟩
 | .int _::ks,x,v::vs,j,h,h1,h2=>⟨gK (Z':=Z') rfl h.1,iY ks x.2 vs j h.2 h1 h2⟩
 | .bool::ks,x,v::vs,j,h,h1,h2=>⟨gK (Z':=Z') (k:= .bool) rfl h.1,iY ks x.2 vs j h.2 h1 h2⟩
 | .str::ks,x,v::vs,j,h,h1,h2=>⟨gK (Z':=Z') (k:= .str) rfl h.1,iY ks x.2 vs j h.2 h1 h2⟩
 | [],_,_::_,_,h,_,_=>h.elim
 | .sl _ _::_,_,[],_,h,_,_=>h.elim
 | .int _::_,_,[],_,h,_,_=>h.elim
 | .bool::_,_,[],_,h,_,_=>h.elim
 | .str::_,_,[],_,h,_,_=>h.elim
theorem l5{fresh:Bool}{Z':Nat->Prop}{H:Nat->Nat->Prop}{d:Nat}:∀(rs:List (Bool×List K)) (y:CT rs) (vs:List Value) (j:Nat),mU fresh Z w H rs y vs j->(fresh=false->Z'=Z)->(fresh=true->lG rs=false)->iJ Z' g st w (tN d fresh rs y j) vs
 | [],_,[],_,_,_,_=>trivial
 | (gg,ks)::rs,y,v::vs,j,h,h1,h2=>by
   obtain⟨⟨cs,e1,e2⟩,h3⟩:=h;have h4:fresh=true->bU ks=0/\lG rs=false:=fun hf=>by have:=h2 hf;simp only[lG,anZ,ao6]at this;exact⟨beq_eq this.1,this.2⟩
   exact⟨yH e1 (iY ks y.1 cs j e2 h1 fun hf=>(h4 hf).1),l5 rs y.2 vs _ h3 h1 fun hf=>(h4 hf).2⟩
 | [],_,_::_,_,h,_,_=>h.elim
 | _::_,_,[],_,h,_,_=>h.elim
theorem gq{l:List (Bool×List AV)}{vs:List Value}{tv:TV}(h:iJ Z g st w l vs)(hw:jo l=some tv):bW Z g st w tv (A6 vs):=by
 match l,vs,h,hw with
 | [(true,l)],[v],h,hw=>simp only[jo,amd]at hw; subst hw; exact h.1
 | [(false,[a])],[v],h,hw=>simp only[jo,amd]at hw; subst hw; exact h.1
 | [(false,[])],[v],h,hw=>simp[jo]at hw
 | [(false,_::_::_)],[v],h,hw=>simp[jo]at hw
 | [],[],h,hw=>simp only[jo,amd]at hw; subst hw; exact⟨#[],rfl,trivial⟩
 | p::q::r,u::v::vs,h,hw =>
   have hw:some (TV.tup (p::q::r))=some tv:=by rw[<- hw];obtain⟨b,l⟩:=p;cases b <;> (try cases l) <;> first | rfl | (rename_i _ l; cases l <;> rfl)
   simp only[amd]at hw;subst hw;exact⟨(u::v::vs).toArray,rfl,by simpa using h⟩
 | [],_::_,h,_=>exact h.elim
 | [_],[],h,_=>exact h.elim
 | [_],_::_::_,h,_=>exact h.2.elim
 | _::_::_,[],h,_=>exact h.elim
 | _::_::_,[_],h,_=>exact h.2.elim
end
section
variable{P:Program}{cx:Cx P}{Z:Nat->Prop}{g:Gh}{st:St}{a:Act}{w:World}{E:En}
theorem uR{o:Oper}{next:Act->World->Prop}{Q:Exit->Act->World->Prop}{r:Result Next}{R:Value->World->Prop}(h:EU P R r)(hR:∀ v w',R v w'->next (a.put o.dst v) w'):o.upon P a next Q r:=by
 unfold EU at h;split at h
 . exact hR _ _ h
 . exact Calls.mono h fun e w' he=>by cases e <;> first | exact hR _ _ he | exact he.elim
 . exact h.elim
theorem qm{o:Oper}{c:Call}{f:Operand}{gid:Nat}{vs:Array Value}(ho:o.op= .call c)(fe:c.callee= .value f)(hv:a.eval f= .func (.func gid) #[] vs) :
 (execOp a.eval o).run P w=(callFunc gid (c.args.map a.eval++vs)).run P w:=by
 simp only[execOp,ho,resolve,fe,Deferred.ofValue,hv,amF,amN,amq,invoke,Array.empty_append]
theorem acT(eF:dO P E)(h:Rel cx Z g st a w)(hc:Cons st){o:Oper}{d:Nat}(hd:o.dst=some d)(cE:kM cx a d)(hf:st.free d=true){c:Call}{f:Operand}{gid:Nat}{cR:List (Bool×List AV)}{l:List TV}{s:Su}{x:PT s.ps}{z:ux s.ps}{y:CT s.rs}{p:TV×Option Rt}
 (ho:o.op= .call c)(fe:c.callee= .value f)(hg:st.get f=some (.fn gid cR))(hl:st.getAll c.args.toList=some l)(hs:s∈E.ga gid)
 (hx:st.args (!s.fresh) s.ps (l++cR.map fun p=>bif p.1 then .agg p.2 else (match p.2 with | [a]=> .v a | _=> .agg p.2))=some x)(hy:s.vX x=some (z,y))(hp:e9 d s y=some p):ea P cx st a w o d p:=by
 obtain⟨cv,ef,ec⟩:=bg h hc hg;intro next Q hk;unfold Oper.wp;rw[qm ho fe ef];have eQ:=gz.app (jS h hc _ _ hl) (lZ _ _ ec);have Pd:c.args.toList.map a.eval++cv.toList=(c.args.map a.eval++cv).toList:=by simp
 rw[Pd]at eQ;obtain⟨Zc,yN,Mf,hz3,hz4⟩:∃ Zc:Nat->Prop,(∀ b,Z b->b<w.heap.size->Zc b)/\((!s.fresh)=false->Zc=iR w)/\(∀ b,Zc b->b<w.heap.size)/\(s.fresh=false->Zc=Z):=by
  cases yO:s.fresh with
  | true=>exact⟨iR w,fun _ _ h=>h,fun _=>rfl,fun _ h=>h,fun h=>by simp at h⟩
  | false=>exact⟨Z,fun _ h _=>h,fun h=>by simp at h,fun b hb=>(h.cq b hb).1,fun _=>rfl⟩
 have cF:=uJ h (!s.fresh) yN Mf (F:=fun _ _=>False) s.ps _ _ x 0 eQ hx;have Ub:=eF.1 gid s hs w Zc (fun _ _=>False) _ x (z,y) (h.gl.mono (oR _) fun b hb hl=>⟨yN b hb hl,rfl⟩) cF hz3 (fun _ _ h=>h.elim) (fun _ _ _ h=>h.elim) hy;refine uR Ub ?_;rintro v w' ⟨Z',H,vs,rfl,ha,_,hr⟩;rw[hd];have lD:∀ b,b<w.heap.size->w'.heap[b]? = w.heap[b]? := fun b hb=>ha.block b hb (fun _ h=>h)
 have nL:∀ n b,H n b->w.heap.size<=b/\b<w'.heap.size:=fun n b hb=>by
  obtain⟨h1,_,h3⟩:=ha.fp n b hb;rcases h3 with ⟨_,h3⟩ | h3
  . exact h3.elim
  . exact⟨h3,h1⟩
 unfold e9 at hp;split at hp
 . rename_i tv hw;simp only[amd]at hp;cases hb:s.fresh&&lG s.rs with
   | false =>
     rw[hb]at hp;subst hp;have hn:s.fresh=true->lG s.rs=false:=fun hh=>by simpa[hh]using hb
     cases yO:s.fresh with
     | false => have T8:=hz4 yO;subst T8;have Uc:=Rel.Dv h ha.os ha.tape ha.output ha.size lD ha.z (fun b hb=>by obtain⟨h1,h2⟩:=ha.cq b hb;exact h2.imp id fun h2=>⟨h2,h1⟩);exact hk _ _ _ _ (Uc.ot cE (gq (l5 _ _ _ _ hr (fun _=>rfl) hn) hw))
     | true => have Uc:=Rel.Dv h (Z':=Z) ha.os ha.tape ha.output ha.size lD (fun _ h=>h) (fun b hb=> .inl hb);exact hk _ _ _ _ (Uc.ot cE (gq (l5 _ _ _ _ hr (fun hh=>by rw[yO]at hh; simp at hh) hn) hw))
   | true =>
     rw[hb]at hp;subst hp;simp only[ame]at hb;have yO:=hb.1;rw[yO]at hr hw;have mN:∀(i:Nat) (c:RC),(cP s.rs y)[i]? = some c->(st.a8 d (tv,some ⟨false,cP s.rs y⟩)).cell d (0+i)=some c:=fun i c hi=>by show(match look ((d,_)::st.rt) d with | some R=>R.cells[0+i]? | none=>none)=_;rw[aN,if_pos rfl,amp];exact hi
     refine hk Z (g.at d 0 (fun j=>(vk s.rs vs).getD j undef) (fun j b=>j<(cP s.rs y).length/\H (2 * j+1) b)) _ _ (Rel.yq h cE hf ?_ ?_)
     . refine { os:=ha.os,tape:=ha.tape,output:=ha.output,size:=ha.size,block:=lD,cq:=fun b hb=> .inl hb,zle:=fun _ h=>h,fp := ?_,cS := ?_,box:=fun hb=>by simp at hb,cell := ?_ }
       . intro j b hb;simp only[Gh.at,if_true]at hb;obtain⟨h1,h2⟩:=nL _ _ hb.2;obtain⟨e,bZ,x',v',g1,g2,g3⟩:=ma _ _ _ _ hr j _ (ami hb.1);exact⟨h1,h2,fun hz=>by have:=(h.cq b hz).1; omega,_,_,x',ami hb.1,by rw[g1]⟩
       . intro j j' b h1 h2;simp only[Gh.at,if_true]at h1 h2;have:=ha.cS _ _ b h1.2 h2.2;omega
       . intro j c hj;obtain⟨e,bZ,x',v',g1,g2,g3⟩:=ma _ _ _ _ hr j c hj;subst g1;have nP:j<(cP s.rs y).length:=by
          rcases amv j (cP s.rs y).length with hh | hh
          . exact hh
          . simp[amw hh]at hj
         show dI w' (.sl e bZ) x' _ _;simp only[Gh.at,if_true,List.getD,g2,anB];rw[amp]at g3;exact dI.frame _ _ _ _ _ (fun b hb=>⟨nP,hb⟩) (fun _ _ _=>rfl) g3
     . refine gq (uV _ _ _ _ hr mN fun i v hi => ?_) hw;simp[Gh.at,List.getD,hi]
 . simp at hp
theorem abL{s:Sc}{gid:Nat}(eF:Jp P gid s)(h:Rel cx Z g st a w)(hc:Cons st){o:Oper}{d:Nat}(hd:o.dst=some d)(cE:kM cx a d)(hf:st.free d=true){c:Call}{f:Operand}{l:List TV}{p:TV×Option Rt}
 (ho:o.op= .call c)(fe:c.callee= .value f)(hg:st.get f=some (.fn gid []))(hl:st.getAll c.args.toList=some l)(hq:(st.rT d s l).run=some p):ea P cx st a w o d p:=by
 obtain⟨cv,ef,ec⟩:=bg h hc hg;have O7:cv = #[]:=by
  obtain⟨l⟩:=cv;cases l with
  | nil=>rfl
  | cons _ _=>exact ec.elim
 subst O7;have eQ:=jS h hc _ _ hl;unfold St.rT at hq;split at hq
 . rename_i av;cases Ye:av.bV with
   | false=>rw[Ye]at hq; simp[Tr.run]at hq
   | true =>
   rw[Ye]at hq;simp only[oT]at hq;obtain⟨x,hx,hq⟩:=Tr.ai hq;obtain⟨hb,hq⟩:=Tr.bR hq;simp only[Tr.run,amd]at hq;subst hq;obtain⟨v,hv,hrv⟩:∃ v,c.args.toList.map a.eval=[v]/\bC Z g st w av v:=by
    cases hm:c.args.toList.map a.eval with
    | nil=>rw[hm]at eQ; exact eQ.elim
    | cons v r =>
      rw[hm]at eQ;cases r with
      | nil=>exact⟨v,rfl,eQ.1⟩
      | cons _ _=>exact eQ.2.elim
   have uq:RO Z w (.sl s.e s.ks) x v:=cB h hrv Ye hx;intro next Q hk;unfold Oper.wp;rw[qm ho fe ef];have hv':c.args.map a.eval ++ #[] = #[v]:=by rw[Array.append_empty];apply Array.ext';rw[Array.toList_map,hv]
   rw[hv'];refine uR (eF w Z v x h.gl uq (fun b hb=>(h.cq b hb).1) (amA hb)) ?_;rintro u w' ⟨Z',H,ha,hs⟩;rw[hd];have lD:∀ b,b<w.heap.size->w'.heap[b]? = w.heap[b]? := fun b hb=>ha.block b hb (fun _ h=>h)
   have bD:(st.a8 d (.bc d 0 0 0 s.e s.ks (aW x),some ⟨false,[⟨0,0,.own (.sl s.e s.ks) ([]:List (Tl s.ks))⟩]⟩)).cell d 0=some ⟨0,0,.own (.sl s.e s.ks) ([]:List (Tl s.ks))⟩:=by show(match look ((d,_)::st.rt) d with | some R=>R.cells[0]? | none=>none)=_;rw[aN,if_pos rfl]; rfl
   refine hk Z' (g.at d 0 (fun _=> .slice none 0 0) (fun j b=>j=0/\H 0 b)) _ _ (Rel.yq h cE hf ?_ ⟨_,bD,oR _,oR _,fun _ _ => ?_⟩)
   . refine { os:=ha.os,tape:=ha.tape,output:=ha.output,size:=ha.size,block:=lD,cq:=fun b hb=>(ha.cq b hb).2.imp id fun h2=>⟨h2,(ha.cq b hb).1⟩,zle:=ha.z,fp := ?_,cS := ?_,box:=fun hb=>by simp at hb,cell := ?_ }
     . intro j b hb;simp only[Gh.at,if_true]at hb;obtain⟨rfl,hb⟩:=hb;obtain⟨t1,t2,t3⟩:=ha.fp _ _ hb;exact⟨t3.elim (fun⟨_,h⟩=>h.elim) id,t1,t2,_,_,_,rfl,rfl⟩
     . intro j j' b h1 h2;simp only[Gh.at,if_true]at h1 h2;exact h1.1.trans h2.1.symm
     . intro j c' hj;cases j with
       | zero => simp only[amj,amd]at hj;subst hj;simp only[Gh.at,if_true];exact kN s.e s.ks
       | succ j=>simp at hj
   . exact Sh.mono (oR _) (fun b hb _=>⟨hb,rfl⟩) (fun b hb _=>⟨by simp[Gh.at]; exact hb,rfl⟩) hs
 . simp[Tr.run]at hq
theorem afY(hT:cH P E)(h:Rel cx Z g st a w)(hc:Cons st){o:Oper}{d:Nat}(hd:o.dst=some d)(cE:kM cx a d){c:Call}(ho:o.op= .call c)(fe:c.callee= .builtin .cap){x:Operand}{t:Nat}{ts:List Nat}(cF:c.args.toList=[x])(yM:c.argTypes.toList=t::ts){te:TI}
 (ht:E.sl t=some te){tv:TV}(hx:st.get x=some tv)(hb:fV tv=true):ea P cx st a w o d (.v (.d (.int .i64) (0:Int)),none):=by
 have ev:a.eval x= .slice none 0 0:=wY (bg h hc hx) hb;have iv:c.args = #[x]:=by rw[<- anc (xs:=c.args),cF]
 have Ke:c.argTypes[0]? = some t:=by rw[<- amh,yM]; rfl
 obtain⟨_,_,_,_,_,_,hu⟩:=kb hT ht;have hb:(Builtin.cap_ c.argTypes o.type #[.slice none 0 0]).run P w= .ok (.int .i64 0) w:=by simp[Builtin.cap_,Ke,amI hu,goInt]
 have au:(execOp a.eval o).run P w= .ok (.value (.int .i64 0)) w:=by simp only[execOp,ho,resolve,fe,iv,amF,amN,amq,invoke,builtin,anV,amO,aog,ev,hb]
 exact cM h hd cE au ⟨rfl,by unfold pT; decide⟩
end
section
variable{st ay:St}
theorem lI{t:Tr AV}{p:TV×Option Rt}(h:(t.bind fun a=>Tr.ret (TV.v a,(none:Option Rt))).run=some p):∃ av,t.run=some av/\p=(.v av,none):=by
 rw[Tr.run_bind]at h;cases ht:t.run with
 | none=>simp[ht]at h
 | some av=>simp only[ht,oB,Tr.run,amd]at h; exact⟨av,rfl,h.symm⟩
theorem Ext.indexAddr(x:Ext st ay){sz:Nat}{tv:TV}{n:Int}{p:AV}(h:(st.indexAddr sz tv n).run=some p):(ay.indexAddr sz tv n).run=some p:=by
 unfold St.indexAddr at h ⊢;split at h
 . rename_i r j s;cases hc:st.cell r j with
   | none=>simp[hc,Tr.run]at h
   | some c=>rw[hc]at h; rw[x.cell hc]; exact h
 . exact h
 . rename_i r j s m e ks xs;cases hc:st.cell r j with
   | none=>simp[hc,Tr.run]at h
   | some c=>rw[hc]at h; rw[x.cell hc]; exact h
 . rename_i r j s m i c;cases hc:st.cell r j with
   | none=>simp[hc,Tr.run]at h
   | some c=>rw[hc]at h; rw[x.cell hc]; exact h
 . simp[Tr.run]at h
theorem Ext.rT(x:Ext st ay){d:Nat}{s:Sc}{l:List TV}{p:TV×Option Rt}(h:(st.rT d s l).run=some p):(ay.rT d s l).run=some p:=by
 unfold St.rT at h ⊢;split at h
 . rename_i a;cases hf:a.bV with
   | false=>rw[hf]at h; simp[Tr.run]at h
   | true => rw[hf]at h;simp only[oT]at h;obtain⟨q,h1,h2⟩:=Tr.ai h;simp only[oT,x.bG h1];exact h2
 . simp[Tr.run]at h
theorem Ext.xe{β:Type}(x:Ext st ay){lo hi:Option Operand}{n:Nat}{f:Int×Int->Tr β}{p:β}(h:(Tr.cu (Av.oY st lo hi n) f).run=some p):(Tr.cu (Av.oY ay lo hi n) f).run=some p:=by obtain⟨q,h1,h2⟩:=Tr.ai h;rw[x.oY h1];exact h2
theorem Ext.qd(x:Ext st ay){tv:TV}{lo hi:Option Operand}{p:AV}(h:(st.qd tv lo hi).run=some p):(ay.qd tv lo hi).run=some p:=by
 unfold St.qd at h ⊢;split at h
 . rename_i s hs;exact x.xe h
 . simp[Tr.run]at h
theorem Ext.qH(x:Ext st ay){sz:Nat}{tv:TV}{lo hi:Option Operand}{p:AV}(h:(st.qH sz tv lo hi).run=some p):(ay.qH sz tv lo hi).run=some p:=by
 unfold St.qH at h ⊢;split at h
 . exact x.xe h
 . rename_i e ks xs;cases hb:Nat.beq ks.length sz with
   | false=>simp[hb,Tr.run]at h
   | true=>simp only[hb,oT]at h ⊢; exact x.xe h
 . rename_i r j s m e ks xs;cases hc:st.cell r j with
   | none=>simp[hc,Tr.run]at h
   | some rc =>
     simp only[hc]at h;simp only[x.cell hc];cases hb:Nat.beq rc.s s&&Nat.beq rc.m m&&Nat.beq ks.length sz with
     | false=>simp[hb,Tr.run]at h
     | true=>simp only[hb,oT]at h ⊢; exact x.xe h
 . rename_i r j s m i c;cases hc:st.cell r j with
   | none=>simp[hc,Tr.run]at h
   | some rc =>
     simp only[hc]at h;simp only[x.cell hc];split at h
     . rename_i s' m' e0 gn x0 heq;simp only[amd]at heq;subst heq;cases hb:Nat.beq s' s&&Nat.beq m' m with
       | false=>simp[hb,Tr.run]at h
       | true =>
         simp only[hb,oT]at h ⊢;split at h
         . rename_i e ks xs bD;cases hb:Nat.beq ks.length sz with
           | false=>simp[hb,Tr.run]at h
           | true=>simp only[hb,oT]at h ⊢; exact x.xe h
         . simp[Tr.run]at h
     . simp[Tr.run]at h
 . rename_i r j s;cases hc:st.cell r j with
   | none=>simp[hc,Tr.run]at h
   | some rc =>
     simp only[hc]at h;simp only[x.cell hc];split at h
     . rename_i s' m' e ks xs heq;simp only[amd]at heq;subst heq;cases hb:Nat.beq s' s&&Nat.beq ks.length sz with
       | false=>simp[hb,Tr.run]at h
       | true=>simp only[hb,oT]at h ⊢; exact x.xe h
     . simp[Tr.run]at h
 . simp[Tr.run]at h
end
section
variable{P:Program}{cx:Cx P}{Z:Nat->Prop}{g:Gh}{gP st:St}{a:Act}{w:World}{E:En}
theorem x8(hT:cH P E){t:Nat}{te:TI}(h:E.sl t=some te){ti:TI}(iy:E.ti t=some ti):∃ ks,E.ti t=some ti/\ti.agg=false/\ti.ks=[.sl ti.elem ks]/\E.ti ti.elem=some te:=by obtain⟨tt,ks,t1,t2,t3,t4,_⟩:=kb hT h;rw[t1]at iy;simp only[amd]at iy;subst iy;exact⟨ks,t1,t2,t3,t4⟩
theorem tz{dst:Nat}{E9:List TV}:∀ {l:List Su} {p:TV×Option Rt},(gP.xW dst l E9).run=some p->∃ s x z y,s∈l/\gP.args (!s.fresh) s.ps E9=some x/\s.vX x=some (z,y)/\e9 dst s y=some p
 | [],p,h=>by simp[St.xW,Tr.run]at h
 | s::r,p,h=>by
   have again:(gP.xW dst r E9).run=some p->∃ s' x z y,s'∈s::r/\gP.args (!s'.fresh) s'.ps E9=some x/\s'.vX x=some (z,y)/\e9 dst s' y=some p:=fun h=>by obtain⟨s',x,z,y,h1,h2⟩:=tz h;exact⟨s',x,z,y,amt _ h1,h2⟩
   unfold St.xW at h;cases hq:jA s.ps with
   | false=>simp only[hq,oF]at h; exact again h
   | true =>
     simp only[hq,oT]at h;split at h
     . rename_i x hx;split at h
       . rename_i gg hg;obtain⟨q,h1,h2⟩:=Tr.ai h;simp only[Tr.run,amd]at h2;subst h2;exact⟨s,x,UU s.ps,gg x,amz ..,hx,by simp[Su.vX,hg],h1⟩
       . rename_i f hf;simp only[Tr.run,anv]at h;obtain⟨⟨z,y⟩,h0,h⟩:=h;obtain⟨q,h1,h2⟩:=Tr.ai h;simp only[Tr.run,amd]at h2;subst h2;exact⟨s,x,z,y,amz ..,hx,by simp[Su.vX,hf,h0],h1⟩
     . exact again h
theorem Co(hT:cH P E)(eF:dO P E)(x:Ext gP st)(h:Rel cx Z g st a w)(hv:qq st){o:Oper}{d:Nat}(hd:o.dst=some d)(cE:kM cx a d)(hf:st.free d=true){p:TV×Option Rt}(hq:(zj E gP d o.op).run=some p):ea P cx st a w o d p:=by
 have hc:=hv.cons;generalize fD:o.op=op at hq;unfold zj at hq;split at hq
 . obtain⟨tv,h1,h2⟩:=Tr.ai hq;simp only[Tr.run,amd]at h2;subst h2;exact I8 h hc hd cE (.inl fD) (x.get h1)
 . obtain⟨tv,h1,h2⟩:=Tr.ai hq;simp only[Tr.run,amd]at h2;subst h2;exact I8 h hc hd cE (.inr fD) (x.get h1)
 ·
  rename_i c y z;split at hq
  . rename_i hg;obtain⟨tv,h1,h2⟩:=Tr.ai hq;simp only[Tr.run,amd]at h2;subst h2;exact CH h hv hd cE fD (x.get hg) (x.get h1)
  . rename_i hg;obtain⟨tv,h1,h2⟩:=Tr.ai hq;simp only[Tr.run,amd]at h2;subst h2;exact CH h hv hd cE fD (x.get hg) (x.get h1)
  . rename_i gd hg;split at hq
    . rename_i k y1 k' z1 h1 h2;split at hq
      . rename_i z2 h3;simp only[Tr.run,amd]at hq;subst hq;exact abQ h hv hd cE fD (x.get hg) (x.side h1) (x.side h2) h3
      . simp[Tr.run]at hq
    . simp[Tr.run]at hq
  . simp[Tr.run]at hq
 . obtain⟨ti,h1,h2⟩:=Tr.ai hq;simp only[Tr.run,amd]at h2;subst h2;exact V0 hT h hd cE hf fD h1
 ·
  obtain⟨ti,h1,hq⟩:=Tr.ai hq;obtain⟨tv,h2,hq⟩:=Tr.ai hq;obtain⟨q,h3,hq⟩:=Tr.ai hq;cases hb:Nat.beq q.2.length ti.ks.length with
  | false=>simp[hb,Tr.run]at hq
  | true => simp only[hb,oT]at hq;obtain⟨l,h4,hq⟩:=Tr.ai hq;simp only[Tr.run,amd]at hq;subst hq;exact afd hT h hc hd cE hf fD (x.get h2) h3 (x.mi h4)
 ·
  obtain⟨ti,h1,hq⟩:=Tr.ai hq;cases hb:ti.agg with
  | false=>simp[hb,Tr.run]at hq
  | true => simp only[hb,oN,oF]at hq;obtain⟨l,h4,hq⟩:=Tr.ai hq;simp only[Tr.run,amd]at hq;subst hq;exact W6 hT h hc hd cE fD h1 hb (wQ (fun _ _ _ hh=>x.vD hh) h4)
 ·
  rename_i t n parts;obtain⟨ti,h1,hq⟩:=Tr.ai hq;obtain⟨te,h2,hq⟩:=Tr.ai hq;obtain⟨l,h3,hq⟩:=Tr.ai hq;have h3':=wQ (fun _ _ _ hh=>x.oA hh) h3;cases hb:Nat.ble (n * te.ks.length) 1000&&Nat.ble n 1000 with
  | false=>simp[hb,Tr.run]at hq
  | true =>
    simp only[hb,oT]at hq;simp only[ame]at hb;have hn:=amA hb.1;have Pe:n<=bQ:=aml (amA hb.2) (by decide);obtain⟨xs,h4,hq⟩:=Tr.ai hq;cases O9:(flat te.ks||l.all qY)&& !(iW E.pins 999999&&l.all AV.bV)with
    | true => simp only[O9,oT,Tr.run,amd]at hq;subst hq;simp only[ame]at O9;exact G0 hT h hc hd cE hf fD (x8 hT h2 h1) h3' hn (x.chunks h4) (by simpa using O9.1) Pe
    | false =>
      simp only[O9,oF]at hq;cases Ye:l.all AV.bV with
      | true => simp only[Ye,oT,Tr.run,amd]at hq;subst hq;exact IF hT h hc hd cE fD (x8 hT h2 h1) h3' hn (x.chunks h4) Ye Pe
      | false => simp only[Ye,oF,Tr.run,amd]at hq;subst hq;exact EL hT h hc hd cE hf fD (x8 hT h2 h1) h3' hn
 ·
  obtain⟨ti,h1,hq⟩:=Tr.ai hq;obtain⟨tx,h2,hq⟩:=Tr.ai hq;obtain⟨av,h3,hq⟩:=Tr.ai hq;obtain⟨l,h4,hq⟩:=Tr.ai hq;obtain⟨tv,h5,hq⟩:=Tr.ai hq;simp only[Tr.run,amd]at hq;subst hq;exact adr hT h hc hd cE fD h1 (x.get h2) h3 (x.load h4) h5
 ·
  obtain⟨tv,h1,hq⟩:=Tr.ai hq;split at hq
  . simp only[Tr.run,amd]at hq;subst hq;exact zL h hc hd cE fD (x.get h1) (.inl ⟨_,_,rfl⟩)
  . rename_i r j s i c;cases hl:gP.live (.pel r j s i c)with
    | false=>simp[hl,Tr.run]at hq
    | true => simp only[hl,oT,Tr.run,amd]at hq;subst hq;exact zL h hc hd cE fD (x.get h1) (.inr ⟨⟨_,_,_,_,_,rfl⟩,x.live hl⟩)
  . simp[Tr.run]at hq
 ·
  obtain⟨tx,h1,hq⟩:=Tr.ai hq;obtain⟨ty,h2,hq⟩:=Tr.ai hq;obtain⟨av,h3,rfl⟩:=lI hq;exact ahk hT h hc hd cE fD (x.get h1) (x.get h2) h3
 ·
  obtain⟨tx,h1,hq⟩:=Tr.ai hq;obtain⟨av,h3,rfl⟩:=lI hq;exact akl h hc hd cE fD (x.get h1) h3
 ·
  obtain⟨ts,h1,hq⟩:=Tr.ai hq;obtain⟨td,h2,hq⟩:=Tr.ai hq;obtain⟨tx,h3,hq⟩:=Tr.ai hq;cases hb:ts.agg||td.agg with
  | true=>simp[hb,Tr.run]at hq
  | false =>
    simp only[hb,oF]at hq;simp only[anZ]at hb;split at hq
    . rename_i k0 k e1 e2;obtain⟨q,h4,hq⟩:=Tr.ai hq;obtain⟨av,h5,rfl⟩:=lI hq;simp only[Tr.run,amd]at h5;subst h5;exact IV hT h hc hd cE fD h1 h2 hb.1 hb.2 e1 e2 (x.get h3) h4
    . rename_i k0 e1 e2;obtain⟨q,h4,hq⟩:=Tr.ai hq;obtain⟨hn,hq⟩:=Tr.bR hq;obtain⟨av,h5,rfl⟩:=lI hq;simp only[Tr.run,amd]at h5;subst h5;exact GO hT h hc hd cE fD h1 h2 hb.1 hb.2 e1 e2 (x.get h3) h4 hn
    . rename_i e e1 e2;cases hu:E.u8 td.elem with
      | false=>simp[hu,Tr.run]at hq
      | true => simp only[hu,oN,oF]at hq;obtain⟨q,h4,hq⟩:=Tr.ai hq;simp only[Tr.run,amd]at hq;subst hq;exact Al hT h hc hd cE hf fD h1 h2 hb.1 hb.2 e1 e2 hu (x.get h3) h4
    . rename_i e e1 e2;cases hu:E.u8 ts.elem with
      | false=>simp[hu,Tr.run]at hq
      | true => simp only[hu,oN,oF]at hq;obtain⟨q,h4,hq⟩:=Tr.ai hq;obtain⟨xs,h5,hq⟩:=Tr.ai hq;obtain⟨av,h6,rfl⟩:=lI hq;simp only[Tr.run,amd]at h6;subst h6;exact Ev hT h hc hd cE fD h1 h2 hb.1 hb.2 e1 e2 hu (x.get h3) h4 (x.bG h5)
    . rename_i e1 e2;obtain⟨q,h4,hq⟩:=Tr.ai hq;obtain⟨av,h5,rfl⟩:=lI hq;simp only[Tr.run,amd]at h5;subst h5;exact Jv hT h hc hd cE fD h1 h2 hb.1 hb.2 e1 e2 (x.get h3) h4
    . simp[Tr.run]at hq
 ·
  rename_i t n n';obtain⟨ti,h1,hq⟩:=Tr.ai hq;obtain⟨te,h2,hq⟩:=Tr.ai hq;obtain⟨tv,h3,hq⟩:=Tr.ai hq;obtain⟨q,h4,hq⟩:=Tr.ai hq;cases hb:Nat.beq n n' with
  | false=>simp[hb,Tr.run]at hq
  | true => simp only[hb,oT]at hq;have hn:=beq_eq hb;obtain⟨h5,hq⟩:=Tr.bR hq;simp only[Tr.run,amd]at hq;subst hq;simp only[ame,ck,anD]at h5;obtain⟨ev,_⟩:=gB (bg h hc (o:= .tmp n) (x.tv h3)) h4;exact FG hT h hd cE hf fD ev (hn ▸ ev) (x8 hT h2 h1) h5.1 h5.2.1 (Nat.lt_of_not_le fun hh=>by have:=h5.2.2; simp[Nat.blt,Nat.ble_eq]at this; omega)
 ·
  rename_i t k n k' n';obtain⟨ti,h1,hq⟩:=Tr.ai hq;obtain⟨te,h2,hq⟩:=Tr.ai hq;cases hb:n == n'&&(ck 0 n&&(ck (n * te.bytes) bQ&&Nat.blt 0 te.bytes))with
  | false=>simp[hb,Tr.run]at hq
  | true => simp only[hb,oT,Tr.run,amd]at hq;subst hq;simp only[ame,ck,anD,beq_iff_eq]at hb;obtain⟨rfl,h5⟩:=hb;exact FG hT h hd cE hf fD rfl rfl (x8 hT h2 h1) h5.1 h5.2.1 (Nat.lt_of_not_le fun hh=>by have:=h5.2.2; simp[Nat.blt,Nat.ble_eq]at this; omega)
 ·
  rename_i t y lo hi;obtain⟨tv,h1,hq⟩:=Tr.ai hq;split at hq
  . rename_i te h2;obtain⟨av,h3,rfl⟩:=lI hq;exact Wo hT h hc hd cE fD h2 (x.get h1) (x.qH h3)
  . cases hs:E.str t with
    | false=>simp[hs,Tr.run]at hq
    | true => simp only[hs,oT]at hq;obtain⟨av,h3,rfl⟩:=lI hq;exact PF hT h hc hd cE fD hs (x.get h1) (x.qd h3)
 ·
  obtain⟨ti,h1,hq⟩:=Tr.ai hq;obtain⟨q,h2,hq⟩:=Tr.ai hq;obtain⟨tv,h3,hq⟩:=Tr.ai hq;obtain⟨av,h4,hq⟩:=Tr.ai hq;cases hb:ti.agg&&gP.live av with
  | false=>simp[hb,Tr.run]at hq
  | true => simp only[hb,oT]at hq;simp only[ame]at hb;obtain⟨av',h5,hq⟩:=Tr.ai hq;simp only[Tr.run,amd]at hq;subst hq;exact FK hT h hc hd cE fD h1 hb.1 h2 (x.get h3) h4 (x.live hb.2) h5
 ·
  obtain⟨ti,h1,hq⟩:=Tr.ai hq;obtain⟨q,h2,hq⟩:=Tr.ai hq;obtain⟨tf,h3,hq⟩:=Tr.ai hq;obtain⟨tv,h4,hq⟩:=Tr.ai hq;split at hq
  . rename_i l;cases hb:ti.agg&&Nat.ble (q.1+tf.ks.length) l.length with
    | false=>simp[hb,Tr.run]at hq
    | true => simp only[hb,oT]at hq;simp only[ame]at hb;obtain⟨ko,h5,hq⟩:=Tr.ai hq;simp only[Tr.run,amd]at hq;subst hq;exact W9 hT h hc hd cE fD h1 hb.1 h2 h3 (x.get h4) (amA hb.2) h5
  . simp[Tr.run]at hq
 ·
  obtain⟨te,h1,hq⟩:=Tr.ai hq;obtain⟨tv,h2,hq⟩:=Tr.ai hq;obtain⟨ti,h3,hq⟩:=Tr.ai hq;obtain⟨q,h4,hq⟩:=Tr.ai hq;obtain⟨av,h5,rfl⟩:=lI hq;exact FX hT h hc hd cE fD h1 (x.get h2) (x.get h3) h4 (x.indexAddr h5)
 ·
  rename_i t y i;cases hs:E.str t with
  | false=>simp[hs,Tr.run]at hq
  | true => simp only[hs,oN,oF]at hq;obtain⟨tv,h2,hq⟩:=Tr.ai hq;obtain⟨ti,h3,hq⟩:=Tr.ai hq;obtain⟨q,h4,hq⟩:=Tr.ai hq;obtain⟨s,h5,hq⟩:=Tr.ai hq;obtain⟨h6,hq⟩:=Tr.bR hq;obtain⟨av,h7,rfl⟩:=lI hq;simp only[Tr.run,amd]at h7;subst h7;exact X3 hT h hc hd cE fD hs (x.get h2) (x.get h3) h4 h5 h6
 ·
  obtain⟨tv,h1,hq⟩:=Tr.ai hq;split at hq
  . rename_i l;split at hq
    . rename_i gg l' h2;obtain⟨ko,h3,hq⟩:=Tr.ai hq;simp only[Tr.run,amd]at hq;subst hq;exact M5 h hc hd cE fD (x.get h1) h2 h3
    . simp[Tr.run]at hq
  . simp[Tr.run]at hq
 ·
  rename_i f first cR
  cases hb:Nat.beq first.size 0 with
  | false=>simp[hb,Tr.run]at hq
  | true => simp only[hb,oT]at hq;obtain⟨l,h1,hq⟩:=Tr.ai hq;obtain⟨r,h2,hq⟩:=Tr.ai hq;simp only[Tr.run,amd]at hq;subst hq;exact I6 h hc hd cE fD (beq_eq hb) (x.getAll h1) h2
 ·
  rename_i c;split at hq
  . rename_i fe;split at hq
    . rename_i y t ts cF yM;cases hs:E.str t with
      | true => simp only[hs,oT]at hq;obtain⟨tv,h1,hq⟩:=Tr.ai hq;obtain⟨n,h2,hq⟩:=Tr.ai hq;obtain⟨av,h3,rfl⟩:=lI hq;simp only[Tr.run,amd]at h3;subst h3;exact aaH (isS:=true) hT h hc hd cE fD fe cF yM hs (x.get h1) (x.len h2)
      | false => simp only[hs,oF]at hq;obtain⟨te,h0,hq⟩:=Tr.ai hq;obtain⟨tv,h1,hq⟩:=Tr.ai hq;obtain⟨n,h2,hq⟩:=Tr.ai hq;obtain⟨av,h3,rfl⟩:=lI hq;simp only[Tr.run,amd]at h3;subst h3;exact aaH (isS:=false) hT h hc hd cE fD fe cF yM ⟨te,h0⟩ (x.get h1) (x.len h2)
    . simp[Tr.run]at hq
  . rename_i fe;split at hq
    . rename_i y t ts cF yM;obtain⟨te,h0,hq⟩:=Tr.ai hq;obtain⟨tv,h1,hq⟩:=Tr.ai hq;cases hb:fV tv with
      | false=>rw[hb]at hq; simp[Tr.run]at hq
      | true => rw[hb]at hq;simp only[oT]at hq;obtain⟨av,h3,rfl⟩:=lI hq;simp only[Tr.run,amd]at h3;subst h3;exact afY hT h hc hd cE fD fe cF yM h0 (x.get h1) hb
    . simp[Tr.run]at hq
  . rename_i fe;split at hq
    . rename_i y z cF;obtain⟨tx,h1,hq⟩:=Tr.ai hq;obtain⟨ty,h2,hq⟩:=Tr.ai hq;obtain⟨p1,h3,hq⟩:=Tr.ai hq;obtain⟨p2,h4,hq⟩:=Tr.ai hq;cases hk:(p1.1 == p2.1)with
      | false=>simp[hk,Tr.run]at hq
      | true => simp only[hk,oT]at hq;obtain⟨av,h5,rfl⟩:=lI hq;simp only[Tr.run,amd]at h5;subst h5;exact F4 (mn:=true) h hc hd cE fD fe cF (x.get h1) (x.get h2) h3 h4 (by simpa using hk)
    . simp[Tr.run]at hq
  . rename_i fe;split at hq
    . rename_i y z cF;obtain⟨tx,h1,hq⟩:=Tr.ai hq;obtain⟨ty,h2,hq⟩:=Tr.ai hq;obtain⟨p1,h3,hq⟩:=Tr.ai hq;obtain⟨p2,h4,hq⟩:=Tr.ai hq;cases hk:(p1.1 == p2.1)with
      | false=>simp[hk,Tr.run]at hq
      | true => simp only[hk,oT]at hq;obtain⟨av,h5,rfl⟩:=lI hq;simp only[Tr.run,amd]at h5;subst h5;exact F4 (mn:=false) h hc hd cE fD fe cF (x.get h1) (x.get h2) h3 h4 (by simpa using hk)
    . simp[Tr.run]at hq
  . rename_i f fe;obtain⟨tf,h1,hq⟩:=Tr.ai hq;split at hq
    . rename_i gid cR;obtain⟨l,h2,hq⟩:=Tr.ai hq;split at hq
      . rename_i hs _;exact abL (eF.2 _ _ hs) h hc hd cE hf fD fe (x.get h1) (x.getAll h2) (x.rT hq)
      obtain⟨s,y,z,r,h3,h4,h5,h6⟩:=tz hq;exact acT eF h hc hd cE hf fD fe (x.get h1) (x.getAll h2) h3 (x.args h4) h5 h6
    . simp[Tr.run]at hq
  . simp[Tr.run]at hq
 . simp[Tr.run]at hq
end
def TV.iK:TV->Prop
 | .may _ _ _ _ _=>True
 | _=>False
theorem Hv{gg:Bool}{l:List AV}{tv:TV}(h:iH gg l=some tv):¬ tv.iK:=by unfold iH at h;split at h <;> simp at h <;> subst h <;> exact fun h=>h
theorem nv{l:List (Bool×List AV)}{tv:TV}(h:jo l=some tv):¬ tv.iK:=by unfold jo at h;split at h <;> simp at h <;> subst h <;> exact fun h=>h
theorem CG{st:St}{o:Operand}{tv:TV}(h:st.get o=some tv)(hm:tv.iK):∃ d,look st.tm d=some tv:=by
 cases tv with
 | may q want y gg l=>obtain⟨d,hd,_⟩:=LO h; exact⟨d,hd⟩
 | _=>exact hm.elim
section
variable{gP:St}{E:En}
def NM(gP:St)(t:Tr (TV×Option Rt)):Prop:=∀ p,t.run=some p->p.1.iK->∃ d',look gP.tm d'=some p.1
theorem aeE{α:Type}{o:Option α}{f:α->Tr (TV×Option Rt)}(h:∀ x,o=some x->NM gP (f x)):NM gP (Tr.cu o f):=fun p hp=>by obtain⟨x,h1,h2⟩:=Tr.ai hp;exact h x h1 p h2
theorem aeL{c:Bool}{t u:Tr (TV×Option Rt)}(h:NM gP t)(h':NM gP u):NM gP (bif c then t else u):=by cases c <;> assumption
theorem ae2{c:Bool}{t:Tr (TV×Option Rt)}(h:NM gP t):NM gP (.need c t):=fun p hp=>h p (Tr.bR hp).2
theorem abN{p:TV×Option Rt}(h:¬ p.1.iK):NM gP (.ret p):=fun q hq hm=>by simp only[Tr.run,amd]at hq;subst hq;exact(h hm).elim
theorem akj{t:Tr AV}:NM gP (t.bind fun a=> .ret (.v a,none)):=fun p hp hm=>by obtain⟨av,_,rfl⟩:=lI hp;exact hm.elim
theorem adN:NM gP .fail:=fun p hp=>by simp[Tr.run]at hp
theorem ajW{x:Operand}{tv:TV}(h:gP.get x=some tv):NM gP (.ret (tv,none)):=fun p hp hm=>by simp only[Tr.run,amd]at hp;subst hp;exact CG h hm
theorem ai6{d:Nat}{l:List Su}{E9:List TV}:NM gP (gP.xW d l E9):=fun p hq hm=>by
 obtain⟨s,y,z,r,h3,h4,h5,h6⟩:=tz hq;unfold e9 at h6;split at h6
 . rename_i tv hw;simp only[amd]at h6;subst h6;exact(nv hw hm).elim
 . simp at h6
theorem ajB{d:Nat}{s:Sc}{l:List TV}:NM gP (gP.rT d s l):=by
 unfold St.rT;split
 . exact aeL (aeE fun _ _=>ae2 (abN fun h=>h)) adN
 . exact adN
theorem LY{d:Nat}{op:Op}{p:TV×Option Rt}(hq:(zj E gP d op).run=some p)(hm:p.1.iK):∃ d',look gP.tm d'=some p.1:=by
 have h:NM gP (zj E gP d op):=by
  unfold zj
  repeat' first | exact akj | exact adN | exact ai6 | exact ajB | refine aeE fun _ _ => ?_ | exact ajW (by assumption) | refine aeL ?_ ?_ | refine ae2 ?_ | exact abN (Hv (by assumption)) | exact abN fun h=>h | split
 exact h p hq hm
end
theorem cC(st:St)(d:Nat)(p:TV×Option Rt)(t:Nat):look (st.a8 d p).tm t=if d=t then some p.1 else look st.tm t:=aN _ _ _ _
theorem BA(st:St)(d:Nat)(p:TV×Option Rt)(r:Nat):look (st.a8 d p).rt r=match p.2 with | some R=>if d=r then some R else look st.rt r | none=>look st.rt r:=by
 unfold St.a8;cases p.2 with
 | none=>rfl
 | some R=>exact aN _ _ _ _
def eK(nt:Nat->Prop)(base:St):Bd->Prop
 | []=>True
 | (i,t,p)::r=>nt t/\look base.tm t=none/\look base.rt t=none/\(∀ e∈r,e.1≠i/\e.2.1≠t)/\eK nt base r
theorem eK.mem{nt:Nat->Prop}{base:St}:∀ {bs:Bd} {i t:Nat} {p:TV×Option Rt},eK nt base bs->(i,t,p)∈bs->nt t/\look base.tm t=none/\look base.rt t=none
 | [],_,_,_,_,h=>by simp at h
 | (i0,t0,p0)::r,i,t,p,hb,h=>by
   obtain⟨h1,h2,h3,h4,h5⟩:=hb;rcases amo.1 h with h | h
   . cases h; exact⟨h1,h2,h3⟩
   . exact eK.mem h5 h
theorem eK.uniq{nt:Nat->Prop}{base:St}:∀ {bs:Bd} {i i' t t':Nat} {p p':TV×Option Rt},eK nt base bs->(i,t,p)∈bs->(i',t',p')∈bs->(i=i'∨t=t')->i=i'/\t=t'/\p=p'
 | [],_,_,_,_,_,_,_,h,_,_=>by simp at h
 | (i0,t0,p0)::r,i,i',t,t',p,p',hb,h,h',he=>by
   obtain⟨h1,h2,h3,h4,h5⟩:=hb;rcases amo.1 h with h | h
   . cases h;rcases amo.1 h' with h' | h'
     . cases h'; exact⟨rfl,rfl,rfl⟩
     . have:=h4 _ h';rcases he with he | he
       . exact absurd he.symm this.1
       . exact absurd he.symm this.2
   . rcases amo.1 h' with h' | h'
     . cases h';have:=h4 _ h;rcases he with he | he
       . exact absurd he this.1
       . exact absurd he this.2
     . exact eK.uniq h5 h h' he
theorem e8{nt:Nat->Prop}{base:St}(m:Nat):∀ {bs:Bd},eK nt base bs->∀(t:Nat) (tv:TV),look (view base m bs).tm t=some tv↔(∃ i p,(i,t,p)∈bs/\m.testBit i=true/\p.1=tv)∨look base.tm t=some tv
 | [],_,t,tv=>by simp[view]
 | (i0,t0,p0)::r,hb,t,tv=>by
   obtain⟨h1,h2,h3,h4,h5⟩:=hb;have ih:=e8 m h5 t tv;unfold view;cases hm:m.testBit i0 with
   | false =>
     simp only[oF];rw[ih];constructor
     . rintro(⟨i,p,hp,hq⟩ | h)
       . exact .inl ⟨i,p,amt _ hp,hq⟩
       . exact .inr h
     . rintro(⟨i,p,hp,hq⟩ | h)
       . rcases amo.1 hp with hp | hp
         . cases hp; rw[hm]at hq; simp at hq
         . exact .inl ⟨i,p,hp,hq⟩
       . exact .inr h
   | true =>
     simp only[oT];rw[cC];by_cases ht:t0=t
     . subst ht;rw[if_pos rfl];constructor
       . intro h;exact .inl ⟨i0,p0,amz ..,hm,by simpa using h⟩
       . rintro(⟨i,p,hp,hq,rfl⟩ | h)
         . rcases amo.1 hp with hp | hp
           . cases hp; rfl
           . exact absurd rfl (h4 _ hp).2
         . rw[h2]at h; simp at h
     . rw[if_neg ht,ih];constructor
       . rintro(⟨i,p,hp,hq⟩ | h)
         . exact .inl ⟨i,p,amt _ hp,hq⟩
         . exact .inr h
       . rintro(⟨i,p,hp,hq⟩ | h)
         . rcases amo.1 hp with hp | hp
           . cases hp; exact absurd rfl ht
           . exact .inl ⟨i,p,hp,hq⟩
         . exact .inr h
theorem jt{nt:Nat->Prop}{base:St}(m:Nat):∀ {bs:Bd},eK nt base bs->∀(t:Nat) (R:Rt),look (view base m bs).rt t=some R↔(∃ i p,(i,t,p)∈bs/\m.testBit i=true/\p.2=some R)∨look base.rt t=some R
 | [],_,t,tv=>by simp[view]
 | (i0,t0,p0)::r,hb,t,R=>by
   obtain⟨h1,h2,h3,h4,h5⟩:=hb;have ih:=jt m h5 t R;have skip:((∃ i p,(i,t,p)∈r/\m.testBit i=true/\p.2=some R)∨look base.rt t=some R)->(∃ i p,(i,t,p)∈(i0,t0,p0)::r/\m.testBit i=true/\p.2=some R)∨look base.rt t=some R:=by
    rintro(⟨i,p,hp,hq⟩ | h)
    . exact .inl ⟨i,p,amt _ hp,hq⟩
    . exact .inr h
   unfold view;cases hm:m.testBit i0 with
   | false =>
     simp only[oF];rw[ih];refine⟨skip,?_⟩;rintro(⟨i,p,hp,hq⟩ | h)
     . rcases amo.1 hp with hp | hp
       . cases hp; rw[hm]at hq; simp at hq
       . exact .inl ⟨i,p,hp,hq⟩
     . exact .inr h
   | true =>
     simp only[oT];rw[BA];cases BV:p0.2 with
     | none =>
       simp only;rw[ih];refine⟨skip,?_⟩;rintro(⟨i,p,hp,hq,v7⟩ | h)
       . rcases amo.1 hp with hp | hp
         . cases hp; rw[BV]at v7; simp at v7
         . exact .inl ⟨i,p,hp,hq,v7⟩
       . exact .inr h
     | some R0 =>
       simp only;by_cases ht:t0=t
       . subst ht;rw[if_pos rfl];constructor
         . intro h;exact .inl ⟨i0,p0,amz ..,hm,by rw[BV]; exact h⟩
         . rintro(⟨i,p,hp,hq,v7⟩ | h)
           . rcases amo.1 hp with hp | hp
             . cases hp; rw[BV]at v7; exact v7
             . exact absurd rfl (h4 _ hp).2
           . rw[h3]at h; simp at h
       . rw[if_neg ht,ih];refine⟨skip,?_⟩;rintro(⟨i,p,hp,hq⟩ | h)
         . rcases amo.1 hp with hp | hp
           . cases hp; exact absurd rfl ht
           . exact .inl ⟨i,p,hp,hq⟩
         . exact .inr h
def bitsOf:Bd->Nat
 | []=>0
 | (i,_,_)::r=>bitsOf r ||| 2 ^ i
theorem eZ:∀ {bs:Bd} {i t:Nat} {p:TV×Option Rt},(i,t,p)∈bs->(bitsOf bs).testBit i=true
 | (i0,t0,p0)::r,i,t,p,h=>by
   unfold bitsOf;rw[Nat.testBit_or];rcases amo.1 h with h | h
   . cases h; simp[Nat.testBit_two_pow_self]
   . rw[eZ h]; rfl
theorem jw(base:St)(m:Nat):∀(bs:Bd),(∀ i t p,(i,t,p)∈bs->m.testBit i=true)->aG base bs=view base m bs
 | [],_=>rfl
 | (i,t,p)::r,h=>by unfold aG view;rw[h i t p (amz ..)];simp only[oT];rw[jw base m r fun i' t' p' h'=>h i' t' p' (amt _ h')]
def gp(tv ko:TV):Prop:=∀(Z:Nat->Prop) (g:Gh) (st:St) (w:World) (v:Value),bW Z g st w tv v->bW Z g st w ko v
theorem gp.refl(tv:TV):gp tv tv:=fun _ _ _ _ _ h=>h
theorem gp.trans{p q r:TV}(h:gp p q)(h':gp q r):gp p r:=fun Z g st w v x=>h' Z g st w v (h Z g st w v x)
def Alike(p p':TV×Option Rt):Prop:=p.2=p'.2/\gp p.1 p'.1/\gp p'.1 p.1
theorem Alike.refl(p:TV×Option Rt):Alike p p:=⟨rfl,gp.refl _,gp.refl _⟩
theorem Alike.trans{p q r:TV×Option Rt}(h:Alike p q)(h':Alike q r):Alike p r:=⟨h.1.trans h'.1,h.2.1.trans h'.2.1,h'.2.2.trans h.2.2⟩
def eE(bs kU:Bd):Prop:=∀ i t p,(i,t,p)∈bs->∃ p',(i,t,p')∈kU/\Alike p p'
theorem eE.refl(bs:Bd):eE bs bs:=fun i t p h=>⟨p,h,Alike.refl p⟩
theorem eE.trans{a b c:Bd}(h:eE a b)(h':eE b c):eE a c:=fun i t p hp=>by obtain⟨p',h1,h2⟩:=h i t p hp;obtain⟨U3,h3,h4⟩:=h' i t p' h1;exact⟨U3,h3,h2.trans h4⟩
theorem eE.cons{e:Nat×Nat×(TV×Option Rt)}{bs kU:Bd}(h:eE bs kU):eE bs (e::kU):=fun i t p hp=>by obtain⟨p',h1,h2⟩:=h i t p hp;exact⟨p',amt _ h1,h2⟩
def MB(st:St):Prop:=∀ d q want y gg l,look st.tm d=some (.may q want y gg l)->∃ tq,look st.tm q=some tq/\ic tq y
theorem MB.cons{st:St}(h:MB st):qq st:=fun d q want y gg l hl tq vQ=>by obtain⟨tq',h1,h2⟩:=h d q want y gg l hl;rw[vQ]at h1;simp only[amd]at h1;exact h1 ▸ h2
theorem ic.of{tv ko:TV}{y:Bool}(h:gp ko tv)(ht:ic tv y):ic ko y:=fun Z g st w v hr=>ht Z g st w v (h Z g st w v hr)
theorem ct{nt:Nat->Prop}{base:St}{bs:Bd}(hb:eK nt base bs)(t:Nat)(tv:TV):look (aG base bs).tm t=some tv↔(∃ i p,(i,t,p)∈bs/\p.1=tv)∨look base.tm t=some tv:=by
 rw[jw base (bitsOf bs) bs (fun i t p h=>eZ h),e8 _ hb];constructor
 . rintro(⟨i,p,h1,_,h3⟩ | h)
   . exact .inl ⟨i,p,h1,h3⟩
   . exact .inr h
 . rintro(⟨i,p,h1,h3⟩ | h)
   . exact .inl ⟨i,p,h1,eZ h1,h3⟩
   . exact .inr h
section
variable{P:Program}{cx:Cx P}{Z:Nat->Prop}{g:Gh}{st:St}{a:Act}{w:World}{E:En}
theorem Rel.swap(h:Rel cx Z g st a w){ay:St}(hr:∀ r,look ay.rt r=look st.rt r)(ht:∀ t tv,look ay.tm t=some tv->t<a.tmps.size/\bW Z g st w tv (a.tmps.getD t undef)):Rel cx Z g ay a w:=by
 have bD:∀ r j,ay.cell r j=st.cell r j:=fun r j=>by simp only[St.cell,hr]
 have k:oe Z Z w w g g st ay :=
  { size:=oR _,z:=fun b hb _=>⟨hb,rfl⟩,root:=fun r R hR=>⟨R,by rw[hr]; exact hR,rfl,fun _=>rfl⟩
    cell:=fun r j c hc=>⟨c,by rw[bD]; exact hc,LS.refl w g r j c⟩
    own:=fun r j b hb=>(h.fp r j b hb).1
    block:=(gk h (ay:=st) (w':=w) rfl rfl).block }
 exact { os:=h.os,tape:=h.tape,output:=h.output,size:=h.size,block:=h.block,cq:=h.cq,z0:=h.z0
         fp:=fun r j b hb=>by rw[bD]; exact h.fp r j b hb
         cS:=h.cS
         box:=fun r R hR hb=>by rw[hr]at hR;obtain⟨b1,b2,b3,b4,b5⟩:=h.box r R hR hb;exact⟨b1,b2,b3,fun r' R' lr=>by rw[hr]at lr; exact b4 r' R' lr,b5⟩
         cell:=fun r j c hc=>by rw[bD]at hc;exact lh.cI k _ _ _ _ (h.cell r j c hc) (fun _ h=>h) (fun _ _ _=>rfl)
         tm:=fun t tv htt=>⟨(ht t tv htt).1,bW.cI k _ _ (ht t tv htt).2⟩
         defers:=h.defers,nx:=h.nx }
theorem HJ{β:Type}(l l':List (Nat×β))(n:Nat):look (l++l') n=match look l n with | some x=>some x | none=>look l' n:=by
 induction l with
 | nil=>rfl
 | cons p l ih => obtain⟨m,x⟩:=p;simp only[List.cons_append,look];cases Nat.beq m n <;> simp[ih]
def over(gP pW:St):St:=⟨gP.tm++pW.tm,pW.rt⟩
theorem uO(gP pW:St)(t:Nat):look (over gP pW).tm t=match look gP.tm t with | some x=>some x | none=>look pW.tm t:=by show look (gP.tm++pW.tm) t=_;rw[HJ];cases look gP.tm t <;> rfl
structure Fits (gP pW:St) (a:Act):Prop where
 rt:∀ r R,look gP.rt r=some R->look pW.rt r=some R
 tm:∀ t xp,look gP.tm t=some xp->∃ tv,look pW.tm t=some tv/\gp xp tv/\∀(Z:Nat->Prop) (g:Gh) (st:St) (w:World),bW Z g st w tv (a.tmps.getD t undef)->bW Z g st w xp (a.tmps.getD t undef)
 may:∀ d q want y gg l,look gP.tm d=some (.may q want y gg l)->∀ tq,look pW.tm q=some tq->ic tq y
 mayS:qq pW
theorem Fits.ext{gP pW:St}(f:Fits gP pW a):Ext gP (over gP pW) where
 tm:=fun t tv h=>by rw[uO,h]
 rt:=f.rt
theorem Fits.rel{gP pW:St}(f:Fits gP pW a)(h:Rel cx Z g pW a w):Rel cx Z g (over gP pW) a w:=by
 refine h.swap (fun _=>rfl) fun t tv ht => ?_
 rw[uO]at ht;cases h0:look gP.tm t with
 | none=>rw[h0]at ht; exact h.tm t tv ht
 | some xp => rw[h0]at ht;simp only[amd]at ht;subst ht;obtain⟨tv,h1,h2,h3⟩:=f.tm t xp h0;exact⟨(h.tm t tv h1).1,h3 _ _ _ _ (h.tm t tv h1).2⟩
theorem Fits.cons{gP pW:St}(f:Fits gP pW a):qq (over gP pW):=by
 intro d q want y gg l hl tq vQ;have key:∀ tqS,look pW.tm q=some tqS->ic tqS y:=by
  rw[uO]at hl;cases h0:look gP.tm d with
  | none=>rw[h0]at hl; exact f.mayS d q want y gg l hl
  | some xp => rw[h0]at hl;simp only[amd]at hl;subst hl;exact f.may d q want y gg l h0
 rw[uO]at vQ;cases h0:look gP.tm q with
 | none=>rw[h0]at vQ; exact key _ vQ
 | some xp => rw[h0]at vQ;simp only[amd]at vQ;subst vQ;obtain⟨tv,h1,h2,_⟩:=f.tm q xp h0;exact ic.of h2 (key tv h1)
theorem Fits.back{gP pW:St}(f:Fits gP pW a){t:Nat}{tv:TV}(h:look pW.tm t=some tv):∃ ko,look (over gP pW).tm t=some ko/\gp ko tv:=by
 rw[uO];cases h0:look gP.tm t with
 | none=>exact⟨tv,h,gp.refl _⟩
 | some xp => obtain⟨tv1,h1,h2,_⟩:=f.tm t xp h0;rw[h]at h1;simp only[amd]at h1;subst h1;exact⟨xp,rfl,h2⟩
variable{nt:Nat->Prop}{base:St}{bs bsF:Bd}{mask S:Nat}
theorem Mu(hb:eK nt base bs)(hF:eK nt base bsF)(hl:eE bs bsF)(hm:MB (aG base bs))(Fa:MB (aG base bsF))(hs:∀ i t p,(i,t,p)∈bs->mask.testBit i=true->S.testBit i=true):Fits (view base mask bs) (view base S bsF) a where
 rt:=fun r R h=>by
  rw[jt _ hb]at h;rw[jt _ hF];rcases h with ⟨i,p,h1,h2,h3⟩ | h
  . obtain⟨p',h4,h5⟩:=hl i r p h1;exact .inl ⟨i,p',h4,hs i r p h1 h2,by rw[<- h5.1]; exact h3⟩
  . exact .inr h
 tm:=fun t xp h=>by
  rw[e8 _ hb]at h;rcases h with ⟨i,p,h1,h2,rfl⟩ | h
  . obtain⟨p',h4,h5⟩:=hl i t p h1;exact⟨p'.1,(e8 _ hF _ _).2 (.inl ⟨i,p',h4,hs i t p h1 h2,rfl⟩),h5.2.1,fun Z g st w hr=>h5.2.2 Z g st w _ hr⟩
  . exact⟨xp,(e8 _ hF _ _).2 (.inr h),gp.refl _,fun _ _ _ _ h=>h⟩
 may:=fun d q want y gg l h tq vQ=>by
  have h1:look (aG base bs).tm d=some (.may q want y gg l):=by
   rw[ct hb];rw[e8 _ hb]at h;rcases h with ⟨i,p,h1,h2,h3⟩ | h
   . exact .inl ⟨i,p,h1,h3⟩
   . exact .inr h
  obtain⟨tq0,h2,h3⟩:=hm d q want y gg l h1;rw[ct hb]at h2;rw[e8 _ hF]at vQ;rcases h2 with ⟨i,p,g1,rfl⟩ | h2
  . obtain⟨p',g2,g3⟩:=hl i q p g1;rcases vQ with ⟨i',U3,k1,_,rfl⟩ | vQ
    . obtain⟨_,_,rfl⟩:=hF.uniq g2 k1 (.inr rfl);exact ic.of g3.2.2 h3
    . rw[(hF.mem g2).2.1]at vQ; simp at vQ
  . rcases vQ with ⟨i',U3,k1,_,rfl⟩ | vQ
    . rw[(hF.mem k1).2.1]at h2; simp at h2
    . rw[h2]at vQ;simp only[amd]at vQ;exact vQ ▸ h3
 mayS:=by
  intro d q want y gg l h tq vQ;have up:∀ t tv,look (view base S bsF).tm t=some tv->look (aG base bsF).tm t=some tv:=fun t tv h=>by
   rw[ct hF];rw[e8 _ hF]at h;rcases h with ⟨i,p,h1,h2,h3⟩ | h
   . exact .inl ⟨i,p,h1,h3⟩
   . exact .inr h
  exact Fa.cons d q want y gg l (up _ _ h) tq (up _ _ vQ)
theorem aY(S j i:Nat):(S ||| 2 ^ j).testBit i=(S.testBit i||decide (j=i)):=by rw[Nat.testBit_or,Nat.testBit_two_pow]
theorem F5(hF:eK nt base bsF){j d:Nat}{p p':TV×Option Rt}(hj:(j,d,p')∈bsF){stX:St}(h:Rel cx Z g (stX.a8 d p) a w)(Fl:∀ r,look stX.rt r=look (view base S bsF).rt r)
 (Fm:∀ t tv,look (view base S bsF).tm t=some tv->∃ ko,look stX.tm t=some ko/\gp ko tv)(Ch:p.2=p'.2)(yn:gp p.1 p'.1):Rel cx Z g (view base (S ||| 2 ^ j) bsF) a w:=by
 obtain⟨_,n1,n2⟩:=hF.mem hj;refine h.swap (fun r => ?_) fun t tv ht => ?_
 . apply Option.ext;intro R;show look _ r=some R↔look _ r=some R;rw[jt _ hF,BA,Fl];constructor
   . rintro(⟨i,U3,h1,h2,h3⟩ | h1)
     . rw[aY]at h2;by_cases Dp:j=i
       . obtain⟨_,e1,e2⟩:=hF.uniq hj h1 (.inl Dp);subst e1; subst e2;rw[Ch,h3];simp
       . have hS:S.testBit i=true:=by simpa[Dp]using h2
         have HY:¬ d=r:=fun e=>Dp ((hF.uniq hj h1 (.inr e)).1)
         have:look (view base S bsF).rt r=some R:=(jt _ hF _ _).2 (.inl ⟨i,U3,h1,hS,h3⟩);cases p.2 <;> simp[HY,this]
     . have HY:¬ d=r:=fun e=>by rw[<- e,n2]at h1; simp at h1
       have:look (view base S bsF).rt r=some R:=(jt _ hF _ _).2 (.inr h1);cases p.2 <;> simp[HY,this]
   . intro h1;have old:look (view base S bsF).rt r=some R->(∃ i p,(i,r,p)∈bsF/\(S ||| 2 ^ j).testBit i=true/\p.2=some R)∨look base.rt r=some R:=fun h1=>by
      rw[jt _ hF]at h1;rcases h1 with ⟨i,U3,k1,k2,k3⟩ | h1
      . exact .inl ⟨i,U3,k1,by rw[aY,k2]; rfl,k3⟩
      . exact .inr h1
     cases hp:p.2 with
     | none=>rw[hp]at h1; exact old h1
     | some R0 =>
       rw[hp]at h1;simp only at h1;by_cases HY:d=r
       . rw[if_pos HY]at h1;subst HY;exact .inl ⟨j,p',hj,by rw[aY]; simp,by rw[<- Ch,hp]; exact h1⟩
       . rw[if_neg HY]at h1; exact old h1
 . have old:¬ d=t->look (view base S bsF).tm t=some tv->t<a.tmps.size/\bW Z g (stX.a8 d p) w tv (a.tmps.getD t undef):=fun hdt h1=>by
    obtain⟨ko,k1,k2⟩:=Fm t tv h1;have:=h.tm t ko (by rw[cC,if_neg hdt]; exact k1);exact⟨this.1,k2 _ _ _ _ _ this.2⟩
   rw[e8 _ hF]at ht;rcases ht with ⟨i,U3,h1,h2,rfl⟩ | h1
   . rw[aY]at h2;by_cases Dp:j=i
     . obtain⟨_,e1,e2⟩:=hF.uniq hj h1 (.inl Dp);subst e1; subst e2;have:=h.tm d p.1 (by rw[cC,if_pos rfl]);exact⟨this.1,yn _ _ _ _ _ this.2⟩
     . have hS:S.testBit i=true:=by simpa[Dp]using h2
       exact old (fun e=>Dp ((hF.uniq hj h1 (.inr e)).1)) ((e8 _ hF _ _).2 (.inl ⟨i,U3,h1,hS,rfl⟩))
   . exact old (fun e=>by rw[<- e,n1]at h1; simp at h1) ((e8 _ hF _ _).2 (.inr h1))
theorem N4(hF:eK nt base bsF){j d:Nat}{p':TV×Option Rt}(hj:(j,d,p')∈bsF)(hS:S.testBit j=false){gP:St}:(over gP (view base S bsF)).free d=true:=by
 have:look (view base S bsF).rt d=none:=by
  cases hl:look (view base S bsF).rt d with
  | none=>rfl
  | some R =>
    rw[jt _ hF]at hl;rcases hl with ⟨i,U3,h1,h2,_⟩ | hl
    . rw[(hF.uniq hj h1 (.inr rfl)).1,h2]at hS; simp at hS
    . rw[(hF.mem hj).2.2]at hl; simp at hl
 show(match look (view base S bsF).rt d with | none=>true | some _=>false)=true;rw[this]
def En.Cy(E:En)(t:Nat):Prop:=E.dB t=true
def Fit{P:Program}(cx:Cx P)(E:En)(a:Act):Prop:=E.nt<=a.tmps.size/\∀ t v,cx.nx t=some v->iW E.pins t=true
theorem Fit.dst{P:Program}{cx:Cx P}{a:Act}(h:Fit cx E a){d:Nat}(hd:E.Cy d):kM cx a d:=by
 unfold En.Cy En.dB at hd;simp only[ame,am0]at hd;refine⟨amC (anj (amA hd.1)) h.1,?_⟩;cases hp:cx.nx d with
 | none=>rfl
 | some v=>rw[h.2 d v hp]at hd; simp at hd
theorem Fit.put{P:Program}{cx:Cx P}{a:Act}(h:Fit cx E a)(d:Option Nat)(v:Value):Fit cx E (a.put d v):=⟨by rw[vl]; exact h.1,h.2⟩
def sj(P:Program)(E:En)(ops:Array Oper)(ns:List Nat)(base:St)(bsF:Bd)(i0 j:Nat):Prop :=
 ∀(cx:Cx P) (S:Nat) (a:Act) (w:World) (Z:Nat->Prop) (g:Gh) (next:Act->World->Prop) (Q:Exit->Act->World->Prop),
  (∀ i,i0<=i->i<j->(ns.getD j cU).testBit i=true->S.testBit i=true)->S.testBit j=false->Rel cx Z g (view base S bsF) a w->Fit cx E a ->
  (∀ Z' g' a' w',Rel cx Z' g' (view base (S ||| 2 ^ j) bsF) a' w'->Fit cx E a'->next a' w')->wpOp P ops Q j next a w
variable{ops:Array Oper}{ns:List Nat}{i0:Nat}
theorem Gw(hT:cH P E)(eF:dO P E){j d:Nat}{o:Oper}{p p':TV×Option Rt}(ho:ops[j]? = some o)(hd:o.dst=some d)(hF:eK E.Cy base bsF)(hj:(j,d,p')∈bsF)(Ch:p.2=p'.2)(yn:gp p.1 p'.1)
 {gP:St}(hq:(zj E gP d o.op).run=some p){cx:Cx P}{S:Nat}{a:Act}{w:World}{Z:Nat->Prop}{g:Gh}{next:Act->World->Prop}{Q:Exit->Act->World->Prop}(hS:S.testBit j=false)(h:Rel cx Z g (view base S bsF) a w)(dh:Fit cx E a)
 (f:Fits gP (view base S bsF) a)(hw:Region.wanted o (yielded ops a.tmps)=true)(hn:∀ Z' g' a' w',Rel cx Z' g' (view base (S ||| 2 ^ j) bsF) a' w'->Fit cx E a'->next a' w'):wpOp P ops Q j next a w:=by
 unfold wpOp;simp only[ho,hw,if_true];refine .inl ?_;have cE:kM cx a d:=dh.dst (hF.mem hj).1;refine Co hT eF f.ext (f.rel h) f.cons hd cE (N4 hF hj hS) hq _ _ fun Z' g' v w' hr=>hn Z' g' _ w' ?_ (dh.put _ _)
 exact F5 hF hj hr (fun _=>rfl) (fun t tv ht=>f.back ht) Ch yn
theorem C3{j d:Nat}{o:Oper}{p':TV×Option Rt}(ho:ops[j]? = some o)(hd:o.dst=some d)(hF:eK E.Cy base bsF)(hj:(j,d,p')∈bsF)(Ch:p'.2=none)
 {cx:Cx P}{S:Nat}{a:Act}{w:World}{Z:Nat->Prop}{g:Gh}{next:Act->World->Prop}{Q:Exit->Act->World->Prop}(h:Rel cx Z g (view base S bsF) a w)(dh:Fit cx E a)
 (yn:∀(Z:Nat->Prop) (g:Gh) (st:St) (w:World),bW Z g st w p'.1 undef)(hw:Region.wanted o (yielded ops a.tmps)=false)(hn:∀ Z' g' a' w',Rel cx Z' g' (view base (S ||| 2 ^ j) bsF) a' w'->Fit cx E a'->next a' w'):wpOp P ops Q j next a w:=by
 unfold wpOp;simp only[ho,hw,amX,anu];have cE:kM cx a d:=dh.dst (hF.mem hj).1;rw[hd];refine hn Z g _ w ?_ (dh.put _ _);exact F5 hF hj (h.ot cE (tv:=p'.1) (yn _ _ _ _)) (fun _=>rfl) (fun t tv ht=>⟨tv,ht,gp.refl _⟩) Ch.symm (gp.refl _)
theorem Cr{o:Oper}{j:Nat}{want x:Bool}{og:Oper}{gt:Nat}(hg:o.guard=some (j,want))(ho:ops[j]? = some og)(hd:og.dst=some gt){a:Act}(hv:a.tmps.getD gt undef= .bool x):Region.wanted o (yielded ops a.tmps)=(x == want):=by
 have:a.tmps[gt]? = some (.bool x):=by
  rw[amn]at hv;cases hh:a.tmps[gt]? with
  | none=>rw[hh]at hv; simp[undef]at hv
  | some v=>rw[hh]at hv; simpa using hv
 simp only[Region.wanted,hg,yielded,ho,oB,hd,this];cases x <;> cases want <;> rfl
end
section
variable{Z:Nat->Prop}{g:Gh}{st:St}{w:World}
theorem sd{gg:Bool}{l:List AV}{v:Value}:bW Z g st w (fN gg l) v↔(match fN gg l with | .v a=>bC Z g st w a v | .agg l=>∃ vs:Array Value,v= .agg vs/\ba Z g st w l vs.toList | _=>True):=by unfold fN;split <;> simp[bW]
end
theorem Eb{q:Nat}{want y gg:Bool}{l:List AV}(hy:y=want):gp (.may q want y gg l) (fN gg l)/\gp (fN gg l) (.may q want y gg l) :=
 ⟨fun Z g st w v h=>sd.2 (h hy),fun Z g st w v h _=>sd.1 h⟩
theorem HL{q:Nat}{want y gg:Bool}{l:List AV}:gp (fN gg l) (.may q want y gg l):=fun Z g st w v h _=>sd.1 h
theorem AP(x:Bool):gp (.v (.d .bool x)) (.v (.lb x))/\gp (.v (.lb x)) (.v (.d .bool x)):=⟨fun _ _ _ _ _ h=>h,fun _ _ _ _ _ h=>h⟩
theorem RI(x:Bool):ic (.v (.lb x)) x:=fun _ _ _ _ _ h=>h
theorem Em{st:St}(hc:qq st){t:Nat}{tv:TV}(h:st.tv t=some tv):∃ tq,look st.tm t=some tq/\gp tq tv/\gp tv tq:=by
 unfold St.tv at h;cases hl:look st.tm t with
 | none=>simp[hl]at h
 | some xp =>
   rw[hl]at h;refine⟨xp,rfl,?_⟩;cases xp with
   | may q want y gg l =>
     simp only at h;cases hq:look st.tm q with
     | none=>simp[hq]at h
     | some tq =>
       simp only[hq]at h;have ht:=hc t q want y gg l hl tq hq;split at h
       . rename_i x he;have he:tq= .v (.lb x):=by simpa using he
         subst he;have:=ht.lb;subst this;split at h
         . simp only[amd]at h; subst h; exact Eb rfl
         . simp only[amd]at h; subst h; exact Eb rfl
         . simp at h
       . simp only[amd]at h; subst h; exact⟨gp.refl _,gp.refl _⟩
       . simp at h
   | _=>simp only[amd]at h; subst h; exact⟨gp.refl _,gp.refl _⟩
theorem rr{gt:Nat}{x:Bool}:∀ {bs:Bd} {i t:Nat} {p:TV×Option Rt},(i,t,p)∈ie gt x bs->∃ p0,(i,t,p0)∈bs
 | [],_,_,_,h=>by simp[ie]at h
 | (i0,t0,p0)::r,i,t,p,h=>by
   unfold ie at h;cases hb:Nat.beq t0 gt with
   | true =>
     simp only[hb,oT]at h;rcases amo.1 h with h | h
     . cases h; exact⟨p0,amz ..⟩
     . exact⟨p,amt _ h⟩
   | false =>
     simp only[hb,oF]at h;rcases amo.1 h with h | h
     . cases h; exact⟨p0,amz ..⟩
     . obtain⟨p1,h1⟩:=rr h;exact⟨p1,amt _ h1⟩
theorem AO{nt:Nat->Prop}{base:St}{gt:Nat}{x:Bool}:∀ {bs:Bd},eK nt base bs->eK nt base (ie gt x bs)
 | [],h=>h
 | (i0,t0,p0)::r,h=>by
   obtain⟨h1,h2,h3,h4,h5⟩:=h;unfold ie;cases hb:Nat.beq t0 gt with
   | true=>exact⟨h1,h2,h3,h4,h5⟩
   | false => refine⟨h1,h2,h3,fun e he => ?_,AO h5⟩;obtain⟨i,t,p⟩:=e;obtain⟨p1,hp⟩:=rr he;exact h4 (i,t,p1) hp
theorem rq{nt:Nat->Prop}{base:St}{gt:Nat}{x:Bool}:∀ {bs:Bd},eK nt base bs->∀ {i t:Nat} {p:TV×Option Rt},(i,t,p)∈ie gt x bs↔(t≠gt/\(i,t,p)∈bs)∨(t=gt/\∃ p0,(i,gt,p0)∈bs/\p=(.v (.lb x),p0.2))
 | [],_,i,t,p=>by simp[ie]
 | (i0,t0,p0)::r,hb,i,t,p=>by
   obtain⟨h1,h2,h3,h4,h5⟩:=hb;have ih:=rq (gt:=gt) (x:=x) h5 (i:=i) (t:=t) (p:=p);unfold ie;cases hb:Nat.beq t0 gt with
   | true =>
     have e:=beq_eq hb;subst e;simp only[oT];constructor
     . intro h;rcases amo.1 h with h | h
       . cases h; exact .inr ⟨rfl,p0,amz ..,rfl⟩
       . exact .inl ⟨(h4 _ h).2,amt _ h⟩
     . rintro(⟨cY,h⟩ | ⟨rfl,p1,h,rfl⟩)
       . rcases amo.1 h with h | h
         . cases h; exact absurd rfl cY
         . exact amt _ h
       . rcases amo.1 h with h | h
         . cases h; exact amz ..
         . exact absurd rfl (h4 _ h).2
   | false =>
     have cY:t0≠gt:=fun e=>by subst e; simp at hb
     simp only[oF];constructor
     . intro h;rcases amo.1 h with h | h
       . cases h; exact .inl ⟨cY,amz ..⟩
       . rcases ih.1 h with ⟨h6,h7⟩ | ⟨rfl,p1,h6,rfl⟩
         . exact .inl ⟨h6,amt _ h7⟩
         . exact .inr ⟨rfl,p1,amt _ h6,rfl⟩
     . rintro(⟨HU,h⟩ | ⟨rfl,p1,h,rfl⟩)
       . rcases amo.1 h with h | h
         . cases h; exact amz ..
         . exact amt _ (ih.2 (.inl ⟨HU,h⟩))
       . rcases amo.1 h with h | h
         . cases h; exact absurd rfl cY
         . exact amt _ (ih.2 (.inr ⟨rfl,p1,h,rfl⟩))
section
variable{nt:Nat->Prop}{base:St}{bs:Bd}{gt d:Nat}{x:Bool}
def qv(base:St)(bs:Bd)(gt:Nat)(x:Bool):Prop:=∃ tq,look (aG base bs).tm gt=some tq/\gp tq (.v (.lb x))/\gp (.v (.lb x)) tq
theorem xB(hb:eK nt base bs)(hk:qv base bs gt x):eE bs (ie gt x bs):=fun i t p h=>by
 by_cases ht:t=gt
 . subst ht;refine⟨(.v (.lb x),p.2),(rq hb).2 (.inr ⟨rfl,p,h,rfl⟩),rfl,?_⟩;obtain⟨tq,h1,h2,h3⟩:=hk;have:look (aG base bs).tm t=some p.1:=(ct hb _ _).2 (.inl ⟨i,p,h,rfl⟩);rw[this]at h1;simp only[amd]at h1;subst h1;exact⟨h2,h3⟩
 . exact⟨p,(rq hb).2 (.inl ⟨ht,h⟩),Alike.refl p⟩
theorem Ru(hb:eK nt base bs)(hm:MB (aG base bs))(hk:qv base bs gt x):MB (aG base (ie gt x bs)):=by
 have cz:=AO (gt:=gt) (x:=x) hb;intro d q want y gg l hl;have old:look (aG base bs).tm d=some (.may q want y gg l):=by
  rw[ct cz]at hl;rw[ct hb];rcases hl with ⟨i,p,h1,h2⟩ | hl
  . rcases(rq hb).1 h1 with ⟨h3,h4⟩ | ⟨rfl,p0,h3,rfl⟩
    . exact .inl ⟨i,p,h4,h2⟩
    . simp at h2
  . exact .inr hl
 obtain⟨tq,h1,h2⟩:=hm d q want y gg l old;have vM:=h1;rw[ct hb]at h1;rcases h1 with ⟨i,p,h3,rfl⟩ | h1
 . obtain⟨p',h4,h5⟩:=xB hb hk i q p h3;exact⟨p'.1,(ct cz _ _).2 (.inl ⟨i,p',h4,rfl⟩),ic.of h5.2.2 h2⟩
 . exact⟨tq,(ct cz _ _).2 (.inr h1),h2⟩
theorem xd:∀ {bs:Bd} {gt:Nat},lL gt bs=false->∀ e∈bs,e.2.1≠gt
 | [],_,_,_,h=>by simp at h
 | (i0,t0,p0)::r,gt,h,e,he=>by
   simp only[lL,anZ]at h;rcases amo.1 he with he | he
   . subst he; intro h'; subst h'; have:=h.1; simp at this
   . exact xd h.2 e he
theorem eK.yJ{b:Bool}(Mg:b=true->nt d)(hb:eK nt base bs){i:Nat}{p:TV×Option Rt}(h1:(b&&pL base d&&base.free d&& !lL d bs)=true)(hi:∀ e∈bs,e.1≠i):eK nt base ((i,d,p)::bs):=by
 simp only[ame,am0]at h1;obtain⟨⟨⟨h1,h2⟩,h3⟩,h4⟩:=h1;refine⟨?_,?_,kI h3,fun e he=>⟨hi e he,xd h4 e he⟩,hb⟩
 . exact Mg h1
 . unfold pL at h2;split at h2
   . assumption
   . simp at h2
theorem MB.yJ(hm:MB (aG base bs)){i d:Nat}{p:TV×Option Rt}(hb:eK nt base ((i,d,p)::bs))(hp:∀ q want y gg l,p.1= .may q want y gg l->∃ tq,look (aG base bs).tm q=some tq/\ic tq y):MB (aG base ((i,d,p)::bs)):=by
 have cY:∀ q tq,look (aG base bs).tm q=some tq->¬ d=q:=fun q tq hq e=>by
  subst e;rw[ct hb.2.2.2.2]at hq;rcases hq with ⟨i',p',h1,_⟩ | hq
  . exact absurd rfl (hb.2.2.2.1 _ h1).2
  . rw[hb.2.1]at hq; simp at hq
 intro t q want y gg l hl;have hl:look ((aG base bs).a8 d p).tm t=_:=hl;rw[cC]at hl;have fin:(∃ tq,look (aG base bs).tm q=some tq/\ic tq y)->∃ tq,look (aG base ((i,d,p)::bs)).tm q=some tq/\ic tq y:=by rintro⟨tq,h1,h2⟩;refine⟨tq,?_,h2⟩;show look ((aG base bs).a8 d p).tm q=_;rw[cC,if_neg (cY q tq h1)];exact h1
 by_cases ht:d=t
 . rw[if_pos ht]at hl;exact fin (hp q want y gg l (by simpa using hl))
 . rw[if_neg ht]at hl;exact fin (hm t q want y gg l hl)
end
theorem Gy(f:Nat×TV->Nat×TV)(hf:∀ p,(f p).1=p.1):∀(l:List (Nat×TV)) (t:Nat),look (l.map f) t=(look l t).map fun tv=>(f (t,tv)).2
 | [],t=>rfl
 | (m,x)::l,t=>by
   have h1:(f (m,x)).1=m:=hf _;show look (f (m,x)::l.map f) t=_;have:f (m,x)=(m,(f (m,x)).2):=Prod.ext h1 rfl;rw[this,aN,aN];by_cases h:m=t
   . subst h; simp
   . simp[h,Gy f hf l t]
def ve(gt:Nat)(want:Bool):TV->TV
 | .may t w' y g' l=>bif Nat.beq t gt&&cw w' want then fN g' l else .may t w' y g' l
 | tv=>tv
theorem Hp(st:St)(gt:Nat)(want:Bool)(t:Nat):look (st.under gt want).tm t=(look st.tm t).map (ve gt want):=by
 unfold St.under;rw[Gy]
 . cases look st.tm t with
   | none=>rfl
   | some tv =>
     cases tv with
     | may q w' y g' l => simp only[amE,ve];cases Nat.beq q gt&&cw w' want <;> rfl
     | _=>rfl
 . rintro⟨t,tv⟩;cases tv with
   | may q w' y g' l => simp only;cases Nat.beq q gt&&cw w' want <;> rfl
   | _=>rfl
theorem Fits.under{gP pW:St}{a:Act}(f:Fits gP pW a){gt:Nat}{want:Bool}(hy:∀ tq,look pW.tm gt=some tq->∀ y,ic tq y->y=want)(hg:∃ tq,look pW.tm gt=some tq):Fits (gP.under gt want) pW a where
 rt:=f.rt
 tm:=fun t xp h=>by
  rw[Hp]at h;cases hl:look gP.tm t with
  | none=>simp[hl]at h
  | some tv1 =>
    rw[hl]at h;simp only[amE,amd]at h;subst h;obtain⟨tv,h1,h2,h3⟩:=f.tm t tv1 hl;cases tv1 with
    | may q w' y g' l =>
      simp only[ve];cases hb:Nat.beq q gt&&cw w' want with
      | false=>exact⟨tv,h1,h2,h3⟩
      | true => simp only[oT];simp only[ame]at hb;have e1:=beq_eq hb.1;have e2:=eL hb.2;subst e1; subst e2;obtain⟨tq,vQ⟩:=hg;have hyy:=hy tq vQ y (f.may t q w' y g' l hl tq vQ);have hs:=Eb (q:=q) (gg:=g') (l:=l) hyy;exact⟨tv,h1,hs.2.trans h2,fun Z g st w hr=>hs.1 _ _ _ _ _ (h3 Z g st w hr)⟩
    | _=>exact⟨tv,h1,h2,h3⟩
 may:=fun d q w' y gg l h=>by
  rw[Hp]at h;cases hl:look gP.tm d with
  | none=>simp[hl]at h
  | some tv1 =>
    rw[hl]at h;simp only[amE,amd]at h;cases tv1 with
    | may q1 w1 y1 g1 l1 =>
      simp only[ve]at h;cases hb:Nat.beq q1 gt&&cw w1 want with
      | true=>rw[hb]at h; exact(lY h).elim
      | false => rw[hb]at h;simp only[oF,TV.may.injEq]at h;obtain⟨rfl,rfl,rfl,rfl,rfl⟩:=h;exact f.may d _ _ _ _ _ hl
    | _=>simp[ve]at h
 mayS:=f.mayS
theorem J5{gt:Nat}{want x:Bool}{t:Tr (TV×Option Rt)}{tv:TV}(h:Ga gt want x t=some tv):∃ gg l,t.run=some (fN gg l,none)/\tv= .may gt want x gg l:=by
 unfold Ga at h;split at h
 . rename_i a;simp only[amd]at h;exact⟨false,[a],rfl,h.symm⟩
 . rename_i l;simp only[amd]at h;exact⟨true,l,by cases l <;> rfl,h.symm⟩
 . simp at h
def cJ(st:St):Prop:=∀ t tv,look st.tm t=some tv->¬ tv.iK
theorem cJ.cons{st:St}(h:cJ st):qq st:=fun d q want y gg l hl=>(h d _ hl trivial).elim
theorem cJ.MB{st:St}(h:cJ st):MB st:=fun d q want y gg l hl=>(h d _ hl trivial).elim
section
variable{P:Program}{E:En}{ops:Array Oper}{ns:List Nat}{base:St}{i0:Nat}
def acj(ops:Array Oper)(i t:Nat):Prop:=∃ o,ops[i]? = some o/\o.dst=some t
def lH(P:Program)(E:En)(dr:Bool)(ops:Array Oper)(ns:List Nat)(base:St)(i0 i:Nat)(bs:Bd)(stF:St):Prop :=
 ∃(i1:Nat) (bsF:Bd),i<=i1/\eK E.Cy base bsF/\MB (aG base bsF)/\(∀ e∈bsF,i0<=e.1/\e.1<i1/\acj ops e.1 e.2.1)/\(bO ops.toList=false->∀ i t p,(i,t,p)∈bsF->¬ p.1.iK)/\eE bs bsF /\
  (∀ j,i<=j->j<i1->sj P E ops ns base bsF i0 j) /\
  ((i1=ops.size/\stF=lx (bO ops.toList) (aG base bsF)) ∨
    ∃(o:Oper) (ay:St),ops[i1]? = some o/\o.guard=none/\(dr=true->kd ns i1=true)/\xF E o.dst=true/\(Cf E (lx (bO ops.toList) (aG base bsF)) o.dst o.op).run=some ay/\(fP E dr ops.toList ns (ops.toList.drop (i1+1)) (i1+1) ay []).run=some stF)
theorem lH.step{dr:Bool}{i:Nat}{d:Nat}{p:TV×Option Rt}{bs kU:Bd}{stF:St}(h:lH P E dr ops ns base i0 (i+1) ((i,d,p)::kU) stF)(hl:eE bs kU)
 (hs:∀ bsF,eK E.Cy base bsF->MB (aG base bsF)->eE ((i,d,p)::kU) bsF->sj P E ops ns base bsF i0 i):lH P E dr ops ns base i0 i bs stF:=by
 obtain⟨i1,bsF,h1,h2,h3,h4,h5,h6,h7,h8⟩:=h;refine⟨i1,bsF,by omega,h2,h3,h4,h5,(hl.trans (eE.cons (eE.refl kU))).trans h6,fun j hj HZ => ?_,h8⟩;by_cases Ik:i=j
 . subst Ik; exact hs bsF h2 h3 h6
 . exact h7 j (by omega) HZ
theorem o6{e:Nat×Nat×(TV×Option Rt)}{bs bsF:Bd}(h:eE (e::bs) bsF):eE bs bsF:=fun i t p hp=>h i t p (amt _ hp)
theorem qv.of{nt:Nat->Prop}{bs:Bd}{mask gt:Nat}{x:Bool}{tv:TV}(hb:eK nt base bs)(hm:MB (aG base bs))(h:(view base mask bs).tv gt=some tv)(hx:gp tv (.v (.lb x))/\gp (.v (.lb x)) tv):qv base bs gt x:=by
 have up:Ext (view base mask bs) (aG base bs):=by
  refine⟨fun t tv h => ?_,fun r R h => ?_⟩
  . rw[ct hb];rw[e8 _ hb]at h;rcases h with ⟨i,p,h1,h2,h3⟩ | h
    . exact .inl ⟨i,p,h1,h3⟩
    . exact .inr h
  . rw[jw base (bitsOf bs) bs (fun i t p h=>eZ h),jt _ hb];rw[jt _ hb]at h;rcases h with ⟨i,p,h1,h2,h3⟩ | h
    . exact .inl ⟨i,p,h1,eZ h1,h3⟩
    . exact .inr h
 obtain⟨tq,h1,h2,h3⟩:=Em hm.cons (up.tv h);exact⟨tq,h1,h2.trans hx.1,hx.2.trans h3⟩
theorem qv.agT{bs:Bd}{gt:Nat}{x:Bool}(h:qv base bs gt x):∃ tq,look (aG base bs).tm gt=some tq/\ic tq x:=by obtain⟨tq,h1,h2,h3⟩:=h;exact⟨tq,h1,ic.of h2 (RI x)⟩
theorem Ix{j gt:Nat}(h:mh ops.toList j=some gt):∃ og,ops[j]? = some og/\og.dst=some gt:=by
 unfold mh at h;split at h
 . rename_i o ho;rw[amh]at ho;exact⟨o,ho,h⟩
 . simp at h
theorem Gz{P:Program}{cx:Cx P}{Z:Nat->Prop}{g:Gh}{gP pW:St}{a:Act}{w:World}(f:Fits gP pW a)(h:Rel cx Z g pW a w){gt:Nat}{tv:TV}{x:Bool}(ht:gP.tv gt=some tv)(hx:gp tv (.v (.lb x))):a.tmps.getD gt undef= .bool x :=
 hx _ _ _ _ _ (jJ (f.rel h) f.cons.cons (f.ext.tv ht))
theorem JO{P:Program}{cx:Cx P}{Z:Nat->Prop}{g:Gh}{gP pW:St}{a:Act}{w:World}(f:Fits gP pW a)(h:Rel cx Z g pW a w){gt:Nat}(ht:gP.tv gt=some (.tup [])):a.tmps.getD gt undef=undef:=by
 obtain⟨vs,e,hv⟩:=(jJ (f.rel h) f.cons.cons (f.ext.tv ht):bW Z g _ w (.tup []) _);cases hl:vs.toList with
 | nil =>
   have:vs = #[]:=by cases vs; simp_all
   rw[e,this]; rfl
 | cons _ _=>rw[hl]at hv; exact hv.elim
theorem SU{nt:Nat->Prop}{bs:Bd}{mask d:Nat}{op:Op}{p:TV×Option Rt}(hb:eK nt base bs)(hm:MB (aG base bs))(hq:(zj E (view base mask bs) d op).run=some p):∀ q want y gg l,p.1= .may q want y gg l->∃ tq,look (aG base bs).tm q=some tq/\ic tq y:=by
 intro q want y gg l hp;obtain⟨d',Pf⟩:=LY hq (by rw[hp]; trivial);rw[hp]at Pf;refine hm d' q want y gg l ?_;rw[ct hb];rw[e8 _ hb]at Pf;rcases Pf with ⟨i,p',h1,h2,h3⟩ | h
 . exact .inl ⟨i,p',h1,h3⟩
 . exact .inr h
theorem nb{i:Nat}{o:Oper}{gd:Nat×Bool}(h:ops[i]? = some o)(hg:o.guard=some gd):bO ops.toList=true:=by unfold bO;rw[aoV];refine⟨o,?_,by rw[hg]⟩;rw[<- amh]at h;exact amk h
structure jP (E:En) (ops:Array Oper) (base:St) (i0 i:Nat) (bs:Bd):Prop where
 ok:eK E.Cy base bs
 mb:MB (aG base bs)
 idx:∀ e∈bs,i0<=e.1/\e.1<i/\acj ops e.1 e.2.1
 ng:bO ops.toList=false->∀ i t p,(i,t,p)∈bs->¬ p.1.iK
def vK(E:En)(base:St)(d:Nat)(bs:Bd):Bool:=E.dB d&&pL base d&&base.free d&& !lL d bs
theorem jP.fits{i:Nat}{bs bsF:Bd}(hs:jP E ops base i0 i bs)(hF:eK E.Cy base bsF)(Fa:MB (aG base bsF))(hl:eE bs bsF){S:Nat}(hS:∀ i',i0<=i'->i'<i->(ns.getD i cU).testBit i'=true->S.testBit i'=true){a:Act}:Fits (view base (ns.getD i cU) bs) (view base S bsF) a :=
 Mu hs.ok hF hl hs.mb Fa fun i' t' p' h1 h2=>hS i' (hs.idx _ h1).1 (hs.idx _ h1).2.1 h2
theorem AU{dr:Bool}{i:Nat}{r:List Oper}(ih:∀(bs:Bd) (stF:St),jP E ops base i0 (i+1) bs->(fP E dr ops.toList ns r (i+1) base bs).run=some stF->lH P E dr ops ns base i0 (i+1) bs stF)(Dq:i0<=i)
 {bs kU:Bd}{d:Nat}{p:TV×Option Rt}{stF:St}(hs:jP E ops base i0 i kU)(hl:eE bs kU)(hd:vK E base d kU=true)(hp:∀ q want y gg l,p.1= .may q want y gg l->∃ tq,look (aG base kU).tm q=some tq/\ic tq y)(hpm:bO ops.toList=false->¬ p.1.iK)(mV:acj ops i d)
 (au:(fP E dr ops.toList ns r (i+1) base ((i,d,p)::kU)).run=some stF)(oQ:∀ bsF,eK E.Cy base bsF->MB (aG base bsF)->eE ((i,d,p)::kU) bsF->sj P E ops ns base bsF i0 i):lH P E dr ops ns base i0 i bs stF:=by
 have hbc:eK E.Cy base ((i,d,p)::kU):=eK.yJ (fun h=>h) hs.ok hd fun e he=>Nat.ne_of_lt (hs.idx e he).2.1
 refine lH.step (ih ((i,d,p)::kU) stF ⟨hbc,hs.mb.yJ hbc hp,fun e he => ?_,fun h0 i' t' p' Fb => ?_⟩ au) hl oQ
 . rcases amo.1 he with he | he
   . subst he; exact⟨Dq,ane i,mV⟩
   . have:=hs.idx e he; exact⟨this.1,apa this.2.1,this.2.2⟩
 . rcases amo.1 Fb with he | he
   . cases he; exact hpm h0
   . exact hs.ng h0 i' t' p' he
theorem LB(hT:cH P E)(eF:dO P E){i:Nat}{o:Oper}(ho:ops[i]? = some o){kU:Bd}{d:Nat}{p:TV×Option Rt}(hs:jP E ops base i0 i kU)(hd:o.dst=some d)(hq:(zj E (view base (ns.getD i cU) kU) d o.op).run=some p)
 (hw:∀(cx:Cx P) (a:Act) (w:World) (Z:Nat->Prop) (g:Gh) (bsF:Bd) (S:Nat),eK E.Cy base bsF->MB (aG base bsF)->eE kU bsF->(∀ i',i0<=i'->i'<i->(ns.getD i cU).testBit i'=true->S.testBit i'=true)->Rel cx Z g (view base S bsF) a w->Region.wanted o (yielded ops a.tmps)=true) :
 ∀ bsF,eK E.Cy base bsF->MB (aG base bsF)->eE ((i,d,p)::kU) bsF->sj P E ops ns base bsF i0 i:=by
 intro bsF hF Fa hl cx S a w Z g next Q hS hSi h dh hn;obtain⟨p',hj,U4⟩:=hl i d p (amz ..);exact Gw hT eF ho hd hF hj U4.1 U4.2.1 hq hSi h dh (hs.fits hF Fa (o6 hl) hS) (hw cx a w Z g bsF S hF Fa (o6 hl) hS h) hn
theorem FN{i:Nat}{o:Oper}(ho:ops[i]? = some o){kU:Bd}{d:Nat}(hs:jP E ops base i0 i kU)(hd:o.dst=some d)
 (hw:∀(cx:Cx P) (a:Act) (w:World) (Z:Nat->Prop) (g:Gh) (bsF:Bd) (S:Nat),eK E.Cy base bsF->MB (aG base bsF)->eE kU bsF->(∀ i',i0<=i'->i'<i->(ns.getD i cU).testBit i'=true->S.testBit i'=true)->Rel cx Z g (view base S bsF) a w->Region.wanted o (yielded ops a.tmps)=false) :
 ∀ bsF,eK E.Cy base bsF->MB (aG base bsF)->eE ((i,d,(.tup [],none))::kU) bsF->sj P E ops ns base bsF i0 i:=by
 intro bsF hF Fa hl cx S a w Z g next Q hS hSi h dh hn;obtain⟨p',hj,U4⟩:=hl i d _ (amz ..);exact C3 ho hd hF hj U4.1.symm h dh (fun Z g st w=>U4.2.1 _ _ _ _ _ ⟨#[],rfl,trivial⟩) (hw cx a w Z g bsF S hF Fa (o6 hl) hS h) hn
theorem G4{d:Nat}:∀ {bs:Bd},lL d bs=true->∃ i p,(i,d,p)∈bs
 | [],h=>by simp[lL]at h
 | (i0,t0,p0)::r,h=>by
   simp only[lL,anr]at h;rcases h with h | h
   . have:=beq_eq h; subst this; exact⟨i0,p0,amz ..⟩
   . obtain⟨i,p,h⟩:=G4 h; exact⟨i,p,amt _ h⟩
theorem Gr{d gt:Nat}{x:Bool}{bs:Bd}(h:vK E base d bs=true):vK E base d (ie gt x bs)=true:=by
 unfold vK at h ⊢;simp only[ame,am0]at h ⊢;refine⟨h.1,?_⟩;cases h3:lL d (ie gt x bs)with
 | false=>rfl
 | true => obtain⟨i',p',h4⟩:=G4 h3;obtain⟨p0,h5⟩:=rr h4;exact absurd rfl (xd h.2 _ h5)
theorem jP.ie{i:Nat}{bs:Bd}(hs:jP E ops base i0 i bs){gt:Nat}{x:Bool}(hk:qv base bs gt x)(hg:bO ops.toList=true):jP E ops base i0 i (Av.ie gt x bs) where
 ok:=AO hs.ok
 mb:=Ru hs.ok hs.mb hk
 idx:=fun e he=>by obtain⟨i',t',p'⟩:=e;obtain⟨p0,h1⟩:=rr he;exact hs.idx (i',t',p0) h1
 ng:=fun h0=>by rw[hg]at h0; simp at h0
theorem KR(hT:cH P E)(eF:dO P E){dr:Bool}{i:Nat}{r:List Oper}{o:Oper}(ih:∀(bs:Bd) (stF:St),jP E ops base i0 (i+1) bs->(fP E dr ops.toList ns r (i+1) base bs).run=some stF->lH P E dr ops ns base i0 (i+1) bs stF)(Dq:i0<=i)
 (ho:ops[i]? = some o){bs:Bd}{stF:St}(hs:jP E ops base i0 i bs){jg:Nat}{want x:Bool}(p9:o.guard=some (jg,want)){og:Oper}{gt d:Nat}(hog:ops[jg]? = some og)(H2:og.dst=some gt)(fM:o.dst=some d)(yo:vK E base d bs=true){tv:TV}
 (oV:(view base (ns.getD i cU) bs).tv gt=some tv)(hx:gp tv (.v (.lb x))/\gp (.v (.lb x)) tv){kU:Bd}(hs':jP E ops base i0 i kU)(Mh:eE bs kU)(xu:vK E base d kU=true)
 (au:(bif cw x want then ((zj E (view base (ns.getD i cU) kU) d o.op).bind fun p=>fP E dr ops.toList ns r (i+1) base ((i,d,p)::kU)).run else (fP E dr ops.toList ns r (i+1) base ((i,d,(.tup [],none))::kU)).run)=some stF):lH P E dr ops ns base i0 i bs stF:=by
 have HV:bO ops.toList=true:=nb ho p9;have OM:∀(cx:Cx P) (a:Act) (w:World) (Z:Nat->Prop) (g:Gh) (bsF:Bd) (S:Nat),eK E.Cy base bsF->MB (aG base bsF)->eE kU bsF->(∀ i',i0<=i'->i'<i->(ns.getD i cU).testBit i'=true->S.testBit i'=true)->Rel cx Z g (view base S bsF) a w->Region.wanted o (yielded ops a.tmps)=(x == want):=fun cx a w Z g bsF S hF Fa hl hS h =>
  Cr p9 hog H2 (Gz (hs.fits hF Fa (Mh.trans hl) hS) h oV hx.1)
 cases hxx:cw x want with
 | true =>
   simp only[hxx,oT]at au;rw[Tr.run_bind]at au;cases hq:(zj E (view base (ns.getD i cU) kU) d o.op).run with
   | none=>rw[hq]at au; simp at au
   | some p => rw[hq]at au;exact AU ih Dq hs' Mh xu (SU hs'.ok hs'.mb hq) (fun h0=>by rw[HV]at h0; simp at h0) ⟨o,ho,fM⟩ au (LB hT eF ho hs' fM hq fun cx a w Z g bsF S hF Fa hl hS h=>by rw[OM cx a w Z g bsF S hF Fa hl hS h,eL hxx]; simp)
 | false => simp only[hxx,oF]at au;refine AU ih Dq hs' Mh xu (fun q want y gg l h=>by simp at h) (fun h0=>by rw[HV]at h0; simp at h0) ⟨o,ho,fM⟩ au (FN ho hs' fM fun cx a w Z g bsF S hF Fa hl hS h => ?_);rw[OM cx a w Z g bsF S hF Fa hl hS h];cases x <;> cases want <;> simp_all[cw]
theorem VC(hT:cH P E)(eF:dO P E){dr:Bool}{i:Nat}{r:List Oper}{o:Oper}(ih:∀(bs:Bd) (stF:St),jP E ops base i0 (i+1) bs->(fP E dr ops.toList ns r (i+1) base bs).run=some stF->lH P E dr ops ns base i0 (i+1) bs stF)(Dq:i0<=i)
 (ho:ops[i]? = some o){bs:Bd}{stF:St}(hs:jP E ops base i0 i bs){jg:Nat}{want x:Bool}(p9:o.guard=some (jg,want)){og:Oper}{gt d:Nat}(hog:ops[jg]? = some og)(H2:og.dst=some gt)(fM:o.dst=some d)(yo:vK E base d bs=true)
 (oV:(view base (ns.getD i cU) bs).tv gt=some (.v (.d .bool x))){tv:TV}(H3:Ga gt want x (zj E ((view base (ns.getD i cU) bs).under gt want) d o.op)=some tv)
 (au:(fP E dr ops.toList ns r (i+1) base ((i,d,(tv,none))::bs)).run=some stF):lH P E dr ops ns base i0 i bs stF:=by
 have HV:bO ops.toList=true:=nb ho p9;have hk:qv base bs gt x:=qv.of hs.ok hs.mb oV (AP x);obtain⟨gg,l,hq,rfl⟩:=J5 H3;refine AU ih Dq hs (eE.refl _) yo (fun q want' y BU l' h => ?_) (fun h0=>by rw[HV]at h0; simp at h0) ⟨o,ho,fM⟩ au ?_
 . simp only[TV.may.injEq]at h;obtain⟨rfl,rfl,rfl,rfl,rfl⟩:=h;exact hk.agT
 . intro bsF hF Fa hl cx S a w Z g next Q hS hSi h dh hn;obtain⟨p',hj,U4⟩:=hl i d _ (amz ..);have f:Fits (view base (ns.getD i cU) bs) (view base S bsF) a:=hs.fits hF Fa (o6 hl) hS;have hv:a.tmps.getD gt undef= .bool x:=Gz f h oV (AP x).1;have hw:=Cr p9 hog H2 hv;by_cases hxw:x=want
   . subst hxw;obtain⟨tq,vQ⟩:∃ tq,look (view base S bsF).tm gt=some tq:=by
      have adQ:=oV;unfold St.tv at adQ;cases Ij:look (view base (ns.getD i cU) bs).tm gt with
      | none=>rw[Ij]at adQ; simp at adQ
      | some xp => obtain⟨tv1,h1,_⟩:=f.tm gt xp Ij;exact⟨tv1,h1⟩
     have fu:=f.under (gt:=gt) (want:=x) (fun tq' alm y ht=>by have:=ht _ _ _ _ _ (h.tm gt tq' alm).2;rw[hv]at this;simpa using this.symm) ⟨tq,vQ⟩;exact Gw hT eF ho fM hF hj (p:=(fN gg l,none)) U4.1 (HL.trans U4.2.1) hq hSi h dh fu (by rw[hw]; simp) hn
   . refine C3 ho fM hF hj U4.1.symm h dh (fun Z g st w=>U4.2.1 _ _ _ _ _ ?_) (by rw[hw]; simpa using hxw) hn;exact fun e=>absurd e hxw
theorem Nl(hT:cH P E)(eF:dO P E){dr:Bool}{i:Nat}{r:List Oper}{o:Oper}(ih:∀(bs:Bd) (stF:St),jP E ops base i0 (i+1) bs->(fP E dr ops.toList ns r (i+1) base bs).run=some stF->lH P E dr ops ns base i0 (i+1) bs stF)(Dq:i0<=i)
 (ho:ops[i]? = some o){bs:Bd}{stF:St}(hs:jP E ops base i0 i bs){jg:Nat}{want:Bool}(p9:o.guard=some (jg,want))(au:(fP E dr ops.toList ns (o::r) i base bs).run=some stF):lH P E dr ops ns base i0 i bs stF:=by
 unfold fP at au;rw[p9]at au;simp only at au;split at au
 . rename_i gt d hgt fM;obtain⟨og,hog,H2⟩:=Ix hgt;cases hc:E.dB d&&pL base d&&base.free d&& !lL d bs&& !qy o.op with
   | false=>rw[hc]at au; simp[Tr.run]at au
   | true =>
     rw[hc]at au;simp only[oT]at au;have yo:vK E base d bs=true:=by unfold vK;simp only[ame]at hc ⊢;exact hc.1
     split at au
     . rename_i x oV;refine KR hT eF ih Dq ho hs p9 hog H2 fM yo oV (x:=x) ⟨gp.refl _,gp.refl _⟩ hs (eE.refl _) yo ?_;rw[<- au];cases cw x want <;> rfl
     . rename_i x oV;have hk:qv base bs gt x:=qv.of hs.ok hs.mb oV (AP x);split at au
       . rename_i tv H3;have H3:Ga gt want x (zj E ((view base (ns.getD i cU) bs).under gt want) d o.op)=some tv:=by
          cases E7:Sz ops.toList i with
          | true=>rw[E7]at H3; simp at H3
          | false=>rw[E7]at H3; exact H3
         exact VC hT eF ih Dq ho hs p9 hog H2 fM yo oV H3 au
       . cases Pc:lL gt bs with
         | false=>rw[Pc]at au; simp[Tr.run]at au
         | true => rw[Pc]at au;simp only[oT]at au;have HV:bO ops.toList=true:=nb ho p9;refine KR hT eF ih Dq ho hs p9 hog H2 fM yo oV (x:=x) (AP x) (kU:=ie gt x bs) (hs.ie hk HV) (xB hs.ok hk) (Gr yo) ?_;rw[<- au];cases x <;> cases want <;> rfl
     . rename_i oV;have HV:bO ops.toList=true:=nb ho p9;refine AU ih Dq hs (eE.refl _) yo (fun q want y gg l h=>by simp at h) (fun h0=>by rw[HV]at h0; simp at h0) ⟨o,ho,fM⟩ au (FN ho hs fM fun cx a w Z g bsF S hF Fa hl hS h => ?_);have hv:=JO (hs.fits hF Fa hl hS) h oV;unfold Region.wanted yielded;rw[p9];simp only[hog,oB,H2];rw[amn]at hv;cases hq:a.tmps[gt]? with
       | none=>rfl
       | some v => rw[hq]at hv;simp only[anB]at hv;subst hv;rfl
     . simp[Tr.run]at au
 . simp[Tr.run]at au
theorem LQ{dr:Bool}{i:Nat}{r:List Oper}{o:Oper}(nN:r=ops.toList.drop (i+1))(ho:ops[i]? = some o){bs:Bd}{stF:St}(hs:jP E ops base i0 i bs)(h0:o.guard=none)(HY:(!dr||kd ns i)=true)(U5:xF E o.dst=true)
 (au:((Cf E (lx (bO ops.toList) (aG base bs)) o.dst o.op).bind fun ay=>fP E dr ops.toList ns r (i+1) ay []).run=some stF):lH P E dr ops ns base i0 i bs stF:=by
 rw[Tr.run_bind]at au;cases hw:(Cf E (lx (bO ops.toList) (aG base bs)) o.dst o.op).run with
 | none=>rw[hw]at au; simp at au
 | some ay => rw[hw]at au;refine⟨i,bs,oR _,hs.ok,hs.mb,hs.idx,hs.ng,eE.refl _,fun j h1 h2=>by omega,.inr ⟨o,ay,ho,h0,fun h1=>by simpa[h1]using HY,U5,hw,?_⟩⟩;rw[<- nN];exact au
theorem Oz(hT:cH P E)(eF:dO P E){dr:Bool}(vR:cJ base){i:Nat}{r:List Oper}{o:Oper}(ih:∀(bs:Bd) (stF:St),jP E ops base i0 (i+1) bs->(fP E dr ops.toList ns r (i+1) base bs).run=some stF->lH P E dr ops ns base i0 (i+1) bs stF)(Dq:i0<=i)
 (nN:r=ops.toList.drop (i+1))(ho:ops[i]? = some o){bs:Bd}{stF:St}(hs:jP E ops base i0 i bs)(p9:o.guard=none)(au:(fP E dr ops.toList ns (o::r) i base bs).run=some stF):lH P E dr ops ns base i0 i bs stF:=by
 unfold fP at au;rw[p9]at au;simp only at au;cases fM:o.dst with
 | none =>
   rw[fM]at au;simp only at au;cases hc:(!dr||kd ns i)with
   | false=>rw[hc]at au; simp[Tr.run]at au
   | true => rw[hc]at au;simp only[oT]at au;exact LQ nN ho hs p9 hc (by rw[fM]; rfl) (by rw[fM]; exact au)
 | some d =>
   rw[fM]at au;simp only at au;split at au
   . cases hc:(!dr||kd ns i)&&xF E (some d)with
     | false=>rw[hc]at au; simp[Tr.run]at au
     | true => rw[hc]at au;simp only[oT]at au;simp only[ame]at hc;exact LQ nN ho hs p9 hc.1 (by rw[fM]; exact hc.2) (by rw[fM]; exact au)
   . rw[Tr.run_bind]at au;cases hq:(AY E (ns.getD i cU) o d base bs (dr&& !kd ns i)).run with
     | none=>rw[hq]at au; simp at au
     | some p =>
       rw[hq]at au;simp only[oB]at au;unfold AY at hq;cases hia:(qy o.op&& !(dr&& !kd ns i))with
       | true=>rw[hia]at hq; simp[Tr.run]at hq
       | false =>
         rw[hia]at hq;simp only[oF]at hq;cases hc:E.dB d&&pL base d&&base.free d&& !lL d bs with
         | false=>rw[hc]at hq; simp[Tr.run]at hq
         | true =>
           rw[hc]at hq;simp only[oT]at hq;refine AU ih Dq hs (eE.refl _) hc (SU hs.ok hs.mb hq) (fun h0 hpm => ?_) ⟨o,ho,fM⟩ au (LB hT eF ho hs fM hq fun cx a w Z g bsF S hF Fa hl hS h=>by simp[Region.wanted,p9]);obtain⟨d',Pf⟩:=LY hq hpm;rw[e8 _ hs.ok]at Pf;rcases Pf with ⟨i',p',h1,h2,h3⟩ | h1
           . exact hs.ng h0 i' d' p' h1 (by rw[h3]; exact hpm)
           . exact vR d' _ h1 hpm
theorem ml(hT:cH P E)(eF:dO P E){dr:Bool}(vR:cJ base):∀(r:List Oper) (i:Nat),r=ops.toList.drop i->i<=ops.size->i0<=i->∀(bs:Bd) (stF:St),jP E ops base i0 i bs->(fP E dr ops.toList ns r i base bs).run=some stF->lH P E dr ops ns base i0 i bs stF
 | [],i,hr,hi,Dq,bs,stF,hs,au=>by
   simp only[fP,Tr.run,amd]at au;have:ops.size<=i:=by have:=amL List.length hr;simp at this;omega
   exact⟨i,bs,oR _,hs.ok,hs.mb,hs.idx,hs.ng,eE.refl _,fun j h1 h2=>by omega,.inl ⟨by omega,au.symm⟩⟩
 | o::r,i,hr,hi,Dq,bs,stF,hs,au=>by
   have aV:i<ops.size:=by
    rcases amv i ops.size with h | h
    . exact h
    . rw[List.drop_of_length_le (by simpa using h)]at hr; simp at hr
   have ho:ops[i]? = some o:=by have:=amL (·[0]?) hr;simp only[amj,anm,amJ,amh]at this;exact this.symm
   have nN:r=ops.toList.drop (i+1):=by have:=amL List.tail hr;simpa using this
   have ih:=ml hT eF (dr:=dr) vR r (i+1) nN aV (Nat.le_succ_of_le Dq);cases p9:o.guard with
   | none=>exact Oz hT eF vR ih Dq nN ho hs p9 au
   | some gd=>exact Nl hT eF ih Dq ho hs (jg:=gd.1) (want:=gd.2) p9 au
end
theorem xy(f:Nat×TV->Bool):∀(l:List (Nat×TV)) (t:Nat) (tv:TV),look (l.filter f) t=some tv->(∀ ko,look l t=some ko->f (t,ko)=true)->look l t=some tv
 | [],t,tv,h,_=>by simp[look]at h
 | (m,x)::r,t,tv,h,hv=>by
   rw[aN]at hv ⊢;by_cases hm:m=t
   . subst hm;rw[if_pos rfl]at hv ⊢;have:=hv x rfl;rw[aoP this,aN,if_pos rfl]at h;exact h
   . rw[if_neg hm]at hv ⊢;refine xy f r t tv ?_ hv;rw[am6]at h;split at h
     . rw[aN,if_neg hm]at h; exact h
     . exact h
theorem jb{β:Type}:∀(l:List (Nat×β)) (t:Nat) (x:β),look l t=some x->(t,x)∈l
 | [],t,x,h=>by simp[look]at h
 | (m,y)::r,t,x,h=>by
   rw[aN]at h;split at h
   . rename_i e; subst e; simp only[amd]at h; subst h; exact amz ..
   . exact amt _ (jb r t x h)
def Ad(p:Nat×TV):Bool:=match p.2 with | .may _ _ _ _ _=>false | _=>true
theorem Vv(st:St):st.sure=⟨st.tm.filter Ad,st.rt⟩:=rfl
theorem yT{t:Nat}{tv:TV}:Ad (t,tv)=true↔¬ tv.iK:=by cases tv <;> simp[Ad,TV.iK]
theorem JC(st:St):cJ st.sure:=fun t tv h=>by have:=jb _ _ _ h;rw[Vv,ans]at this;exact yT.1 this.2
theorem CJ{nt:Nat->Prop}{base:St}(vR:cJ base):∀ {bs:Bd},eK nt base bs->∀(t:Nat) (tv:TV),look (aG base bs).sure.tm t=some tv->look (aG base bs).tm t=some tv
 | [],_,t,tv,h=>xy Ad _ t tv h fun ko h'=>yT.2 (vR t ko h')
 | (i,d,p)::r,hb,t,tv,h=>by
   have ih:=CJ vR hb.2.2.2.2;have h:look (((d,p.1)::(aG base r).tm).filter Ad) t=some tv:=h;show look ((d,p.1)::(aG base r).tm) t=some tv;rw[aN];by_cases hd:d=t
   . subst hd;rw[if_pos rfl];rw[am6]at h;split at h
     . rw[aN,if_pos rfl]at h; exact h
     . have:=ih d tv h;rw[ct hb.2.2.2.2]at this;rcases this with ⟨i',p',h1,_⟩ | h1
       . exact absurd rfl (hb.2.2.2.1 _ h1).2
       . rw[hb.2.1]at h1; simp at h1
   . rw[if_neg hd];refine ih t tv ?_;rw[am6]at h;split at h
     . rw[aN,if_neg hd]at h; exact h
     . exact h
theorem pn{nt:Nat->Prop}{base:St}(vR:cJ base){bs:Bd}(hb:eK nt base bs){hg:Bool}(U6:hg=false->∀ i t p,(i,t,p)∈bs->¬ p.1.iK):cJ (lx hg (aG base bs)):=by
 cases hg with
 | true=>exact JC _
 | false =>
   intro t tv h;have h:look (aG base bs).tm t=some tv:=h;rw[ct hb]at h;rcases h with ⟨i,p,h1,rfl⟩ | h
   . exact U6 rfl i t p h1
   . exact vR t tv h
theorem ud{P:Program}{cx:Cx P}{Z:Nat->Prop}{g:Gh}{a:Act}{w:World}{nt:Nat->Prop}{base:St}(vR:cJ base){bs:Bd}(hb:eK nt base bs){hg:Bool}(h:Rel cx Z g (aG base bs) a w):Rel cx Z g (lx hg (aG base bs)) a w:=by
 cases hg with
 | false=>exact h
 | true=>exact h.swap (fun _=>rfl) fun t tv ht=>h.tm t tv (CJ vR hb t tv ht)
theorem kB{base:St}{S:Nat}:∀ {bs:Bd},(∀ e∈bs,S.testBit e.1=false)->view base S bs=base
 | [],_=>rfl
 | (i,t,p)::r,h=>by unfold view;rw[h _ (amz ..)];exact kB fun e he=>h e (amt _ he)
def Lr:Nat->Nat->Nat
 | 0,_=>0
 | n+1,S=>Lr n S+(match S.testBit n with | true=>0 | false=>1)
theorem uF:∀ n,Lr n 0=n
 | 0=>rfl
 | n+1=>by simp[Lr,uF n]
theorem D3:∀(n j S:Nat),S.testBit j=false->Lr n (S ||| 2 ^ j)+(if j<n then 1 else 0)=Lr n S
 | 0,j,S,h=>by simp[Lr]
 | n+1,j,S,h=>by
   have ih:=D3 n j S h;simp only[Lr,aY];by_cases hj:j=n
   . subst hj;simp[h]at ih ⊢;omega
   . have h1:decide (j=n)=false:=by simpa using hj
     rw[h1,Bool.or_false];by_cases hl:j<n
     . simp only[hl,if_true]at ih;simp only[show j<n+1 by omega,if_true];omega
     . simp only[hl,anu]at ih;simp only[show ¬ j<n+1 by omega,anu];omega
theorem EV:∀(n S:Nat),Lr n S=0->∀ k,k<n->S.testBit k=true
 | 0,_,_,k,hk=>by omega
 | n+1,S,h,k,hk=>by
   simp only[Lr]at h;by_cases hn:k=n
   . subst hn;cases hb:S.testBit k with
     | true=>rfl
     | false=>rw[hb]at h; simp at h
   . exact EV n S (by omega) k (by omega)
def LL(f:Nat->Nat)(o:Oper):Nat:=o.after.toList.foldl (fun s e=>bif eW e then s ||| 2 ^ e.on ||| f e.on else s) 0
theorem Ha(f:Nat->Nat)(b:Nat):∀(l:List Edge) (s:Nat),(l.foldl (fun s e=>bif eW e then s ||| 2 ^ e.on ||| f e.on else s) s).testBit b=true->s.testBit b=true∨∃ e∈l,eW e=true/\(e.on=b∨(f e.on).testBit b=true)
 | [],s,h=> .inl h
 | e::l,s,h=>by
   rw[am7]at h;rcases Ha f b l _ h with h | ⟨e',h1,h2⟩
   . cases hb:eW e with
     | false=>rw[hb]at h; exact .inl h
     | true =>
       rw[hb]at h;simp only[oT,Nat.testBit_or,anr,Nat.testBit_two_pow,anD]at h;rcases h with (h | h) | h
       . exact .inl h
       . exact .inr ⟨e,amz ..,hb,.inl h⟩
       . exact .inr ⟨e,amz ..,hb,.inr h⟩
   . exact .inr ⟨e',amt _ h1,h2⟩
theorem rb:∀(l:List Oper) (acc:List Nat),(bM l acc).length=acc.length+l.length
 | [],acc=>by simp[bM]
 | o::r,acc=>by unfold bM;rw[rb];simp;omega
theorem wy:∀(l:List Oper) (acc:List Nat) (k:Nat),k<acc.length->(bM l acc)[k]? = acc[k]?
 | [],acc,k,_=>rfl
 | o::r,acc,k,h=>by unfold bM;rw[wy r _ k (by simp; omega),amW h]
theorem rf:∀(l:List Oper) (acc:List Nat) (k:Nat) (o:Oper) (b:Nat),l[k]? = some o->((bM l acc).getD (acc.length+k) 0).testBit b=true ->
 ∃ e∈o.after.toList,eW e=true/\(e.on=b∨(e.on<acc.length+k/\((bM l acc).getD e.on 0).testBit b=true))
 | [],acc,k,o,b,h,_=>by simp at h
 | o0::r,acc,0,o,b,h,hb=>by
   simp only[amj,amd]at h;subst h;have h1:(bM (o0::r) acc)[acc.length]? = some (LL (fun n=>acc.getD n 0) o0):=by unfold bM;rw[wy r _ _ (by simp),amU (oR _),an4];rfl
   rw[List.getD,amJ,h1]at hb;simp only[anB]at hb;rcases Ha (fun n=>acc.getD n 0) b o0.after.toList 0 hb with h2 | ⟨e,h2,h3,h4⟩
   . simp at h2
   . refine⟨e,h2,h3,h4.imp id fun h4 => ?_⟩;have aV:e.on<acc.length:=by
      rcases amv e.on acc.length with hh | hh
      . exact hh
      . simp[List.getD,amw hh]at h4
     refine⟨aV,?_⟩;rw[List.getD,wy _ _ _ aV];exact h4
 | o0::r,acc,k+1,o,b,h,hb=>by
   have hh:bM (o0::r) acc=bM r (acc++[LL (fun n=>acc.getD n 0) o0]):=by rw[bM]; rfl
   rw[hh]at hb ⊢;have hl:(acc++[LL (fun n=>acc.getD n 0) o0]).length=acc.length+1:=by simp
   obtain⟨e,h1,h2,h3⟩:=rf r (acc++[LL (fun n=>acc.getD n 0) o0]) k o b (by simpa using h) (by rw[hl,show acc.length+1+k=acc.length+(k+1)by omega]; exact hb);exact⟨e,h1,h2,h3.imp id fun h3=>⟨by omega,h3.2⟩⟩
theorem lV:∀(l:List Oper) (i:Nat),ki l i=true->∀(k:Nat) (o:Oper),l[k]? = some o->∀ e∈o.after.toList,eW e=true->e.on<i+k
 | [],i,_,k,o,h,_,_,_=>by simp at h
 | o0::r,i,h,k,o,ho,e,he,hb=>by
   simp only[ki,ame]at h;cases k with
   | zero => simp only[amj,amd]at ho;subst ho;have:=amx.1 h.1 e he;simp only[hb,oN,Bool.false_or]at this;exact anj (amA this)
   | succ k => have:=lV r (i+1) h.2 k o (by simpa using ho) e he hb;omega
section
variable{P:Program}{E:En}
def tX(P:Program)(E:En):Prop:=∀(cx:Cx P) (Z:Nat->Prop) (g:Gh) (st:St) (a:Act) (w:World) (o:Oper) (ay:St),Rel cx Z g st a w->cJ st->Fit cx E a->xF E o.dst=true->(Cf E st o.dst o.op).run=some ay ->
 cJ ay/\∀(next:Act->World->Prop) (Q:Exit->Act->World->Prop),(∀ Z' g' a' w',Rel cx Z' g' ay a' w'->Fit cx E a'->next a' w')->o.wp P a w next Q
variable{ops:Array Oper}{ns:List Nat}{P:Program}{cx:Cx P}{Q:Exit->Act->World->Prop}
theorem mo{base:St}{bs:Bd}{S:Nat}(h:∀ e∈bs,S.testBit e.1=true):aG base bs=view base S bs:=jw base S bs fun i t p hm=>h _ hm
theorem kh{o:Oper}{i:Nat}(ho:ops[i]? = some o)(hg:o.guard=none){K:Act->World->Prop}{a:Act}{w:World}(h:o.wp P a w K Q):wpOp P ops Q i K a w:=by
 unfold wpOp;have:Region.wanted o (yielded ops a.tmps)=true:=by simp[Region.wanted,hg]
 simp only[ho,this,if_true];exact .inl h
theorem fA(j k:Nat):(2 ^ j-1).testBit k=decide (k<j):=Nat.testBit_two_pow_sub_one j k
theorem PM(j:Nat):(2 ^ j-1) ||| 2 ^ j=2 ^ (j+1)-1:=by
 apply aoZ;intro k;rw[aY,fA,fA];by_cases h:k<j
 . simp[h,apa h]
 . by_cases h':j=k
   . simp[h']
   . simp[h,h']; omega
theorem XB(hT:cH P E)(eF:dO P E)(hW:tX P E){stF:St}(hQ:∀ Z g a w,Rel cx Z g stF a w->cJ stF->Fit cx E a->Q .normal a w) :
 ∀(n i:Nat) (base:St) (a:Act) (w:World) (Z:Nat->Prop) (g:Gh),ops.size-i=n->i<=ops.size->cJ base->Rel cx Z g base a w->Fit cx E a->(fP E false ops.toList ns (ops.toList.drop i) i base []).run=some stF->wpOps P ops Q (List.range' i (ops.size-i)) a w:=by
 intro n;induction n using Nat.strongRecOn with
 | _ n ih =>
   intro i base a w Z g hn hi vR h dh au;obtain⟨i1,bsF,h1,h2,h3,h4,h5,h6,h7,h8⟩:=ml (ops:=ops) (ns:=ns) (i0:=i) hT eF vR _ i rfl hi (oR i) [] stF ⟨trivial,vR.MB,fun e he=>by simp at he,fun _ _ _ _ he=>by simp at he⟩ au;have T9:i1<=ops.size:=by
    rcases h8 with ⟨h8,_⟩ | ⟨o,ay,h8,_⟩
    . omega
    . exact aox (amG.1 h8).1
   have inner:∀(m j:Nat) (a:Act) (w:World) (Z:Nat->Prop) (g:Gh),i1-j=m->i<=j->j<=i1->Rel cx Z g (view base (2 ^ j-1) bsF) a w->Fit cx E a->wpOps P ops Q (List.range' j (ops.size-j)) a w:=by
    intro m;induction m with
    | zero =>
      intro j a w Z g hm Dp hj h dh;have:j=i1:=by omega
      subst this;have gm:aG base bsF=view base (2 ^ j-1) bsF:=mo fun e he=>by rw[fA]; simpa using(h4 e he).2.1
      rw[<- gm]at h;have hs:=ud (hg:=bO ops.toList) vR h2 h;have hsn:=pn (hg:=bO ops.toList) vR h2 h5;rcases h8 with ⟨e1,rfl⟩ | ⟨o,ay,ho,hg,_,U5,hw,Ud⟩
      . rw[e1,an4];exact hQ _ _ _ _ hs hsn dh
      . have aV:j<ops.size:=(amG.1 ho).1;obtain⟨k,hk⟩:∃ k,ops.size-j=k+1:=⟨ops.size-j-1,by omega⟩;rw[hk,List.range'_succ,wpOps_cons];refine kh ho hg ?_;obtain⟨Pe,Mi⟩:=hW cx Z g _ a w o ay hs hsn dh U5 hw;refine Mi _ _ fun Z' g' a' w' hr xv => ?_
        have Fc:k=ops.size-(j+1):=by omega
        rw[Fc];exact ih (ops.size-(j+1)) (by omega) (j+1) ay a' w' Z' g' rfl aV Pe hr xv Ud
    | succ m ihm =>
      intro j a w Z g hm Dp hj h dh;have Ik:j<i1:=by omega
      have aV:j<ops.size:=by omega
      obtain⟨k,hk⟩:∃ k,ops.size-j=k+1:=⟨ops.size-j-1,by omega⟩;rw[hk,List.range'_succ,wpOps_cons];refine h7 j Dp Ik cx (2 ^ j-1) a w Z g _ Q (fun i' _ vZ _=>by rw[fA]; simpa using vZ) (by rw[fA]; simp) h dh fun Z' g' a' w' hr xv => ?_
      have Fc:k=ops.size-(j+1):=by omega
      rw[Fc];rw[PM]at hr;exact ihm (j+1) a' w' Z' g' (by omega) (by omega) (by omega) hr xv
   refine inner (i1-i) i a w Z g rfl (oR i) h1 ?_ dh;rw[kB fun e he=>by rw[fA]; simpa using(h4 e he).1];exact h
theorem E2(hT:cH P E)(eF:dO P E)(hW:tX P E)(Mj:ki ops.toList 0=true){stF:St}(hQ:∀ Z g a w,Rel cx Z g stF a w->cJ stF->Fit cx E a->Q .normal a w) :
 ∀(fuel:Nat) (listed:Array Bool) (S i i1:Nat) (base:St) (bsF:Bd) (a:Act) (w:World) (Z:Nat->Prop) (g:Gh),listed.size=ops.size->(∀ k,k<ops.size->listed.getD k false=S.testBit k)->Lr ops.size S<=fuel->(∀ k,k<i->S.testBit k=true)->(∀ k,i1<=k->S.testBit k=false) ->
  (∀ k,S.testBit k=true->∀ b,((bM ops.toList []).getD k 0).testBit b=true->S.testBit b=true)->i<=i1->cJ base->eK E.Cy base bsF->(∀ e∈bsF,i<=e.1/\e.1<i1)->(bO ops.toList=false->∀ i t p,(i,t,p)∈bsF->¬ p.1.iK) ->
  (∀ j,i<=j->j<i1->sj P E ops (bM ops.toList []) base bsF i j) ->
  ((i1=ops.size/\stF=lx (bO ops.toList) (aG base bsF)) ∨
    ∃(o:Oper) (ay:St),ops[i1]? = some o/\o.guard=none/\(true=true->kd (bM ops.toList []) i1=true)/\xF E o.dst=true/\(Cf E (lx (bO ops.toList) (aG base bsF)) o.dst o.op).run=some ay/\(fP E true ops.toList (bM ops.toList []) (ops.toList.drop (i1+1)) (i1+1) ay []).run=some stF) ->
  Rel cx Z g (view base S bsF) a w->Fit cx E a->wpAny P .any ops Q fuel listed a w:=by
 have hlen:(bM ops.toList []).length=ops.size:=by rw[rb]; simp
 intro fuel;induction fuel with
 | zero =>
   intro listed S i i1 base bsF a w Z g uz hS rW Pb BI xw hii vR hb vS U6 oQ Dr h dh;have gm:=EV _ _ (Nat.le_zero.1 rW);have adR:Region.ready .any ops listed=[]:=by apply aov.2;intro j hj;obtain⟨hj0,o,ho,_⟩:=mem_ready.1 hj;have aV:j<ops.size:=(amG.1 ho).1;have:=hS j aV;rw[gm j aV]at this;simp[amn,uz,aV]at hj0 this;rw[hj0]at this;simp at this
   refine⟨adR,?_⟩;rcases Dr with ⟨e1,rfl⟩ | ⟨o,ay,ho,_⟩
   . have Ue:aG base bsF=view base S bsF:=mo fun e he=>gm e.1 (by have:=(vS e he).2; omega)
     rw[<- Ue]at h;exact hQ _ _ _ _ (ud vR hb h) (pn vR hb U6) dh
   . have aV:i1<ops.size:=(amG.1 ho).1;have:=gm i1 aV;rw[BI i1 (oR _)]at this;simp at this
 | succ fuel ih =>
   intro listed S i i1 base bsF a w Z g uz hS rW Pb BI xw hii vR hb vS U6 oQ Dr h dh;have T9:i1<=ops.size:=by
    rcases Dr with ⟨e1,_⟩ | ⟨o,ay,ho,_⟩
    . omega
    . exact aox (amG.1 ho).1
   have BJ:∀ j,j∈Region.ready .any ops listed->j<ops.size/\S.testBit j=false/\∀ b,((bM ops.toList []).getD j 0).testBit b=true->S.testBit b=true:=by
    intro j hj;obtain⟨hj0,o,ho,he⟩:=mem_ready.1 hj;have aV:j<ops.size:=(amG.1 ho).1;refine⟨aV,?_,fun b lF => ?_⟩
    . rw[<- hS j aV];simp[amn,uz,aV]at hj0 ⊢;exact hj0
    . obtain⟨e,h1,h2,h3⟩:=rf ops.toList [] j o b (by rw[amh]; exact ho) (by simpa using lF);have hl:=he e (aoq.1 h1) h2;have Il:e.on<ops.size:=by
       rcases amv e.on ops.size with hh | hh
       . exact hh
       . simp[amn,uz,hh]at hl
      rw[hS _ Il]at hl;rcases h3 with h3 | ⟨_,h3⟩
      . rw[<- h3]; exact hl
      . exact xw _ hl b h3
   have rX:∀ k,k<ops.size->S.testBit k=false->∃ j,j∈Region.ready .any ops listed:=by
    intro k;induction k using Nat.strongRecOn with
    | _ k ihk =>
      intro hk hkS;obtain⟨o,ho⟩:∃ o,ops[k]? = some o:=⟨ops[k],by simp[hk]⟩;by_cases gm:∀ e∈o.after,Region.binds .any e=true->listed.getD e.on false=true
      . refine⟨k,mem_ready.2 ⟨?_,o,ho,gm⟩⟩;have:=hS k hk;rw[hkS]at this;simp[amn,uz,hk]at this ⊢;exact this
      . have hex:∃ e,e∈o.after/\Region.binds .any e=true/\¬ listed.getD e.on false=true:=by
         apply anT;intro cY;apply gm;intro e he vT;apply anT;intro BW;exact cY ⟨e,he,vT,BW⟩
        obtain⟨e,he,vT,BW⟩:=hex;have Il:=lV ops.toList 0 Mj k o (by rw[amh]; exact ho) e (aoq.2 he) vT;rw[amp]at Il;have Uf:e.on<ops.size:=Nat.lt_trans Il hk;refine ihk e.on Il Uf ?_;rw[<- hS _ Uf];simpa using BW
   have ON:∀ j,j<ops.size->(∀ k,k<ops.size->(listed.setIfInBounds j true).getD k false=(S ||| 2 ^ j).testBit k):=by
    intro j hj k hk;rw[aY,<- hS k hk];by_cases Kf:j=k
    . subst Kf;simp[amn,uz,hj]
    . simp[amn,aos Kf,Kf]
   have OO:∀ j,j<ops.size->S.testBit j=false->Lr ops.size (S ||| 2 ^ j)<=fuel:=by intro j hj Ug;have:=D3 ops.size j S Ug;rw[if_pos hj]at this;omega
   have OP:∀ j,j∈Region.ready .any ops listed->∀ k,(S ||| 2 ^ j).testBit k=true->∀ b,((bM ops.toList []).getD k 0).testBit b=true->(S ||| 2 ^ j).testBit b=true:=by
    intro j hj k hk b lF;rw[aY]at hk ⊢;by_cases Kf:j=k
    . subst Kf;rw[(BJ j hj).2.2 b lF]; rfl
    . have hk:S.testBit k=true:=by simpa[Kf]using hk
      rw[xw k hk b lF]; rfl
   by_cases vU:∀ k,k<i1->S.testBit k=true
   ·
    have Ue:aG base bsF=view base S bsF:=mo fun e he=>vU e.1 (vS e he).2
    have h':=h;rw[<- Ue]at h';have hs:=ud (hg:=bO ops.toList) vR hb h';have hsn:=pn (hg:=bO ops.toList) vR hb U6;rcases Dr with ⟨e1,rfl⟩ | ⟨o,ay,ho,hg,Kg,U5,hw,Ud⟩
    . refine⟨fun _=>hQ _ _ _ _ hs hsn dh,fun j hj => ?_⟩;obtain⟨h1,h2,_⟩:=BJ j hj;rw[vU j (by omega)]at h2;simp at h2
    . have aV:i1<ops.size:=(amG.1 ho).1;refine⟨fun hr => ?_,fun j hj => ?_⟩
      . obtain⟨j,hj⟩:=rX i1 aV (BI i1 (oR _));rw[hr]at hj;simp at hj
      . obtain⟨HZ,Mk,Uh⟩:=BJ j hj;have Ik:j=i1:=by
         have Me:i1<=j:=by
          rcases amv j i1 with hh | hh
          . rw[vU j hh]at Mk; simp at Mk
          . exact hh
         rcases Nat.lt_or_eq_of_le Me with hgt | heq
         . have hf:=Kg rfl;unfold kd at hf;simp only[ame,amx,anq]at hf;have:=hf.2 (j-i1-1) (by rw[hlen]; omega);rw[show i1+1+(j-i1-1)=j by omega]at this;have:=Uh i1 this;rw[BI i1 (oR _)]at this;simp at this
         . exact heq.symm
        subst Ik;refine kh ho hg ?_;obtain⟨Pe,Mi⟩:=hW cx Z g _ a w o ay hs hsn dh U5 hw;refine Mi _ _ fun Z' g' a' w' hr xv => ?_
        obtain⟨i2,aln,k1,k2,k3,k4,k5,k6,k7,k8⟩:=ml (ops:=ops) (ns:=bM ops.toList []) (i0:=j+1) hT eF Pe _ (j+1) rfl aV (oR _) [] stF ⟨trivial,Pe.MB,fun e he=>by simp at he,fun _ _ _ _ he=>by simp at he⟩ Ud;have OQ:∀ k,j+1<=k->(S ||| 2 ^ j).testBit k=false:=fun k hk=>by rw[aY,BI k (by omega)];simp; omega
        refine ih (listed.setIfInBounds j true) (S ||| 2 ^ j) (j+1) i2 ay aln a' w' Z' g' (by simp[uz]) (ON j HZ) (OO j HZ Mk) (fun k hk => ?_) (fun k hk=>OQ k (by omega)) (OP j hj) k1 Pe k2 (fun e he=>⟨(k4 e he).1,(k4 e he).2.1⟩) k5 k7 k8 ?_ xv
        . rw[aY];by_cases Kf:j=k
          . simp[Kf]
          . rw[vU k (by omega)]; rfl
        . rw[kB fun e he=>OQ e.1 (k4 e he).1];exact hr
   ·
    have hex:∃ k,k<i1/\S.testBit k=false:=by
     apply anT;intro cY;apply vU;intro k hk;cases hb:S.testBit k with
     | true=>rfl
     | false=>exact absurd ⟨k,hk,hb⟩ cY
    obtain⟨k,hk,hkS⟩:=hex;refine⟨fun hr => ?_,fun j hj => ?_⟩
    . obtain⟨j,hj⟩:=rX k (by omega) hkS;rw[hr]at hj;simp at hj
    . obtain⟨HZ,Mk,Uh⟩:=BJ j hj;have Ik:j<i1:=by
       rcases amv j i1 with hh | hh
       . exact hh
       . exfalso;rcases Dr with ⟨e1,_⟩ | ⟨o,ay,ho,hg,Kg,_⟩
         . omega
         . have hf:=Kg rfl;unfold kd at hf;simp only[ame,amx,anq]at hf;rcases Nat.lt_or_eq_of_le hh with hgt | heq
           . have:=hf.2 (j-i1-1) (by rw[hlen]; omega);rw[show i1+1+(j-i1-1)=j by omega]at this;have:=Uh i1 this;rw[BI i1 (oR _)]at this;simp at this
           . subst heq;have:=Uh k (hf.1 k hk);rw[hkS]at this;simp at this
      have Dp:i<=j:=by
       rcases amv j i with hh | hh
       . rw[Pb j hh]at Mk; simp at Mk
       . exact hh
      have lE:∀(x:Nat),(bM ops.toList []).getD j x=(bM ops.toList []).getD j 0:=fun x=>by
       have nP:j<(bM ops.toList []).length:=by rw[hlen]; exact HZ
       simp[List.getD,nP]
      refine oQ j Dp Ik cx S a w Z g _ Q (fun i' _ _ lF=>Uh i' (by rw[<- lE cU]; exact lF)) Mk h dh fun Z' g' a' w' hr xv => ?_
      refine ih (listed.setIfInBounds j true) (S ||| 2 ^ j) i i1 base bsF a' w' Z' g' (by simp[uz]) (ON j HZ) (OO j HZ Mk) (fun k hk => ?_) (fun k hk => ?_) (OP j hj) hii vR hb vS U6 oQ Dr hr xv
      . rw[aY,Pb k hk]; rfl
      . rw[aY,BI k hk];simp; omega
end
def Good{P:Program}(cx:Cx P)(E:En)(st:St)(a:Act)(w:World):Prop:=cJ st/\Fit cx E a/\∃ Z g,Rel cx Z g st a w
def QO{P:Program}(cx:Cx P)(E:En):Ou->Exit->Act->World->Prop
 | .qO st,.normal,a,w=>Good cx E st a w
 | .ext id st,.exit E5,a,w=>E5=id/\Good cx E st a w
 | .ret st,.ret,a,w=>Good cx E st a w
 | _,_,_,_=>False
def QL{P:Program}(cx:Cx P)(E:En)(L:Lo E.ρ):Sum (ff L.σ) (ff E.ρ)->Exit->Act->World->Prop
 | .inl y=>QO cx E (.qO (enc L.σ y))
 | .inr z=>QO cx E (.ret (enc E.ρ z))
def j4(P:Program)(E:En)(id:Nat)(c:Code)(L:Lo E.ρ):Prop :=
 ∀(cx:Cx P) (a:Act) (w:World) (x:ff L.σ) (r:Sum (ff L.σ) (ff E.ρ)),Good cx E (enc L.σ x) a w->L.f x=some r->(Code.block id c).wp P (QL cx E L r) a w
def dA(P:Program)(E:En)(c:Code)(F:St->Tr St):Prop :=
 ∀(cx:Cx P) (a:Act) (w:World) (st ay:St),Good cx E st a w->(F st).run=some ay->c.wp P (QO cx E (.qO ay)) a w
def dR(P:Program)(E:En):Code->Prop
 | .region id ops dr=>∀ F,E.rg id=some F->dA P E (.region id ops dr) F
 | .seq a b=>dR P E a/\dR P E b
 | .cond _ a b=>dR P E a/\dR P E b
 | .block id c=>(∀ L,E.lo id=some L->j4 P E id c L)/\(E.lo id=none->dR P E c)
 | .loop c=>dR P E c
 | _=>True
def Qt(P:Program)(E:En):Prop:=∀(cx:Cx P) (σ:List SE) (st:St) (a:Act) (w:World) (x:ff σ),Good cx E st a w->dec σ st=some x->Good cx E (enc σ x) a w
section
variable{P:Program}{E:En}{cx:Cx P}
theorem Jx{st:St}{a:Act}{w:World}{t:Nat}{x:Bool}(h:Good cx E st a w)(hx:st.tv t=some (.v (.d .bool x))):Good cx E (st.S9 t x) a w:=by
 obtain⟨h1,h2,Z,g,h3⟩:=h;refine⟨fun t' tv h => ?_,h2,Z,g,h3.swap (fun _=>rfl) fun t' tv h => ?_⟩
 . have h:look ((t,.v (.lb x))::st.tm) t'=some tv:=h;rw[aN]at h;split at h
   . cases h; exact fun h=>h
   . exact h1 t' tv h
 . have hh:look ((t,.v (.lb x))::st.tm) t'=some tv:=h;clear h;rw[aN]at hh;split at hh
   . rename_i e;subst e;cases hh;refine⟨?_,(AP x).1 _ _ _ _ _ (jJ h3 h1.cons.cons hx)⟩;obtain⟨tq,h4,_⟩:=Em h1.cons hx;exact(h3.tm t tq h4).1
   . exact h3.tm t' tv hh
theorem least{p:Nat->Prop}:∀ n,p n->∃ m,p m/\∀ k,p k->m<=k:=by
 intro n;induction n using Nat.strongRecOn with
 | _ n ih =>
   intro h;by_cases hx:∃ k,k<n/\p k
   . obtain⟨k,hk,hp⟩:=hx;exact ih k hk hp
   . exact⟨n,h,fun k hp=>Nat.le_of_not_lt fun hk=>hx ⟨k,hk,hp⟩⟩
open Classical in
noncomputable def Ti(I:Nat->Act->World->Prop)(a:Act)(w:World):Nat:=if h:∃ n,I n a w then Classical.choose (least (p:=fun n=>I n a w) (Classical.choose h) (anG h))else 0
theorem CB{I:Nat->Act->World->Prop}{a:Act}{w:World}{n:Nat}(h:I n a w):I (Ti I a w) a w/\∀ k,I k a w->Ti I a w<=k:=by have he:∃ n,I n a w:=⟨n,h⟩;unfold Ti;rw[dif_pos he];exact anG (least (p:=fun n=>I n a w) (Classical.choose he) (anG he))
theorem Cs{Q:Exit->Act->World->Prop}{c:Code}(I:Nat->Act->World->Prop)(h0:∀ a w,¬ I 0 a w)(round:∀ n a w,I (n+1) a w->c.wp P (Exit.then (I n) Q) a w){n:Nat}{a:Act}{w:World}(h:I n a w):(Code.loop c).wp P Q a w:=by
 refine wp_loop (fun a w=>∃ n,I n a w) (Ti I) ⟨n,h⟩ fun a w ⟨n,h⟩ => ?_
 obtain⟨h1,h2⟩:=CB h;cases hm:Ti I a w with
 | zero=>rw[hm]at h1; exact(h0 _ _ h1).elim
 | succ m =>
   rw[hm]at h1;refine wp_mono (round m a w h1) fun e a' w' hq => ?_
   cases e <;> first | exact hq | exact⟨⟨m,hq⟩,Nat.lt_succ_of_le ((CB hq).2 m hq)⟩
theorem wp_loop_once{Q:Exit->Act->World->Prop}{c:Code}{a:Act}{w:World}(h:c.wp P (fun e a w=>(∀ x,e=x->x≠ .normal)/\Exit.then (fun _ _=>False) Q e a w) a w):(Code.loop c).wp P Q a w:=by
 refine Cs (fun n a' w'=>n=1/\a'=a/\w'=w) (fun a w h=>by omega) (n:=1) (fun n a' w' ⟨h1,h2,h3⟩ => ?_) ⟨rfl,rfl,rfl⟩;subst h2 h3;refine wp_mono h fun e a1 w1 ⟨hn,hq⟩ => ?_
 cases e <;> first | exact hq | exact absurd rfl (hn _ rfl)
theorem cr(hT:cH P E)(eF:dO P E)(hW:tX P E)(hm:P.follows .mixedOrders=true)(uu:Qt P E):∀(c:Code) (st:St) (a:Act) (w:World) (ou:Ou),dR P E c->Good cx E st a w->(de E c st).run=some ou->c.wp P (QO cx E ou) a w
 | .skip,st,a,w,ou,_,h,hr=>by have hr:some (Ou.qO st)=some ou:=hr;simp only[amd]at hr;subst hr;exact wp_skip h
 | .region id ops false,st,a,w,ou,hl,h,hr=>by
   simp only[de]at hr;split at hr
   . rename_i F hF;rw[Tr.run_bind]at hr;cases au:(F st).run with
     | none=>rw[au]at hr; simp at hr
     | some ay => rw[au]at hr;simp only[oB,Tr.run,amd]at hr;subst hr;exact hl F hF cx a w st ay h au
   rw[Tr.run_bind]at hr;cases au:(fP E false ops.toList [] ops.toList 0 st []).run with
   | none=>rw[au]at hr; simp at hr
   | some ay => rw[au]at hr;simp only[oB,Tr.run,amd]at hr;subst hr;obtain⟨h1,h2,Z,g,h3⟩:=h;refine wp_region ?_;have:=XB (ns:=[]) (cx:=cx) (Q:=QO cx E (.qO ay)) hT eF hW (stF:=ay) (fun Z g a w hr hn hs=>⟨hn,hs,Z,g,hr⟩) ops.size 0 st a w Z g rfl (amr _) h1 h3 h2 au;rw[Nat.sub_zero]at this;rw[List.range_eq_range'];exact this
 | .region id ops true,st,a,w,ou,hl,h,hr=>by
   simp only[de]at hr;split at hr
   . rename_i F hF;rw[Tr.run_bind]at hr;cases au:(F st).run with
     | none=>rw[au]at hr; simp at hr
     | some ay => rw[au]at hr;simp only[oB,Tr.run,amd]at hr;subst hr;exact hl F hF cx a w st ay h au
   cases Mj:ki ops.toList 0 with
   | false=>rw[Mj]at hr; simp[Tr.run]at hr
   | true =>
     rw[Mj]at hr;simp only[oT]at hr;rw[Tr.run_bind]at hr;cases au:(fP E true ops.toList (bM ops.toList []) ops.toList 0 st []).run with
     | none=>rw[au]at hr; simp at hr
     | some ay =>
       rw[au]at hr;simp only[oB,Tr.run,amd]at hr;subst hr;obtain⟨h1,h2,Z,g,h3⟩:=h;refine wp_region_any hm ?_;obtain⟨i1,bsF,k1,k2,k3,k4,k5,k6,k7,k8⟩:=ml (ops:=ops) (ns:=bM ops.toList []) (i0:=0) hT eF h1 _ 0 rfl (amr _) (oR _) [] ay ⟨trivial,h1.MB,fun e he=>by simp at he,fun _ _ _ _ he=>by simp at he⟩ au;refine E2 (cx:=cx) (Q:=QO cx E (.qO ay)) hT eF hW Mj (stF:=ay) (fun Z g a w hr hn hs=>⟨hn,hs,Z,g,hr⟩) ops.size (Array.replicate ops.size false) 0 0 i1 st bsF a _ Z g (by simp) (fun k hk => ?_) (by rw[uF]; exact oR _) (fun k hk=>by omega) (fun k _=>anN k) (fun k hk=>by rw[anN]at hk; simp at hk) k1 h1 k2 (fun e he=>⟨(k4 e he).1,(k4 e he).2.1⟩) k5 k7 k8 ?_ h2
       . rw[anN];simp[amn,hk]
       . rw[kB fun e _=>anN _];exact h3.world rfl rfl rfl rfl
 | .seq x y,st,a,w,ou,hl,h,hr=>by
   simp only[de]at hr;rw[Tr.run_bind]at hr;cases au:(de E x st).run with
   | none=>rw[au]at hr; simp at hr
   | some o =>
     rw[au]at hr;simp only[oB]at hr;refine wp_seq (wp_mono (cr hT eF hW hm uu x st a w o hl.1 h au) fun e a' w' hq => ?_);cases o with
     | qO ay =>
       cases e <;> first | exact hq.elim | skip
       exact cr hT eF hW hm uu y ay a' w' ou hl.2 hq hr
     | ext id ay => simp only[Tr.run,amd]at hr;subst hr;cases e <;> first | exact hq.elim | exact hq
     | ret ay => simp only[Tr.run,amd]at hr;subst hr;cases e <;> first | exact hq.elim | exact hq
 | .cond c x y,st,a,w,ou,hl,h,hr=>by
   obtain⟨h1,h2,Z,g,h3⟩:=h;simp only[de]at hr;split at hr
   . rename_i c _ _ hg;have:a.eval c= .bool true:=bg h3 h1.cons.cons hg;exact wp_cond_true this (cr hT eF hW hm uu x st a w ou hl.1 ⟨h1,h2,Z,g,h3⟩ hr)
   . rename_i c _ _ hg;have:a.eval c= .bool false:=bg h3 h1.cons.cons hg;exact wp_cond_false this (cr hT eF hW hm uu y st a w ou hl.2 ⟨h1,h2,Z,g,h3⟩ hr)
   . rename_i v t hg;have hv:a.eval (.tmp t)= .bool v:=bg h3 h1.cons.cons hg;have hs:=Jx (x:=v) (t:=t) ⟨h1,h2,Z,g,h3⟩ hg;refine wp_cond_split hv (fun e => ?_) (fun e => ?_)
     . subst e;exact cr hT eF hW hm uu x _ a w ou hl.1 hs hr
     . subst e;exact cr hT eF hW hm uu y _ a w ou hl.2 hs hr
   . simp[Tr.run]at hr
 | .block id c,st,a,w,ou,hl,h,hr=>by
   simp only[de]at hr;split at hr
   . rename_i L hL;obtain⟨x,hx,hr⟩:=Tr.ai hr;simp only[Tr.run,anv]at hr;obtain⟨r,hf,hr⟩:=hr;have:=hl.1 L hL cx a w x r (uu cx L.σ st a w x h hx) hf;refine wp_mono this fun e a' w' hq => ?_
     cases r with
     | inl y=>simp only[oL,Tr.run,amd]at hr; subst hr; exact hq
     | inr z=>simp only[Sum.elim_inr,Tr.run,amd]at hr; subst hr; exact hq
   . rename_i hL;rw[Tr.run_bind]at hr;cases au:(de E c st).run with
     | none=>rw[au]at hr; simp at hr
     | some o =>
       rw[au]at hr;simp only[oB]at hr;refine wp_block (wp_mono (cr hT eF hW hm uu c st a w o (hl.2 hL) h au) fun e a' w' hq => ?_);cases o with
       | qO ay => simp only[Tr.run,amd]at hr;subst hr;cases e <;> first | exact hq.elim | exact hq
       | ext E5 ay =>
         cases e <;> first | exact hq.elim | skip
         obtain⟨rfl,hq⟩:=hq;simp only at hr;simp only[Exit.inBlock];rename_i e';cases hb:Nat.beq e' id with
         | true => rw[hb]at hr;simp only[oT,Tr.run,amd]at hr;subst hr;rw[if_pos (beq_eq hb)];exact hq
         | false => rw[hb]at hr;simp only[oF,Tr.run,amd]at hr;subst hr;rw[if_neg (anp hb)];exact⟨rfl,hq⟩
       | ret ay => simp only[Tr.run,amd]at hr;subst hr;cases e <;> first | exact hq.elim | exact hq
 | .exit id,st,a,w,ou,_,h,hr=>by simp only[de,Tr.run,amd]at hr;subst hr;exact wp_exit ⟨rfl,h⟩
 | .ret,st,a,w,ou,_,h,hr=>by simp only[de,Tr.run,amd]at hr;subst hr;exact wp_ret h
 | .loop c,st,a,w,ou,hl,h,hr=>by
   simp only[de]at hr;rw[Tr.run_bind]at hr;cases au:(de E c st).run with
   | none=>rw[au]at hr; simp at hr
   | some o =>
     rw[au]at hr;simp only[oB]at hr;refine wp_loop_once (wp_mono (cr hT eF hW hm uu c st a w o hl h au) fun e a' w' hq => ?_);cases o with
     | qO ay=>simp[Tr.run]at hr
     | ext id ay => simp only[Tr.run,amd]at hr;subst hr;cases e <;> first | exact hq.elim | exact⟨fun x e=>by subst e; simp,hq⟩
     | ret ay => simp only[Tr.run,amd]at hr;subst hr;cases e <;> first | exact hq.elim | exact⟨fun x e=>by subst e; simp,hq⟩
 | .goto _,_,_,_,_,_,_,hr=>by simp[de,Tr.run]at hr
 | .label _,_,_,_,_,_,_,hr=>by simp[de,Tr.run]at hr
 | .scope _,_,_,_,_,_,_,hr=>by simp[de,Tr.run]at hr
 | .rangeFunc _ _ _ _,_,_,_,_,_,_,hr=>by simp[de,Tr.run]at hr
theorem Jr(hT:cH P E)(eF:dO P E)(hW:tX P E)(hm:P.follows .mixedOrders=true)(uu:Qt P E){id:Nat}{body:Code}{L:Lo E.ρ}(hl:dR P E body)
 (hf:∀ x r,L.f x=some r->∃ n,iter (fun x=>(nE E id L.σ body x).run) n x=some r):j4 P E id (.loop body) L:=by
 intro cx a w x r h hr;obtain⟨n,hn⟩:=hf x r hr;refine wp_block ?_;refine Cs (fun n a w=>∃ x,Good cx E (enc L.σ x) a w/\iter (fun x=>(nE E id L.σ body x).run) n x=some r) (fun a w ⟨x,_,h⟩=>by simp[iter]at h) (fun n a w ⟨x,hg,hi⟩ => ?_) ⟨x,h,hn⟩;unfold iter at hi
 have Ui:∀ r',(nE E id L.σ body x).run=some r'->∃ o,(de E body (enc L.σ x)).run=some o/\(match o with
  | .qO st=>Tr.cu (dec L.σ st) fun y=>Tr.ret (Sum.inl y)
  | .ext E5 st=>bif Nat.beq E5 id then Tr.cu (dec L.σ st) fun y=> .ret (.inr (.inl y))else .fail
  | .ret st=>Tr.cu (dec E.ρ st) fun y=> .ret (.inr (.inr y)):Tr (Sum (ff L.σ) (Sum (ff L.σ) (ff E.ρ)))).run=some r':=fun r' nN=>by
  unfold nE at nN;rw[Tr.run_bind]at nN;cases ho:(de E body (enc L.σ x)).run with
  | none=>rw[ho]at nN; simp at nN
  | some o=>rw[ho]at nN; exact⟨o,rfl,nN⟩
 split at hi
 . rename_i y hy;obtain⟨o,ho,jY⟩:=Ui _ hy;refine wp_mono (cr hT eF hW hm uu body _ a w o hl hg ho) fun e a' w' hq => ?_
   cases o with
   | qO st => obtain⟨z,hz,ur⟩:=Tr.ai jY;simp only[Tr.run,amd,amu]at ur;subst ur;cases e <;> first | exact hq.elim | exact⟨z,uu cx _ st a' w' z hq hz,hi⟩
   | ext E5 st =>
     simp only at jY;cases hb:Nat.beq E5 id with
     | false=>rw[hb]at jY; simp[Tr.run]at jY
     | true => rw[hb]at jY;obtain⟨z,hz,ur⟩:=Tr.ai jY;simp[Tr.run]at ur
   | ret st => obtain⟨z,hz,ur⟩:=Tr.ai jY;simp[Tr.run]at ur
 . rename_i y hy;simp only[amd]at hi;subst hi;obtain⟨o,ho,jY⟩:=Ui _ hy;refine wp_mono (cr hT eF hW hm uu body _ a w o hl hg ho) fun e a' w' hq => ?_
   cases o with
   | qO st => obtain⟨z,hz,ur⟩:=Tr.ai jY;simp[Tr.run]at ur
   | ext E5 st =>
     simp only at jY;cases hb:Nat.beq E5 id with
     | false=>rw[hb]at jY; simp[Tr.run]at jY
     | true =>
       rw[hb]at jY;obtain⟨z,hz,ur⟩:=Tr.ai jY;simp only[Tr.run,amd,Sum.inr.injEq]at ur;subst ur;cases e <;> first | exact hq.elim | skip
       obtain⟨rfl,hq⟩:=hq;have:=beq_eq hb;subst this;show Exit.then _ _ (.exit _) a' w';simp only[Exit.then,Exit.inBlock,if_true];exact uu cx _ st a' w' z hq hz
   | ret st => obtain⟨z,hz,ur⟩:=Tr.ai jY;simp only[Tr.run,amd,Sum.inr.injEq]at ur;subst ur;cases e <;> first | exact hq.elim | exact uu cx _ st a' w' z hq hz
 . simp at hi
end
theorem FR{α:Type}:∀(l:List (Nat×α)) (n:Nat) (x:α) (m:Nat),look (upd l n x) m=if n=m then (look l m).map (fun _=>x)else look l m
 | [],n,x,m=>by simp[upd,look]
 | (k,y)::r,n,x,m=>by
   unfold upd;cases hb:Nat.beq k n with
   | true => have e:=beq_eq hb;subst e;simp only[oT,aN];by_cases h:k=m <;> simp[h]
   | false =>
     have cY:k≠n:=fun e=>by subst e; simp at hb
     simp only[oF,aN];rw[FR r n x m];by_cases h:k=m
     . have:¬ n=m:=fun e=>cY (h.trans e.symm)
       simp[h,this]
     . simp[h]
theorem AB{α:Type}:∀(l:List α) (j:Nat) (x:α) (i:Nat),(mq l j x)[i]? = if j=i then (l[i]?).map (fun _=>x)else l[i]?
 | [],j,x,i=>by simp[mq]
 | y::r,0,x,i=>by cases i <;> simp[mq]
 | y::r,j+1,x,i=>by
   cases i with
   | zero=>simp[mq]
   | succ i=>simp[mq,AB r j x i]
theorem kT{α:Type}:∀(l:List α) (j:Nat) (x:α),(mq l j x).length=l.length
 | [],_,_=>rfl
 | _::_,0,_=>rfl
 | _::r,j+1,x=>amL (· + 1) (kT r j x)
section
variable{st:St}{r j:Nat}{c:RC}
theorem jC(r':Nat):look (st.setCell r j c).rt r'=if r=r' then (look st.rt r').map (fun R=>⟨R.box,mq R.cells j c⟩)else look st.rt r':=by
 unfold St.setCell;cases h:look st.rt r with
 | none =>
   simp only;by_cases e:r=r'
   . subst e; simp[h]
   . simp[e]
 | some R =>
   simp only;rw[FR];by_cases e:r=r'
   . subst e; simp[h]
   . simp[e]
theorem dD(r' j':Nat):(st.setCell r j c).cell r' j'=if r=r'/\j=j' then (st.cell r' j').map (fun _=>c)else st.cell r' j':=by
 simp only[St.cell,jC];by_cases e:r=r'
 . subst e;cases h:look st.rt r with
   | none=>simp[h]
   | some R=>simp only[h,if_true,amE,AB,true_and]
 . simp[e]
theorem fK:(st.setCell r j c).tm=st.tm:=by unfold St.setCell;cases look st.rt r <;> rfl
end
structure jK {P:Program} (cx:Cx P) (Z:Nat->Prop) (g:Gh) (st:St) (w:World) (F:Nat->Prop):Prop where
 lt:∀ b,F b->b<w.heap.size
 own:∀ b,F b->cx.F0 b∨cx.w0.heap.size<=b
 z:∀ b,F b->¬ Z b
 fp:∀ b,F b->∀ r j,¬ g.fp r j b
 box:∀ b,F b->∀ r R,look st.rt r=some R->R.box=true->g.be r≠b
theorem jK.none{P:Program}(cx:Cx P)(Z:Nat->Prop)(g:Gh)(st:St)(w:World):jK cx Z g st w (fun _=>False) :=
 ⟨fun _ h=>h.elim,fun _ h=>h.elim,fun _ h=>h.elim,fun _ h=>h.elim,fun _ h=>h.elim⟩
def Gh.rM(g:Gh)(r j:Nat)(F:Nat->Prop):Gh:=⟨g.be,g.cv,fun r' j' b=>if r'=r/\j'=j then F b else g.fp r' j' b⟩
structure lM (Z:Nat->Prop) (w w':World) (g g':Gh) (st ay:St):Prop where
 cI:oe Z Z w w' g g' st ay
 tm:ay.tm=st.tm
 be:g'.be=g.be
 box:∀ r R',look ay.rt r=some R'->∃ R,look st.rt r=some R/\R'.box=R.box
theorem lM.refl{P:Program}{cx:Cx P}{Z:Nat->Prop}{g:Gh}{st:St}{a:Act}{w:World}(h:Rel cx Z g st a w):lM Z w w g g st st :=
 ⟨gk h rfl rfl,rfl,rfl,fun r R h=>⟨R,h,rfl⟩⟩
section
variable{P:Program}{cx:Cx P}{Z:Nat->Prop}{g:Gh}{st:St}{a:Act}{w:World}{E:En}
theorem Rel.kill(h:Rel cx Z g st a w){r j:Nat}{c:RC}(hc:st.cell r j=some c):Rel cx Z (g.rM r j fun _=>False) (st.setCell r j ⟨c.s+1,c.m+1,.av .dead⟩) a w /\
 lM Z w w g (g.rM r j fun _=>False) st (st.setCell r j ⟨c.s+1,c.m+1,.av .dead⟩)/\jK cx Z (g.rM r j fun _=>False) (st.setCell r j ⟨c.s+1,c.m+1,.av .dead⟩) w (g.fp r j):=by
 have ym:∀ r' j' b,(g.rM r j fun _=>False).fp r' j' b->g.fp r' j' b/\¬ (r'=r/\j'=j):=fun r' j' b hb=>by
  simp only[Gh.rM]at hb;split at hb
  . exact hb.elim
  . rename_i cY; exact⟨hb,cY⟩
 have Fl:∀ r' R',look (st.setCell r j ⟨c.s+1,c.m+1,.av .dead⟩).rt r'=some R'->∃ R,look st.rt r'=some R/\R'.box=R.box/\R'.cells.length=R.cells.length:=fun r' R' hR=>by
  rw[jC]at hR;split at hR
  . cases hl:look st.rt r' with
    | none=>rw[hl]at hR; simp at hR
    | some R => rw[hl]at hR;simp only[amE,amd]at hR;subst hR;exact⟨R,rfl,rfl,kT _ _ _⟩
  . exact⟨R',hR,rfl,rfl⟩
 have k:oe Z Z w w g (g.rM r j fun _=>False) st (st.setCell r j ⟨c.s+1,c.m+1,.av .dead⟩):=by
  refine { size:=oR _,z:=fun b hb _=>⟨hb,rfl⟩,root:=fun r' R hR => ?_,cell:=fun r' j' c' xu => ?_,own:=fun r j b hb=>(h.fp r j b hb).1,block:=(gk h (ay:=st) (w':=w) rfl rfl).block }
  . rw[jC];by_cases e:r=r'
    . rw[if_pos e,hR]; exact⟨_,rfl,rfl,fun _=>rfl⟩
    . rw[if_neg e]; exact⟨R,hR,rfl,fun _=>rfl⟩
  . rw[dD];by_cases e:r=r'/\j=j'
    . obtain⟨rfl,rfl⟩:=e;rw[xu]at hc;simp only[amd]at hc;subst hc;rw[if_pos ⟨rfl,rfl⟩,xu];exact⟨_,rfl,aoc _,aoc _,fun e=>absurd e (aoC _),fun e=>absurd e (aoC _),fun e=>absurd e (aoC _)⟩
    . rw[if_neg e];refine⟨c',xu,oR _,oR _,fun _=>rfl,fun _ e ks xs hh=>⟨xs,hh,rfl⟩,fun _ _=>⟨rfl,fun b hb _=>⟨?_,rfl⟩⟩⟩;simp only[Gh.rM];rw[if_neg (fun e'=>e ⟨e'.1.symm,e'.2.symm⟩)];exact hb
 refine⟨?_,⟨k,fK,rfl,fun r' R' hR=>by obtain⟨R,h1,h2,_⟩:=Fl r' R' hR; exact⟨R,h1,h2⟩⟩,?_⟩
 . refine { os:=h.os,tape:=h.tape,output:=h.output,size:=h.size,block:=h.block,cq:=h.cq,z0:=h.z0,fp := ?_,cS := ?_,box := ?_,cell := ?_,tm := ?_,defers:=h.defers,nx:=h.nx }
   . intro r' j' b hb;obtain⟨h1,cY⟩:=ym r' j' b hb;obtain⟨h2,h3,h4,c',kk,x,h5,h6⟩:=h.fp r' j' b h1;exact⟨h2,h3,h4,c',kk,x,by rw[dD,if_neg (fun e=>cY ⟨e.1.symm,e.2.symm⟩)]; exact h5,h6⟩
   . intro r1 j1 r2 j2 b h1 h2;exact h.cS r1 j1 r2 j2 b (ym _ _ _ h1).1 (ym _ _ _ h2).1
   . intro r' R' hR hb;obtain⟨R,h1,h2,h3⟩:=Fl r' R' hR;obtain⟨b1,b2,b3,b4,cs,e,fr,b5,b6,b7,b8⟩:=h.box r' R h1 (by rw[<- h2]; exact hb);refine⟨b1,b2,fun OR j'' hh=>b3 OR j'' (ym _ _ _ hh).1,fun OR X9 mO xr he => ?_,cs,e,fr,b5,b6,by rw[h3]; exact b7,b8⟩;obtain⟨R2,h4,h5,_⟩:=Fl OR X9 mO;exact b4 OR R2 h4 (by rw[<- h5]; exact xr) he
   . intro r' j' c' xu;rw[dD]at xu;split at xu
     . rename_i e;cases hl:st.cell r' j' with
       | none=>rw[hl]at xu; simp at xu
       | some c0 => rw[hl]at xu;simp only[amE,amd]at xu;subst xu;trivial
     . rename_i e;refine lh.cI k _ _ _ _ (h.cell r' j' c' xu) (fun b hb => ?_) (fun _ _ _=>rfl);simp only[Gh.rM];rw[if_neg (fun e'=>e ⟨e'.1.symm,e'.2.symm⟩)];exact hb
   . intro t tv ht;rw[fK]at ht;exact⟨(h.tm t tv ht).1,bW.cI k _ _ (h.tm t tv ht).2⟩
 . refine⟨fun b hb=>(h.fp r j b hb).1,fun b hb=>(h.fp r j b hb).2.1,fun b hb=>(h.fp r j b hb).2.2.1,fun b hb r' j' cz => ?_,fun b hb r' R' hR nO he => ?_⟩
   . obtain⟨h1,cY⟩:=ym r' j' b cz;exact cY (h.cS r' j' r j b h1 hb)
   . obtain⟨R,h1,h2,h3⟩:=Fl r' R' hR;obtain⟨_,_,b3,_⟩:=h.box r' R h1 (by rw[<- h2]; exact nO);have he:g.be r'=b:=he;exact b3 r j (by rw[he]; exact hb)
theorem Si{w:World}{e:TypeId}{ks:List K}{xs:T (.sl e ks)}{aa:Option Addr}{l cap n:Nat}{F:Nat->Prop}(h:dI w (.sl e ks) xs (.slice aa l cap) F)(hn:n<=l):dI w (.sl e ks) (List.take n (aW xs)) (.slice aa n cap) F:=by
 obtain⟨a',c',h1,h2,h3,h4,h5⟩:=h;simp only[anf]at h1;obtain⟨rfl,rfl,rfl⟩:=h1;have hlen:(aW (e:=e) (ks:=ks) (List.take n (aW xs))).length=n:=(am5 (l:=aW xs) (i:=n)).trans (aoX hn);refine⟨aa,cap,by rw[hlen],by omega,by omega,h4,fun a' ha => ?_⟩;obtain⟨b,o,cs,e',fr,g1,g2,g3,g4,g5,G,g6,g7,g8⟩:=h5 a' ha;refine⟨b,o,cs,e',fr,g1,g2,g3,g4,g5,G,g6,g7,fun i x hx=>g8 i x ?_⟩;have lQ:(List.take n (aW xs))[i]? = some x:=hx;rw[anl]at lQ;split at lQ
 . exact lQ
 . simp at lQ
theorem ik(h:Rel cx Z g st a w){av:AV}{v:Value}(hr:bC Z g st w av v){k:K}{ay:St}{x:T k}(ht:st.cW k av=some (ay,x)) :
 ∃ g' F,Rel cx Z g' ay a w/\lM Z w w g g' st ay/\dI w k x v F/\jK cx Z g' ay w F/\(∀ r j b,g'.fp r j b->g.fp r j b)/\(∀ b,F b->∃ r j,g.fp r j b)/\g'.cv=g.cv:=by
 have nilc:∀(e:TypeId) (ks:List K),av= .nil->k= .sl e ks->ay=st->HEq x ([]:List (Tl ks))->∃ g' F,Rel cx Z g' ay a w/\lM Z w w g g' st ay/\dI w k x v F/\jK cx Z g' ay w F/\(∀ r j b,g'.fp r j b->g.fp r j b)/\(∀ b,F b->∃ r j,g.fp r j b)/\g'.cv=g.cv:=by intro e ks h1 h2 h3 h4;subst h1; subst h2; subst h3;have h4:=aot h4;subst h4;have hv:v= .slice none 0 0:=hr;subst hv;exact⟨g,fun _=>False,h,lM.refl h,kN e ks,jK.none _ _ _ _ _,fun _ _ _ h=>h,fun _ h=>h.elim,rfl⟩
 have main:(∀ z,st.cW k av=some z->∃ q,st.take av=some q/\∃ y,gC q.2.1 k q.2.2=some y/\z=(q.1,y))->∃ g' F,Rel cx Z g' ay a w/\lM Z w w g g' st ay/\dI w k x v F/\jK cx Z g' ay w F/\(∀ r j b,g'.fp r j b->g.fp r j b)/\(∀ b,F b->∃ r j,g.fp r j b)/\g'.cv=g.cv:=by
  intro ahL;obtain⟨⟨ca,k',x'⟩,hq,y,hy,hz⟩:=ahL _ ht;simp only[amK]at hz;obtain⟨rfl,rfl⟩:=hz;obtain⟨e,hy⟩:=cQ hy;subst e;subst hy;cases av with
  | ref r j s =>
    simp only[St.take]at hq;split at hq
    . rename_i s' m k1 x1 hc;cases hb:Nat.beq s' s with
      | false=>rw[hb]at hq; simp at hq
      | true =>
        rw[hb]at hq;simp only[oT,amd,amK]at hq;obtain⟨rfl,hx⟩:=hq;cases hx;obtain⟨k1,k2,k3⟩:=h.kill hc;obtain⟨c,h1,h2,h3⟩:=hr;rw[hc]at h1;simp only[amd]at h1;subst h1;refine⟨_,g.fp r j,k1,k2,?_,k3,fun r' j' b hb => ?_,fun b hb=>⟨r,j,hb⟩,rfl⟩
        . rw[h3 (beq_eq hb)];exact fy h hc rfl
        . simp only[Gh.rM]at hb;split at hb
          . exact hb.elim
          . exact hb
    . simp at hq
  | cut r j s n =>
    simp only[St.take]at hq;split at hq
    . rename_i s' m e1 Kh x1 hc;cases hb:Nat.beq s' s with
      | false=>rw[hb]at hq; simp at hq
      | true =>
        rw[hb]at hq;simp only[oT,amd,amK]at hq;obtain⟨rfl,hx⟩:=hq;cases hx;obtain⟨k1,k2,k3⟩:=h.kill hc;obtain⟨c,h1,h2,h3⟩:=hr;rw[hc]at h1;simp only[amd]at h1;subst h1;obtain⟨aa,l,cap,e1,e2,e3⟩:=h3 (beq_eq hb);refine⟨_,g.fp r j,k1,k2,?_,k3,fun r' j' b hb => ?_,fun b hb=>⟨r,j,hb⟩,rfl⟩
        . rw[e3];have:=fy h hc rfl;rw[e1]at this;exact Si this e2
        . simp only[Gh.rM]at hb;split at hb
          . exact hb.elim
          . exact hb
    . simp at hq
  | _=>simp[St.take]at hq
 unfold St.cW at ht main;split at ht
 . rename_i e ks;cases ht;exact nilc e ks rfl rfl rfl HEq.rfl
 . rename_i cY;apply main;intro z hz;split at hz
   . rename_i e ks;exact(cY e ks rfl rfl).elim
   . split at hz
     . rename_i Yf k2 x2 hq;split at hz
       . rename_i y hy;simp only[amd]at hz;exact⟨_,hq,y,hy,hz.symm⟩
       . simp at hz
     . simp at hz
theorem Rel.nw(h:Rel cx Z g st a w){r be:Nat}{R:Rt}{cv:Nat->Value}{fp:Nat->Nat->Prop}(hr:look st.rt r=none)
 (ym:∀ j b,fp j b->b<w.heap.size/\(cx.F0 b∨cx.w0.heap.size<=b)/\¬ Z b/\(∀ r j,¬ g.fp r j b)/\(∀ r' R',look st.rt r'=some R'->R'.box=true->g.be r'≠b)/\∃(c:RC) (k:K) (x:T k),R.cells[j]? = some c/\c.v= .own k x)
 (hd:∀ j j' b,fp j b->fp j' b->j=j')
 (hb:R.box=true->(cx.F0 be∨cx.w0.heap.size<=be)/\¬ Z be/\(∀ r' j',¬ g.fp r' j' be)/\(∀ j,¬ fp j be)/\(∀ r' R',look st.rt r'=some R'->R'.box=true->g.be r'≠be)/\∃ cs e fr,w.heap[be]? = some (.cells cs e fr)/\(∀ q,q<cs.size->¬ (fr.1<=q/\q<fr.2))/\cs.size=R.cells.length/\∀ j,j<cs.size->cs[j]? = some (cv j))
 (hc:∀(j:Nat) (c:RC),R.cells[j]? = some c->match c.v with | .own k x=>dI w k x (cv j) (fp j) | .av (.d k x)=>RO Z w k x (cv j) | .av _=>False) :
 Rel cx Z (g.at r be cv fp) ⟨st.tm,(r,R)::st.rt⟩ a w:=by
 have mN:∀ r',look ((r,R)::st.rt) r'=if r=r' then some R else look st.rt r':=fun r'=>aN _ _ _ _
 have bD:∀ r' j',St.cell ⟨st.tm,(r,R)::st.rt⟩ r' j'=if r=r' then R.cells[j']? else st.cell r' j':=fun r' j'=>by simp only[St.cell,mN];by_cases hh:r=r' <;> simp[hh]
 have cY:∀ r' R',look st.rt r'=some R'->¬ r'=r:=fun r' R' h1 e=>by rw[e,hr]at h1; simp at h1
 have hnc:∀ r' j' c',st.cell r' j'=some c'->¬ r'=r:=fun r' j' c' h1 e=>by simp[St.cell,e,hr]at h1
 have k:oe Z Z w w g (g.at r be cv fp) st ⟨st.tm,(r,R)::st.rt⟩:=by
  refine { size:=oR _,z:=fun b hb _=>⟨hb,rfl⟩,root:=fun r' R' hR => ?_,cell:=fun r' j' c' xu => ?_,own:=fun r j b hb=>(h.fp r j b hb).1,block:=(gk h (ay:=st) (w':=w) rfl rfl).block }
  . have:=cY r' R' hR;exact⟨R',by rw[mN,if_neg (fun e=>this e.symm)]; exact hR,rfl,fun _=>by simp[Gh.at,this]⟩
  . have:=hnc r' j' c' xu;exact⟨c',by rw[bD,if_neg (fun e=>this e.symm)]; exact xu,oR _,oR _,fun _=>by simp[Gh.at,this],fun _ e ks xs hh=>⟨xs,hh,rfl⟩,fun _ _=>⟨rfl,fun b hb _=>⟨by simp[Gh.at,this]; exact hb,rfl⟩⟩⟩
 have hf1:∀ r' j' b,(g.at r be cv fp).fp r' j' b->(r'=r/\fp j' b)∨(¬ r'=r/\g.fp r' j' b):=fun r' j' b hb=>by
  simp only[Gh.at]at hb;by_cases e:r'=r
  . simp[e]at hb; exact .inl ⟨e,hb⟩
  . simp[e]at hb; exact .inr ⟨e,hb⟩
 refine { os:=h.os,tape:=h.tape,output:=h.output,size:=h.size,block:=h.block,cq:=h.cq,z0:=h.z0,fp := ?_,cS := ?_,box := ?_,cell := ?_,tm:=fun t tv ht=>⟨(h.tm t tv ht).1,bW.cI k _ _ (h.tm t tv ht).2⟩,defers:=h.defers,nx:=h.nx }
 . intro r' j' b hb;rcases hf1 r' j' b hb with ⟨rfl,h1⟩ | ⟨e,h1⟩
   . obtain⟨k1,k2,k3,_,_,c,kk,x,k4,k5⟩:=ym j' b h1;exact⟨k1,k2,k3,c,kk,x,by rw[bD,if_pos rfl]; exact k4,k5⟩
   . obtain⟨k1,k2,k3,c,kk,x,k4,k5⟩:=h.fp r' j' b h1;exact⟨k1,k2,k3,c,kk,x,by rw[bD,if_neg (fun e'=>e e'.symm)]; exact k4,k5⟩
 . intro r1 j1 r2 j2 b h1 h2;rcases hf1 _ _ _ h1 with ⟨e1,k1⟩ | ⟨e1,k1⟩
   . rcases hf1 _ _ _ h2 with ⟨e2,k2⟩ | ⟨e2,k2⟩
     . exact⟨e1.trans e2.symm,hd _ _ _ k1 k2⟩
     . exact absurd k2 ((ym j1 b k1).2.2.2.1 r2 j2)
   . rcases hf1 _ _ _ h2 with ⟨e2,k2⟩ | ⟨e2,k2⟩
     . exact absurd k1 ((ym j2 b k2).2.2.2.1 r1 j1)
     . exact h.cS _ _ _ _ _ k1 k2
 . intro r' R' hR nO;rw[mN]at hR;by_cases e:r=r'
   . subst e;rw[if_pos rfl]at hR;simp only[amd]at hR;subst hR;obtain⟨b1,b2,b3,b4,b5,cs,el,fr,b6,b7,b8,b9⟩:=hb nO;have e1:(g.at r be cv fp).be r=be:=by simp[Gh.at]
     rw[e1];refine⟨b1,b2,fun r' j' hh => ?_,fun r' R' lr cz he => ?_,cs,el,fr,b6,b7,b8,fun j hj=>by simp[Gh.at]; simpa using b9 j hj⟩
     . rcases hf1 _ _ _ hh with ⟨rfl,h1⟩ | ⟨e1,h1⟩
       . exact b4 j' h1
       . exact b3 r' j' h1
     . rw[mN]at lr;by_cases e2:r=r'
       . exact e2.symm
       . rw[if_neg e2]at lr;have e3:(g.at r be cv fp).be r'=g.be r':=by
          have e4:¬ _=r:=fun e=>e2 (Eq.symm e)
          simp only[Gh.at];rw[if_neg e4]
         rw[e3]at he;exact absurd he (b5 r' R' lr cz)
   . rw[if_neg e]at hR;obtain⟨b1,b2,b3,b4,cs,el,fr,b5,b6,b7,b8⟩:=h.box r' R' hR nO;have e':¬ r'=r:=fun x=>e x.symm
     have e1:(g.at r be cv fp).be r'=g.be r':=by simp[Gh.at,e']
     rw[e1];refine⟨b1,b2,fun OR j'' hh => ?_,fun OR X9 mO xr he => ?_,cs,el,fr,b5,b6,b7,fun j hj=>by simp[Gh.at,e']; simpa using b8 j hj⟩
     . rcases hf1 _ _ _ hh with ⟨rfl,h1⟩ | ⟨_,h1⟩
       . exact(ym j'' _ h1).2.2.2.2.1 r' R' hR nO rfl
       . exact b3 OR j'' h1
     . rw[mN]at mO;by_cases e2:r=OR
       . subst e2;rw[if_pos rfl]at mO;simp only[amd]at mO;subst mO;have e3:(g.at r be cv fp).be r=be:=by simp[Gh.at]
         rw[e3]at he;exact absurd he.symm ((hb xr).2.2.2.2.1 r' R' hR nO)
       . rw[if_neg e2]at mO;have e3:(g.at r be cv fp).be OR=g.be OR:=by
          have e4:¬ _=r:=fun e=>e2 (Eq.symm e)
          simp only[Gh.at];rw[if_neg e4]
         rw[e3]at he;exact b4 OR X9 mO xr he
 . intro r' j' c' xu;rw[bD]at xu;by_cases e:r=r'
   . subst e;rw[if_pos rfl]at xu;have h1:=hc j' c' xu;have e1:(g.at r be cv fp).cv r j'=cv j':=by simp[Gh.at]
     have e2:(g.at r be cv fp).fp r j'=fp j':=by funext b; simp[Gh.at]
     rw[e1,e2];cases hv:c'.v with
     | own kk x=>rw[hv]at h1; exact h1
     | av x=>rw[hv]at h1; cases x <;> first | exact h1 | exact h1.elim
   . rw[if_neg e]at xu;have e':¬ r'=r:=fun x=>e x.symm
     have e1:(g.at r be cv fp).cv r' j'=g.cv r' j':=by simp[Gh.at,e']
     have e2:(g.at r be cv fp).fp r' j'=g.fp r' j':=by funext b; simp[Gh.at,e']
     rw[e1,e2];exact lh.cI k _ _ _ _ (h.cell r' j' c' xu) (fun _ h=>h) (fun _ _ _=>rfl)
end
theorem jT:∀(σ:List SE) (x:ff σ) (t:Nat) (tv:TV),(t,tv)∈oq σ x->¬ tv.iK
 | [],_,t,tv,h=>by simp[oq]at h
 | .d t k::σ,x,t',tv,h=>by
   rcases amo.1 h with h | h
   . cases h; exact fun h=>h
   . exact jT σ x.2 t' tv h
 | .own t k::σ,x,t',tv,h=>by
   rcases amo.1 h with h | h
   . cases h; exact fun h=>h
   . exact jT σ x.2 t' tv h
 | .fn t f cR::σ,x,t',tv,h=>by
   rcases amo.1 h with h | h
   . cases h; exact fun h=>h
   . exact jT σ x.2 t' tv h
 | .ag t ks::σ,x,t',tv,h=>by
   rcases amo.1 h with h | h
   . cases h; exact fun h=>h
   . exact jT σ x.2 t' tv h
 | .box r cs::σ,x,t',tv,h=>by
   rcases amo.1 h with h | h
   . cases h; exact fun h=>h
   . exact jT σ x.2 t' tv h
 | .al t t2::σ,x,t',tv,h=>by
   rcases amo.1 h with h | h
   . cases h; exact fun h=>h
   . exact jT σ x.2 t' tv h
 | .fr t f r::σ,x,t',tv,h=>by
   rcases amo.1 h with h | h
   . cases h; exact fun h=>h
   . exact jT σ x.2 t' tv h
theorem CZ(σ:List SE)(x:ff σ):cJ (enc σ x):=fun t tv h=>jT σ x t tv (jb _ _ _ h)
def zN(r:Nat):List SE->Prop
 | []=>False
 | .box r' _::σ=>r'=r∨zN r σ
 | _::σ=>zN r σ
theorem gx:∀(σ:List SE) (x:ff σ) (r:Nat) (R:Rt),(r,R)∈fO σ x->(∃ t,r=cn t/\rP t σ=true/\R.box=false)∨(zN r σ/\R.box=true)
 | [],_,r,R,h=>by simp[fO]at h
 | .d t k::σ,x,r,R,h=>gx σ x.2 r R h
 | .fn t f cR::σ,x,r,R,h=>gx σ x.2 r R h
 | .ag t ks::σ,x,r,R,h=>gx σ x.2 r R h
 | .al _ _::σ,x,r,R,h=>gx σ x.2 r R h
 | .fr _ _ _::σ,x,r,R,h=>gx σ x.2 r R h
 | .own t k::σ,x,r,R,h=>by
   rcases amo.1 h with h | h
   . cases h; exact .inl ⟨t,rfl,by simp[rP],rfl⟩
   . rcases gx σ x.2 r R h with ⟨t',h1,h2,h3⟩ | h1
     . exact .inl ⟨t',h1,by simp[rP,h2],h3⟩
     . exact .inr h1
 | .box r' cs::σ,x,r,R,h=>by
   rcases amo.1 h with h | h
   . cases h; exact .inr ⟨.inl rfl,rfl⟩
   . rcases gx σ x.2 r R h with h1 | ⟨h1,h2⟩
     . exact .inl h1
     . exact .inr ⟨.inr h1,h2⟩
theorem jx:∀ {σ:List SE} {r:Nat},zC r σ=true->¬ zN r σ/\∀ t,rP t σ=false
 | [],r,_=>⟨fun h=>h,fun _=>rfl⟩
 | .d _ _::σ,r,h=>jx (σ:=σ) h
 | .fn _ _ _::σ,r,h=>jx (σ:=σ) h
 | .ag _ _::σ,r,h=>jx (σ:=σ) h
 | .al _ _::σ,r,h=>jx (σ:=σ) h
 | .fr _ _ _::σ,r,h=>jx (σ:=σ) h
 | .own _ _::σ,r,h=>by simp[zC]at h
 | .box r' cs::σ,r,h=>by simp only[zC,ame,am0]at h;obtain⟨h1,h2⟩:=jx h.2;exact⟨fun hh=>hh.elim (fun e=>by subst e; have:=h.1; simp at this) h1,h2⟩
theorem mZ{st:St}:∀(cs:List (Bool×K)) (l:List RC) (bx:BT cs),eU st cs l=some bx->l.length=(cf cs bx).length/\∀(j:Nat) (c:RC),(cf cs bx)[j]? = some c ->
 (∃(k:K) (x:T k) (c0:RC),cs[j]? = some (true,k)/\c=⟨0,0,.own k x⟩/\l[j]? = some c0/\c0.v= .own k x)∨(∃(k:K) (x:T k) (c0:RC) (av:AV),c=⟨0,0,.av (.d k x)⟩/\l[j]? = some c0/\c0.v= .av av/\av.bV=true/\st.bG k av=some x)
 | [],[],bx,h=>⟨rfl,fun j c h=>by simp[cf]at h⟩
 | (true,k)::cs,⟨s,m,.own k' x⟩::r,bx,h=>by
   simp only[eU]at h;split at h
   . rename_i y z hy hz;cases h;obtain⟨e,hy⟩:=cQ hy;subst e;subst hy;obtain⟨h1,h2⟩:=mZ cs r z hz;refine⟨amL (· + 1) h1,fun j c hj => ?_⟩;cases j with
     | zero => simp only[cf,amj,amd]at hj;exact .inl ⟨k',x,_,rfl,hj.symm,rfl,rfl⟩
     | succ j => simp only[cf,am3]at hj ⊢;exact h2 j c hj
   . simp at h
 | (false,k)::cs,⟨s,m,.av av⟩::r,bx,h=>by
   simp only[eU]at h;cases hf:av.bV with
   | false=>rw[hf]at h; simp at h
   | true =>
     rw[hf]at h;simp only[oT]at h;split at h
     . rename_i y z hy hz;cases h;obtain⟨h1,h2⟩:=mZ cs r z hz;refine⟨amL (· + 1) h1,fun j c hj => ?_⟩;cases j with
       | zero => simp only[cf,amj,amd]at hj;exact .inr ⟨k,y,_,av,hj.symm,rfl,rfl,hf,hy⟩
       | succ j => simp only[cf,am3]at hj ⊢;exact h2 j c hj
     . simp at h
 | [],_::_,bx,h=>by simp[eU]at h
 | (true,_)::_,⟨_,_,.av _⟩::_,bx,h=>by simp[eU]at h
 | (false,_)::_,⟨_,_,.own _ _⟩::_,bx,h=>by simp[eU]at h
 | (true,_)::_,[],bx,h=>by simp[eU]at h
 | (false,_)::_,[],bx,h=>by simp[eU]at h
theorem hY{Z:Nat->Prop}{g:Gh}{st:St}{w:World}{d:Nat}:∀(ks:List K) (x:Tl ks) (cs:List Value) (j:Nat),sL Z w ks x cs->ba Z g st w (gf d false ks x j) cs
 | [],_,[],_,_=>trivial
 | .sl e bZ::ks,x,v::vs,j,h=>⟨h.1,hY ks x.2 vs j h.2⟩
 | .int _::ks,x,v::vs,j,h=>⟨h.1,hY ks x.2 vs j h.2⟩
 | .bool::ks,x,v::vs,j,h=>⟨h.1,hY ks x.2 vs j h.2⟩
 | .str::ks,x,v::vs,j,h=>⟨h.1,hY ks x.2 vs j h.2⟩
 | [],_,_::_,_,h=>h.elim
 | .sl _ _::_,_,[],_,h=>h.elim
 | .int _::_,_,[],_,h=>h.elim
 | .bool::_,_,[],_,h=>h.elim
 | .str::_,_,[],_,h=>h.elim
theorem aaO{Z:Nat->Prop}{g:Gh}{st:St}{w:World}{ks:List K}{x:Tl ks}{v:Value}(h:ROp Z w ks x v):bC Z g st w (.rp none 0 ks [x] 0 0) v:=by
 obtain⟨b,o,h1,h2,h3,h4⟩:=h;refine⟨by simp,b,o,h2,h3,by rw[h1]; simp,fun i y hy => ?_⟩;cases i with
 | zero=>simp only[amj,amd]at hy; subst hy; simpa using h4
 | succ i=>simp at hy
theorem pd{Z:Nat->Prop}{g:Gh}{st:St}{w:World}:∀(cs:List Vw) (x:U0 cs) (vs:List Value),RD Z w cs x vs->iJ Z g st w (vb cs x) vs
 | [],_,[],_=>trivial
 | .c gg ks::cs,x,v::vs,⟨⟨us,e,h⟩,h'⟩=>⟨yH e (hY ks x.1 us 0 h),pd cs x.2 vs h'⟩
 | .p ks::cs,x,v::vs,h=>⟨aaO (g:=g) (st:=st) h.1,pd cs x.2 vs h.2⟩
 | [],_,_::_,h=>h.elim
 | .c _ _::_,_,[],h=>h.elim
 | .p _::_,_,[],h=>h.elim
section
variable{P:Program}{cx:Cx P}{Z:Nat->Prop}{a:Act}{w:World}
theorem AT{g:Gh}{st:St}(h:Rel cx Z g st a w)(hn:cJ st){t:Nat}{tv:TV}(ht:st.tv t=some tv):t<a.tmps.size:=by obtain⟨tq,h1,_⟩:=Em hn.cons ht;exact(h.tm t tq h1).1
theorem Rel.tell{g:Gh}{tm:List (Nat×TV)}{rt:List (Nat×Rt)}(h:Rel cx Z g ⟨tm,rt⟩ a w){t:Nat}{tv:TV}(ht:t<a.tmps.size)(hr:bW Z g ⟨tm,rt⟩ w tv (a.tmps.getD t undef)):Rel cx Z g ⟨(t,tv)::tm,rt⟩ a w:=by
 refine h.swap (fun _=>rfl) fun t' ko hh => ?_
 have hh:look ((t,tv)::tm) t'=some ko:=hh;rw[aN]at hh;split at hh
 . rename_i e;cases hh;rw[<- e];exact⟨ht,hr⟩
 . exact h.tm t' ko hh
theorem nu:∀(σ:List SE) (st:St) (g:Gh) (x:ff σ),Rel cx Z g st a w->cJ st->dec σ st=some x->∃ gE,Rel cx Z gE (enc σ x) a w/\(∀ r j b,gE.fp r j b->∃ r0 j0,g.fp r0 j0 b)/\((∀ t,rP t σ=false)->∀ r j b,gE.fp r j b->g.fp r j b) /\
 (∀ r R',look (enc σ x).rt r=some R'->R'.box=true->gE.be r=g.be r/\∃ R,look st.rt r=some R/\R.box=true)/\(∀ r,zN r σ->r<100000)
 | [],st,g,x,h,hn,hd=>by
   refine⟨⟨g.be,g.cv,fun _ _ _=>False⟩,?_,fun _ _ _ h=>h.elim,fun _ _ _ _ h=>h.elim,fun r R' hR=>by simp[enc,fO,look]at hR,fun _ h=>h.elim⟩
   exact { os:=h.os,tape:=h.tape,output:=h.output,size:=h.size,block:=h.block,cq:=h.cq,z0:=h.z0,fp:=fun _ _ _ h=>h.elim,cS:=fun _ _ _ _ _ h=>h.elim
           box:=fun r R hR=>by simp[enc,fO,look]at hR
           cell:=fun r j c hc=>by simp[enc,fO,St.cell,look]at hc
           tm:=fun t tv ht=>by simp[enc,oq,look]at ht
           defers:=h.defers,nx:=h.nx }
 | .d t k::σ,st,g,x,h,hn,hd=>by
   simp only[dec]at hd;split at hd
   . rename_i av oV;cases hf:av.bV with
     | false=>rw[hf]at hd; simp at hd
     | true =>
       rw[hf]at hd;simp only[oT]at hd;split at hd
       . rename_i y z hy hz;cases hd;obtain⟨gE,h1,h2,h3,h4,h5⟩:=nu σ st g z h hn hz;refine⟨gE,h1.tell (AT h hn oV) ?_,h2,h3,h4,h5⟩;exact cB h (jJ h hn.cons.cons oV) hf hy
       . simp at hd
   . simp at hd
 | .fn t f cR::σ,st,g,x,h,hn,hd=>by
   simp only[dec]at hd;split at hd
   . rename_i f' l oV;cases hf:Nat.beq f f' with
     | false=>rw[hf]at hd; simp at hd
     | true =>
       rw[hf]at hd;simp only[oT]at hd;split at hd
       . rename_i y z hy hz;cases hd;obtain⟨gE,h1,h2,h3,h4,h5⟩:=nu σ st g z h hn hz;refine⟨gE,h1.tell (AT h hn oV) ?_,h2,h3,h4,h5⟩;obtain⟨vs,e1,e2⟩:=jJ h hn.cons.cons oV;have:=beq_eq hf;subst this;exact⟨vs,e1,pd _ _ _ (nh h (fun _ h _=>h) (fun hh=>by simp at hh) cR l vs.toList y e2 hy)⟩
       . simp at hd
   . simp at hd
 | .ag t ks::σ,st,g,x,h,hn,hd=>by
   simp only[dec]at hd;split at hd
   . rename_i l oV;cases hf:l.all AV.bV with
     | false=>rw[hf]at hd; simp at hd
     | true =>
       rw[hf]at hd;simp only[oT]at hd;split at hd
       . rename_i y z hy hz;cases hd;obtain⟨gE,h1,h2,h3,h4,h5⟩:=nu σ st g z h hn hz;refine⟨gE,h1.tell (AT h hn oV) ?_,h2,h3,h4,h5⟩;obtain⟨vs,e1,e2⟩:=jJ h hn.cons.cons oV;exact⟨vs,e1,hY ks y vs.toList 0 (dG h ks l vs.toList y e2 hf hy)⟩
       . simp at hd
   . simp at hd
 | .al t t2::σ,st,g,x,h,hn,hd=>by
   simp only[dec]at hd;split at hd
   . rename_i r j s r2 j2 s2 ht1 ht2;cases hb:Nat.beq r r2&&(Nat.beq j j2&&(Nat.beq s s2&&SA st r j s))with
     | false=>rw[hb]at hd; simp at hd
     | true =>
       rw[hb]at hd;simp only[oT]at hd;simp only[ame]at hb;obtain⟨e1,e2,e3,hv⟩:=hb;have e1:=beq_eq e1;have e2:=beq_eq e2;have e3:=beq_eq e3;subst e1 e2 e3;split at hd
       . rename_i z hz;cases hl:J7 (oq σ z) t2 with
         | false=>rw[hl]at hd; simp at hd
         | true =>
           rw[hl]at hd;simp only[oT]at hd;cases hd;obtain⟨gE,h1,h2,h3,h4,h5⟩:=nu σ st g z h hn hz;refine⟨gE,h1.tell (AT h hn ht1) ?_,h2,h3,h4,h5⟩;have hq:(enc σ z).tv t2=some (.v (.ref (cn t2) 0 0)):=by
            unfold J7 at hl;split at hl
            . rename_i q hq;have:=beq_eq hl;subst this;have hq:look (enc σ z).tm t2=some (.v (.ref (cn t2) 0 0)):=hq;simp only[St.tv,hq]
            . simp at hl
           obtain⟨c1,k1,k2,k3⟩:=(jJ h hn.cons.cons ht1:bC Z g st w (.ref r j s) _);obtain⟨c2,k4,k5,k6⟩:=(jJ h hn.cons.cons ht2:bC Z g st w (.ref r j s) _);have hs:c1.s=s:=by unfold SA at hv;rw[k1]at hv;exact beq_eq hv
           have:c2=c1:=am1 (k4.symm.trans k1);subst this;have e:a.tmps.getD t undef=a.tmps.getD t2 undef:=(k3 hs).trans (k6 hs).symm;rw[e];exact(jJ h1 (CZ σ z).cons.cons hq:bC Z gE (enc σ z) w (.ref (cn t2) 0 0) _)
       . simp at hd
   . simp at hd
 | .fr t f r::σ,st,g,x,h,hn,hd=>by
   simp only[dec]at hd;split at hd
   . rename_i f' r' oV;cases hf:Nat.beq f f'&&Nat.beq r r' with
     | false=>rw[hf]at hd; simp at hd
     | true =>
       rw[hf]at hd;simp only[oT]at hd;simp only[ame]at hf;have e1:=beq_eq hf.1;have e2:=beq_eq hf.2;subst e1 e2;split at hd
       . rename_i z hz;cases hl:Ee (fO σ z) r with
         | false=>rw[hl]at hd; simp at hd
         | true =>
           rw[hl]at hd;simp only[oT]at hd;cases hd;obtain⟨gE,h1,h2,h3,h4,h5⟩:=nu σ st g z h hn hz;refine⟨gE,h1.tell (AT h hn oV) ?_,h2,h3,h4,h5⟩;obtain⟨vs,e1,e2⟩:=jJ h hn.cons.cons oV;refine⟨vs,e1,?_⟩;unfold Ee at hl;split at hl
           . rename_i R' lr;obtain⟨vT,_⟩:=h4 r R' lr hl
             match Pd:vs.toList,e2 with
             | [u],e2 => obtain⟨⟨R,r1,r2,r3⟩,_⟩:=e2;exact⟨⟨R',lr,hl,by rw[r3,vT]⟩,trivial⟩
             | [],e2=>exact e2.elim
             | _::_::_,e2=>exact e2.2.elim
           . simp at hl
       . simp at hd
   . simp at hd
 | .own t k::σ,st,g,x,h,hn,hd=>by
   simp only[dec]at hd;split at hd
   . rename_i av oV;cases ho:rP t σ with
     | true=>rw[ho]at hd; simp at hd
     | false =>
       rw[ho]at hd;simp only[oF]at hd;split at hd
       . rename_i ay y ht;split at hd
         . rename_i z hz;cases hd;obtain⟨g1,F,k1,k2,k3,k4,k5,k6,k7⟩:=ik h (jJ h hn.cons.cons oV) ht;have Pe:cJ ay:=fun t tv ht=>hn t tv (by rw[<- k2.tm]; exact ht)
           obtain⟨gE,h1,h2,h3,h4,h5⟩:=nu σ ay g1 z k1 Pe hz;have vV:look (fO σ z) (cn t)=none:=by
            cases hl:look (fO σ z) (cn t)with
            | none=>rfl
            | some R =>
              rcases gx σ z _ R (jb _ _ _ hl)with ⟨t',e1,e2,_⟩ | ⟨e1,_⟩
              . have:t=t':=by unfold cn at e1; omega
                subst this;rw[ho]at e2; simp at e2
              . have:=h5 _ e1;unfold cn at this;omega
           have h6:=Rel.nw h1 (r:=cn t) (be:=0) (R:=⟨false,[⟨0,0,.own k y⟩]⟩) (cv:=fun _=>a.tmps.getD t undef) (fp:=fun j b=>j=0/\F b) vV
            (fun j b hb=>⟨k4.lt b hb.2,k4.own b hb.2,k4.z b hb.2,fun r j hh=>by
              obtain⟨r0,j0,hh⟩:=h2 r j b hh;exact k4.fp b hb.2 r0 j0 hh,fun r' R' lr cz=>by
              obtain⟨e1,R,e2,e3⟩:=h4 r' R' lr cz;rw[e1];exact k4.box b hb.2 r' R e2 e3,⟨0,0,.own k y⟩,k,y,by rw[hb.1]; rfl,rfl⟩)
            (fun j j' b h1 h2=>h1.1.trans h2.1.symm) (fun hb=>by simp at hb)
            (fun j c hj=>by
              cases j with
              | zero => simp only[amj,amd]at hj;subst hj;exact dI.frame _ _ _ _ _ (fun b hb=>⟨rfl,hb⟩) (fun _ _ _=>rfl) k3
              | succ j=>simp at hj)
           have hlk:∀ r',look ((cn t,(⟨false,[⟨0,0,.own k y⟩]⟩:Rt))::fO σ z) r'=if cn t=r' then some ⟨false,[⟨0,0,.own k y⟩]⟩else look (fO σ z) r':=fun r'=>aN _ _ _ _
           refine⟨_,h6.tell (AT h hn oV) (tv:= .v (.ref (cn t) 0 0)) ?_,fun r j b hb => ?_,fun BK => ?_,fun r R' hR nO => ?_,h5⟩
           . refine⟨⟨0,0,.own k y⟩,?_,oR _,fun _=>by simp[Gh.at]⟩;simp only[St.cell];have:=hlk (cn t);rw[if_pos rfl]at this;show(match look ((cn t,(⟨false,[⟨0,0,.own k y⟩]⟩:Rt))::fO σ z) (cn t)with | some R=>R.cells[0]? | none=>none)=_;rw[this];rfl
           . simp only[Gh.at]at hb;split at hb
             . exact k6 b hb.2
             . obtain⟨r0,j0,hh⟩:=h2 r j b hb;exact⟨r0,j0,k5 _ _ _ hh⟩
           . have:=BK t;simp[rP]at this
           . have hR:look ((cn t,(⟨false,[⟨0,0,.own k y⟩]⟩:Rt))::fO σ z) r=some R':=hR;rw[hlk]at hR;split at hR
             . cases hR; simp at nO
             . rename_i cY;obtain⟨e1,R,e2,e3⟩:=h4 r R' hR nO;refine⟨?_,?_⟩
               . simp only[Gh.at];rw[if_neg (fun e=>cY e.symm),e1,k2.be]
               . obtain⟨R0,e4,e5⟩:=k2.box r R e2;exact⟨R0,e4,e5 ▸ e3⟩
         . simp at hd
       . simp at hd
   . simp at hd
 | .box r cs::σ,st,g,x,h,hn,hd=>by
   simp only[dec]at hd;split at hd
   . rename_i r' l oV adS;cases hb:Nat.beq r r'&&Nat.blt r 100000&&zC r σ with
     | false=>rw[hb]at hd; simp at hd
     | true =>
       rw[hb]at hd;simp only[oT]at hd;simp only[ame]at hb;obtain⟨⟨yP,l6⟩,hb3⟩:=hb;have e:=beq_eq yP;subst e;have aV:r<100000:=anj (amA l6);obtain⟨U2,BK⟩:=jx hb3;split at hd
       . rename_i y z hy hz;cases hd;obtain⟨gE,h1,h2,h3,h4,h5⟩:=nu σ st g z h hn hz;obtain⟨d1,d2⟩:=mZ cs l y hy;have vV:look (fO σ z) r=none:=by
          cases hl:look (fO σ z) r with
          | none=>rfl
          | some R =>
            rcases gx σ z _ R (jb _ _ _ hl)with ⟨t',e1,e2,_⟩ | ⟨e1,_⟩
            . rw[BK t']at e2; simp at e2
            . exact absurd e1 U2
         obtain⟨b1,b2,b3,b4,bcs,el,fr,b5,b6,b7,b8⟩:=h.box r _ adS rfl;have Ml:∀ j c,l[j]? = some c->st.cell r j=some c:=fun j c hj=>by simp only[St.cell,adS]; exact hj
         have h6:=Rel.nw h1 (r:=r) (be:=g.be r) (R:=⟨true,cf cs y⟩) (cv:=g.cv r) (fp:=fun j b=>g.fp r j b/\∃(c:RC) (k:K) (x:T k),(cf cs y)[j]? = some c/\c.v= .own k x) vV
          (fun j b hb=>⟨(h.fp r j b hb.1).1,(h.fp r j b hb.1).2.1,(h.fp r j b hb.1).2.2.1,fun r0 j0 hh=>by
            have hg:=h3 BK r0 j0 b hh;obtain⟨e1,e2⟩:=h.cS _ _ _ _ _ hg hb.1;subst e1;obtain⟨_,_,_,c,k,x,e3,_⟩:=h1.fp r0 j0 b hh;simp only[St.cell]at e3;have:look (enc σ z).rt r0=none:=vV;rw[this]at e3;simp at e3,fun r' R' lr cz=>by
            obtain⟨e1,R,e2,e3⟩:=h4 r' R' lr cz;rw[e1];intro he;obtain⟨_,_,c3,_⟩:=h.box r' R e2 e3;exact c3 r j (by rw[he]; exact hb.1),hb.2⟩)
          (fun j j' b hj BL=>(h.cS _ _ _ _ _ hj.1 BL.1).2)
          (fun _=>⟨b1,b2,fun r0 j0 hh=>b3 r0 j0 (h3 BK r0 j0 _ hh),fun j hh=>b3 r j hh.1,fun r' R' lr cz he=>by obtain⟨e1,R,e2,e3⟩:=h4 r' R' lr cz;rw[e1]at he;have:=b4 r' R e2 e3 he;subst this;have hh:look (fO σ z) r'=some R':=lr;rw[vV]at hh;simp at hh,bcs,el,fr,b5,b6,by rw[b7]; exact d1,b8⟩)
          (fun j c hj=>by
            rcases d2 j c hj with ⟨k,x,c0,e1,e2,e3,e4⟩ | ⟨k,x,c0,av,e2,e3,e4,e5,e6⟩
            . subst e2;exact dI.frame _ _ _ _ _ (fun b hb=>⟨hb,_,k,x,hj,rfl⟩) (fun _ _ _=>rfl) (fy h (Ml j c0 e3) e4)
            . subst e2;exact cB h (yv h (Ml j c0 e3) e4) e5 e6)
         have hlk:∀ r',look ((r,(⟨true,cf cs y⟩:Rt))::fO σ z) r'=if r=r' then some ⟨true,cf cs y⟩else look (fO σ z) r':=fun r'=>aN _ _ _ _
         refine⟨_,h6.tell (AT h hn oV) (tv:= .v (.ptr r 0)) ?_,fun r0 j0 b hb => ?_,fun _ r0 j0 b hb => ?_,fun r0 R' hR nO => ?_,fun r0 hr0 => ?_⟩
         . obtain⟨R,e1,e2,e3⟩:=(jJ h hn.cons.cons oV:bC Z g st w (.ptr r 0) _);refine⟨⟨true,cf cs y⟩,?_,rfl,?_⟩
           . show look ((r,(⟨true,cf cs y⟩:Rt))::fO σ z) r=_;rw[hlk,if_pos rfl]
           . simp only[Gh.at,if_true];exact e3
         . simp only[Gh.at]at hb;split at hb
           . exact⟨r,j0,hb.1⟩
           . exact h2 r0 j0 b hb
         . simp only[Gh.at]at hb;split at hb
           . rename_i e; rw[e]; exact hb.1
           . exact h3 BK r0 j0 b hb
         . have hR:look ((r,(⟨true,cf cs y⟩:Rt))::fO σ z) r0=some R':=hR;rw[hlk]at hR;split at hR
           . rename_i e;refine⟨by simp[Gh.at,e.symm],_,e ▸ adS,rfl⟩
           . rename_i cY;obtain⟨e1,R,e2,e3⟩:=h4 r0 R' hR nO;refine⟨?_,R,e2,e3⟩;simp only[Gh.at];rw[if_neg (fun e=>cY e.symm),e1]
         . rcases hr0 with hr0 | hr0
           . rw[<- hr0]; exact aV
           . exact h5 r0 hr0
       . simp at hd
   . simp at hd
end
theorem xz{P:Program}(E:En):Qt P E:=fun cx σ st a w x ⟨h1,h2,Z,g,h3⟩ hd=>by obtain⟨gE,h4,_⟩:=nu σ st g x h3 h1 hd;exact⟨CZ σ x,h2,Z,gE,h4⟩
section
variable{P:Program}{cx:Cx P}{Z:Nat->Prop}{g:Gh}{st:St}{a:Act}{w:World}{E:En}
theorem zz{gg:Bool}{l:List AV}{cs:List Value}{v:Value}(e:NZ gg v cs)(h1:ba Z g st w l cs):bW Z g st w (fN gg l) v:=by
 have h2:=yH e h1;cases gg with
 | true=>unfold fN; cases hl:l <;> (rw[hl]at h2; exact h2)
 | false =>
   have e:cs=[v]:=e;subst e
   match hl:l,h1 with
   | [b],h1=>exact h1.1
   | [],h1=>exact h1.elim
   | _::_::_,h1=>exact h1.2.elim
theorem NP{gg:Bool}{ks:List K}{x:Tl ks}{v:Value}(h:ROv Z w gg ks x v):bW Z g st w (fN gg (gf 0 false ks x 0)) v:=by obtain⟨cs,e,h⟩:=h;exact zz e (hY (g:=g) (st:=st) (d:=0) ks x cs 0 h)
theorem fI:∀(ps:List PK) (x:PT ps) (i r:Nat) (R:Rt),(r,R)∈fY ps x i->∃ i',i<=i'/\((r=cn i'/\R.box=false)∨(r=i'/\i'<100000/\R.box=true))
 | [],_,_,_,_,h=>by simp[fY]at h
 | .c _ _::ps,x,i,r,R,h=>by obtain⟨i',h1,h2⟩:=fI ps x.2 (i+1) r R h; exact⟨i',by omega,h2⟩
 | .fn _ _::ps,x,i,r,R,h=>by obtain⟨i',h1,h2⟩:=fI ps x.2 (i+1) r R h; exact⟨i',by omega,h2⟩
 | .pt _::ps,x,i,r,R,h=>by obtain⟨i',h1,h2⟩:=fI ps x.2 (i+1) r R h; exact⟨i',by omega,h2⟩
 | .nil::ps,x,i,r,R,h=>by obtain⟨i',h1,h2⟩:=fI ps x (i+1) r R h; exact⟨i',by omega,h2⟩
 | .io _ ks::ps,x,i,r,R,h=>by
   rcases amo.1 h with h | h
   . cases h; exact⟨i,oR _,.inl ⟨rfl,rfl⟩⟩
   . obtain⟨i',h1,h2⟩:=fI ps x.2 (i+1) r R h; exact⟨i',by omega,h2⟩
 | .mv k::ps,x,i,r,R,h=>by
   rcases amo.1 h with h | h
   . cases h; exact⟨i,oR _,.inl ⟨rfl,rfl⟩⟩
   . obtain⟨i',h1,h2⟩:=fI ps x.2 (i+1) r R h; exact⟨i',by omega,h2⟩
 | .pw cs::ps,x,i,r,R,h=>by
   have h:(r,R)∈bif Nat.blt i 100000 then (i,(⟨true,cf cs x.1⟩:Rt))::fY ps x.2 (i+1)else fY ps x.2 (i+1):=h;cases hb:Nat.blt i 100000 with
   | false => rw[hb]at h;obtain⟨i',h1,h2⟩:=fI ps x.2 (i+1) r R h; exact⟨i',by omega,h2⟩
   | true =>
     rw[hb]at h;rcases amo.1 h with h | h
     . cases h; exact⟨i,oR _,.inr ⟨rfl,Nat.blt_eq.mp hb,rfl⟩⟩
     . obtain⟨i',h1,h2⟩:=fI ps x.2 (i+1) r R h; exact⟨i',by omega,h2⟩
theorem fz:∀(ps:List PK) (x:PT ps) (i t:Nat) (tv:TV),(t,tv)∈pB ps x i->¬ tv.iK
 | [],_,_,_,_,h=>by simp[pB]at h
 | .c gg ks::ps,x,i,t,tv,h=>by
   rcases amo.1 h with h | h
   . cases h;intro hm;cases ho:fN gg (gf 0 false ks x.1 0)with
     | may q w y g' l=>exact lY ho
     | _=>rw[ho]at hm; exact hm
   . exact fz ps x.2 (i+1) t tv h
 | .pt _::ps,x,i,t,tv,h=>by
   rcases amo.1 h with h | h
   . cases h; exact fun h=>h
   . exact fz ps x.2 (i+1) t tv h
 | .nil::ps,x,i,t,tv,h=>by
   rcases amo.1 h with h | h
   . cases h; exact fun h=>h
   . exact fz ps x (i+1) t tv h
 | .fn _ _::ps,x,i,t,tv,h=>by
   rcases amo.1 h with h | h
   . cases h; exact fun h=>h
   . exact fz ps x.2 (i+1) t tv h
 | .io gg ks::ps,x,i,t,tv,h=>by
   rcases amo.1 h with h | h
   . cases h;intro hm;cases ho:fN gg (gf (cn i) true ks x.1 0)with
     | may q w y g' l=>exact lY ho
     | _=>rw[ho]at hm; exact hm
   . exact fz ps x.2 (i+1) t tv h
 | .mv _::ps,x,i,t,tv,h=>by
   rcases amo.1 h with h | h
   . cases h; exact fun h=>h
   . exact fz ps x.2 (i+1) t tv h
 | .pw _::ps,x,i,t,tv,h=>by
   rcases amo.1 h with h | h
   . cases h; exact fun h=>h
   . exact fz ps x.2 (i+1) t tv h
theorem bb.ix{F:Nat->Nat->Prop}(n j0:Nat):∀(ks:List K) (x:Tl ks) (cs:List Value),bb true Z w F ks x cs n->bb true Z w (fun m=>F (n+(m-j0))) ks x cs j0:=by
 suffices h:∀(ks:List K) (x:Tl ks) (cs:List Value) (d:Nat),bb true Z w F ks x cs (n+d)->bb true Z w (fun m=>F (n+(m-j0))) ks x cs (j0+d)by intro ks x cs h0;exact h ks x cs 0 h0
 intro ks;induction ks with
 | nil=>intro x cs d h; cases cs with | nil=>trivial | cons _ _=>exact h.elim
 | cons k ks ih =>
   intro x cs d h;cases cs with
   | nil=>cases k <;> exact h.elim
   | cons v vs =>
     cases k with
     | sl e bZ=>exact⟨by show dI w _ x.1 v (F (n+(j0+d-j0))); rw[show j0+d-j0=d by omega]; exact h.1,ih x.2 vs (d+1) h.2⟩
     | int _=>exact⟨h.1,ih x.2 vs d h.2⟩
     | bool=>exact⟨h.1,ih x.2 vs d h.2⟩
     | str=>exact⟨h.1,ih x.2 vs d h.2⟩
theorem CF{Z0:Nat->Prop}{F:Nat->Nat->Prop}{nx:Nat->Option Value}{yQ:Gl P w Z0}{Yg:∀ b,Z0 b->b<w.heap.size->¬ ∃ i,F i b}(ye:cx=⟨w,fun b=>∃ i,F i b,Z0,nx,yQ,Yg⟩)(hF:∀ i b,F i b->b<w.heap.size/\¬ Z0 b)(hd:∀ i j b,F i b->F j b->i=j){ps:List PK}{x:PT ps}{i n m:Nat}{g:Gh}{cells:List RC}{vals:List Value}{v:Value}{tv:TV}
 (h1:Rel cx Z0 g ⟨pB ps x (i+1),fY ps x (i+1)⟩ a w)(h2:∀ r j b,g.fp r j b->∃ n',n+m<=n'/\F n' b)(h3:∀ r R,look (fY ps x (i+1)) r=some R->R.box=true->∃ n',n+m<=n'/\F n' (g.be r))(hi:i<a.tmps.size)(hv:a.tmps.getD i undef=v)
 (hm:cells.length<=m)
 (hc:∀ j c,cells[j]? = some c->∃ k y u,c=⟨0,0,.own k y⟩/\vals[j]? = some u/\dI w k y u (F (n+j)))
 (ht:∀(g':Gh) (ay:St),(∀ j c,cells[j]? = some c->ay.cell (cn i) (0+j)=some c)->(∀ j u,vals[j]? = some u->g'.cv (cn i) (0+j)=u)->bW Z0 g' ay w tv v) :
 ∃ g,Rel cx Z0 g ⟨(i,tv)::pB ps x (i+1),(cn i,⟨false,cells⟩)::fY ps x (i+1)⟩ a w/\(∀ r j b,g.fp r j b->∃ n',n<=n'/\F n' b)/\∀ r R,look ((cn i,(⟨false,cells⟩:Rt))::fY ps x (i+1)) r=some R->R.box=true->∃ n',n<=n'/\F n' (g.be r):=by
 have vV:look (fY ps x (i+1)) (cn i)=none:=by
  cases hl:look (fY ps x (i+1)) (cn i)with
  | none=>rfl
  | some R => obtain⟨i',e2,e1⟩:=fI _ _ _ _ _ (jb _ _ _ hl);unfold cn at e1;omega
 have h6:=Rel.nw h1 (r:=cn i) (be:=0) (R:=⟨false,cells⟩) (cv:=fun j=>vals.getD j undef) (fp:=fun j b=>j<cells.length/\F (n+j) b) vV
  (fun j b hb=>⟨(hF _ b hb.2).1,.inl (by rw[ye]; exact⟨_,hb.2⟩),(hF _ b hb.2).2,fun r0 j0 hh=>by
    obtain⟨n',k4,k3⟩:=h2 r0 j0 b hh;have:=hd _ n' b hb.2 k3;have:=hb.1;omega,fun r' R' lr cz e=>by
    obtain⟨n',k4,k3⟩:=h3 r' R' lr cz;have:=hd _ n' b hb.2 (e ▸ k3);have:=hb.1;omega,by
    obtain⟨k,y,u,e1,e2,e3⟩:=hc j _ (ami hb.1);exact⟨_,k,y,ami hb.1,by rw[e1]⟩⟩)
  (fun j j' b h1 h2=>by have:=hd _ _ b h1.2 h2.2; omega) (fun hb=>by simp at hb)
  (fun j c hj=>by
    obtain⟨k,y,u,e1,e2,e3⟩:=hc j c hj;subst e1;have nP:j<cells.length:=by
     rcases amv j cells.length with hh | hh
     . exact hh
     . simp[amw hh]at hj
    show dI w k y _ _;simp only[List.getD,e2,anB];exact dI.frame _ _ _ _ _ (fun b hb=>⟨nP,hb⟩) (fun _ _ _=>rfl) e3)
 refine⟨_,h6.tell hi (tv:=tv) ?_,fun r j b hb => ?_,fun r R hR hb => ?_⟩
 . rw[hv];refine ht _ _ (fun j c hj => ?_) fun j u hj => ?_
   . show(match look ((cn i,(⟨false,cells⟩:Rt))::fY ps x (i+1)) (cn i)with | some R=>R.cells[0+j]? | none=>none)=_;rw[aN,if_pos rfl,amp];exact hj
   . simp[Gh.at,List.getD,hj]
 . simp only[Gh.at]at hb;split at hb
   . exact⟨n+j,by omega,hb.2⟩
   . obtain⟨n',k4,k3⟩:=h2 r j b hb;exact⟨n',by omega,k3⟩
 . rw[aN]at hR;split at hR
   . cases hR; simp at hb
   . rename_i cY;obtain⟨n',k4,k3⟩:=h3 r R hR hb;refine⟨n',by omega,?_⟩;simp only[Gh.at];rw[if_neg (fun e=>cY e.symm)];exact k3
theorem po{F:Nat->Nat->Prop}:∀(cs:List (Bool×K)) (x:BT cs) (vs:List Value) (n j:Nat) (c:RC),yj Z w F cs x vs n->(cf cs x)[j]? = some c ->
 ∃ u,vs[j]? = some u/\((∃ k y,c=⟨0,0,.own k y⟩/\dI w k y u (F (n+j)))∨∃ k y,c=⟨0,0,.av (.d k y)⟩/\RO Z w k y u)
 | [],_,_,_,_,_,_,h=>by simp[cf]at h
 | (true,k)::cs,x,[],_,_,_,h,_=>h.elim
 | (false,k)::cs,x,[],_,_,_,h,_=>h.elim
 | (true,k)::cs,x,v::vs,n,0,c,h,hc=>by simp only[cf,amj,amd]at hc;subst hc;exact⟨v,rfl,.inl ⟨k,x.1,rfl,h.1⟩⟩
 | (false,k)::cs,x,v::vs,n,0,c,h,hc=>by simp only[cf,amj,amd]at hc;subst hc;exact⟨v,rfl,.inr ⟨k,x.1,rfl,h.1⟩⟩
 | (true,k)::cs,x,v::vs,n,j+1,c,h,hc=>by obtain⟨u,h1,h2⟩:=po cs x.2 vs (n+1) j c h.2 (by simpa[cf]using hc);rw[show n+1+j=n+(j+1)by omega]at h2;exact⟨u,by simpa using h1,h2⟩
 | (false,k)::cs,x,v::vs,n,j+1,c,h,hc=>by obtain⟨u,h1,h2⟩:=po cs x.2 vs (n+1) j c h.2 (by simpa[cf]using hc);rw[show n+1+j=n+(j+1)by omega]at h2;exact⟨u,by simpa using h1,h2⟩
theorem vL{F:Nat->Nat->Prop}:∀(cs:List (Bool×K)) (x:BT cs) (vs:List Value) (n:Nat),yj Z w F cs x vs n->vs.length=cs.length
 | [],_,[],_,_=>rfl
 | [],_,_::_,_,h=>h.elim
 | (true,_)::_,_,[],_,h=>h.elim
 | (false,_)::_,_,[],_,h=>h.elim
 | (true,k)::cs,x,v::vs,n,h=>amL (· + 1) (vL cs x.2 vs _ h.2)
 | (false,k)::cs,x,v::vs,n,h=>amL (· + 1) (vL cs x.2 vs _ h.2)
theorem mF:∀(cs:List (Bool×K)) (x:BT cs),(cf cs x).length=cs.length
 | [],_=>rfl
 | (true,k)::cs,x=>amL (· + 1) (mF cs x.2)
 | (false,k)::cs,x=>amL (· + 1) (mF cs x.2)
theorem Oq{Z0:Nat->Prop}{F:Nat->Nat->Prop}{nx:Nat->Option Value}{yQ:Gl P w Z0}{Yg:∀ b,Z0 b->b<w.heap.size->¬ ∃ i,F i b}(ye:cx=⟨w,fun b=>∃ i,F i b,Z0,nx,yQ,Yg⟩)(hF:∀ i b,F i b->b<w.heap.size/\¬ Z0 b)(hd:∀ i j b,F i b->F j b->i=j)
 {ps:List PK}{x:PT ps}{cs:List (Bool×K)}{z:BT cs}{v:Value}{i n:Nat}
 (h1:Rel cx Z0 g ⟨pB ps x (i+1),fY ps x (i+1)⟩ a w)(h2:∀ r j b,g.fp r j b->∃ n',n+(cs.length+1)<=n'/\F n' b)(h3:∀ r R,look (fY ps x (i+1)) r=some R->R.box=true->∃ n',n+(cs.length+1)<=n'/\F n' (g.be r))(hi:i<a.tmps.size)(hv:a.tmps.getD i undef=v)
 (hp:Ww Z0 w F cs z v n)(aV:i<100000) :
 ∃ g,Rel cx Z0 g ⟨(i,.v (.ptr i 0))::pB ps x (i+1),(i,⟨true,cf cs z⟩)::fY ps x (i+1)⟩ a w/\(∀ r j b,g.fp r j b->∃ n',n<=n'/\F n' b)/\∀ r R,look ((i,(⟨true,cf cs z⟩:Rt))::fY ps x (i+1)) r=some R->R.box=true->∃ n',n<=n'/\F n' (g.be r):=by
 obtain⟨b0,vs,e,fr,p1,p2,p3,p4,p5⟩:=hp;have hlen:=vL cs z vs.toList (n+1) p5;have Uj:=mF cs z;have vV:look (fY ps x (i+1)) i=none:=by
  cases hl:look (fY ps x (i+1)) i with
  | none=>rfl
  | some R => obtain⟨i',e2,e1⟩:=fI _ _ _ _ _ (jb _ _ _ hl);unfold cn at e1;omega
 have h6:=Rel.nw h1 (r:=i) (be:=b0) (R:=⟨true,cf cs z⟩) (cv:=fun j=>vs.toList.getD j undef) (fp:=fun j b=>(∃ k y,(cf cs z)[j]? = some ⟨0,0,.own k y⟩)/\F (n+1+j) b) vV
  (fun j b hb=>⟨(hF _ b hb.2).1,.inl (by rw[ye]; exact⟨_,hb.2⟩),(hF _ b hb.2).2,fun r0 j0 hh=>by
    obtain⟨n',k4,k3⟩:=h2 r0 j0 b hh;have:=hd _ n' b hb.2 k3;obtain⟨⟨k,y,hc⟩,_⟩:=hb;have:=(amM.1 hc).1;omega,fun r' R' lr cz e=>by
    obtain⟨n',k4,k3⟩:=h3 r' R' lr cz;have:=hd _ n' b hb.2 (e ▸ k3);obtain⟨⟨k,y,hc⟩,_⟩:=hb;have:=(amM.1 hc).1;omega,by
    obtain⟨⟨k,y,hc⟩,_⟩:=hb;exact⟨_,k,y,hc,rfl⟩⟩)
  (fun j j' b h1 h2=>by have:=hd _ _ b h1.2 h2.2; omega)
  (fun _=>⟨.inl (by rw[ye]; exact⟨_,p4⟩),(hF _ _ p4).2,fun r' j' hh=>by
    obtain⟨n',k4,k3⟩:=h2 r' j' _ hh;have:=hd _ _ _ p4 k3;omega,fun j hh=>by have:=hd _ _ _ p4 hh.2; omega,fun r' R' lr cz e=>by
    obtain⟨n',k4,k3⟩:=h3 r' R' lr cz;have:=hd _ _ _ p4 (e ▸ k3);omega,vs,e,fr,p2,p3,by rw[<- amP,hlen]; exact Uj.symm,fun j hj=>by
    rw[<- amh];have BL:j<vs.toList.length:=by simpa using hj
    rw[List.getD,ami BL]; rfl⟩)
  (fun j c hj=>by
    obtain⟨u,q1,q2⟩:=po cs z vs.toList (n+1) j c p5 hj;have hu:vs.toList.getD j undef=u:=by rw[List.getD,q1]; rfl
    rcases q2 with ⟨k,y,rfl,q3⟩ | ⟨k,y,rfl,q3⟩
    . show dI w k y _ _;rw[hu];exact dI.frame _ _ _ _ _ (fun b hb=>⟨⟨k,y,hj⟩,hb⟩) (fun _ _ _=>rfl) q3
    . show RO Z0 w k y _;rw[hu];exact q3)
 refine⟨_,h6.tell hi (tv:= .v (.ptr i 0)) ?_,fun r j b hb => ?_,fun r R hR hb => ?_⟩
 . rw[hv,p1];exact⟨_,by show look ((i,(⟨true,cf cs z⟩:Rt))::fY ps x (i+1)) i=_; rw[aN,if_pos rfl],rfl,by simp[Gh.at]⟩
 . simp only[Gh.at]at hb;split at hb
   . exact⟨n+1+j,by omega,hb.2⟩
   . obtain⟨n',k4,k3⟩:=h2 r j b hb;exact⟨n',by omega,k3⟩
 . rw[aN]at hR;split at hR
   . rename_i e;refine⟨n,oR _,?_⟩;simp only[Gh.at];rw[if_pos e.symm];exact p4
   . rename_i cY;obtain⟨n',k4,k3⟩:=h3 r R hR hb;refine⟨n',by omega,?_⟩;simp only[Gh.at];rw[if_neg (fun e=>cY e.symm)];exact k3
theorem iE{Z0:Nat->Prop}{F:Nat->Nat->Prop}{nx:Nat->Option Value}{yQ:Gl P w Z0}{Yg:∀ b,Z0 b->b<w.heap.size->¬ ∃ i,F i b}(ye:cx=⟨w,fun b=>∃ i,F i b,Z0,nx,yQ,Yg⟩)(BM:∀ t v,nx t=some v->a.tmps.getD t undef=v)(hdf:a.defers=[])(hZ:∀ b,Z0 b->b<w.heap.size)(hF:∀ i b,F i b->b<w.heap.size/\¬ Z0 b)(hd:∀ i j b,F i b->F j b->i=j) :
 ∀(ps:List PK) (x:PT ps) (vs:List Value) (i n:Nat),ee Z0 w F ps x vs n->(∀ j v,vs[j]? = some v->i+j<a.tmps.size/\a.tmps.getD (i+j) undef=v) ->
  ∃ g,Rel cx Z0 g ⟨pB ps x i,fY ps x i⟩ a w/\(∀ r j b,g.fp r j b->∃ n',n<=n'/\F n' b)/\∀ r R,look (fY ps x i) r=some R->R.box=true->∃ n',n<=n'/\F n' (g.be r)
 | [],x,[],i,n,_,_=>by
   subst ye;refine⟨⟨fun _=>0,fun _ _=>undef,fun _ _ _=>False⟩,?_,fun _ _ _ h=>h.elim,fun r R hR=>by simp[fY,look]at hR⟩
   exact { os:=rfl,tape:=rfl,output:=rfl,size:=oR _,block:=fun _ _ _=>rfl,cq:=fun b hb=>⟨hZ b hb,.inl hb⟩,z0:=fun b hb _=>hb,fp:=fun _ _ _ h=>h.elim,cS:=fun _ _ _ _ _ h=>h.elim
           box:=fun r R hR=>by simp[fY,look]at hR
           cell:=fun r j c hc=>by simp[fY,St.cell,look]at hc
           tm:=fun t tv ht=>by simp[pB,look]at ht
           defers:=hdf
           nx:=BM }
 | .c gg ks::ps,x,v::vs,i,n,h,ha=>by
   obtain⟨g,h1,h2,h3⟩:=iE ye BM hdf hZ hF hd ps x.2 vs (i+1) n h.2 fun j v hj=>by rw[show i+1+j=i+(j+1)by omega]; exact ha (j+1) v (by simpa using hj)
   have hv:=ha 0 v rfl;rw[amJ]at hv;exact⟨g,h1.tell hv.1 (by rw[hv.2]; exact NP h.1),h2,h3⟩
 | .fn f cR::ps,x,v::vs,i,n,h,ha=>by
   obtain⟨g,h1,h2,h3⟩:=iE ye BM hdf hZ hF hd ps x.2 vs (i+1) n h.2 fun j v hj=>by rw[show i+1+j=i+(j+1)by omega]; exact ha (j+1) v (by simpa using hj)
   have hv:=ha 0 v rfl;rw[amJ]at hv;obtain⟨cs,e1,e2⟩:=h.1;exact⟨g,h1.tell hv.1 (by rw[hv.2]; exact⟨cs,e1,pd _ _ _ e2⟩),h2,h3⟩
 | .nil::ps,x,v::vs,i,n,h,ha=>by
   obtain⟨g,h1,h2,h3⟩:=iE ye BM hdf hZ hF hd ps x vs (i+1) n h.2 fun j v hj=>by rw[show i+1+j=i+(j+1)by omega]; exact ha (j+1) v (by simpa using hj)
   have hv:=ha 0 v rfl;rw[amJ]at hv;exact⟨g,h1.tell hv.1 (tv:= .v .nil) (by rw[hv.2]; exact h.1),h2,h3⟩
 | .pt ks::ps,x,v::vs,i,n,h,ha=>by
   obtain⟨g,h1,h2,h3⟩:=iE ye BM hdf hZ hF hd ps x.2 vs (i+1) n h.2 fun j v hj=>by rw[show i+1+j=i+(j+1)by omega]; exact ha (j+1) v (by simpa using hj)
   have hv:=ha 0 v rfl;rw[amJ]at hv;exact⟨g,h1.tell hv.1 (tv:= .v (.rp none 0 ks [x.1] 0 0)) (by rw[hv.2]; exact aaO (g:=g) (st:=⟨pB ps x.2 (i+1),fY ps x.2 (i+1)⟩) h.1),h2,h3⟩
 | .io gg ks::ps,x,v::vs,i,n,h,ha=>by
   obtain⟨g,h1,h2,h3⟩:=iE ye BM hdf hZ hF hd ps x.2 vs (i+1) (n+bU ks) h.2 fun j v hj=>by rw[show i+1+j=i+(j+1)by omega]; exact ha (j+1) v (by simpa using hj)
   have hv:=ha 0 v rfl;rw[amJ]at hv;obtain⟨cs,e1,e2⟩:=h.1;have hlen:=fG ks x.1;obtain⟨_,kl⟩:=gy ks x.1 cs n e2;refine CF ye hF hd h1 h2 h3 hv.1 hv.2 (by omega) (vals:=nA ks cs) (fun j c hj => ?_) fun g' ay q1 q2 => ?_
   . obtain⟨e,bZ,y,u,g1,g2,g3⟩:=kl j c hj;exact⟨_,y,u,g1,g2,g3⟩
   . exact zz e1 (iD ks x.1 cs 0 (bb.ix n 0 ks x.1 cs e2) q1 q2)
 | .mv k::ps,x,v::vs,i,n,h,ha=>by
   obtain⟨g,h1,h2,h3⟩:=iE ye BM hdf hZ hF hd ps x.2 vs (i+1) (n+1) h.2 fun j v hj=>by rw[show i+1+j=i+(j+1)by omega]; exact ha (j+1) v (by simpa using hj)
   have hv:=ha 0 v rfl;rw[amJ]at hv;refine CF ye hF hd h1 h2 h3 hv.1 hv.2 (by simp) (vals:=[v]) (fun j c hj => ?_) fun g' ay q1 q2 => ?_
   . cases j with
     | zero => simp only[amj,amd]at hj;subst hj;exact⟨k,x.1,v,rfl,rfl,h.1⟩
     | succ j=>simp at hj
   . exact⟨_,q1 0 _ rfl,oR _,fun _=>(q2 0 v rfl).symm⟩
 | .pw cs::ps,x,v::vs,i,n,h,ha=>by
   obtain⟨g,h1,h2,h3⟩:=iE ye BM hdf hZ hF hd ps x.2 vs (i+1) (n+(cs.length+1)) h.2 fun j v hj=>by rw[show i+1+j=i+(j+1)by omega]; exact ha (j+1) v (by simpa using hj)
   have hv:=ha 0 v rfl;rw[amJ]at hv;cases hb:Nat.blt i 100000 with
   | false =>
     refine⟨g,?_,fun r j b h => ?_,fun r R hR h => ?_⟩
     . show Rel cx Z0 g ⟨(i,.v (bif Nat.blt i 100000 then .ptr i 0 else .dead))::pB ps x.2 (i+1),bif Nat.blt i 100000 then (i,⟨true,cf cs x.1⟩)::fY ps x.2 (i+1)else fY ps x.2 (i+1)⟩ a w;rw[hb];exact h1.tell hv.1 (tv:= .v .dead) trivial
     . obtain⟨n',k1,k2⟩:=h2 r j b h; exact⟨n',by omega,k2⟩
     . have hR:look (bif Nat.blt i 100000 then (i,(⟨true,cf cs x.1⟩:Rt))::fY ps x.2 (i+1)else fY ps x.2 (i+1)) r=some R:=hR;rw[hb]at hR;obtain⟨n',k1,k2⟩:=h3 r R hR h; exact⟨n',by omega,k2⟩
   | true =>
     obtain⟨g',k1,k2,k3⟩:=Oq ye hF hd h1 h2 h3 hv.1 hv.2 h.1 (Nat.blt_eq.mp hb);refine⟨g',?_,k2,fun r R hR => ?_⟩
     . show Rel cx Z0 g' ⟨(i,.v (bif Nat.blt i 100000 then .ptr i 0 else .dead))::pB ps x.2 (i+1),bif Nat.blt i 100000 then (i,⟨true,cf cs x.1⟩)::fY ps x.2 (i+1)else fY ps x.2 (i+1)⟩ a w;rw[hb];exact k1
     . have hR:look (bif Nat.blt i 100000 then (i,(⟨true,cf cs x.1⟩:Rt))::fY ps x.2 (i+1)else fY ps x.2 (i+1)) r=some R:=hR;rw[hb]at hR;exact k3 r R hR
 | .pw _::_,_,[],_,_,h,_=>h.elim
 | [],_,_::_,_,_,h,_=>h.elim
 | .c _ _::_,_,[],_,_,h,_=>h.elim
 | .pt _::_,_,[],_,_,h,_=>h.elim
 | .nil::_,_,[],_,_,h,_=>h.elim
 | .fn _ _::_,_,[],_,_,h,_=>h.elim
 | .io _ _::_,_,[],_,_,h,_=>h.elim
 | .mv _::_,_,[],_,_,h,_=>h.elim
def sI(tmps:Array Value):ResultVar->Sem Value
 | .tmp t=>pure (tmps.getD t undef)
 | .cell a t=>do loadVar t (<- asAddr (tmps.getD a undef))
theorem sU(hT:cH P E)(h:Rel cx Z g st a w)(hn:cJ st):∀(res:List ResultVar) (l:List (Bool×List AV)),mM E st res=some l->∃ vs,(res.mapM (sI a.tmps)).run P w= .ok vs w/\iJ Z g st w l vs
 | [],l,hr=>by simp only[mM,amd]at hr;subst hr;exact⟨[],by simp[List.mapM_nil],trivial⟩
 | .tmp t::r,l,hr=>by
   simp only[mM]at hr;split at hr
   . rename_i tv l' h1 h2;split at hr
     . rename_i p hp;simp only[amd]at hr;subst hr;obtain⟨vs,e1,e2⟩:=sU hT h hn r l' h2;exact⟨a.tmps.getD t undef::vs,by simp[List.mapM_cons,sI,e1],lR (jJ h hn.cons.cons h1) hp,e2⟩
     . simp at hr
   . simp at hr
 | .cell t ty::r,l,hr=>by
   simp only[mM]at hr;split at hr
   . rename_i r' j ti l' h1 h2 h3;split at hr
     . rename_i cs hl;simp only[amd]at hr;subst hr;obtain⟨vs,e1,e2⟩:=sU hT h hn r l' h3;obtain⟨b,of,us,f1,f2,f3,f4⟩:=zo h (v:=a.tmps.getD t undef) (p:= .ptr r' j) (jJ h hn.cons.cons h1) hl;obtain⟨v,f5,f6⟩:=ya (hT ty ti h2) f2 f3;refine⟨v::vs,by simp only[List.mapM_cons,sI,f1,asAddr,amF,amN,amq,f5,e1],?_,e2⟩;cases yc:ti.agg with
       | true=>rw[yc]at f6; exact⟨us.toArray,f6,by simpa using f4⟩
       | false =>
         rw[yc]at f6;subst f6
         match cs,f4 with
         | [c],f4=>exact f4.1
         | [],f4=>exact f4.elim
         | _::_::_,f4=>exact f4.2.elim
     . simp at hr
   . simp at hr
theorem lM.trans{w w' w'':World}{g' g'':Gh}{ay Ki:St}(h:lM Z w w' g g' st ay)(h':lM Z w' w'' g' g'' ay Ki)(hk:oe Z Z w w'' g g'' st Ki):lM Z w w'' g g'' st Ki :=
 ⟨hk,h'.tm.trans h.tm,h'.be.trans h.be,fun r R' hR=>by obtain⟨R1,e1,e2⟩:=h'.box r R' hR;obtain⟨R,e3,e4⟩:=h.box r R1 e1;exact⟨R,e3,e2.trans e4⟩⟩
structure mY {P:Program} (cx:Cx P) (Z:Nat->Prop) (w:World) (g g':Gh) (st ay:St) (H:Nat->Nat->Prop) (j n:Nat):Prop where
 rel:∀(p:Bool×List AV) (v:Value),vr Z g st w p v->vr Z g' ay w p v
 av:∀(x:AV) (v:Value),bC Z g st w x v->bC Z g' ay w x v
 fp:∀ r j b,g'.fp r j b->g.fp r j b
 free:∀ n,jK cx Z g' ay w (H n)
 sub:∀ n b,H n b->∃ r j,g.fp r j b
 cS:∀ n m b,H n b->H m b->n=m
 ix:∀ i b,H i b->j<=i/\i<j+n
 be:g'.be=g.be
 box:∀ r R',look ay.rt r=some R'->∃ R,look st.rt r=some R/\R'.box=R.box
theorem mY.refl(j:Nat):mY cx Z w g g st st (fun _ _=>False) j 0 :=
 ⟨fun _ _ h=>h,fun _ _ h=>h,fun _ _ _ h=>h,fun _=>jK.none _ _ _ _ _,fun _ _ h=>h.elim,fun _ _ _ h=>h.elim,fun _ _ h=>h.elim,rfl,fun r R h=>⟨R,h,rfl⟩⟩
theorem jK.mono{F:Nat->Prop}{g':Gh}{ay:St}(h:jK cx Z g st w F)(ym:∀ r j b,g'.fp r j b->g.fp r j b)(vT:g'.be=g.be)(nO:∀ r R',look ay.rt r=some R'->∃ R,look st.rt r=some R/\R'.box=R.box):jK cx Z g' ay w F :=
 ⟨h.lt,h.own,h.z,fun b hb r j hh=>h.fp b hb r j (ym r j b hh),fun b hb r R' hR hx=>by obtain⟨R,e1,e2⟩:=nO r R' hR;rw[vT];exact h.box b hb r R e1 (by rw[<- e2]; exact hx)⟩
theorem mY.trans{g' g'':Gh}{ay Ki:St}{H H':Nat->Nat->Prop}{j n m:Nat}(h:mY cx Z w g g' st ay H j n)(h':mY cx Z w g' g'' ay Ki H' (j+n) m):mY cx Z w g g'' st Ki (fun i b=>H i b∨H' i b) j (n+m) where
 rel:=fun p v hr=>h'.rel p v (h.rel p v hr)
 av:=fun x v hr=>h'.av x v (h.av x v hr)
 fp:=fun r j b hb=>h.fp r j b (h'.fp r j b hb)
 free:=fun i=>by have f1:=(h.free i).mono h'.fp h'.be h'.box;have f2:=h'.free i;exact⟨fun b hb=>hb.elim (f1.lt b) (f2.lt b),fun b hb=>hb.elim (f1.own b) (f2.own b),fun b hb=>hb.elim (f1.z b) (f2.z b),fun b hb=>hb.elim (f1.fp b) (f2.fp b),fun b hb=>hb.elim (f1.box b) (f2.box b)⟩
 sub:=fun i b hb=>by
  rcases hb with hb | hb
  . exact h.sub i b hb
  . obtain⟨r,j,hh⟩:=h'.sub i b hb;exact⟨r,j,h.fp r j b hh⟩
 cS:=fun i i' b hb cz=>by
  have cross:∀ i i',H i b->H' i' b->False:=fun i i' k1 k2=>by obtain⟨r,j,hh⟩:=h'.sub i' b k2;exact(h.free i).fp b k1 r j hh
  rcases hb with hb | hb
  . rcases cz with cz | cz
    . exact h.cS i i' b hb cz
    . exact(cross i i' hb cz).elim
  . rcases cz with cz | cz
    . exact(cross i' i cz hb).elim
    . exact h'.cS i i' b hb cz
 ix:=fun i b hb=>by
  rcases hb with hb | hb
  . have:=h.ix i b hb; omega
  . have:=h'.ix i b hb; omega
 be:=h'.be.trans h.be
 box:=fun r R' hR=>by obtain⟨R1,e1,e2⟩:=h'.box r R' hR;obtain⟨R,e3,e4⟩:=h.box r R1 e1;exact⟨R,e3,e2.trans e4⟩
theorem bb.mono{fresh:Bool}{H H':Nat->Nat->Prop}(hH:∀ n b,H n b->H' n b):∀(ks:List K) (x:Tl ks) (cs:List Value) (j:Nat),bb fresh Z w H ks x cs j->bb fresh Z w H' ks x cs j
 | [],_,[],_,_=>trivial
 | .sl e bZ::ks,x,v::vs,j,h=>by
   refine⟨?_,bb.mono hH ks x.2 vs _ h.2⟩;cases fresh with
   | true=>exact dI.frame _ _ _ _ _ (hH j) (fun _ _ _=>rfl) h.1
   | false=>exact h.1
 | .int _::ks,x,v::vs,j,h=>⟨h.1,bb.mono hH ks x.2 vs j h.2⟩
 | .bool::ks,x,v::vs,j,h=>⟨h.1,bb.mono hH ks x.2 vs j h.2⟩
 | .str::ks,x,v::vs,j,h=>⟨h.1,bb.mono hH ks x.2 vs j h.2⟩
 | [],_,_::_,_,h=>h.elim
 | .sl _ _::_,_,[],_,h=>h.elim
 | .int _::_,_,[],_,h=>h.elim
 | .bool::_,_,[],_,h=>h.elim
 | .str::_,_,[],_,h=>h.elim
theorem mU.mono{fresh:Bool}{H H':Nat->Nat->Prop}(hH:∀ n b,H n b->H' n b):∀(rs:List (Bool×List K)) (y:CT rs) (vs:List Value) (j:Nat),mU fresh Z w H rs y vs j->mU fresh Z w H' rs y vs j
 | [],_,[],_,_=>trivial
 | (gg,ks)::rs,y,v::vs,j,⟨⟨cs,e,h⟩,h'⟩=>⟨⟨cs,e,bb.mono hH ks y.1 cs j h⟩,mU.mono hH rs y.2 vs _ h'⟩
 | [],_,_::_,_,h=>h.elim
 | _::_,_,[],_,h=>h.elim
def slN(fresh:Bool)(ks:List K):Nat:=bif fresh then bU ks else 0
theorem mK(fresh:Bool):∀(ks:List K) (l:List AV) (cs:List Value) (st:St) (g:Gh) (ay:St) (x:Tl ks) (j:Nat),Rel cx Z g st a w->ba Z g st w l cs->jV st fresh ks l=some (ay,x) ->
 ∃ g' H,Rel cx Z g' ay a w/\mY cx Z w g g' st ay H j (slN fresh ks)/\bb fresh Z w H ks x cs j
 | [],[],cs,st,g,ay,x,j,h,hr,ht=>by
   simp only[jV,amd,amK]at ht;obtain⟨rfl,_⟩:=ht;cases cs with
   | nil=>exact⟨g,fun _ _=>False,h,by cases fresh <;> exact mY.refl j,trivial⟩
   | cons _ _=>exact hr.elim
 | .sl e bZ::ks,av::l,[],st,g,ay,x,j,h,hr,ht=>hr.elim
 | .sl e bZ::ks,av::l,v::vs,st,g,ay,x,j,h,hr,ht=>by
   unfold jV at ht;split at ht
   . rename_i ca y hy;split at ht
     . rename_i q hq;cases ht;cases fresh with
       | true =>
         simp only[oT]at hy;obtain⟨g1,F,k1,k2,k3,k4,k5,k6,k7⟩:=ik h hr.1 hy;have t1:mY cx Z w g g1 st ca (fun n b=>n=j/\F b) j 1 :=
          ⟨fun p v=>vr.cI k2.cI p v,fun x v=>bC.cI k2.cI x v,k5,fun n=>⟨fun b hb=>k4.lt b hb.2,fun b hb=>k4.own b hb.2,fun b hb=>k4.z b hb.2,fun b hb=>k4.fp b hb.2,fun b hb=>k4.box b hb.2⟩,fun n b hb=>k6 b hb.2,fun n m b h1 h2=>h1.1.trans h2.1.symm,fun i b hb=>⟨by omega,by omega⟩,k2.be,k2.box⟩
         obtain⟨g',H,m1,m2,m3⟩:=mK true ks l vs ca g1 q.1 q.2 (j+1) k1 (ba.cI k2.cI _ _ hr.2) hq;refine⟨g',fun n b=>(n=j/\F b)∨H n b,m1,?_,?_⟩
         . have:=t1.trans m2;have e:slN true (.sl e bZ::ks)=1+slN true ks:=by simp[slN,bU]; omega
           rw[e];exact this
         . exact⟨dI.frame _ _ _ _ _ (fun b hb=> .inl ⟨rfl,hb⟩) (fun _ _ _=>rfl) k3,bb.mono (fun n b hb=> .inr hb) _ _ _ _ m3⟩
       | false =>
         simp only[oF]at hy;cases hf:av.bV||AK (st.bG (.sl e bZ) av)with
         | false=>rw[hf]at hy; simp at hy
         | true =>
           rw[hf]at hy;simp only[oT]at hy;split at hy
           . rename_i y' hy';cases hy;obtain⟨g',H,m1,m2,m3⟩:=mK false ks l vs st g q.1 q.2 j h hr.2 hq;refine⟨g',H,m1,m2,?_,m3⟩;show RO Z w (.sl e bZ) y v;cases hf2:av.bV with
             | true=>exact cB h hr.1 hf2 hy'
             | false =>
               rw[hf2,hy']at hf;have adT:aW y=[]:=by
                simp only[Bool.false_or,AK]at hf;split at hf
                . rename_i hh; exact hh
                . simp at hf
               obtain⟨a1,c1,q1,q2,q3,q4,_⟩:=(show RO (iR w) w (.sl e bZ) y v from oD h hr.1 hy');exact⟨a1,c1,q1,q2,q3,q4,fun cY=>(cY adT).elim⟩
           . simp at hy
     . simp at ht
   . simp at ht
 | .int k::ks,av::l,cs,st,g,ay,x,j,h,hr,ht=>by
   unfold jV at ht;split at ht
   . rename_i y q hy hf hq;cases ht
     match cs,hr with
     | v::vs,hr => obtain⟨g',H,m1,m2,m3⟩:=mK fresh ks l vs st g q.1 q.2 j h hr.2 hq;exact⟨g',H,m1,m2,cB h hr.1 hf hy,m3⟩
   . simp at ht
 | .bool::ks,av::l,cs,st,g,ay,x,j,h,hr,ht=>by
   unfold jV at ht;split at ht
   . rename_i y q hy hf hq;cases ht
     match cs,hr with
     | v::vs,hr => obtain⟨g',H,m1,m2,m3⟩:=mK fresh ks l vs st g q.1 q.2 j h hr.2 hq;exact⟨g',H,m1,m2,cB h hr.1 hf hy,m3⟩
   . simp at ht
 | .str::ks,av::l,cs,st,g,ay,x,j,h,hr,ht=>by
   unfold jV at ht;split at ht
   . rename_i y q hy hf hq;cases ht
     match cs,hr with
     | v::vs,hr => obtain⟨g',H,m1,m2,m3⟩:=mK fresh ks l vs st g q.1 q.2 j h hr.2 hq;exact⟨g',H,m1,m2,cB h hr.1 hf hy,m3⟩
   . simp at ht
 | [],_::_,cs,st,g,ay,x,j,h,hr,ht=>by simp[jV]at ht
 | .sl _ _::_,[],cs,st,g,ay,x,j,h,hr,ht=>by simp[jV]at ht
 | .int _::_,[],cs,st,g,ay,x,j,h,hr,ht=>by simp[jV]at ht
 | .bool::_,[],cs,st,g,ay,x,j,h,hr,ht=>by simp[jV]at ht
 | .str::_,[],cs,st,g,ay,x,j,h,hr,ht=>by simp[jV]at ht
def aeY(fresh:Bool):List (Bool×List K)->Nat
 | []=>0
 | (_,ks)::rs=>slN fresh ks+aeY fresh rs
theorem Gg(fresh:Bool):∀(rs:List (Bool×List K)) (l:List (Bool×List AV)) (vs:List Value) (st:St) (g:Gh) (ay:St) (y:CT rs) (j:Nat),Rel cx Z g st a w->iJ Z g st w l vs->Aq st fresh rs l=some (ay,y) ->
 ∃ g' H,Rel cx Z g' ay a w/\mY cx Z w g g' st ay H j (aeY fresh rs)/\mU fresh Z w H rs y vs j
 | [],[],vs,st,g,ay,y,j,h,hr,ht=>by
   simp only[Aq,amd,amK]at ht;obtain⟨rfl,_⟩:=ht;cases vs with
   | nil=>exact⟨g,fun _ _=>False,h,mY.refl j,trivial⟩
   | cons _ _=>exact hr.elim
 | (gg,ks)::rs,(BU,l)::r,vs,st,g,ay,y,j,h,hr,ht=>by
   unfold Aq at ht;cases hb:cw gg BU with
   | false=>rw[hb]at ht; simp at ht
   | true =>
     rw[hb]at ht;simp only[oT]at ht;have:=eL hb;subst this;split at ht
     . rename_i ca x hx;split at ht
       . rename_i q hq;cases ht
         match vs,hr with
         | v::vs,hr =>
           obtain⟨us,e1,e2⟩:=iB hr.1;obtain⟨g1,H1,m1,m2,m3⟩:=mK fresh ks l us st g ca x j h e2 hx;have Fo:iJ Z g1 ca w r vs:=by
            have:∀(r:List (Bool×List AV)) (vs:List Value),iJ Z g st w r vs->iJ Z g1 ca w r vs:=by
             intro r;induction r with
             | nil=>intro vs h; cases vs with | nil=>trivial | cons _ _=>exact h.elim
             | cons p r ih=>intro vs h; cases vs with | nil=>exact h.elim | cons v vs=>exact⟨m2.rel _ _ h.1,ih vs h.2⟩
            exact this r vs hr.2
           obtain⟨g',H',n1,n2,n3⟩:=Gg fresh rs r vs ca g1 q.1 q.2 (j+slN fresh ks) m1 Fo hq;refine⟨g',fun n b=>H1 n b∨H' n b,n1,m2.trans n2,⟨us,e1,bb.mono (fun n b hb=> .inl hb) _ _ _ _ m3⟩,?_⟩;have e3:(bif fresh then j+bU ks else j)=j+slN fresh ks:=by cases fresh <;> simp[slN]
           rw[e3];exact mU.mono (fun n b hb=> .inr hb) _ _ _ _ n3
       . simp at ht
     . simp at ht
 | [],_::_,vs,st,g,ay,y,j,h,hr,ht=>by simp[Aq]at ht
 | (_,_)::_,[],vs,st,g,ay,y,j,h,hr,ht=>by simp[Aq]at ht
end
def YO(g:Gh)(st:St)(NM:List (Nat×Nat)):Nat->Nat->Prop:=fun m b=>∃ nm,NM[m]? = some nm/\(g.fp nm.1 nm.2 b∨(nm.2=200000/\(∃ R,look st.rt nm.1=some R/\R.box=true)/\b=g.be nm.1))
theorem lk{Z:Nat->Prop}{P:Program}{cx:Cx P}{g:Gh}{st:St}{a:Act}{w:World}(h:Rel cx Z g st a w)(NM:List (Nat×Nat)):∀(ks:List K) (l:List AV) (cs:List Value) (y:Tl ks) (pre post:List (Nat×Nat)),ba Z g st w l cs->gQ st ks l=some y->NM=pre++(gU l++post) ->
 bb true Z w (YO g st NM) ks y cs pre.length/\(gU l).length=bU ks
 | [],[],[],y,_,_,_,_,_=>⟨trivial,rfl⟩
 | [],[],_::_,_,_,_,h1,_,_=>h1.elim
 | [],_::_,_,_,_,_,_,h2,_=>by simp[gQ]at h2
 | .sl e bZ::ks,[],_,y,_,_,h1,h2,_=>by simp[gQ]at h2
 | .sl e bZ::ks,av::l,[],y,_,_,h1,h2,_=>h1.elim
 | .sl e bZ::ks,av::l,v::vs,y,pre,post,h1,h2,hN=>by
   cases av with
   | ref r j s =>
     simp only[gQ]at h2;split at h2
     . rename_i s' m k' x y' hc hr;cases hb:Nat.beq s' s with
       | false=>rw[hb]at h2; simp at h2
       | true =>
         rw[hb]at h2;simp only[oT]at h2;split at h2
         . rename_i x' hx;cases h2;obtain⟨rfl,hx⟩:=cQ hx;have hx:x=x':=hx;subst hx;have:=beq_eq hb;subst this;obtain⟨c,q1,q2,q3⟩:=h1.1;rw[hc]at q1;cases q1;have q3:=q3 rfl;subst q3;simp only[gU]at hN ⊢;obtain⟨k1,k2⟩:=lk h NM ks l vs y' (pre++[(r,j)]) post h1.2 hr (by rw[hN]; simp);refine⟨⟨?_,by rw[amf]at k1; exact k1⟩,by simp[bU,k2]⟩;refine dI.frame _ _ _ _ _ (fun b hb=>⟨(r,j),?_,.inl hb⟩) (fun _ _ _=>rfl) (h.cell r j _ hc);rw[hN]; simp
         . simp at h2
     . simp at h2
   | _=>simp[gQ,tZ]at h2
 | .int k::ks,[],_,y,_,_,h1,h2,_=>by simp[gQ]at h2
 | .int k::ks,av::l,[],y,_,_,h1,h2,_=>h1.elim
 | .int k::ks,av::l,v::vs,y,pre,post,h1,h2,hN=>by
   unfold gQ at h2;simp only[tZ,oF]at h2;split at h2
   . rename_i x y' hx hf hr;cases h2;have BK:gU (av::l)=gU l:=by cases av <;> first | rfl | simp[AV.bV]at hf
     rw[BK]at hN ⊢;obtain⟨k1,k2⟩:=lk h NM ks l vs y' pre post h1.2 hr hN;exact⟨⟨cB h h1.1 hf hx,k1⟩,k2⟩
   . simp at h2
 | .bool::ks,[],_,y,_,_,h1,h2,_=>by simp[gQ]at h2
 | .bool::ks,av::l,[],y,_,_,h1,h2,_=>h1.elim
 | .bool::ks,av::l,v::vs,y,pre,post,h1,h2,hN=>by
   unfold gQ at h2;simp only[tZ,oF]at h2;split at h2
   . rename_i x y' hx hf hr;cases h2;have BK:gU (av::l)=gU l:=by cases av <;> first | rfl | simp[AV.bV]at hf
     rw[BK]at hN ⊢;obtain⟨k1,k2⟩:=lk h NM ks l vs y' pre post h1.2 hr hN;exact⟨⟨cB h h1.1 hf hx,k1⟩,k2⟩
   . simp at h2
 | .str::ks,[],_,y,_,_,h1,h2,_=>by simp[gQ]at h2
 | .str::ks,av::l,[],y,_,_,h1,h2,_=>h1.elim
 | .str::ks,av::l,v::vs,y,pre,post,h1,h2,hN=>by
   unfold gQ at h2;simp only[tZ,oF]at h2;split at h2
   . rename_i x y' hx hf hr;cases h2;have BK:gU (av::l)=gU l:=by cases av <;> first | rfl | simp[AV.bV]at hf
     rw[BK]at hN ⊢;obtain⟨k1,k2⟩:=lk h NM ks l vs y' pre post h1.2 hr hN;exact⟨⟨cB h h1.1 hf hx,k1⟩,k2⟩
   . simp at h2
theorem yj.mono{Z:Nat->Prop}{w:World}{G G':Nat->Nat->Prop}(hG:∀ m b,G m b->G' m b):∀(cs:List (Bool×K)) (y:BT cs) (vs:List Value) (n:Nat),yj Z w G cs y vs n->yj Z w G' cs y vs n
 | [],_,[],_,_=>trivial
 | [],_,_::_,_,h=>h.elim
 | (true,_)::_,_,[],_,h=>h.elim
 | (false,_)::_,_,[],_,h=>h.elim
 | (true,k)::cs,y,v::vs,n,h=>⟨dI.frame _ _ _ _ _ (hG n) (fun _ _ _=>rfl) h.1,yj.mono hG cs y.2 vs _ h.2⟩
 | (false,k)::cs,y,v::vs,n,h=>⟨h.1,yj.mono hG cs y.2 vs _ h.2⟩
theorem Ww.mono{Z:Nat->Prop}{w:World}{G G':Nat->Nat->Prop}(hG:∀ m b,G m b->G' m b){cs:List (Bool×K)}{y:BT cs}{v:Value}{n:Nat}(h:Ww Z w G cs y v n):Ww Z w G' cs y v n:=by obtain⟨b,vs,e,fr,h1,h2,h3,h4,h5⟩:=h;exact⟨b,vs,e,fr,h1,h2,h3,hG _ _ h4,yj.mono hG _ _ _ _ h5⟩
theorem wa.mono{Z:Nat->Prop}{w:World}{G G':Nat->Nat->Prop}(hG:∀ m b,G m b->G' m b):∀(ps:List PK) (y:ux ps) (vs:List Value) (n:Nat),wa Z w G ps y vs n->wa Z w G' ps y vs n
 | [],_,_,_,_=>trivial
 | .c _ _::ps,y,_::vs,n,h=>wa.mono hG ps y vs n h
 | .pt _::ps,y,_::vs,n,h=>wa.mono hG ps y vs n h
 | .nil::ps,y,_::vs,n,h=>wa.mono hG ps y vs n h
 | .fn _ _::ps,y,_::vs,n,h=>wa.mono hG ps y vs n h
 | .mv _::ps,y,_::vs,n,h=>wa.mono hG ps y vs (n+1) h
 | .pw _::ps,y,_::vs,n,h=>⟨Ww.mono hG h.1,wa.mono hG ps y.2 vs _ h.2⟩
 | .pw _::_,_,[],_,h=>h.elim
 | .io _ ks::ps,y,_::vs,n,⟨⟨cs,e,h⟩,h'⟩=>⟨⟨cs,e,bb.mono hG ks y.1 cs n h⟩,wa.mono hG ps y.2 vs _ h'⟩
 | .c _ _::_,_,[],_,h=>h.elim
 | .fn _ _::_,_,[],_,h=>h.elim
 | .io _ _::_,_,[],_,h=>h.elim
 | .pt _::_,_,[],_,h=>h.elim
 | .nil::_,_,[],_,h=>h.elim
 | .mv _::_,_,[],_,h=>h.elim
theorem sD:∀(l:List (Nat×Nat)) (r j m:Nat) (n:Nat×Nat),hasName r j l=false->l[m]? = some n->¬ (n.1=r/\n.2=j)
 | [],_,_,_,_,_,h=>by simp at h
 | n0::l,r,j,m,n,h,hm=>by
   simp only[hasName,anZ]at h;cases m with
   | zero => simp only[amj,amd]at hm;subst hm;rintro⟨rfl,rfl⟩;simp at h
   | succ m=>exact sD l r j m n h.2 (by simpa using hm)
theorem tL:∀(l:List (Nat×Nat)) (m m':Nat) (n n':Nat×Nat),Ae l=true->l[m]? = some n->l[m']? = some n'->n.1=n'.1->n.2=n'.2->m=m'
 | [],_,_,_,_,_,h,_,_,_=>by simp at h
 | n0::l,m,m',n,n',h,h1,h2,e1,e2=>by
   simp only[Ae,ame,am0]at h;cases m with
   | zero =>
     cases m' with
     | zero=>rfl
     | succ m' => simp only[amj,amd]at h1;subst h1;exact(sD l n0.1 n0.2 m' n' h.1 (by simpa using h2) ⟨e1.symm,e2.symm⟩).elim
   | succ m =>
     cases m' with
     | zero => simp only[amj,amd]at h2;subst h2;exact(sD l n0.1 n0.2 m n h.1 (by simpa using h1) ⟨e1,e2⟩).elim
     | succ m'=>exact amL (· + 1) (tL l m m' n n' h.2 (by simpa using h1) (by simpa using h2) e1 e2)
theorem vE(r:Nat):∀(cs:List (Bool×K)) (j:Nat),(dX r cs j).length=cs.length
 | [],_=>rfl
 | _::cs,j=>amL (· + 1) (vE r cs (j+1))
theorem nk{Z:Nat->Prop}{P:Program}{cx:Cx P}{g:Gh}{st:St}{a:Act}{w:World}(h:Rel cx Z g st a w){r:Nat}(NM:List (Nat×Nat)):∀(cs:List (Bool×K)) (l:List RC) (x:BT cs) (j:Nat) (us:List Value) (pre post:List (Nat×Nat)),
 (∀ q c,l[q]? = some c->st.cell r (j+q)=some c)->us.length=l.length->(∀ q u,us[q]? = some u->u=g.cv r (j+q))->eU st cs l=some x->NM=pre++(dX r cs j++post)->yj Z w (YO g st NM) cs x us pre.length
 | [],[],_,_,[],_,_,_,_,_,_,_=>trivial
 | [],[],_,_,_::_,_,_,_,hl,_,_,_=>by simp at hl
 | [],_::_,_,_,_,_,_,_,_,_,hd,_=>by simp[eU]at hd
 | (b,k)::cs,[],_,_,_,_,_,_,_,_,hd,_=>by cases b <;> simp[eU]at hd
 | (b,k)::cs,_::_,_,_,[],_,_,_,hl,_,_,_=>by simp at hl
 | (true,k)::cs,⟨s,m,rv⟩::l,x,j,u::us,pre,post,hc,hl,hu,hd,hN=>by
   cases rv with
   | av _=>simp[eU]at hd
   | own k' y =>
     simp only[eU]at hd;split at hd
     . rename_i y' z h1 h2;cases hd;obtain⟨rfl,hy⟩:=cQ h1;have hy:y=y':=hy;subst hy;have e0:=hu 0 u rfl;rw[amJ]at e0;have c0:=hc 0 _ rfl;rw[amJ]at c0;have kl:dI w k' y (g.cv r j) (g.fp r j):=h.cell r j _ c0;have k0:NM[pre.length]? = some (r,j):=by rw[hN]; simp[dX]
       have ih:=nk h NM cs l z (j+1) us (pre++[(r,j)]) post (fun q c hq=>by rw[show j+1+q=j+(q+1)by omega]; exact hc (q+1) c (by simpa using hq)) (by simpa using hl) (fun q u hq=>by rw[show j+1+q=j+(q+1)by omega]; exact hu (q+1) u (by simpa using hq)) h2 (by rw[hN]; simp[dX]);rw[amf]at ih;refine⟨?_,ih⟩;rw[e0];exact dI.frame _ _ _ _ _ (fun b hb=>⟨_,k0,.inl hb⟩) (fun _ _ _=>rfl) kl
     . simp at hd
 | (false,k)::cs,⟨s,m,rv⟩::l,x,j,u::us,pre,post,hc,hl,hu,hd,hN=>by
   cases rv with
   | own _ _=>simp[eU]at hd
   | av av0 =>
     simp only[eU]at hd;cases hf:av0.bV with
     | false=>rw[hf]at hd; simp at hd
     | true =>
       rw[hf]at hd;simp only[oT]at hd;split at hd
       . rename_i y' z h1 h2;cases hd;have e0:=hu 0 u rfl;rw[amJ]at e0;have c0:=hc 0 _ rfl;rw[amJ]at c0;have eQ:bC Z g st w av0 (g.cv r j):=h.cell r j _ c0;have ih:=nk h NM cs l z (j+1) us (pre++[(r,j)]) post (fun q c hq=>by rw[show j+1+q=j+(q+1)by omega]; exact hc (q+1) c (by simpa using hq)) (by simpa using hl) (fun q u hq=>by rw[show j+1+q=j+(q+1)by omega]; exact hu (q+1) u (by simpa using hq)) h2 (by rw[hN]; simp[dX]);rw[amf]at ih;refine⟨?_,ih⟩;rw[e0];exact cB h eQ hf h1
       . simp at hd
theorem gv{Z:Nat->Prop}{P:Program}{cx:Cx P}{g:Gh}{st:St}{a:Act}{w:World}{pins:List Nat}(h:Rel cx Z g st a w)(NM:List (Nat×Nat)):∀(ps:List PK) (y:ux ps) (vs:List Value) (i:Nat) (pre:List (Nat×Nat)),j7 pins st ps i=some y->vs.length=ps.length->(∀ j v,vs[j]? = some v->iW pins (i+j)=true->a.tmps.getD (i+j) undef=v)->NM=pre++lO st ps i ->
 wa Z w (YO g st NM) ps y vs pre.length
 | [],_,_,i,_,_,_,_,_=>trivial
 | .c _ _::ps,y,[],i,_,_,hl,_,_=>by simp at hl
 | .pt _::ps,y,[],i,_,_,hl,_,_=>by simp at hl
 | .nil::ps,y,[],i,_,_,hl,_,_=>by simp at hl
 | .fn _ _::ps,y,[],i,_,_,hl,_,_=>by simp at hl
 | .io _ _::ps,y,[],i,_,_,hl,_,_=>by simp at hl
 | .mv _::ps,y,[],i,_,_,hl,_,_=>by simp at hl
 | .c _ _::ps,y,v::vs,i,pre,hy,hl,hp,hN =>
   gv h NM ps y vs (i+1) pre hy (by simpa using hl) (fun j v hj hm=>by rw[show i+1+j=i+(j+1)by omega]at hm ⊢; exact hp (j+1) v (by simpa using hj) hm) hN
 | .nil::ps,y,v::vs,i,pre,hy,hl,hp,hN =>
   gv h NM ps y vs (i+1) pre hy (by simpa using hl) (fun j v hj hm=>by rw[show i+1+j=i+(j+1)by omega]at hm ⊢; exact hp (j+1) v (by simpa using hj) hm) hN
 | .pt _::ps,y,v::vs,i,pre,hy,hl,hp,hN =>
   gv h NM ps y vs (i+1) pre hy (by simpa using hl) (fun j v hj hm=>by rw[show i+1+j=i+(j+1)by omega]at hm ⊢; exact hp (j+1) v (by simpa using hj) hm) hN
 | .fn _ _::ps,y,v::vs,i,pre,hy,hl,hp,hN =>
   gv h NM ps y vs (i+1) pre hy (by simpa using hl) (fun j v hj hm=>by rw[show i+1+j=i+(j+1)by omega]at hm ⊢; exact hp (j+1) v (by simpa using hj) hm) hN
 | .pw _::ps,y,[],i,_,_,hl,_,_=>by simp at hl
 | .pw cs::ps,y,v::vs,i,pre,hy,hl,hp,hN=>by
   unfold j7 at hy;split at hy
   . rename_i r l Fm Fl;cases hb:Nat.beq r i&&iW pins i with
     | false=>rw[hb]at hy; simp at hy
     | true =>
       rw[hb]at hy;simp only[oT]at hy;simp only[ame]at hb;have e:=beq_eq hb.1;subst e;split at hy
       . rename_i x y' hx hy';cases hy;have hv:=hp 0 v rfl hb.2;rw[amJ]at hv;obtain⟨R,q1,q2,q3⟩:=(h.tm r _ Fm).2;rw[hv]at q3;obtain⟨b1,b2,b3,b4,us,e,fr,b5,b6,b7,b8⟩:=h.box r _ Fl rfl;have hN':NM=pre++((r,200000)::(dX r cs 0++lO st ps (r+1))):=by rw[hN]; rfl
         have k0:NM[pre.length]? = some (r,200000):=by rw[hN']; simp
         have k1:=nk h (r:=r) NM cs l x 0 us.toList (pre++[(r,200000)]) (lO st ps (r+1)) (fun q c hq=>by
          rw[amp];simp only[St.cell,Fl];exact hq) (by simpa using b7) (fun q u hq=>by
          have aV:q<us.size:=by have:=(amM.1 hq).1;simpa using this
          have:=b8 q aV;rw[<- amh,hq]at this;rw[amp];exact am1 this) hx (by rw[hN']; simp)
         have k2:=vE r cs 0;have k3:=gv h NM ps y' vs (r+1) (pre++[(r,200000)]++dX r cs 0) hy' (by simpa using hl) (fun j v hj hm=>by rw[show r+1+j=r+(j+1)by omega]at hm ⊢; exact hp (j+1) v (by simpa using hj) hm) (by rw[hN']; simp);rw[amf]at k1;rw[amf,amf,k2]at k3;refine⟨⟨g.be r,us,e,fr,by rw[q3],b5,b6,⟨_,k0,.inr ⟨rfl,⟨_,Fl,rfl⟩,rfl⟩⟩,k1⟩,?_⟩;rw[show pre.length+(cs.length+1)=pre.length+[(r,200000)].length+cs.length by simp only[ams,amZ]; omega];exact k3
       . simp at hy
   . simp at hy
 | .mv _::ps,y,v::vs,i,pre,hy,hl,hp,hN=>by have:=gv h NM ps y vs (i+1) (pre++[(300000+i,0)]) hy (by simpa using hl) (fun j v hj hm=>by rw[show i+1+j=i+(j+1)by omega]at hm ⊢; exact hp (j+1) v (by simpa using hj) hm) (by rw[hN]; simp[lO]);rw[amf]at this;exact this
 | .io gg ks::ps,y,v::vs,i,pre,hy,hl,hp,hN=>by
   unfold j7 at hy;split at hy
   . rename_i tv oV;split at hy
     . rename_i BU l Mm;cases hb:cw gg BU&&iW pins i with
       | false=>rw[hb]at hy; simp at hy
       | true =>
         rw[hb]at hy;simp only[oT]at hy;simp only[ame]at hb;have hg:=eL hb.1;subst hg;split at hy
         . rename_i x y' hx hy';cases hy;have hv:=hp 0 v rfl hb.2;rw[amJ]at hv;have hC:=lR (h.tm i tv oV).2 Mm;rw[hv]at hC;obtain⟨cs,e1,e2⟩:=iB hC;have hN':NM=pre++(gU l++lO st ps (i+1)):=by rw[hN]; simp[lO,oV,Mm]
           obtain⟨k1,k2⟩:=lk h NM ks l cs x pre _ e2 hx hN';have k3:=gv h NM ps y' vs (i+1) (pre++gU l) hy' (by simpa using hl) (fun j v hj hm=>by rw[show i+1+j=i+(j+1)by omega]at hm ⊢; exact hp (j+1) v (by simpa using hj) hm) (by rw[hN']; simp);rw[amf,k2]at k3;exact⟨⟨cs,e1,k1⟩,k3⟩
         . simp at hy
     . simp at hy
   . simp at hy
theorem JH{Z:Nat->Prop}{P:Program}{cx:Cx P}{g:Gh}{st:St}{a:Act}{w:World}{pins:List Nat}(h:Rel cx Z g st a w)(ps:List PK)(y:ux ps)(vs:List Value)(hy:ua pins st ps 0=some y)(hl:vs.length=ps.length)(hp:∀ j v,vs[j]? = some v->iW pins (0+j)=true->a.tmps.getD (0+j) undef=v) :
 ∃ G:Nat->Nat->Prop,wa Z w G ps y vs 0/\(∀ m b,G m b->(∃ r j,g.fp r j b)∨∃ r R,look st.rt r=some R/\R.box=true/\b=g.be r)/\∀ m m' b,G m b->G m' b->m=m':=by
 unfold ua at hy;cases hn:Ae (lO st ps 0)with
 | false=>rw[hn]at hy; simp at hy
 | true =>
   rw[hn]at hy;simp only[oT]at hy;refine⟨YO g st (lO st ps 0),gv h _ ps y vs 0 [] hy hl hp rfl,fun m b ⟨nm,_,hb⟩ => ?_,fun m m' b ⟨n1,q1,q2⟩ ⟨n2,q3,q4⟩ => ?_⟩
   . rcases hb with hb | ⟨_,⟨R,hR,hx⟩,e⟩
     . exact .inl ⟨_,_,hb⟩
     . exact .inr ⟨_,R,hR,hx,e⟩
   . rcases q2 with q2 | ⟨x1,⟨R,hR,hx⟩,e⟩
     . rcases q4 with q4 | ⟨_,⟨R',lr,lQ⟩,e'⟩
       . obtain⟨e1,e2⟩:=h.cS _ _ _ _ b q2 q4;exact tL _ m m' n1 n2 hn q1 q3 e1 e2
       . exact((h.box _ R' lr lQ).2.2.1 _ _ (e' ▸ q2)).elim
     . rcases q4 with q4 | ⟨x2,⟨R',lr,lQ⟩,e'⟩
       . exact((h.box _ R hR hx).2.2.1 _ _ (e ▸ q4)).elim
       . have:=(h.box _ R hR hx).2.2.2.1 _ R' lr lQ (e'.symm.trans e);exact tL _ m m' n1 n2 hn q1 q3 this.symm (x1.trans x2.symm)
theorem iz{Z:Nat->Prop}{w:World}{F:Nat->Nat->Prop}:∀(ps:List PK) (x:PT ps) (vs:List Value) (i:Nat),ee Z w F ps x vs i->vs.length=ps.length
 | [],_,[],_,_=>rfl
 | .c _ _::ps,x,_::vs,i,h=>amL (· + 1) (iz ps x.2 vs _ h.2)
 | .pt _::ps,x,_::vs,i,h=>amL (· + 1) (iz ps x.2 vs _ h.2)
 | .nil::ps,x,_::vs,i,h=>amL (· + 1) (iz ps x vs _ h.2)
 | .fn _ _::ps,x,_::vs,i,h=>amL (· + 1) (iz ps x.2 vs _ h.2)
 | .io _ _::ps,x,_::vs,i,h=>amL (· + 1) (iz ps x.2 vs _ h.2)
 | .mv _::ps,x,_::vs,i,h=>amL (· + 1) (iz ps x.2 vs _ h.2)
 | .pw _::ps,x,_::vs,i,h=>amL (· + 1) (iz ps x.2 vs _ h.2)
 | .pw _::_,_,[],_,h=>h.elim
 | [],_,_::_,_,h=>h.elim
 | .pt _::_,_,[],_,h=>h.elim
 | .nil::_,_,[],_,h=>h.elim
 | .c _ _::_,_,[],_,h=>h.elim
 | .fn _ _::_,_,[],_,h=>h.elim
 | .io _ _::_,_,[],_,h=>h.elim
 | .mv _::_,_,[],_,h=>h.elim
theorem Ap:∀(ps:List PK),nn ps=false->∀(y z:ux ps),y=z
 | [],_,_,_=>rfl
 | .c _ _::ps,h,y,z=>Ap ps h y z
 | .pt _::ps,h,y,z=>Ap ps h y z
 | .nil::ps,h,y,z=>Ap ps h y z
 | .fn _ _::ps,h,y,z=>Ap ps h y z
 | .mv _::ps,h,y,z=>Ap ps h y z
 | .io _ _::ps,h,_,_=>by simp[nn]at h
 | .pw _::ps,h,_,_=>by simp[nn]at h
def Gx(E:En)(res:List ResultVar)(ps:List PK)(rs:List (Bool×List K))(fresh:Bool)(o:Ou):Tr (ux ps×CT rs):=match o with
 | .ext _ _=> .fail
 | .qO st=>Tr.cu (mM E st res) fun l=>Tr.cu (Aq st fresh rs l) fun p=>Tr.cu (ua E.pins p.1 ps 0) fun z=> .ret (z,p.2)
 | .ret st=>Tr.cu (mM E st res) fun l=>Tr.cu (Aq st fresh rs l) fun p=>Tr.cu (ua E.pins p.1 ps 0) fun z=> .ret (z,p.2)
theorem CL {P : Program} {E : En} (hT : cH P E) {f : Nat} {fn : Func} {c : Code} (hf : P.funcs[f]? = some fn) (iw : (fn.name == "runtime.NumGoroutine") = false) (hb : fn.body = some c) (Mg : E.nt = fn.ntmps)
 {s:Su} (hs:∀ x y,s.vX x=some y->∃ z,(nn s.ps=true->z=y.1)/\∀(cx:Cx P) (a:Act) (w:World),Good cx E (start s.ps x) a w->c.wp P (fun e a' w'=>∃ ou,QO cx E ou e a' w'/\(Gx E fn.results.toList s.ps s.rs s.fresh ou).run=some (z,y.2)) a w):lU P f s:=by
 intro w Z F args x y yQ cF hZ hF hd hy;have Yg:∀ b,Z b->b<w.heap.size->¬ ∃ i,F i b:=fun b hb _ ⟨i,hi⟩=>(hF i b hi).2 hb
 rw[MuLone.run_callFunc_enter hf iw hb];obtain⟨zio,alo,au⟩:=hs x y hy;show Calls P f args w _;have hlen:=iz _ _ _ _ cF;refine calls_of_wp hf hb ?_;have dh:fn.ntmps<=(args++Array.replicate (fn.ntmps-args.size) undef).size:=by simp; omega
 have lE:∀ j v,args.toList[j]? = some v->0+j<(args++Array.replicate (fn.ntmps-args.size) undef).size/\(args++Array.replicate (fn.ntmps-args.size) undef).getD (0+j) undef=v:=fun j v hj=>by
  rw[amh]at hj;have aV:j<args.size:=by
   rcases amv j args.size with h | h
   . exact h
   . simp[amy h]at hj
  rw[amp];refine⟨by simp; omega,?_⟩;rw[amn,am9 aV,hj];rfl
 let nx:Nat->Option Value:=fun t=>bif iW E.pins t then some ((args++Array.replicate (fn.ntmps-args.size) undef).getD t undef)else none
 have BM:∀ t v,nx t=some v->(args++Array.replicate (fn.ntmps-args.size) undef).getD t undef=v/\iW E.pins t=true:=fun t v ht=>by
  show _/\_;simp only[nx]at ht;cases hm:iW E.pins t with
  | false=>rw[hm]at ht; simp at ht
  | true=>rw[hm]at ht; simp only[oT,amd]at ht; exact⟨ht,rfl⟩
 obtain⟨g,eQ,_⟩:=iE (cx:=⟨w,fun b=>∃ i,F i b,Z,nx,yQ,Yg⟩) (a:={ tmps:=args++Array.replicate (fn.ntmps-args.size) undef,defers:=[] }) rfl (fun t v ht=>(BM t v ht).1) rfl hZ hF hd s.ps x args.toList 0 0 cF lE;have Uk:Good ⟨w,fun b=>∃ i,F i b,Z,nx,yQ,Yg⟩ E (start s.ps x) { tmps:=args++Array.replicate (fn.ntmps-args.size) undef,defers:=[] } w :=
  ⟨fun t tv ht=>fz s.ps x 0 t tv (jb _ _ _ ht),⟨by rw[Mg]; exact dh,fun t v ht=>(BM t v ht).2⟩,Z,g,eQ⟩
 have fin:∀(st:St) (a:Act) (w':World),Good ⟨w,fun b=>∃ i,F i b,Z,nx,yQ,Yg⟩ E st a w'->(Tr.cu (mM E st fn.results.toList) fun l=>Tr.cu (Aq st s.fresh s.rs l) fun p=>Tr.cu (ua E.pins p.1 s.ps 0) fun z=>Tr.ret (z,p.2)).run=some (zio,y.2) ->
  a.defers=[]/\∃ v,(results fn a.tmps).run P w'= .ok v w'/\∃(Z':Nat->Prop) (H:Nat->Nat->Prop) (vs:List Value),v=A6 vs/\Dk w w' F Z Z' H/\wa Z' w' (fun i=>H (2 * i)) s.ps y.1 args.toList 0/\mU s.fresh Z' w' (fun j=>H (2 * j+1)) s.rs y.2 vs 0:=by
  intro st a w' ⟨h1,h2,Z',g',h3⟩ hr;obtain⟨l,hl1,hr⟩:=Tr.ai hr;obtain⟨p,Mm,hr⟩:=Tr.ai hr;obtain⟨z,hl3,hr⟩:=Tr.ai hr;simp only[Tr.run,amd,amK]at hr;obtain⟨rfl,hy2⟩:=hr;obtain⟨vs,e1,e2⟩:=sU hT h3 h1 _ _ hl1;obtain⟨g2,H,k1,k2,k3⟩:=Gg s.fresh s.rs l vs st g' p.1 p.2 0 h3 e2 Mm;have Ul:(results fn a.tmps).run P w'= .ok (A6 vs) w':=by
   have hr0:results fn a.tmps=(do let vs <- fn.results.mapM (sI a.tmps); pure (if h:vs.size=1 then vs[0]else .tuple vs)):=by
    have:sI a.tmps=fun x=>(match x with
     | .tmp t=>pure (a.tmps.getD t undef)
     | .cell a' t=>do loadVar t (<- asAddr (a.tmps.getD a' undef)):Sem Value):=by funext x; cases x <;> rfl
    rw[this];rfl
   have hmm:fn.results.mapM (sI a.tmps)=(do let l <- fn.results.toList.mapM (sI a.tmps); pure l.toArray):=by rw[Array.mapM_eq_mapM_toList];rfl
   rw[hr0,hmm];simp only[amF,e1,amq,amN];congr 1
   match vs with
   | []=>rfl
   | [v]=>rfl
   | _::_::_=>simp[A6]
  have hzy:z=y.1:=by
   cases hh:nn s.ps with
   | true=>exact alo hh
   | false=>exact Ap _ hh _ _
  subst hzy;obtain⟨G,m1,m2,m3⟩:=JH k1 s.ps _ args.toList hl3 hlen fun j v hj hm=>by rw[amp]at hm ⊢;refine k1.nx j v ?_;show(bif iW E.pins j then _ else none)=_;rw[hm];have:=(lE j v hj).2;rw[amp]at this;rw[this]; rfl
  have hG:∀ m b,G m b->b<w'.heap.size/\¬ Z' b/\((∃ i,F i b)∨w.heap.size<=b):=fun m b hb=>by
   rcases m2 m b hb with ⟨i',j,hh⟩ | ⟨r',R',lr,lQ,e'⟩
   . obtain⟨q1,q2,q3,_⟩:=k1.fp _ _ _ hh;exact⟨q1,q3,q2⟩
   . obtain⟨b1,b2,_,_,us,el,fr,b5,_⟩:=k1.box r' R' lr lQ;subst e';exact⟨(amG.1 b5).1,b2,b1⟩
  have cross:∀ j m b,H j b->G m b->False:=fun j m b h1 h2=>by
   rcases m2 m b h2 with ⟨i',j',hh⟩ | ⟨r',R',lr,lQ,e'⟩
   . exact(k2.free j).fp b h1 _ _ hh
   . exact(k2.free j).box b h1 r' R' lr lQ e'.symm
  refine⟨h3.defers,_,Ul,Z',fun n b=>(∃ j,n=2 * j+1/\H j b)∨∃ m,n=2 * m/\G m b,vs,rfl,?_,wa.mono (fun m b hb=> .inr ⟨m,rfl,hb⟩) _ _ _ _ m1,?_⟩
  . exact { os:=k1.os,tape:=k1.tape,output:=k1.output,size:=k1.size
            block:=fun b hb hf=>k1.block b hb (fun⟨i,hi⟩=>hf i hi)
            z:=fun b hb=>k1.z0 b hb (hZ b hb)
            cq:=fun b hb=>k1.cq b hb
            fp:=fun n b hb=>by
             rcases hb with ⟨j,e,hb⟩ | ⟨m,e,hb⟩
             . exact⟨(k2.free j).lt b hb,(k2.free j).z b hb,(k2.free j).own b hb⟩
             . exact hG m b hb
            cS:=fun n m b hb cz=>by
             rcases hb with ⟨j,e,hb⟩ | ⟨q,e,hb⟩
             . rcases cz with ⟨j',e',cz⟩ | ⟨q',e',cz⟩
               . have:=k2.cS j j' b hb cz; omega
               . exact(cross _ _ b hb cz).elim
             . rcases cz with ⟨j',e',cz⟩ | ⟨q',e',cz⟩
               . exact(cross _ _ b cz hb).elim
               . have:=m3 q q' b hb cz; omega }
  . rw[<- hy2];exact mU.mono (fun n b hb=> .inl ⟨n,rfl,hb⟩) _ _ _ _ k3
 refine wp_mono (au _ _ _ Uk) fun e a w' ⟨ou,hq,Kj⟩ => ?_
 cases ou with
 | ext id st=>simp[Gx,Tr.run]at Kj
 | qO st => cases e <;> first | exact hq.elim | exact fin st a w' hq Kj
 | ret st => cases e <;> first | exact hq.elim | exact fin st a w' hq Kj
theorem RA {P : Program} {E : En} (hT : cH P E) (eF : dO P E) (hW : tX P E) (hm : P.follows .mixedOrders = true) {f : Nat} {fn : Func} {c : Code} (hf : P.funcs[f]? = some fn) (iw : (fn.name == "runtime.NumGoroutine") = false) (hb : fn.body = some c) (Mg : E.nt = fn.ntmps) (hl : dR P E c)
 {s:Su} (hs:∀ x y,s.vX x=some y->∃ z,(nn s.ps=true->z=y.1)/\(Ii E c fn.results.toList s.ps s.rs s.fresh x).run=some (z,y.2)):lU P f s:=by
 refine CL hT hf iw hb Mg fun x y hy => ?_
 obtain⟨z,h1,h2⟩:=hs x y hy;refine⟨z,h1,fun cx a w hg => ?_⟩;have h2:((de E c (start s.ps x)).bind (Gx E fn.results.toList s.ps s.rs s.fresh)).run=some (z,y.2):=h2;rw[Tr.run_bind]at h2;cases ho:(de E c (start s.ps x)).run with
 | none=>rw[ho]at h2; simp at h2
 | some ou => rw[ho]at h2;exact wp_mono (cr hT eF hW hm (xz E) c _ _ _ ou hl hg ho) fun e a' w' hq=>⟨ou,hq,h2⟩
end Go.Av
