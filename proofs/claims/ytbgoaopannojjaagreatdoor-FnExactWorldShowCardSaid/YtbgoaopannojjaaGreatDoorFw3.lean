/- Part of a proof that the law FnExactWorldShow answers true for every input: the framework, an evaluator over symbolic data and why it is right. No conditions beyond the statement. -/
import Derived.Test.YtbgoaopannojjaaGreatDoorFw2
import Derived.Laws.AppendOwn
import Derived.KernelRfl
import Derived.Lib.Overlaps
import Derived.Lib.AppendZerosOnto
namespace Go.Av
open Go.RowKit (Below)
def qv (P:Program) (cx:Cx P) (E:En) (st':St) (a:Act) (w:World) (o:Oper):Prop :=
 bm st'/\∀ (next:Act->World->Prop) (Q:Exit->Act->World->Prop),(∀ Z' g' a' w',Rel cx Z' g' st' a' w'->Fit cx E a'->next a' w')->o.wp P a w next Q
section
variable {P:Program} {cx:Cx P} {Z:Nat->Prop} {g:Gh} {st:St} {a:Act} {w:World} {E:En}
theorem Uo (h:Rel cx Z g st a w):∀ (l:List AV) (vs:List Value),aN Z g st w l vs->l.all st.live=true->∀ u∈vs,u.oneCell'=true
 | [],[],_,_=>by simp
 | x :: l,v :: vs,hr,hl=>by
   simp only [adj,ab8] at hl;intro u hu;rcases aci.1 hu with hu | hu
   . subst hu; exact (zy h hr.1 hl.1).2
   . exact Uo h l vs hr.2 hl.2 u hu
 | [],_ :: _,hr,_=>hr.elim
 | _ :: _,[],hr,_=>hr.elim
theorem tl {r j s m i:Nat}:∀ (l:List AV) (c:Nat),lO r j s m i c l=true->∀ q a,l[q]? = some a->oS r j s m (c + q) a=true->∃ i' q',a= .pref r j s m i' q'/\q'=c + q/\i'=i
 | [],_,_,q,a,h,_=>by simp at h
 | x :: l,c,h,q,a,hq,hs=>by
   have self:∀ a,oS r j s m c a=true->∃ i' ,a= .pref r j s m i' c:=fun a ha=>by
    unfold oS at ha;split at ha
    . rename_i r' j' s' m' i' q';simp only [ab8] at ha;obtain ⟨h1,h2,h3,h4,h5⟩:=ha;exact ⟨i',by rw [beq_eq h1,beq_eq h2,beq_eq h3,beq_eq h4,beq_eq h5]⟩
    . simp at ha
   unfold lO at h;cases q with
   | zero => simp only [acj,ab6] at hq;subst hq;rw [acO] at hs;rw [hs] at h;obtain ⟨i',rfl⟩:=self _ hs;simp only [ab9,ab8] at h;exact ⟨i',c,rfl,rfl,beq_eq h.1⟩
   | succ q =>
     rw [ada] at hq;have hr:lO r j s m i (c + 1) l=true:=by
      cases hx:oS r j s m c x with
      | false=>rw [hx] at h; exact h
      | true => rw [hx] at h;obtain ⟨i',rfl⟩:=self _ hx;simp only [ab9,ab8] at h;exact h.2
     obtain ⟨i',q',e1,e2,e3⟩:=tl l (c + 1) hr q a hq (by rw [show c + 1 + q=c + (q + 1) by omega]; exact hs);exact ⟨i',q',e1,by omega,e3⟩
theorem FZ {r j s i c:Nat} {c0:RC} {e:TypeId} {ks:List K} {xs:T (.sl e ks)} {b of l cap:Nat} {av:List AV} {vs:List Value} (h1:st.cell r j=some c0) (h2:c0.s=s) (h3:c0.v= .own (.sl e ks) xs) (h4:g.cv r j= .slice (some ⟨b,of,none⟩) l cap)
 (hr:aN Z g st w av vs) (hs:st.KR (.pel r j s i c) av=true):l7 w r j s (st.HA r j) b (of + i * ks.length) c av vs:=fun q a v ha hv hself=>by
 obtain ⟨i',q',rfl,rfl,rfl⟩:=tl _ _ hs q a ha hself;have hrel:∀ (l:List AV) (vs:List Value),aN Z g st w l vs->∀ (q:Nat) (a:AV) (v:Value),l[q]? = some a->vs[q]? = some v->ba Z g st w a v:=by
  intro l;induction l with
  | nil=>intro vs _ q a v h; simp at h
  | cons x l ih =>
    intro vs hr q a v h1 h2;cases vs with
    | nil=>simp at h2
    | cons u vs =>
      cases q with
      | zero=>simp only [acj,ab6] at h1 h2; subst h1 h2; exact hr.1
      | succ q=>exact ih vs hr.2 q a v (by simpa using h1) (by simpa using h2)
 obtain ⟨c1,k1,k2,k3,k4⟩:=hrel _ _ hr q _ v ha hv;rw [h1] at k1;simp only [ab6] at k1;subst k1;have hm:c0.m=st.HA r j:=by unfold St.HA; rw [h1]
 obtain ⟨e',ks',xs',f1,f2,f3,b',o',l',cap',f4,f5⟩:=k4 h2 hm;rw [h3] at f1;simp only [RV.own.injEq,K.sl.injEq] at f1;obtain ⟨⟨rfl,rfl⟩,_⟩:=f1;rw [h4] at f4;simp only [ac4,ab6,adq,adn] at f4;obtain ⟨⟨rfl,rfl⟩,_⟩:=f4;rw [show of + i' * ks.length + c + q=of + i' * ks.length + (c + q) by omega];exact f5
theorem N5 (hT:bG P E) (h:Rel cx Z g st a w) (hn:bm st) (hsz:Fit cx E a) {o:Oper} (hd:o.dst=none) {t:TypeId} {pa x:Operand} (ho:o.op= .store t pa x) {ti:TI} {ta tx:TV} {av:AV} {p:Bool×List AV} {st':St}
 (hti:E.ti t=some ti) (hpa:st.get pa=some ta) (hav:ta.B0 = some av) (hx:st.get x=some tx) (hp:tx.cQ = some p) (hlive:p.2.all st.live=true) (hlen:p.2.length=ti.ks.length) (hself:st.KR av p.2=true) (hs:st.store ti.ks p.2 av=some st'):qv P cx E st' a w o:=by
 have hc:=hn.cons.cons;have ra:=qb (aK h hc hpa) hav;obtain ⟨rv,rl⟩:=jV h (aK h hc hx) hp hlive;have hlen':(a.eval x).cells.toList.length=ti.ks.length:=by rw [<- cY rv]; exact hlen
 have h1:=Uo h _ _ rv hlive;have go:∀ (b of:Nat) (g':Gh),a.eval pa= .pointer (some ⟨b,of,none⟩)->Rel cx Z g' st' a (w.setCells b of (a.eval x).cells.toList)->st'.tm=st.tm->(∀ j,j < (a.eval x).cells.toList.length->∃ cs el fr,w.heap[b]? = some (.cells cs el fr)/\of + j < cs.size/\¬ (fr.1<=of + j/\of + j < fr.2))->qv P cx E st' a w o:=by
  intro b of g' e1 e2 e3 e4;refine ⟨fun t tv ht=>hn t tv (by rw [<- e3]; exact ht),fun next Q hk => ?_⟩;have hrun:=mH (P:=P) (hT t ti hti) (w:=w) (b:=b) (o:=of) (v:=a.eval x) rfl hlen' h1 e4;unfold Oper.wp;have:(execOp a.eval o).run P w= .ok .skip (w.setCells b of (a.eval x).cells.toList):=by simp only [execOp,ho,acy,e1,hrun,ack];rfl
  rw [this,Oper.upon_skip,hd];exact hk Z g' a _ e2 hsz
 cases av with
 | ptr r j =>
   obtain ⟨R,f1,f2,f3⟩:=ra;have hsh:shape st r=some (true,R.cells.length):=by simp [shape,f1,f2]
   obtain ⟨g',m1,m2,m3⟩:=mN (a:=a) (r:=r) (n:=R.cells.length) ti.ks p.2 _ st g w j st' h hsh rv hs;obtain ⟨b1,b2,b3,b4,cs,el,fr,b5,b6,b7,b8⟩:=h.box r R f1 f2;refine go (g.be r) j g' f3 m1 m2 fun q hq=>⟨cs,el,fr,b5,?_,?_⟩
   . rcases m3 with m3 | m3
     . rw [m3] at hq; simp at hq
     . omega
   . apply b6;rcases m3 with m3 | m3
     . rw [m3] at hq; simp at hq
     . omega
 | pel r j s i c =>
   simp only [St.store] at hs;cases hl:st.live (.pel r j s i c) with
   | false=>rw [hl] at hs; simp at hs
   | true =>
     rw [hl] at hs;simp only [ab9] at hs;have ra':=ra;obtain ⟨c0,f1,f2,f3⟩:=ra;simp only [St.live,f1] at hl;obtain ⟨e,ks,xs,f4,f5,b,of,l,cap,f6,f7⟩:=f3 (beq_eq hl);rw [f7] at ra';have hs:st.p7 r j s i (st.HA r j) c ti.ks p.2=some st':=by
      cases hrow:Nat.beq c 0 && Nat.ble 8 p.2.length with
      | false=>rw [hrow] at hs; exact hs
      | true => rw [hrow] at hs;simp only [ab8] at hrow;have e0:=beq_eq hrow.1;subst e0;obtain ⟨c0s,c0m,c0v⟩:=c0;simp only at f4 hl;subst f4;have es:=beq_eq hl;subst es;exact Jk f1 f5 hs
     obtain ⟨g',m1,m2,m3⟩:=uP (a:=a) (b:=b) (p:=of + i * ks.length) ti.ks p.2 _ st g w c st' h ra' rv (FZ f1 (beq_eq hl) f4 f6 rv hself) hs;exact go b (of + i * ks.length + c) g' f7 m1 m2 m3
 | _=>simp [St.store] at hs
theorem je (h:Rel cx Z g st a w) (hn:bm st) (hsz:Fit cx E a) {o:Oper} {d:Nat} (hd:o.dst=some d) (hdn:iX cx a d) {x:Operand} (ho:o.op= .move x∨o.op= .assign x) {tv:TV} (hx:st.get x=some tv):qv P cx E (st.az d (tv,none)) a w o:=by
 refine ⟨fun t tv' ht => ?_,fun next Q hk=>DD h hn.cons.cons hd hdn ho hx next Q fun Z' g' v w' hr=>hk Z' g' _ w' hr (hsz.put _ _)⟩;rw [a8] at ht;split at ht
 . simp only [ab6] at ht;subst ht;intro hm;obtain ⟨d',hd'⟩:=yO hx hm;exact hn d' _ hd' hm
 . exact hn t tv' ht
def setFrom (cs:Array Value):Nat->List Value->Array Value
 | _,[]=>cs
 | o,v :: r=>setFrom (cs.setIfInBounds o v) (o + 1) r
theorem mw (w:World) (t:TypeId) (fr:Nat×Nat):∀ (vs:List Value) (o:Nat) (cs:Array Value),(w.alloc (.cells cs t fr)).setCells w.heap.size o vs=w.alloc (.cells (setFrom cs o vs) t fr)
 | [],_,_=>rfl
 | v :: r,o,cs=>by
   have:(w.alloc (.cells cs t fr)).setCell ⟨w.heap.size,o,none⟩ v=w.alloc (.cells (cs.setIfInBounds o v) t fr):=by
    have hh:((w.alloc (.cells cs t fr)).setCell ⟨w.heap.size,o,none⟩ v).heap=(w.alloc (.cells (cs.setIfInBounds o v) t fr)).heap:=by
     apply adK;intro i;rw [cM];show (if w.heap.size=i then ((w.heap.push (.cells cs t fr))[i]?).map _ else (w.heap.push (.cells cs t fr))[i]?)=(w.heap.push (.cells (cs.setIfInBounds o v) t fr))[i]?;rw [ac2,ac2];by_cases e:w.heap.size=i
     . subst e; simp
     . rw [if_neg e,if_neg (fun x=>e x.symm),if_neg (fun x=>e x.symm)]
    cases w;simp only [World.setCell,World.alloc] at hh ⊢;congr 1
   rw [World.setCells,this];exact mw w t fr r (o + 1) _
theorem cE:∀ (vs:List Value) (o:Nat) (cs:Array Value) (i:Nat),o + vs.length<=cs.size->(setFrom cs o vs)[i]? = if o<=i/\i < o + vs.length then vs[i - o]? else cs[i]?
 | [],o,cs,i,h=>by
   have:¬ (o<=i/\i < o + ([]:List Value).length):=by intro hh;have:=hh.2;simp only [acd] at this;omega
   rw [if_neg this];rfl
 | v :: r,o,cs,i,h=>by
   have hl:(v :: r).length=r.length + 1:=rfl;rw [setFrom,cE r (o + 1) _ i (by simp; omega)];by_cases e:o=i
   . subst e;rw [if_neg (by omega),if_pos (by omega),ac3,if_pos rfl,if_pos (by omega),adv];rfl
   . by_cases e2:o + 1<=i/\i < o + 1 + r.length
     . rw [if_pos e2,if_pos (by omega),show i - o=(i - (o + 1)) + 1 by omega];rfl
     . rw [if_neg e2,if_neg (by omega),ac3,if_neg e]
theorem B4 (cs:Array Value) (vs:List Value) (h:vs.length=cs.size):setFrom cs 0 vs=vs.toArray:=by
 apply adK;intro i;rw [cE vs 0 cs i (by omega)];by_cases e:i < vs.length
 . rw [if_pos (by omega)]; simp
 . rw [if_neg (by omega)];rw [acw (by omega),acw (by simp; omega)]
theorem N0 (h:Rel cx Z g st a w) {tv:TV} {v:Value} {p:Bool×List AV} (hr:bl Z g st w tv v) (hp:tv.cQ = some p) (hl:p.2.all st.live=true):GW p.1 v v.cells.toList:=by
 cases tv with
 | v x => simp only [TV.cQ,ab6] at hp;subst hp;simp only [adj,List.all_nil,Bool.and_true] at hl;show v.cells.toList=[v];rw [(zy h hr hl).1]
 | agg l => simp only [TV.cQ,ab6] at hp;subst hp;obtain ⟨vs,e,_⟩:=hr;subst e;simp [GW,Value.cells]
 | _=>simp [TV.cQ] at hp
theorem Cd (w:World) (cs:Array Value) (t:TypeId) (i:Nat):cs.toList[i]? = (w.alloc (.cells cs t (0,0))).cell? ⟨w.heap.size,i,none⟩:=by
 have:(w.alloc (.cells cs t (0,0))).heap[w.heap.size]? = some (.cells cs t (0,0)):=by show (w.heap.push (.cells cs t (0,0)))[w.heap.size]? = _;simp
 simp only [World.cell?,this];simp
theorem CV {w0 w':World} {g':Gh} {st':St} {a':Act} {x:Operand} {d n:Nat} {g:Bool} {v:Value} {t:TypeId} (h:Rel cx Z g' st' a' w') (hn:bm st') (hd:look st'.tm d=some (.v (.ptr d 0))) (hdv:a'.tmps.getD d undef= .pointer (some ⟨w0.heap.size,0,none⟩))
 (hx:∀ t,x= .tmp t->t≠d->a'.tmps.getD t undef=v) (hlt:∀ t,x= .tmp t->t < a'.tmps.size) (hC:GW g v v.cells.toList) (hlen:n=v.cells.size) (hw:w'=w0.alloc (.cells v.cells t (0,0))):bm (st'.rebind x d g n)/\Rel cx Z g' (st'.rebind x d g n) a' w':=by
 unfold St.rebind;cases x with
 | tmp t0 =>
   simp only;cases hb:Nat.beq t0 d with
   | true=>exact ⟨hn,h⟩
   | false =>
     simp only [aco];have hne:t0≠d:=ady hb;cases hl:st'.fg d 0 n with
     | none=>exact ⟨hn,h⟩
     | some l =>
       simp only;obtain ⟨b,o,vs,e1,e2,e3,e4⟩:=u0 h (p:= .ptr d 0) (n:=n) (l:=l) (h.tm d _ hd).2 hl;rw [hdv] at e1;simp only [Value.pointer.injEq,ab6,adq,adn] at e1;obtain ⟨rfl,rfl⟩:=e1;have hvs:vs=v.cells.toList:=by
        apply aeV;intro i;rcases acn i vs.length with hi | hi
        . have:=e3 i _ (acm hi);rw [acz,hw] at this;rw [acm hi,<- this];exact (Cd w0 v.cells t i).symm
        . rw [acq hi,acq (by simp; omega)]
       rw [hvs] at e4;refine ⟨fun t tv ht => ?_,?_⟩
       . have ht:look ((t0,dG g l) :: st'.tm) t=some tv:=ht;rw [aW] at ht;split at ht
         . simp only [ab6] at ht;subst ht;intro hm;cases ho:dG g l with
           | may q w y g' l'=>exact ja ho
           | _=>rw [ho] at hm; exact hm
         . exact hn t tv ht
       . refine h.tell (tm:=st'.tm) (rt:=st'.rt) (hlt t0 rfl) ?_;rw [hx t0 rfl hne];exact wG hC e4
 | _=>exact ⟨hn,h⟩
theorem TX (h:Rel cx Z g st a w) (hn:bm st) (hsz:Fit cx E a) {o:Oper} {d:Nat} (hd:o.dst=some d) (hdn:iX cx a d) {t:TypeId} {x:Operand} (ho:o.op= .box t x) {ti:TI} {tx:TV} {p:Bool×List AV} {st':St}
 (hx:st.get x=some tx) (hp:tx.cQ = some p) (hf:st.free d=true) (hlive:p.2.all st.live=true) (hlen:p.2.length=ti.ks.length) (hs:(st.az d (.v (.ptr d 0),some ⟨true,ti.ks.map lq⟩)).gi d 0 ti.ks p.2=some st'):qv P cx E (st'.rebind x d p.1 ti.ks.length) a w o:=by
 have hc:=hn.cons.cons;obtain ⟨rv,rl⟩:=jV h (aK h hc hx) hp hlive;obtain ⟨g1,h1,hk,hbe⟩:=h.zp (d:=d) hdn hf (cs:=(ti.ks.map zV).toArray) (e:=t) (l:=ti.ks.map lq) (by simp) (fun j c v hj hv=>by
  have hj':(ti.ks[j]?).map lq=some c:=by rw [<- ac5]; exact hj
  have hv':(ti.ks[j]?).map zV=some v:=by rw [<- ac5]; simpa using hv
  cases hk:ti.ks[j]? with
  | none=>rw [hk] at hj'; simp at hj'
  | some k0 => rw [hk] at hj' hv';simp only [acG,ab6] at hj' hv';exact .inl ⟨k0,hj'.symm,hv'.symm⟩) (tv:= .v (.ptr d 0)) (v:= .pointer (some ⟨w.heap.size,0,none⟩)) (.inl ⟨rfl,rfl⟩)
 have hsh:shape (st.az d (.v (.ptr d 0),some ⟨true,ti.ks.map lq⟩)) d=some (true,ti.ks.length):=by unfold shape;rw [wS];simp
 obtain ⟨g',m1,m2,m3⟩:=mN (r:=d) (n:=ti.ks.length) ti.ks p.2 _ _ g1 _ 0 st' h1 hsh (aN.bP hk _ _ rv) hs;rw [hbe,mw,B4 _ _ (by rw [<- cY rv,hlen]; simp),adb] at m1;have hnm':bm st':=fun t tv ht=>by
  rw [m2,a8] at ht;split at ht
  . simp only [ab6] at ht; subst ht; exact fun h=>h
  . exact hn t tv ht
 obtain ⟨hnm2,m1⟩:=CV (x:=x) (g:=p.1) m1 hnm' (d:=d) (v:=a.eval x) (by rw [m2,a8,if_pos rfl]) (by simp [Act.put,hdn.1]) (fun t ht hne=>by subst ht; simp [Act.put,Act.eval,ach,aeK (Ne.symm hne)]) (fun t ht=>by
  subst ht;have ht2:(a.put (some d) (.pointer (some ⟨w.heap.size,0,none⟩))).tmps.size=a.tmps.size:=by simp [Act.put]
  rw [ht2];have hx:st.tv t=some tx:=hx;obtain ⟨tq,h1,_⟩:=zt hn.cons hx;exact (h.tm t tq h1).1) (N0 h (aK h hc hx) hp hlive) (hlen.symm.trans rl.symm) rfl
 refine ⟨hnm2,fun next Q hk => ?_⟩
 . have hrun:(execOp a.eval o).run P w= .ok (.value (.pointer (some ⟨w.heap.size,0,none⟩))) (w.alloc (.cells (a.eval x).cells t (0,0))):=by
    simp [execOp,ho,Instr.box,newVar,newRow]
   unfold Oper.wp;rw [hrun,acM,hd];exact hk Z g' _ _ m1 (hsz.put _ _)
end
end Go.Av
namespace Go.Av
open Go.RowKit (Below)
section
variable {w w':World}
theorem iW:∀ (ks:List K) (x:Tl ks) (j:Nat) (G G':Nat->Nat->Prop) (cs cs':Array Value) (o o':Nat),(∀ q,q < ks.length->cs'[o' + q]? = cs[o + q]?)->(∀ j b,G j b->G' j b)->(∀ j b,G j b->b < w.heap.size->w'.heap[b]? = w.heap[b]?)->eo w ks x j G cs o->eo w' ks x j G' cs' o'
 | [],_,_,_,_,_,_,_,_,_,_,_,_=>trivial
 | k :: ks,x,j,G,G',cs,cs',o,o',hc,hG,hw,⟨⟨v,h1,h2⟩,h3⟩ =>
   ⟨⟨v,by rw [<- h1]; exact hc 0 (by simp),cK.frame k _ v (G j) (G' j) (hG j) (hw j) h2⟩,iW ks _ (j + 1) G G' cs cs' (o + 1) (o' + 1) (fun q hq=>by rw [show o' + 1 + q=o' + (q + 1) by omega,show o + 1 + q=o + (q + 1) by omega]; exact hc (q + 1) (by simp; omega)) hG hw h3⟩
structure uz (w:World) (ks:List K) (ys:List (Tl ks)) (news:List Value) (H:Nat->Nat->Nat->Prop) (F:Nat->Prop):Prop where
 len:news.length=ys.length * ks.length
 one:∀ v∈news,v.oneCell'=true
 sub:∀ i j b,H i j b->F b
 disj:∀ i j i' j' b,H i j b->H i' j' b->i=i'/\j=j'
 row:∀ (i:Nat) (y:Tl ks),ys[i]? = some y->eo w ks y 0 (H i) news.toArray (i * ks.length)
theorem vr {i m n q:Nat} (hi:i < m) (hq:q < n):i * n + q < m * n:=by have:=acC n (show i + 1<=m from hi);rw [acZ,adV] at this;omega
theorem uA {e:TypeId} {ks:List K} {xs:T (.sl e ks)} {ys:List (Tl ks)} {G:Nat->Nat->Nat->Prop} {cs:Array Value} {o:Nat} {news:List Value} {H:Nat->Nat->Nat->Prop} {FH:Nat->Prop} {F:Nat->Prop} {b0:Nat} {cap:Nat}
 (hG1:∀ i j b,G i j b->F b/\b≠b0) (hG2:∀ i j i' j' b,G i j b->G i' j' b->i=i'/\j=j') (hx:∀ i x,(aE xs)[i]? = some x->eo w ks x 0 (G i) cs (o + i * ks.length)) (hn:uz w ks ys news H FH) (hFH:∀ b,FH b->¬ F b/\b≠b0)
 {b o':Nat} {cs':Array Value} {el:TypeId} {fr:Nat×Nat} {F':Nat->Prop} (hb:w'.heap[b]? = some (.cells cs' el fr)) (hfr:∀ q,q < cs'.size + mk1 ks->¬ (fr.1<=q/\q < fr.2)) (hF'b:F' b) (hF':∀ q,F q->q≠b0->F' q) (hF'':∀ q,FH q->F' q) (hGb:∀ i j q,G i j q->q≠b) (hHb:∀ q,FH q->q≠b)
 (hsame:∀ q,q < w.heap.size->q≠b0->q≠b->w'.heap[q]? = w.heap[q]?)
 (hold:∀ q,q < (aE xs).length * ks.length->cs'[o' + q]? = cs[o + q]?) (hnew:∀ q,q < news.length->cs'[o' + (aE xs).length * ks.length + q]? = news[q]?) (hcap:(aE xs).length + ys.length<=cap) (hsz:o' + cap * ks.length<=cs'.size) (hbig:(aE xs).length + ys.length<=aS) :
 cK w' (.sl e ks) (cat ks (aE xs) ys) (.slice (some ⟨b,o',none⟩) ((aE xs).length + ys.length) cap) F':=by
 have hlen:(aE (e:=e) (ks:=ks) (cat ks (aE xs) ys)).length=(aE xs).length + ys.length:=ab7 ..
 refine ⟨_,cap,by rw [hlen],by rw [hlen]; exact hcap,by rw [hlen]; exact hbig,by simp,fun a' ha' => ?_⟩;simp only [ab6] at ha';subst ha';refine ⟨b,o',cs',el,fr,rfl,hF'b,hb,hfr,hsz,fun i j q=>if i < (aE xs).length then G i j q else H (i - (aE xs).length) j q,fun i j q hq => ?_,fun i j i' j' q h1 h2 => ?_,fun i x hi => ?_⟩
 . dsimp only at hq;split at hq
   . exact ⟨hF' q (hG1 i j q hq).1 (hG1 i j q hq).2,hGb i j q hq⟩
   . exact ⟨hF'' q (hn.sub _ _ _ hq),hHb q (hn.sub _ _ _ hq)⟩
 . dsimp only at h1 h2;split at h1
   . split at h2
     . exact hG2 _ _ _ _ _ h1 h2
     . exact absurd (hG1 _ _ _ h1).1 (hFH q (hn.sub _ _ _ h2)).1
   . split at h2
     . exact absurd (hG1 _ _ _ h2).1 (hFH q (hn.sub _ _ _ h1)).1
     . obtain ⟨e1,e2⟩:=hn.disj _ _ _ _ _ h1 h2;exact ⟨by omega,e2⟩
 . have hi':(aE xs ++ ys)[i]? = some x:=hi;by_cases hl:i < (aE xs).length
   . rw [ac7 hl] at hi';refine iW ks x 0 (G i) _ cs cs' _ _ (fun q hq => ?_) (fun j q hq => ?_) (fun j q hq hlt=>hsame q hlt (hG1 i j q hq).2 (hGb i j q hq)) (hx i x hi')
     . have:=hold (i * ks.length + q) (vr hl hq);rw [show o' + i * ks.length + q=o' + (i * ks.length + q) by omega,show o + i * ks.length + q=o + (i * ks.length + q) by omega];exact this
     . show (if i < (aE xs).length then G i j q else H (i - (aE xs).length) j q);rw [if_pos hl]; exact hq
   . rw [ac1 (by omega)] at hi';have hlt:i - (aE xs).length < ys.length:=by
      rcases acn (i - (aE xs).length) ys.length with h | h
      . exact h
      . simp [acq h] at hi'
     refine iW ks x 0 (H (i - (aE xs).length)) _ news.toArray cs' _ _ (fun q hq => ?_) (fun j q hq => ?_) (fun j q hq hlt'=>hsame q hlt' (hFH q (hn.sub _ _ _ hq)).2 (hHb q (hn.sub _ _ _ hq))) (hn.row _ x hi')
     . have hq':(i - (aE xs).length) * ks.length + q < news.length:=by rw [hn.len]; exact vr hlt hq
       have:=hnew _ hq';have hmul:i * ks.length=(aE xs).length * ks.length + (i - (aE xs).length) * ks.length:=by rw [<- acZ]; congr 1; omega
       rw [show o' + i * ks.length + q=o' + (aE xs).length * ks.length + ((i - (aE xs).length) * ks.length + q) by omega,this];simp
     . show (if i < (aE xs).length then G i j q else H (i - (aE xs).length) j q);rw [if_neg hl]; exact hq
end
section
variable {P:Program} {cx:Cx P} {Z:Nat->Prop} {g:Gh} {st:St} {a:Act} {w:World} {E:En}
theorem Rel.wr (h:Rel cx Z g st a w) {w':World} {F:Nat->Prop} (hF:fQ cx Z g st w F) (h1:w'.os=w.os) (h2:w'.tape=w.tape) (h3:w'.output=w.output) (hs:w.heap.size<=w'.heap.size) (hb:∀ b,b < w.heap.size->¬ F b->w'.heap[b]? = w.heap[b]?):Rel cx Z g st a w':=by
 have hz:∀ b,Z b->b < w.heap.size->w'.heap[b]? = w.heap[b]? := fun b hz hlt=>hb b hlt fun hf=>hF.z b hf hz
 have hfp:∀ r j b,g.fp r j b->w'.heap[b]? = w.heap[b]? := fun r j b hf=>hb b (h.fp r j b hf).1 fun hf'=>hF.fp b hf' r j hf
 have k:lD Z Z w w' g g st st :=
  { size:=hs,z:=fun b hz' hlt=>⟨hz',hz b hz' hlt⟩,root:=fun r R hR=>⟨R,hR,rfl,fun _=>rfl⟩
    cell:=fun r j c hc=>⟨c,hc,acb _,acb _,fun _=>rfl,fun _ e ks xs hh=>⟨xs,hh,rfl⟩,fun _ _=>⟨rfl,fun b hb' _=>⟨hb',hfp r j b hb'⟩⟩⟩
    own:=fun r j b hb'=>(h.fp r j b hb').1
    block:=(eh h (st':=st) (w':=w) rfl rfl).block }
 refine { os:=h1.trans h.os,tape:=h2.trans h.tape,output:=h3.trans h.output,size:=acv h.size hs,block := ?_,bN:=fun b hb'=>⟨acA (h.bN b hb').1 hs,(h.bN b hb').2⟩,z0:=h.z0,fp := ?_,disj:=h.disj,box := ?_,cell := ?_,tm := ?_,defers:=h.defers,pin:=h.pin }
 . intro b hlt hf;refine (hb b (acA hlt h.size) fun hf' => ?_).trans (h.block b hlt hf);rcases hF.own b hf' with h4 | h4
   . exact hf h4
   . omega
 . intro r j b hb';obtain ⟨h1,h2,h3,h4⟩:=h.fp r j b hb';exact ⟨acA h1 hs,h2,h3,h4⟩
 . intro r R hR hbx;obtain ⟨b1,b2,b3,b4,cs,e,fr,b5,b6⟩:=h.box r R hR hbx;have hlt:g.be r < w.heap.size:=by
    rcases acn (g.be r) w.heap.size with hh | hh
    . exact hh
    . simp [acw hh] at b5
   exact ⟨b1,b2,b3,b4,cs,e,fr,by rw [hb _ hlt fun hf=>hF.box _ hf r R hR hbx rfl]; exact b5,b6⟩
 . intro r j c hc;exact iL.bP k _ _ _ _ (h.cell r j c hc) (fun _ h=>h) (fun b hb' _=>hfp r j b hb')
 . exact fun t tv ht=>⟨(h.tm t tv ht).1,bl.bP k _ _ (h.tm t tv ht).2⟩
theorem Rel.zX (h:Rel cx Z g st a w) {d:Nat} (hd:iX cx a d) (hf:st.free d=true) {k:K} {x:T k} {v:Value} {F:Nat->Prop} (hF:∀ b,F b->b < w.heap.size/\(cx.F0 b∨cx.w0.heap.size<=b)/\¬ Z b/\(∀ r j,¬ g.fp r j b)/\(∀ r' R',look st.rt r'=some R'->R'.box=true->g.be r'≠b)) (ho:cK w k x v F) :
 ∃ g',Rel cx Z g' (st.az d (.v (.ref d 0 0),some ⟨false,[⟨0,0,.own k x⟩]⟩)) (a.put (some d) v) w:=by
 have h6:=Rel.qE h (r:=d) (be:=0) (R:=⟨false,[⟨0,0,.own k x⟩]⟩) (cv:=fun _=>v) (fp:=fun j b=>j=0/\F b) (kt hf)
  (fun j b hb=>⟨(hF b hb.2).1,(hF b hb.2).2.1,(hF b hb.2).2.2.1,(hF b hb.2).2.2.2.1,(hF b hb.2).2.2.2.2,⟨0,0,.own k x⟩,k,x,by rw [hb.1]; rfl,rfl⟩)
  (fun j j' b h1 h2=>h1.1.trans h2.1.symm) (fun hb=>by simp at hb)
  (fun j c hj=>by
    cases j with
    | zero => simp only [acj,ab6] at hj;subst hj;exact cK.frame _ _ _ _ _ (fun b hb=>⟨rfl,hb⟩) (fun _ _ _=>rfl) ho
    | succ j=>simp at hj)
 refine ⟨_,h6.gj hd (tv:= .v (.ref d 0 0)) ⟨⟨0,0,.own k x⟩,?_,acb _,fun _=>by simp [Gh.at]⟩⟩;show (match look ((d,(⟨false,[⟨0,0,.own k x⟩]⟩:Rt)) :: st.rt) d with | some R=>R.cells[0]? | none=>none)=_;rw [aW,if_pos rfl];rfl
end
end Go.Av
namespace Go.Av
open Go.RowKit (Below)
section
variable {P:Program} {w:World} {E:En}
theorem sP {t t2 ty:TypeId} {e:TypeId} {te:TI} (ht:P.underlying t=some (.slice e)) (hTe:pR P e te) {d2:TypeDesc} (h2:P.underlying t2=some d2) (h2':∀ k,d2≠ .int k) {b o sLen sCap n:Nat} {vx:Value} {news:List Value} {ats:Array TypeId} (hat:ats[0]? = some t) (hat2:ats[1]? = some t2)
 (hl:(Builtin.lenOf vx).run P w= .ok n w) (hf:(Builtin.firstCells te.ks.length n vx).run P w= .ok news.toArray w) (hc:sLen + n<=sCap) (h1:∀ u∈news,u.oneCell'=true)
 (hcell:∀ j,j < news.length->∃ cs el fr,w.heap[b]? = some (.cells cs el fr)/\o + sLen * te.ks.length + j < cs.size/\¬ (fr.1<=o + sLen * te.ks.length + j/\o + sLen * te.ks.length + j < fr.2)) :
 (Builtin.append_ ats ty #[.slice (some ⟨b,o,none⟩) sLen sCap,vx]).run P w= .ok (.slice (some ⟨b,o,none⟩) (sLen + n) sCap) (w.setCells b (o + sLen * te.ks.length) news):=by
 have hst:=run_storeCells_cells (P:=P) b (o + sLen * te.ks.length) news 0 w (fun j hj=>by
  obtain ⟨cs,el,fr,e1,e2,_⟩:=hcell j hj;simp [World.cell?,e1,e2]) (fun j hj=>by
  obtain ⟨cs,el,fr,e1,e2,e3⟩:=hcell j hj;simp only [World.frozen?,acO,e1];simp only [aeI,ael];by_cases h:fr.1<=o + sLen * te.ks.length + j
  . exact .inr fun h'=>e3 ⟨h,h'⟩
  . exact .inl h) h1
 rw [acO] at hst;have hz:(match d2 with | .int _=>true | _=>false)=false:=by cases d2 <;> first | rfl | exact absurd rfl (h2' _)
 simp only [Builtin.append_,hat,hat2,acV,acj,ada,acy,acK ht,ack,bL hTe,acK h2,acR,hz,acU,ado,hl,hc,if_true,adG,hf,gC,hst]
theorem append_nil {t t2 ty:TypeId} {e:TypeId} {te:TI} (ht:P.underlying t=some (.slice e)) (hTe:pR P e te) {d2:TypeDesc} (h2:P.underlying t2=some d2) (h2':∀ k,d2≠ .int k) {vx:Value} {news:List Value} {ats:Array TypeId} (hat:ats[0]? = some t) (hat2:ats[1]? = some t2)
 (hl:(Builtin.lenOf vx).run P w= .ok 0 w) (hf:(Builtin.firstCells te.ks.length 0 vx).run P w= .ok news.toArray w) :
 (Builtin.append_ ats ty #[.slice none 0 0,vx]).run P w= .ok (.slice none 0 0) w:=by
 have hz:(match d2 with | .int _=>true | _=>false)=false:=by cases d2 <;> first | rfl | exact absurd rfl (h2' _)
 simp only [Builtin.append_,hat,hat2,acV,acj,ada,acy,acK ht,ack,bL hTe,acK h2,acR,hz,acU,ado,hl,acb,acO,if_true,adG,hf]
theorem qy {t t2 ty:TypeId} {e:TypeId} {te:TI} (ht:P.underlying t=some (.slice e)) (hTe:pR P e te) {d2:TypeDesc} (h2:P.underlying t2=some d2) (h2':∀ k,d2≠ .int k) {base:Option Addr} {sLen sCap n:Nat} {vx:Value} {olds news:List Value} {ats:Array TypeId} (hat:ats[0]? = some t) (hat2:ats[1]? = some t2)
 (hl:(Builtin.lenOf vx).run P w= .ok n w) (hfo:(Builtin.firstCells te.ks.length sLen (.slice base sLen sCap)).run P w.drew= .ok olds.toArray w.drew) (hf:(Builtin.firstCells te.ks.length n vx).run P w.drew= .ok news.toArray w.drew) (hc:sCap < sLen + n) (hby:0 < te.bytes) (hb:(sLen + n) * te.bytes<=aS) :
 ∃ zs:Array Value,zs.size=(grownCap w (sLen + n) sCap e - (sLen + n)) * te.ks.length/\(Builtin.append_ ats ty #[.slice base sLen sCap,vx]).run P w= .ok (.slice (some ⟨w.heap.size,0,none⟩) (sLen + n) (grownCap w (sLen + n) sCap e)) (w.drew.alloc (.cells (olds.toArray ++ news.toArray ++ zs) e (0,0))):=by
 have hz:(match d2 with | .int _=>true | _=>false)=false:=by cases d2 <;> first | rfl | exact absurd rfl (h2' _)
 obtain ⟨i,e1,e2,e3,z,e4,e5⟩:=hTe.info;have hzs:z.cells.size=te.ks.length:=by rw [<- acX,e5]; simp
 refine ⟨Builtin.zeroCells z.cells (grownCap w (sLen + n) sCap e - (sLen + n)),by rw [size_zeroCells,hzs],?_⟩;have hn:¬ (sLen + n<=sCap):=by omega
 have hbb:(sLen + n) * te.bytes<=140737488355328:=hb;have hle:sLen + n<=(sLen + n) * te.bytes:=adP _ hby;have h63:¬ (9223372036854775807 < ((sLen:Int) + (n:Int))):=by omega
 have h48:¬ (281474976710656 < Builtin.nextslicecap (sLen + n) sCap * i.bytes):=by have:=growslice_fits (need:=sLen + n) (old:=sCap) (bytes:=i.bytes) hc (by rw [e3]; exact hbb);omega
 have hfo':(Builtin.firstCells i.size sLen (.slice base sLen sCap)).run P w.drew= .ok olds.toArray w.drew:=by rw [e2]; exact hfo
 have hf':(Builtin.firstCells i.size n vx).run P w.drew= .ok news.toArray w.drew:=by rw [e2]; exact hf
 simp [Builtin.append_,hat,hat2,acK ht,acK h2,sizeOf,typeInfo,zeroValue,e1,e4,hl,hn,h63,h48,Question.forced,hf',hfo',newRow,grownCap,hz];congr 2;rw [<- aep];congr 1;simp
end
end Go.Av
namespace Go.Av
open Go.RowKit (Below)
section
variable {P:Program} {cx:Cx P} {Z:Nat->Prop} {g:Gh} {st:St} {a:Act} {w:World} {E:En}
theorem gz {fresh:Bool} {H:Nat->Nat->Prop}:∀ (ks:List K) (x:Tl ks) (cs:List Value) (j:Nat),aM fresh Z w H ks x cs j->cs.length=ks.length
 | [],_,[],_,_=>rfl
 | .sl e ks' :: ks,x,v :: vs,j,h=>acT (· + 1) (gz ks x.2 vs _ h.2)
 | .int _ :: ks,x,v :: vs,j,h=>acT (· + 1) (gz ks x.2 vs _ h.2)
 | .bool :: ks,x,v :: vs,j,h=>acT (· + 1) (gz ks x.2 vs _ h.2)
 | .str :: ks,x,v :: vs,j,h=>acT (· + 1) (gz ks x.2 vs _ h.2)
 | [],_,_ :: _,_,h=>h.elim
 | .sl _ _ :: _,_,[],_,h=>h.elim
 | .int _ :: _,_,[],_,h=>h.elim
 | .bool :: _,_,[],_,h=>h.elim
 | .str :: _,_,[],_,h=>h.elim
theorem fD {H:Nat->Nat->Prop}:∀ (ks:List K) (x:Tl ks) (cs:List Value) (j:Nat),aM true Z w H ks x cs j->∀ u∈cs,u.oneCell'=true
 | [],_,[],_,_=>by simp
 | .sl e ks' :: ks,x,v :: vs,j,h=>fun u hu=>by
   rcases aci.1 hu with hu | hu
   . subst hu; exact (ud h.1).2
   . exact fD ks x.2 vs _ h.2 u hu
 | .int _ :: ks,x,v :: vs,j,h=>fun u hu=>by
   rcases aci.1 hu with hu | hu
   . subst hu; exact (oL h.1).2
   . exact fD ks x.2 vs _ h.2 u hu
 | .bool :: ks,x,v :: vs,j,h=>fun u hu=>by
   rcases aci.1 hu with hu | hu
   . subst hu; exact (oL (k:= .bool) h.1).2
   . exact fD ks x.2 vs _ h.2 u hu
 | .str :: ks,x,v :: vs,j,h=>fun u hu=>by
   rcases aci.1 hu with hu | hu
   . subst hu; exact (oL (k:= .str) h.1).2
   . exact fD ks x.2 vs _ h.2 u hu
 | [],_,_ :: _,_,h=>h.elim
 | .sl _ _ :: _,_,[],_,h=>h.elim
 | .int _ :: _,_,[],_,h=>h.elim
 | .bool :: _,_,[],_,h=>h.elim
 | .str :: _,_,[],_,h=>h.elim
theorem lY {H:Nat->Nat->Prop} (hd:∀ n m b,H n b->H m b->n=m) {cs:Array Value}:∀ (ks:List K) (x:Tl ks) (vs:List Value) (j j0 o:Nat),aM true Z w H ks x vs j->(∀ q,q < vs.length->cs[o + q]? = vs[q]?) ->
 ∃ G:Nat->Nat->Prop,eo w ks x j0 G cs o/\(∀ q b,G q b->j0<=q/\∃ n,j<=n/\H n b)/\(∀ q q' b,G q b->G q' b->q=q')
 | [],_,[],j,j0,o,_,_=>⟨fun _ _=>False,trivial,fun _ _ h=>h.elim,fun _ _ _ h=>h.elim⟩
 | .sl e ks' :: ks,x,v :: vs,j,j0,o,h,hc=>by
   obtain ⟨G,g1,g2,g3⟩:=lY hd ks x.2 vs (j + 1) (j0 + 1) (o + 1) h.2 fun q hq=>by rw [show o + 1 + q=o + (q + 1) by omega]; exact hc (q + 1) (by simp; omega)
   refine ⟨fun q b=>if q=j0 then H j b else G q b,⟨⟨v,by have:=hc 0 (by simp); simpa using this,cK.frame _ _ _ _ _ (fun b hb=>by dsimp only; rw [if_pos rfl]; exact hb) (fun _ _ _=>rfl) h.1⟩,?_⟩,fun q b hb => ?_,fun q q' b hb hb' => ?_⟩
   . refine eo.frame ks x.2 (j0 + 1) G _ cs (o + 1) (fun q b hb => ?_) (fun _ _ _ _=>rfl) g1;have:=(g2 q b hb).1;rw [if_neg (by omega)];exact hb
   . dsimp only at hb;split at hb
     . exact ⟨by omega,j,acb _,hb⟩
     . obtain ⟨k1,n,k2,k3⟩:=g2 q b hb;exact ⟨by omega,n,by omega,k3⟩
   . dsimp only at hb hb';split at hb
     . split at hb'
       . omega
       . obtain ⟨_,n,k2,k3⟩:=g2 q' b hb';have:=hd j n b hb k3;omega
     . split at hb'
       . obtain ⟨_,n,k2,k3⟩:=g2 q b hb;have:=hd j n b hb' k3;omega
       . exact g3 q q' b hb hb'
 | .int k :: ks,x,v :: vs,j,j0,o,h,hc=>by
   obtain ⟨G,g1,g2,g3⟩:=lY hd ks x.2 vs j (j0 + 1) (o + 1) h.2 fun q hq=>by rw [show o + 1 + q=o + (q + 1) by omega]; exact hc (q + 1) (by simp; omega)
   exact ⟨G,⟨⟨v,by have:=hc 0 (by simp); simpa using this,gU rfl h.1⟩,g1⟩,fun q b hb=>⟨by have:=(g2 q b hb).1; omega,(g2 q b hb).2⟩,g3⟩
 | .bool :: ks,x,v :: vs,j,j0,o,h,hc=>by
   obtain ⟨G,g1,g2,g3⟩:=lY hd ks x.2 vs j (j0 + 1) (o + 1) h.2 fun q hq=>by rw [show o + 1 + q=o + (q + 1) by omega]; exact hc (q + 1) (by simp; omega)
   exact ⟨G,⟨⟨v,by have:=hc 0 (by simp); simpa using this,gU (k:= .bool) rfl h.1⟩,g1⟩,fun q b hb=>⟨by have:=(g2 q b hb).1; omega,(g2 q b hb).2⟩,g3⟩
 | .str :: ks,x,v :: vs,j,j0,o,h,hc=>by
   obtain ⟨G,g1,g2,g3⟩:=lY hd ks x.2 vs j (j0 + 1) (o + 1) h.2 fun q hq=>by rw [show o + 1 + q=o + (q + 1) by omega]; exact hc (q + 1) (by simp; omega)
   exact ⟨G,⟨⟨v,by have:=hc 0 (by simp); simpa using this,gU (k:= .str) rfl h.1⟩,g1⟩,fun q b hb=>⟨by have:=(g2 q b hb).1; omega,(g2 q b hb).2⟩,g3⟩
 | [],_,_ :: _,_,_,_,h,_=>h.elim
 | .sl _ _ :: _,_,[],_,_,_,h,_=>h.elim
 | .int _ :: _,_,[],_,_,_,h,_=>h.elim
 | .bool :: _,_,[],_,_,_,h,_=>h.elim
 | .str :: _,_,[],_,_,_,h,_=>h.elim
theorem nj {Z':Nat->Prop} {G:Nat->Nat->Prop} {cs:Array Value}:∀ (ks:List K) (x:Tl ks) (j b o o':Nat),flat ks=true->uF Z' w ks x b o->(∀ q,q < ks.length->cs[o' + q]? = w.cell? ⟨b,o + q,none⟩)->eo w ks x j G cs o'
 | [],_,_,_,_,_,_,_,_=>trivial
 | .int k :: ks,x,j,b,o,o',hf,⟨⟨v,h1,h2⟩,h3⟩,hc=>⟨⟨v,by rw [<- h1]; exact hc 0 (by simp),gU rfl h2⟩,nj ks x.2 (j + 1) b (o + 1) (o' + 1) hf h3 fun q hq=>by rw [show o' + 1 + q=o' + (q + 1) by omega,show o + 1 + q=o + (q + 1) by omega]; exact hc (q + 1) (by simp; omega)⟩
 | .bool :: ks,x,j,b,o,o',hf,⟨⟨v,h1,h2⟩,h3⟩,hc=>⟨⟨v,by rw [<- h1]; exact hc 0 (by simp),gU (k:= .bool) rfl h2⟩,nj ks x.2 (j + 1) b (o + 1) (o' + 1) hf h3 fun q hq=>by rw [show o' + 1 + q=o' + (q + 1) by omega,show o + 1 + q=o + (q + 1) by omega]; exact hc (q + 1) (by simp; omega)⟩
 | .str :: ks,x,j,b,o,o',hf,⟨⟨v,h1,h2⟩,h3⟩,hc=>⟨⟨v,by rw [<- h1]; exact hc 0 (by simp),gU (k:= .str) rfl h2⟩,nj ks x.2 (j + 1) b (o + 1) (o' + 1) hf h3 fun q hq=>by rw [show o' + 1 + q=o' + (q + 1) by omega,show o + 1 + q=o + (q + 1) by omega]; exact hc (q + 1) (by simp; omega)⟩
 | .sl _ _ :: _,_,_,_,_,_,hf,_,_=>by simp [flat] at hf
theorem Ft {Z':Nat->Prop}:∀ (ks:List K) (x:Tl ks) (b o q:Nat),uF Z' w ks x b o->q < ks.length->∃ v,w.cell? ⟨b,o + q,none⟩=some v/\v.oneCell'=true
 | [],_,_,_,_,_,hq=>by simp at hq
 | k :: ks,x,b,o,0,⟨⟨v,h1,h2⟩,_⟩,_=>⟨v,h1,(oL h2).2⟩
 | k :: ks,x,b,o,q + 1,⟨_,h3⟩,hq=>by obtain ⟨v,h1,h2⟩:=Ft ks x.2 b (o + 1) q h3 (by simpa using hq);exact ⟨v,by rw [show o + (q + 1)=o + 1 + q by omega]; exact h1,h2⟩
theorem ve {G:Nat->Nat->Prop} {cs:Array Value}:∀ (ks:List K) (x:Tl ks) (j o q:Nat),eo w ks x j G cs o->q < ks.length->∃ v,cs[o + q]? = some v/\v.oneCell'=true
 | [],_,_,_,_,_,hq=>by simp at hq
 | k :: ks,x,j,o,0,⟨⟨v,h1,h2⟩,_⟩,_=>⟨v,h1,(ud h2).2⟩
 | k :: ks,x,j,o,q + 1,⟨_,h3⟩,hq=>by obtain ⟨v,h1,h2⟩:=ve ks x.2 (j + 1) (o + 1) q h3 (by simpa using hq);exact ⟨v,by rw [show o + (q + 1)=o + 1 + q by omega]; exact h1,h2⟩
theorem sv {m n q:Nat} (h:q < m * n):q / n < m/\q % n < n/\q=q / n * n + q % n:=by
 have hn:0 < n:=by
  rcases adX n with h0 | h0
  . subst h0; simp at h
  . exact h0
 exact ⟨Nat.div_lt_of_lt_mul (by rw [aeN]; exact h),aeL _ hn,by rw [aeN]; exact (Nat.div_add_mod q n).symm⟩
structure uR (P:Program) (cx:Cx P) (Z:Nat->Prop) (g g':Gh) (st st':St) (w:World) (ks:List K) (ys:List (Tl ks)) (v:Value) (news:List Value) (H:Nat->Nat->Nat->Prop) (FH:Nat->Prop):Prop where
 rows:uz w ks ys news H FH
 len:(Builtin.lenOf v).run P w= .ok ys.length w
 cells:∀ w1:World,w1.heap=w.heap->(Builtin.firstCells ks.length ys.length v).run P w1= .ok news.toArray w1
 free:fQ cx Z g' st' w FH
 other:∀ F,fQ cx Z g st w F->fQ cx Z g' st' w F/\∀ b,FH b->¬ F b
 tm:st'.tm=st.tm
theorem uR.zM {ks:List K} {ys:List (Tl ks)} {v:Value} {news:List Value} (h1:news.length=ys.length * ks.length) (h2:∀ u∈news,u.oneCell'=true) (h3:∀ (i:Nat) (y:Tl ks),ys[i]? = some y->eo w ks y 0 (fun _ _=>False) news.toArray (i * ks.length))
 (h4:(Builtin.lenOf v).run P w= .ok ys.length w) (h5:∀ w1:World,w1.heap=w.heap->(Builtin.firstCells ks.length ys.length v).run P w1= .ok news.toArray w1):uR P cx Z g g st st w ks ys v news (fun _ _ _=>False) (fun _=>False) :=
 ⟨⟨h1,h2,fun _ _ _ h=>h,fun _ _ _ _ _ h=>h.elim,h3⟩,h4,h5,fQ.none _ _ _ _ _,fun F hF=>⟨hF,fun _ h=>h.elim⟩,rfl⟩
theorem F7 (h:Rel cx Z g st a w) {e:TypeId} {ks:List K} {z:T (.sl e ks)} {v:Value} (hro:RO (fx w) w (.sl e ks) z v) (hf:flat ks=true):∃ news,uR P cx Z g g st st w ks (aE z) v news (fun _ _ _=>False) (fun _=>False):=by
 obtain ⟨aa,c,rfl,h2,h3,h4,h5⟩:=hro;by_cases hne:aE z=[]
 . refine ⟨[],uR.zM (by rw [hne]; simp) (by simp) (fun i y hi=>by rw [hne] at hi; simp at hi) rfl fun w1 _ => ?_⟩;rw [hne];cases aa with
   | none=>exact run_firstCells_none (P:=P) w1 _ _ _ _
   | some b=>exact run_firstCells_some (P:=P) w1 _ _ b _ _ [] (by simp) (fun j v hj=>by simp at hj)
 . obtain ⟨b,o,rfl,_,_,hrow⟩:=h5 hne;have hcell:∀ q,q < (aE z).length * ks.length->∃ v,w.cell? ⟨b,o + q,none⟩=some v/\v.oneCell'=true:=fun q hq=>by
    obtain ⟨q1,q2,q3⟩:=sv hq;obtain ⟨v,k1,k2⟩:=Ft ks _ b _ (q % ks.length) (hrow _ _ (acm q1)) q2;exact ⟨v,by rw [q3,<- adM]; exact k1,k2⟩
   have hnl:∀ q,q < (aE z).length * ks.length->((List.range ((aE z).length * ks.length)).map fun q=>(w.cell? ⟨b,o + q,none⟩).getD undef)[q]? = w.cell? ⟨b,o + q,none⟩:=fun q hq=>by obtain ⟨v,k1,_⟩:=hcell q hq;simp [hq,k1]
   refine ⟨(List.range ((aE z).length * ks.length)).map fun q=>(w.cell? ⟨b,o + q,none⟩).getD undef,uR.zM (by simp) (fun u hu => ?_) (fun i y hi => ?_) rfl fun w1 hw1 => ?_⟩
   . obtain ⟨q,hq,rfl⟩:=ad7.1 hu;obtain ⟨v,k1,k2⟩:=hcell q (adt.1 hq);rw [k1];exact k2
   . have hil:i < (aE z).length:=by
      rcases acn i (aE z).length with hh | hh
      . exact hh
      . simp [acq hh] at hi
     refine nj ks y 0 b _ _ hf (hrow i y hi) fun q hq => ?_
     have:=hnl (i * ks.length + q) (vr hil hq);rw [acV,this,adM]
   . refine run_firstCells_some (P:=P) w1 _ _ ⟨b,o,none⟩ _ _ _ (by simp) fun j v hj => ?_
     have hjl:j < (aE z).length * ks.length:=by
      rcases acn j ((aE z).length * ks.length) with hh | hh
      . exact hh
      . rw [acq (by simpa using hh)] at hj; simp at hj
     rw [hnl j hjl] at hj;rw [gC];simp only [World.cell?,hw1] at hj ⊢;exact hj
end
end Go.Av
namespace Go.Av
open Go.RowKit (Below)
section
variable {P:Program} {cx:Cx P} {Z:Nat->Prop} {g:Gh} {st:St} {a:Act} {w:World} {E:En}
def kD:List UInt8->List Value
 | []=>[]
 | c :: s=> .int .u8 c.toNat :: kD s
theorem lS:∀ s,(kD s).length=s.length
 | []=>rfl
 | _ :: s=>acT (· + 1) (lS s)
theorem lu:∀ s:List UInt8,kD s=s.map fun b=>Value.int .u8 b.toNat
 | []=>rfl
 | c :: s=>acT (Value.int .u8 c.toNat :: ·) (lu s)
theorem pZ:∀ (s:List UInt8) (i:Nat),i < s.length->(kD s)[i]? = some (.int .u8 (s.getD i 0).toNat)
 | [],i,h=>by simp at h
 | c :: s,0,_=>rfl
 | c :: s,i + 1,h=>pZ s i (by simpa using h)
theorem IU (e:TypeId) (s:List UInt8):∃ news,uR P cx Z g g st st w [.int .u8] (aE (e:=e) (bytesOf s)) (.string (dV s)) news (fun _ _ _=>False) (fun _=>False):=by
 have hl:(aE (e:=e) (bytesOf s)).length=s.length:=bytesOf_length s;refine ⟨kD s,uR.zM (by rw [lS,hl]; simp) (fun u hu => ?_) (fun i y hi => ?_) ?_ fun w1 _ => ?_⟩
 . rw [lu] at hu;obtain ⟨c,_,rfl⟩:=ad7.1 hu;rfl
 . obtain ⟨hi1,rfl⟩:=l6 s i y hi;refine ⟨⟨_,by rw [acV]; simpa using pZ s i hi1,rfl,?_⟩,trivial⟩;have:=(s.getD i 0).toNat_lt;have e1:IntKind.u8.min=0:=rfl;have e2:IntKind.u8.max=255:=rfl;unfold kZ;rw [e1,e2];show 0<=((s.getD i 0).toNat:Int)/\((s.getD i 0).toNat:Int)<=255;omega
 . rw [hl];show Result.ok (dV s).size w=_;rw [iv]
 . rw [hl];have:((dV s).extract 0 s.length).data.map (fun b=>Value.int .u8 b.toNat)=(kD s).toArray:=by
    rw [lu];have h2:(dV s).extract 0 s.length=dV s:=by have:s.length=(dV s).size:=(iv s).symm;rw [this];apply aeS;simp [ByteArray.data_extract]
    rw [h2];simp [dV]
   show Result.ok (((dV s).extract 0 s.length).data.map (fun b=>Value.int .u8 b.toNat)) w1=_;rw [this]
theorem Li {g':Gh} {st':St} {e:TypeId} {ks:List K} {z:T (.sl e ks)} {v:Value} {F:Nat->Prop} (ho:cK w (.sl e ks) z v F) (hF:fQ cx Z g' st' w F) (hfp:∀ r j b,g'.fp r j b->g.fp r j b) (hsub:∀ b,F b->∃ r j,g.fp r j b) (hbe:g'.be=g.be) (hbx:∀ r R',look st'.rt r=some R'->∃ R,look st.rt r=some R/\R'.box=R.box) (htm:st'.tm=st.tm) :
 ∃ news H,uR P cx Z g g' st st' w ks (aE z) v news H F:=by
 have oth:∀ F',fQ cx Z g st w F'->fQ cx Z g' st' w F'/\∀ b,F b->¬ F' b:=fun F' h'=>⟨h'.mono hfp hbe hbx,fun b hb hb'=>by obtain ⟨r,j,hh⟩:=hsub b hb;exact h'.fp b hb' r j hh⟩
 obtain ⟨aa,c,rfl,h2,h3,h4,h5⟩:=ho;cases aa with
 | none => have hz:aE z=[]:=acp.1 (by have:=h4 rfl; omega);refine ⟨[],fun _ _ _=>False,⟨by rw [hz]; simp,by simp,fun _ _ _ h=>h.elim,fun _ _ _ _ _ h=>h.elim,fun i y hi=>by rw [hz] at hi; simp at hi⟩,rfl,fun w1 _=>by rw [hz]; exact run_firstCells_none (P:=P) w1 _ _ _ _,hF,oth,htm⟩
 | some aa =>
   obtain ⟨b,o,cs,el,fr,rfl,k2,k3,k4,k5,G,k6,k7,k8⟩:=h5 _ rfl;have hbound:∀ q,q < (aE z).length * ks.length->o + q < cs.size:=fun q hq=>by have:=acC ks.length h2;omega
   have hnl:∀ q,q < (aE z).length * ks.length->((List.range ((aE z).length * ks.length)).map fun q=>cs.getD (o + q) undef)[q]? = cs[o + q]? := fun q hq=>by have:=hbound q hq;simp [hq,this]
   refine ⟨(List.range ((aE z).length * ks.length)).map fun q=>cs.getD (o + q) undef,G,⟨by simp,fun u hu => ?_,fun i j b' hb'=>(k6 i j b' hb').1,k7,fun i y hi => ?_⟩,rfl,fun w1 hw1 => ?_,hF,oth,htm⟩
   . obtain ⟨q,hq,rfl⟩:=ad7.1 hu;obtain ⟨q1,q2,q3⟩:=sv (adt.1 hq);obtain ⟨v,f1,f2⟩:=ve ks _ 0 _ (q % ks.length) (k8 _ _ (acm q1)) q2;rw [adM,<- q3] at f1;rw [ach,f1];exact f2
   . have hil:i < (aE z).length:=by
      rcases acn i (aE z).length with hh | hh
      . exact hh
      . simp [acq hh] at hi
     refine iW ks y 0 (G i) (G i) cs _ _ _ (fun q hq => ?_) (fun _ _ h=>h) (fun _ _ _ _=>rfl) (k8 i y hi);rw [acV,hnl _ (vr hil hq),adM]
   . refine run_firstCells_some (P:=P) w1 _ _ ⟨b,o,none⟩ _ _ _ (by simp) fun j v hj => ?_
     have hjl:j < (aE z).length * ks.length:=by
      rcases acn j ((aE z).length * ks.length) with hh | hh
      . exact hh
      . rw [acq (by simpa using hh)] at hj; simp at hj
     rw [hnl j hjl] at hj;rw [gC];simp only [World.cell?,hw1,k3];exact hj
theorem Gs (h:Rel cx Z g st a w) {r:Nat} {l:List RC} {v:Value} {ks:List K} {x:Tl ks} {st':St} (hl:look st.rt r=some ⟨true,l⟩) (hv:v= .slice (some ⟨g.be r,0,none⟩) 1 1) (ht:j7 st true ks (l.map Ds)=some (st',x)) :
 ∃ g' news H FH,Rel cx Z g' st' a w/\uR P cx Z g g' st st' w ks [x] v news H FH:=by
 obtain ⟨b1,b2,b3,b4,cs,el,fr,b5,b6,b7,b8⟩:=h.box r _ hl rfl;have hrel:aN Z g st w (l.map Ds) cs.toList:=by
  refine kS (by simp [b7]) fun j y u hj hu => ?_
  rw [ac5] at hj;cases hc:l[j]? with
  | none=>rw [hc] at hj; simp at hj
  | some c =>
    rw [hc] at hj;simp only [acG,ab6] at hj;have hcell:st.cell r j=some c:=by simp only [St.cell,hl]; exact hc
    have hjl:j < cs.size:=by rw [b7];exact Ay hcell hl
    rw [acf,b8 j hjl] at hu;simp only [ab6] at hu;subst hj;subst hu;unfold Ds;cases hcv:c.v with
    | own k y=>trivial
    | av y=>exact zU h hcell hcv
 obtain ⟨g',H0,m1,m2,m3⟩:=jo true ks (l.map Ds) cs.toList st g st' x 0 h hrel ht;have htm:st'.tm=st.tm:=by
  have:∀ (ks:List K) (l:List AV) (st st':St) (x:Tl ks),j7 st true ks l=some (st',x)->st'.tm=st.tm:=by
   intro ks;induction ks with
   | nil=>intro l st st' x hh; cases l with | nil=>cases hh; rfl | cons _ _=>simp [j7] at hh
   | cons k ks ih =>
     intro l st st' x hh;cases l with
     | nil=>cases k <;> simp [j7] at hh
     | cons av l =>
       cases k with
       | sl e ks' =>
         unfold j7 at hh;simp only [ab9] at hh;split at hh
         . rename_i st1 y hy;split at hh
           . rename_i q hq;cases hh;exact (ih l st1 q.1 q.2 hq).trans (qt hy 0).2
           . simp at hh
         . simp at hh
       | _ =>
         unfold j7 at hh;split at hh
         . rename_i y q hy hf hq;cases hh;exact ih l st q.1 q.2 hq
         . simp at hh
  exact this ks _ st st' x ht
 obtain ⟨G,n1,n2,n3⟩:=lY (H:=H0) m2.disj (cs:=cs) ks x cs.toList 0 0 0 m3 fun q hq=>by rw [acz,acf]
 have hlen:=gz ks x _ 0 m3;have hfree:fQ cx Z g' st' w (fun b=>∃ n,H0 n b):=⟨fun b ⟨n,hb⟩=>(m2.free n).lt b hb,fun b ⟨n,hb⟩=>(m2.free n).own b hb,fun b ⟨n,hb⟩=>(m2.free n).z b hb,fun b ⟨n,hb⟩=>(m2.free n).fp b hb,fun b ⟨n,hb⟩=>(m2.free n).box b hb⟩;refine ⟨g',cs.toList,fun i j b=>i=0/\G j b,fun b=>∃ n,H0 n b,m1,⟨by simpa using hlen,fD ks x _ 0 m3,fun i j b hb=>by
  obtain ⟨_,n,_,hh⟩:=n2 j b hb.2;exact ⟨n,hh⟩,fun i j i' j' b hb hb'=>⟨hb.1.trans hb'.1.symm,n3 j j' b hb.2 hb'.2⟩,fun i y hi => ?_⟩,by rw [hv]; rfl,fun w1 hw1 => ?_,hfree,fun F hF=>⟨hF.mono m2.fp m2.be m2.box,fun b ⟨n,hb⟩ hb'=>by
  obtain ⟨r0,j0,hh⟩:=m2.sub n b hb;exact hF.fp b hb' r0 j0 hh⟩,htm⟩
 . cases i with
   | zero => simp only [acj,ab6] at hi;subst hi;rw [Nat.zero_mul,adb];exact eo.frame ks x 0 G _ cs 0 (fun j b hb=>⟨rfl,hb⟩) (fun _ _ _ _=>rfl) n1
   | succ i=>simp at hi
 . rw [hv];refine run_firstCells_some (P:=P) w1 _ _ ⟨g.be r,0,none⟩ _ _ _ (by simpa using hlen) fun j u hj => ?_
   rw [gC,acz];simp only [World.cell?,hw1,b5];rw [acf] at hj;exact hj
theorem HT (h:Rel cx Z g st a w) {e:TypeId} {ks:List K} {y:TV} {v:Value} (hr:bl Z g st w y v) {st':St} {ys:List (Tl ks)} (hn:st.news e ks y=some (st',ys)):∃ g' news H FH,Rel cx Z g' st' a w/\uR P cx Z g g' st st' w ks ys v news H FH:=by
 have src:∀ av,bl Z g st w (.v av) v->(match st.source (.sl e ks) ks av with | some (st',z)=>some (st',aE z) | none=>none)=some (st',ys)->∃ g' news H FH,Rel cx Z g' st' a w/\uR P cx Z g g' st st' w ks ys v news H FH:=by
  intro av hra hh;unfold St.source at hh;cases hf:flat ks with
  | true =>
    rw [hf] at hh;simp only [ab9] at hh;cases hra':st.bR (.sl e ks) av with
    | none=>rw [hra'] at hh; simp at hh
    | some z => rw [hra'] at hh;cases hh;obtain ⟨news,hnews⟩:=F7 (P:=P) h (kN h hra hra') hf;exact ⟨g,news,_,_,h,hnews⟩
  | false =>
    rw [hf] at hh;simp only [aco] at hh;cases htk:st.dF (.sl e ks) av with
    | none=>rw [htk] at hh; simp at hh
    | some q => obtain ⟨st1,z⟩:=q;rw [htk] at hh;cases hh;obtain ⟨g1,F,k1,k2,k3,k4,k5,k6,k7⟩:=eP h hra htk;obtain ⟨news,H,hnews⟩:=Li (P:=P) (g:=g) (st:=st) k3 k4 k5 k6 k2.be k2.box k2.tm;exact ⟨g1,news,H,F,k1,hnews⟩
 cases y with
 | v av =>
   cases av with
   | d k s =>
     cases k with
     | str =>
       simp only [St.news] at hn;split at hn
       . rename_i z hz;cases hn;obtain ⟨eq,hz⟩:=ct hz;cases eq;subst hz;obtain ⟨hv,_⟩:=(hr:RO Z w .str s v);subst hv;obtain ⟨news,hnews⟩:=IU (P:=P) (cx:=cx) (Z:=Z) (g:=g) (st:=st) (w:=w) e s;exact ⟨g,news,_,_,h,hnews⟩
       . simp at hn
     | _=>exact src _ hr hn
   | brow r n =>
     simp only [St.news] at hn;cases hb:Nat.beq n 1 with
     | false=>rw [hb] at hn; simp at hn
     | true =>
       rw [hb] at hn;simp only [ab9] at hn;have hn1:=beq_eq hb;subst hn1;split at hn
       . rename_i l hl;split at hn
         . rename_i st1 x hx;cases hn;obtain ⟨R,_,_,hv⟩:=(hr:ba Z g st w (.brow r 1) v);exact Gs h hl hv hx
         . simp at hn
       . simp at hn
   | _=>exact src _ hr hn
 | _=>simp [St.news] at hn
end
end Go.Av
namespace Go.Av
open Go.RowKit (Below)
theorem bX:∀ (vs:List Value) (o:Nat) (cs:Array Value),(setFrom cs o vs).size=cs.size
 | [],_,_=>rfl
 | v :: r,o,cs=>by rw [setFrom,bX r]; simp
theorem fG (b:Nat):∀ (vs:List Value) (o:Nat) (w:World) (cs:Array Value) (el:TypeId) (fr:Nat×Nat),w.heap[b]? = some (.cells cs el fr) ->
 (w.setCells b o vs).heap[b]? = some (.cells (setFrom cs o vs) el fr)/\(∀ i,i≠b->(w.setCells b o vs).heap[i]? = w.heap[i]?)/\(w.setCells b o vs).heap.size=w.heap.size/\(w.setCells b o vs).os=w.os/\(w.setCells b o vs).tape=w.tape/\(w.setCells b o vs).output=w.output
 | [],o,w,cs,el,fr,h=>⟨h,fun _ _=>rfl,rfl,rfl,rfl,rfl⟩
 | v :: r,o,w,cs,el,fr,h=>by
   have h1:(w.setCell ⟨b,o,none⟩ v).heap[b]? = some (.cells (cs.setIfInBounds o v) el fr):=by rw [cM,if_pos rfl,h]; rfl
   obtain ⟨g1,g2,g3,g4,g5,g6⟩:=fG b r (o + 1) _ _ el fr h1;refine ⟨g1,fun i hi => ?_,?_,g4,g5,g6⟩
   . rw [World.setCells,g2 i hi,cM,if_neg (fun e=>hi e.symm)]
   . rw [World.setCells,g3]; simp [World.setCell]
section
variable {P:Program} {cx:Cx P} {Z:Nat->Prop} {g:Gh} {st:St} {a:Act} {w:World} {E:En}
theorem BN (hT:bG P E) (h:Rel cx Z g st a w) (hn:bm st) (hsz:Fit cx E a) {o:Oper} {d:Nat} (hd:o.dst=some d) (hdn:iX cx a d) {c:Call} (ho:o.op= .call c) (hcal:c.callee= .builtin .append) {x y:Operand} (hargs:c.args.toList=[x,y]) {t t2:Nat} {ts:List Nat} (hts:c.argTypes.toList=t :: t2 :: ts)
 {ti te:TI} (hti:E.ti t=some ti) (hte:E.sl t=some te) {tx ty:TV} (hx:st.get x=some tx) (hy:st.get y=some ty) (h2:E.str t2=true∨∃ te2,E.sl t2=some te2) {st':St} (hrun:(st.append d ti.elem te tx ty).run=some st'):qv P cx E st' a w o:=by
 have hc:=hn.cons.cons;obtain ⟨ks0,q1,q2,q3,q4⟩:=sJ hT hte hti;have hTe:=hT _ _ q4;obtain ⟨tt,ks1,t1,_,_,_,hu⟩:=dX hT hte;rw [hti] at t1;simp only [ab6] at t1;subst t1;obtain ⟨d2,hu2,hd2⟩:∃ d2,P.underlying t2=some d2/\∀ k,d2≠ .int k:=by
  rcases h2 with h2 | ⟨te2,h2⟩
  . exact ⟨_,mi hT h2,fun _ h=>by simp at h⟩
  . obtain ⟨_,_,_,_,_,_,hu2⟩:=dX hT h2;exact ⟨_,hu2,fun _ h=>by simp at h⟩
 unfold St.append at hrun;obtain ⟨av,hav,hrun⟩:=Tr.af hrun;obtain ⟨⟨st1,xs⟩,htk,hrun⟩:=Tr.af hrun;obtain ⟨⟨st2,ys⟩,hnw,hrun⟩:=Tr.af hrun;simp only at hnw hrun;cases hcond:st2.free d && Nat.blt 0 te.bytes with
 | false=>rw [hcond] at hrun; simp [Tr.run] at hrun
 | true =>
   rw [hcond] at hrun;simp only [ab9] at hrun;simp only [ab8] at hcond;obtain ⟨hfree,hby⟩:=hcond;have hby:0 < te.bytes:=adB (acF hby);obtain ⟨hble,hrun⟩:=Tr.bj hrun;simp only [Tr.run,ab6] at hrun;subst hrun;have hbytes:((aE xs).length + ys.length) * te.bytes<=aS:=acF hble;have hbig:(aE xs).length + ys.length<=aS:=acv (adP _ hby) hbytes;obtain ⟨g1,F,k1,k2,k3,k4,k5,k6,k7⟩:=eP h (qb (aK h hc hx) hav) htk;obtain ⟨g2,news,H,FH,m1,m2⟩:=HT (P:=P) k1 (bl.bP k2.bP _ _ (aK h hc hy)) hnw;obtain ⟨f1,f2⟩:=m2.other F k4;have hnm:bm (st2.az d (.v (.ref d 0 0),some ⟨false,[⟨0,0,.own (.sl ti.elem te.ks) (cat te.ks (aE xs) ys)⟩]⟩)):=fun t tv ht=>by
    rw [a8] at ht;split at ht
    . simp only [ab6] at ht; subst ht; exact fun h=>h
    . exact hn t tv (by rw [<- k2.tm,<- m2.tm]; exact ht)
   refine ⟨hnm,fun next Q hk => ?_⟩
   have fin:∀ (v':Value) (w':World) (F':Nat->Prop),(Builtin.append_ c.argTypes o.type #[a.eval x,a.eval y]).run P w= .ok v' w'->Rel cx Z g2 st2 a w'->(∀ b,F' b->b < w'.heap.size/\(cx.F0 b∨cx.w0.heap.size<=b)/\¬ Z b/\(∀ r j,¬ g2.fp r j b)/\(∀ r' R',look st2.rt r'=some R'->R'.box=true->g2.be r'≠b)) ->
    cK w' (.sl ti.elem te.ks) (cat te.ks (aE xs) ys) v' F'->o.wp P a w next Q:=by
    intro v' w' F' hr hrel hF' hown;have hargs':c.args = #[x,y]:=by rw [<- adb (xs:=c.args),hargs]
    have:(execOp a.eval o).run P w= .ok (.value v') w':=by simp only [execOp,ho,resolve,hcal,hargs',acy,acR,ack,invoke,builtin,adJ,ads,ad6,hr]
    unfold Oper.wp;rw [this,acM,hd];obtain ⟨g3,hg⟩:=hrel.zX hdn hfree hF' hown;exact hk Z g3 _ _ hg (hsz.put _ _)
   have hat:c.argTypes[0]? = some t:=by rw [<- acf,hts]; rfl
   have hat2:c.argTypes[1]? = some t2:=by rw [<- acf,hts]; rfl
   have hFs:∀ (w':World),w.heap.size<=w'.heap.size->∀ b,F b∨FH b->b < w'.heap.size/\(cx.F0 b∨cx.w0.heap.size<=b)/\¬ Z b/\(∀ r j,¬ g2.fp r j b)/\(∀ r' R',look st2.rt r'=some R'->R'.box=true->g2.be r'≠b):=fun w' hs b hb=>by
    rcases hb with hb | hb
    . exact ⟨acA (f1.lt b hb) hs,f1.own b hb,f1.z b hb,f1.fp b hb,f1.box b hb⟩
    . exact ⟨acA (m2.free.lt b hb) hs,m2.free.own b hb,m2.free.z b hb,m2.free.fp b hb,m2.free.box b hb⟩
   obtain ⟨base,cap,ev,c1,c2,c3,c4⟩:=k3;have hnl:=m2.rows.len;by_cases hfit:(aE xs).length + ys.length<=cap
   . cases base with
     | none =>
       have hcap:=c3 rfl;have hx0:aE xs=[]:=acp.1 (by omega);have hy0:ys=[]:=acp.1 (by omega);have e1:a.eval x= .slice none 0 0:=by rw [ev,hx0,hcap]; rfl
       refine fin (.slice none 0 0) w (fun _=>False) ?_ m1 (fun b hb=>hb.elim) ?_
       . rw [e1];refine append_nil (news:=news) hu hTe hu2 hd2 hat hat2 ?_ ?_
         . have:=m2.len; rw [hy0] at this; exact this
         . have:=m2.cells w rfl; rw [hy0] at this; exact this
       . rw [hx0,hy0];exact iT _ _
     | some aa =>
       obtain ⟨b,of,cs,el,fr,rfl,n2,n3,n4,n5,G,n6,n7,n8⟩:=c4 _ rfl;obtain ⟨s1,s2,s3,s4,s5,s6⟩:=fG b news (of + (aE xs).length * te.ks.length) w cs el fr n3;have hroom:of + (aE xs).length * te.ks.length + news.length<=cs.size:=by have:=acC te.ks.length hfit;rw [acZ] at this;omega
       refine fin (.slice (some ⟨b,of,none⟩) ((aE xs).length + ys.length) cap) (w.setCells b (of + (aE xs).length * te.ks.length) news) (fun q=>F q∨FH q) ?_ (m1.wr f1 s4 s5 s6 (by rw [s3]; exact acb _) fun q _ hq=>s2 q fun e=>hq (by rw [e]; exact n2)) (hFs _ (by rw [s3]; exact acb _)) ?_
       . rw [ev];exact sP hu hTe hu2 hd2 hat hat2 m2.len (m2.cells w rfl) hfit m2.rows.one fun j hj=>⟨cs,el,fr,n3,by omega,n4 _ (by omega)⟩
       . refine uA (w:=w) (b0:=b) (F:=F) n6 n7 n8 m2.rows (fun q hq=>⟨f2 q hq,fun e=>f2 q hq (by rw [e]; exact n2)⟩) s1 (fun q hq=>n4 q (by rw [bX] at hq; exact hq)) (.inl n2) (fun q hq _=> .inl hq) (fun q hq=> .inr hq) (fun i j q hq=>(n6 i j q hq).2) (fun q hq e=>f2 q hq (by rw [e]; exact n2)) (fun q _ hq _=>s2 q hq) (fun q hq => ?_) (fun q hq => ?_) hfit (by rw [bX]; exact n5) hbig
         . rw [cE _ _ _ _ hroom,if_neg (by omega)]
         . rw [cE _ _ _ _ hroom,if_pos (by omega)];congr 1;omega
   . have hgrow:cap < (aE xs).length + ys.length:=by omega
     have hge:=grownCap_ge w ((aE xs).length + ys.length) cap ti.elem;have hnot:∀ q,F q∨FH q->q≠w.heap.size:=fun q hq e=>by have:=(hFs w (acb _) q hq).1;omega
     have olds:∃ (olds:List Value) (b0:Nat) (cs:Array Value) (of:Nat) (G:Nat->Nat->Nat->Prop),(Builtin.firstCells te.ks.length (aE xs).length (.slice base (aE xs).length cap)).run P w.drew= .ok olds.toArray w.drew/\olds.length=(aE xs).length * te.ks.length/\(∀ q,q < (aE xs).length * te.ks.length->olds[q]? = cs[of + q]?) /\
      (∀ i j b,G i j b->F b/\b≠b0)/\(∀ i j i' j' b,G i j b->G i' j' b->i=i'/\j=j')/\(∀ i x,(aE xs)[i]? = some x->eo w te.ks x 0 (G i) cs (of + i * te.ks.length))/\(∀ q,FH q->q≠b0):=by
      cases base with
      | none => have hcap:=c3 rfl;have hx0:aE xs=[]:=acp.1 (by omega);refine ⟨[],w.heap.size,#[],0,fun _ _ _=>False,?_,by rw [hx0]; simp,fun q hq=>by rw [hx0] at hq; simp at hq,fun _ _ _ h=>h.elim,fun _ _ _ _ _ h=>h.elim,fun i x hi=>by rw [hx0] at hi; simp at hi,fun q hq=>hnot q (.inr hq)⟩;exact run_firstCells_none (P:=P) w.drew _ _ _ _
      | some aa =>
        obtain ⟨b,of,cs,el,fr,rfl,n2,n3,n4,n5,G,n6,n7,n8⟩:=c4 _ rfl;have hbound:∀ q,q < (aE xs).length * te.ks.length->of + q < cs.size:=fun q hq=>by have:=acC te.ks.length c1;omega
        have hnl':∀ q,q < (aE xs).length * te.ks.length->((List.range ((aE xs).length * te.ks.length)).map fun q=>cs.getD (of + q) undef)[q]? = cs[of + q]? := fun q hq=>by have:=hbound q hq;simp [hq,this]
        refine ⟨(List.range ((aE xs).length * te.ks.length)).map fun q=>cs.getD (of + q) undef,b,cs,of,G,?_,by simp,hnl',n6,n7,n8,fun q hq e=>f2 q hq (by rw [e]; exact n2)⟩;refine run_firstCells_some (P:=P) w.drew _ _ ⟨b,of,none⟩ _ _ _ (by simp) fun j v hj => ?_
        have hjl:j < (aE xs).length * te.ks.length:=by
         rcases acn j ((aE xs).length * te.ks.length) with hh | hh
         . exact hh
         . rw [acq (by simpa using hh)] at hj; simp at hj
        rw [hnl' j hjl] at hj;rw [gC];have n3':w.drew.heap[b]? = some (.cells cs el fr):=n3;simp only [World.cell?,n3'];exact hj
     obtain ⟨olds,b0,cs,of,G,r1,r2,r3,r4,r5,r6,r7⟩:=olds;obtain ⟨zs,z1,z2⟩:=qy (ty:=o.type) (vx:=a.eval y) hu hTe hu2 hd2 hat hat2 m2.len r1 (m2.cells w.drew rfl) hgrow hby hbytes;have hheap:(w.drew.alloc (.cells (olds.toArray ++ news.toArray ++ zs) ti.elem (0,0))).heap=w.heap.push (.cells (olds.toArray ++ news.toArray ++ zs) ti.elem (0,0)):=rfl;have hsize:(w.drew.alloc (.cells (olds.toArray ++ news.toArray ++ zs) ti.elem (0,0))).heap.size=w.heap.size + 1:=by rw [hheap,adQ]
     have hold:∀ q,q < w.heap.size->(w.drew.alloc (.cells (olds.toArray ++ news.toArray ++ zs) ti.elem (0,0))).heap[q]? = w.heap[q]? := fun q hq=>by rw [hheap,ac2,if_neg (by omega)]
     refine fin (.slice (some ⟨w.heap.size,0,none⟩) ((aE xs).length + ys.length) (grownCap w ((aE xs).length + ys.length) cap ti.elem)) (w.drew.alloc (.cells (olds.toArray ++ news.toArray ++ zs) ti.elem (0,0))) (fun q=>(F q∨FH q)∨q=w.heap.size) (by rw [ev]; exact z2) (m1.wr f1 rfl rfl rfl (by rw [hsize]; omega) fun q hq _=>hold q hq) (fun b hb => ?_) ?_
     . rcases hb with hb | rfl
       . exact hFs _ (by rw [hsize]; omega) b hb
       . refine ⟨by rw [hsize]; omega,.inr m1.size,fun hz=>by have:=(m1.bN _ hz).1; omega,fun r j hh=>by have:=(m1.fp r j _ hh).1; omega,fun r' R' hR' hb' he => ?_⟩;obtain ⟨_,_,_,_,cs1,el1,fr1,b5,_⟩:=m1.box r' R' hR' hb';rw [he,acw (acb _)] at b5;simp at b5
     . refine uA (w:=w) (b0:=b0) (F:=F) r4 r5 r6 m2.rows (fun q hq=>⟨f2 q hq,r7 q hq⟩) (el:=ti.elem) (fr:=(0,0)) (cs':=olds.toArray ++ news.toArray ++ zs) (by rw [hheap,ac2,if_pos rfl]) (by simp) (.inr rfl) (fun q hq _=> .inl (.inl hq)) (fun q hq=> .inl (.inr hq)) (fun i j q hq=>hnot q (.inl (r4 i j q hq).1)) (fun q hq=>hnot q (.inr hq)) (fun q hq _ _=>hold q hq) (fun q hq => ?_) (fun q hq => ?_) hge ?_ hbig
       . rw [<- r3 q hq,acz,aep,adF (by simp; omega)];simp
       . rw [acz,aep,Array.getElem?_append_right (by simp; omega),adF (by simp; omega)];simp only [List.size_toArray,r2,adp,acV]
       . have e1:(olds.toArray ++ news.toArray ++ zs).size=olds.length + news.length + zs.size:=by simp
         rw [e1,r2,hnl,z1,acz,<- acZ,<- acZ];exact acC _ (by omega)
end
end Go.Av
namespace Go.Av
open Go.RowKit (Below)
section
variable {P:Program} {w:World} {E:En} {P:Program} {cx:Cx P} {Z:Nat->Prop} {g:Gh} {st:St} {a:Act}
theorem xK {z:Array Value} {ks:List K} (hz:z.toList=ks.map zV) (n j:Nat) (hj:j < n * ks.length):(Builtin.zeroCells z n)[j]? = (ks.map zV)[j % ks.length]? := by
 have hl:z.size=ks.length:=by rw [<- acX,hz]; simp
 have hpos:0 < ks.length:=by
  rcases adX ks.length with h | h
  . rw [h] at hj; simp at hj
  . exact h
 unfold Builtin.zeroCells;simp only [Array.getElem?_map,hl];have:(Array.range (n * ks.length))[j]? = some j:=by simp [hj]
 rw [this];have hm:j % ks.length < ks.length:=aeL _ hpos;simp only [acG];rw [<- hz,acf];rw [Array.getElem!_eq_getD];simp [ach,hl,hm]
theorem Bj {t t2 ty:TypeId} {e:TypeId} {te:TI} (ht:P.underlying t=some (.slice e)) (hTe:pR P e te) {k2:IntKind} (h2:P.underlying t2=some (.int k2)) {ats:Array TypeId} (hat:ats[0]? = some t) (hat2:ats[1]? = some t2) {k:IntKind} :
 (Builtin.append_ ats ty #[.slice none 0 0,.int k 0]).run P w= .ok (.slice none 0 0) w:=by
 obtain ⟨i,e1,e2,e3,z,e4,e5⟩:=hTe.info;have hw:IntKind.i64.wrap 0=0:=by decide
 have ha:∀ w,(asInt (.int k 0)).run P w= .ok 0 w:=fun w=>by simp [asInt,asIntOf]
 simp [Builtin.append_,hat,hat2,acK ht,acK h2,sizeOf,typeInfo,zeroValue,e1,e4,ha,hw]
theorem xW {t t2 ty:TypeId} {e:TypeId} {te:TI} (ht:P.underlying t=some (.slice e)) (hTe:pR P e te) {k2:IntKind} (h2:P.underlying t2=some (.int k2)) {ats:Array TypeId} (hat:ats[0]? = some t) (hat2:ats[1]? = some t2) {k:IntKind} {n:Nat} (hn:0 < n) (hby:0 < te.bytes) (hb:n * te.bytes<=aS) :
 ∃ zs:Array Value,zs.size=(grownCap w n 0 e) * te.ks.length/\(∀ j,j < n * te.ks.length->zs[j]? = (te.ks.map zV)[j % te.ks.length]?)/\(Builtin.append_ ats ty #[.slice none 0 0,.int k (n:Int)]).run P w= .ok (.slice (some ⟨w.heap.size,0,none⟩) n (grownCap w n 0 e)) (w.drew.alloc (.cells zs e (0,0))):=by
 obtain ⟨i,e1,e2,e3,z,e4,e5⟩:=hTe.info;have hzs:z.cells.size=te.ks.length:=by rw [<- acX,e5]; simp
 have hge:=grownCap_ge w n 0 e;have hbb:n * te.bytes<=140737488355328:=hb;have hle:n<=n * te.bytes:=adP _ hby;have h63:¬ (9223372036854775807 < (n:Int)):=by omega
 have h48:¬ (281474976710656 < Builtin.nextslicecap n 0 * i.bytes):=by have:=growslice_fits (need:=n) (old:=0) (bytes:=i.bytes) hn (by rw [e3]; exact hbb);omega
 have hmin:IntKind.i64.min = -9223372036854775808:=by decide
 have hmax:IntKind.i64.max=9223372036854775807:=by decide
 have hw:IntKind.i64.wrap (n:Int)=n:=Eo ⟨by rw [hmin]; omega,by rw [hmax]; omega⟩;have h48':¬ (281474976710656 < (n:Int) * (i.bytes:Int)):=by rw [e3];have:((n * te.bytes:Nat):Int)<=((140737488355328:Nat):Int):=Int.ofNat_le.2 hbb;rw [Int.natCast_mul] at this;omega
 have hneg:¬ ((n:Int) < 0):=by omega
 have hn0:¬ (n=0):=by omega
 have ha:∀ w,(asInt (.int k (n:Int))).run P w= .ok (n:Int) w:=fun w=>by simp [asInt,asIntOf]
 have hfo:∀ w,(Builtin.firstCells i.size 0 (.slice none 0 0)).run P w= .ok #[] w:=fun w=>by simp [Builtin.firstCells]
 refine ⟨(if n * i.size=0 then #[] else Builtin.zeroCells z.cells n) ++ Builtin.zeroCells z.cells (grownCap w n 0 e - n),?_,?_,?_⟩
 . rw [Array.size_append,size_zeroCells,hzs,e2];split
   . rename_i h0;rcases Nat.mul_eq_zero.1 h0 with h | h
     . omega
     . rw [h]; simp
   . rw [size_zeroCells,hzs,<- acZ];congr 1;omega
 . intro j hj;have hne:¬ (n * i.size=0):=by rw [e2]; omega
   rw [if_neg hne,adF (by rw [size_zeroCells,hzs]; exact hj)];exact xK e5 n j hj
 . simp only [Builtin.append_,hat,hat2,acV,acj,ada,acy,acK ht,ack,bL hTe,acK h2,acR,if_true,ha,hw,hneg,ado,typeInfo];simp [e1,h48',hw,hneg,hn0,h63,h48,Question.forced,hfo,newRow,grownCap,zeroValue,e4,ha,sizeOf,typeInfo];have hfo':∀ w,(Builtin.firstCells te.ks.length 0 (.slice none 0 0)).run P w= .ok #[] w:=fun w=>by simp [Builtin.firstCells]
   rw [hfo',<- e2];simp only [ack,Array.empty_append];by_cases h0:n * i.size=0
   . rw [if_pos h0,if_pos h0]; simp
   . rw [if_neg h0,if_neg h0]; rfl
theorem Ht (hT:bG P E) (h:Rel cx Z g st a w) (hn:bm st) (hsz:Fit cx E a) {o:Oper} {d:Nat} (hd:o.dst=some d) (hdn:iX cx a d) {c:Call} (ho:o.op= .call c) (hcal:c.callee= .builtin .append) {x y:Operand} (hargs:c.args.toList=[x,y]) {t t2:Nat} {ts:List Nat} (hts:c.argTypes.toList=t :: t2 :: ts)
 {ti te:TI} (hti:E.ti t=some ti) (hte:E.sl t=some te) {tx ty:TV} (hx:st.get x=some tx) (hy:st.get y=some ty) (h2:E.i64 t2=true) (hnil:ea tx=true) {k:IntKind} {n:Int} (hint:ty.int? = some (k,n)) {st':St} (hrun:(st.zJ d ti.elem te n).run=some st'):qv P cx E st' a w o:=by
 have hc:=hn.cons.cons;obtain ⟨ks0,q1,q2,q3,q4⟩:=sJ hT hte hti;have hTe:=hT _ _ q4;obtain ⟨tt,ks1,t1,_,_,_,hu⟩:=dX hT hte;rw [hti] at t1;simp only [ab6] at t1;subst t1;have hu2:∃ k2,P.underlying t2=some (.int k2):=by
  unfold En.i64 at h2;split at h2
  . rename_i e0 by0 fl0 hti2;obtain ⟨dd,u1,u2⟩:=(hT t2 _ hti2).desc;cases dd <;> simp [fU] at u2;exact ⟨_,u1⟩
  . simp at h2
 obtain ⟨k2,hu2⟩:=hu2;unfold St.zJ at hrun;cases hcond:st.free d && Nat.blt 0 te.bytes with
 | false=>rw [hcond] at hrun; simp [Tr.run] at hrun
 | true =>
   rw [hcond] at hrun;simp only [ab9] at hrun;simp only [ab8] at hcond;obtain ⟨hfree,hby⟩:=hcond;have hby:0 < te.bytes:=adB (acF hby);obtain ⟨hble,hrun⟩:=Tr.bj hrun;simp only [Tr.run,ab6] at hrun;subst hrun;simp only [ab8,bz,adg] at hble;obtain ⟨n0,n1⟩:=hble;obtain ⟨m,rfl⟩:=Int.eq_ofNat_of_zero_le n0;have hmb:m * te.bytes<=aS:=by
    have:((m * te.bytes:Nat):Int)<=(aS:Int):=by rw [Int.natCast_mul]; exact n1
    exact_mod_cast this
   have hnm:bm (st.az d (.v (.ref d 0 0),some ⟨false,[⟨0,0,.own (.sl ti.elem te.ks) (List.replicate (m:Int).toNat (dR te.ks))⟩]⟩)):=fun t tv ht=>by
    rw [a8] at ht;split at ht
    . simp only [ab6] at ht; subst ht; exact fun h=>h
    . exact hn t tv ht
   refine ⟨hnm,fun next Q hk => ?_⟩;have ex:a.eval x= .slice none 0 0:=rV (aK h hc hx) hnil;have ey:a.eval y= .int k (m:Int):=(cP (aK h hc hy) hint).1;have hat:c.argTypes[0]? = some t:=by rw [<- acf,hts]; rfl
   have hat2:c.argTypes[1]? = some t2:=by rw [<- acf,hts]; rfl
   have hargs':c.args = #[x,y]:=by rw [<- adb (xs:=c.args),hargs]
   have fin:∀ (v':Value) (w':World) (F':Nat->Prop),(Builtin.append_ c.argTypes o.type #[a.eval x,a.eval y]).run P w= .ok v' w'->Rel cx Z g st a w'->(∀ b,F' b->b < w'.heap.size/\(cx.F0 b∨cx.w0.heap.size<=b)/\¬ Z b/\(∀ r j,¬ g.fp r j b)/\(∀ r' R',look st.rt r'=some R'->R'.box=true->g.be r'≠b)) ->
    cK w' (.sl ti.elem te.ks) (List.replicate (m:Int).toNat (dR te.ks)) v' F'->o.wp P a w next Q:=by
    intro v' w' F' hr hrel hF' hown;have:(execOp a.eval o).run P w= .ok (.value v') w':=by simp only [execOp,ho,resolve,hcal,hargs',acy,acR,ack,invoke,builtin,adJ,ads,ad6,hr]
    unfold Oper.wp;rw [this,acM,hd];obtain ⟨g3,hg⟩:=hrel.zX hdn hfree hF' hown;exact hk Z g3 _ _ hg (hsz.put _ _)
   rcases adX m with hm | hm
   . subst hm;refine fin (.slice none 0 0) w (fun _=>False) (by rw [ex,ey]; exact Bj hu hTe hu2 hat hat2) h (fun b hb=>hb.elim) ?_;exact iT _ _
   . obtain ⟨zs,z1,z2,z3⟩:=xW (P:=P) (w:=w) (ty:=o.type) hu hTe hu2 hat hat2 (k:=k) hm hby hmb;have hge:=grownCap_ge w m 0 ti.elem;have hheap:(w.drew.alloc (.cells zs ti.elem (0,0))).heap=w.heap.push (.cells zs ti.elem (0,0)):=rfl;have hsize:(w.drew.alloc (.cells zs ti.elem (0,0))).heap.size=w.heap.size + 1:=by rw [hheap,adQ]
     have hold:∀ q,q < w.heap.size->(w.drew.alloc (.cells zs ti.elem (0,0))).heap[q]? = w.heap[q]? := fun q hq=>by rw [hheap,ac2,if_neg (by omega)]
     have hrel:Rel cx Z g st a (w.drew.alloc (.cells zs ti.elem (0,0))):=h.wr (fQ.none _ _ _ _ _) rfl rfl rfl (by rw [hsize]; omega) fun q hq _=>hold q hq
     refine fin _ _ (fun q=>q=w.heap.size) (by rw [ex,ey]; exact z3) hrel (fun b hb => ?_) ?_
     . subst hb;refine ⟨by rw [hsize]; omega,.inr h.size,fun hz=>by have:=(h.bN _ hz).1; omega,fun r j hh=>by have:=(h.fp r j _ hh).1; omega,fun r' R' hR' hb' he => ?_⟩;obtain ⟨_,_,_,_,cs1,el1,fr1,b5,_⟩:=h.box r' R' hR' hb';rw [he,acw (acb _)] at b5;simp at b5
     . have hlen:(aE (e:=ti.elem) (ks:=te.ks) (List.replicate (m:Int).toNat (dR te.ks))).length=m:=by simp [aE]
       have hbig:m<=aS:=acv (adP _ hby) hmb;refine ⟨_,_,by rw [hlen],by rw [hlen]; omega,by rw [hlen]; exact hbig,fun h=>by simp at h,fun a' ha' => ?_⟩;simp only [ab6] at ha';subst ha';refine ⟨_,_,zs,ti.elem,(0,0),rfl,rfl,by rw [hheap,ac2,if_pos rfl],fun q _ hh=>by simp at hh,by rw [z1]; omega,fun _ _ _=>False,fun _ _ _ h=>h.elim,fun _ _ _ _ _ h=>h.elim,fun i y hi => ?_⟩;have hil:i < m:=by
        rcases acn i m with hh | hh
        . exact hh
        . rw [acq (by rw [hlen]; exact hh)] at hi; simp at hi
       have hy:y=dR te.ks:=by
        have:(List.replicate (m:Int).toNat (dR te.ks))[i]? = some y:=hi;rw [aeE] at this;split at this
        . simp only [ab6] at this; exact this.symm
        . simp at this
       subst hy;refine mS te.ks 0 zs _ fun c v hc => ?_
       have hcl:c < te.ks.length:=by
        rcases acn c te.ks.length with hh | hh
        . exact hh
        . rw [acq (by simpa using hh)] at hc; simp at hc
       have hidx:i * te.ks.length + c < m * te.ks.length:=by have:(i + 1) * te.ks.length<=m * te.ks.length:=acC _ (by omega);rw [acZ] at this;omega
       rw [acz,z2 _ hidx,aeN,Nat.mul_add_mod,adz hcl];exact hc
end
end Go.Av
namespace Go.Av
open Go.RowKit (Below)
abbrev NU:=Nat->Nat->Option (RC×(Nat->Prop))
def Gh.qq (g:Gh) (L:NU):Gh:=⟨g.be,g.cv,fun r j b=>match L r j with | some p=>p.2 b | none=>g.fp r j b⟩
structure Jv (st st':St) (L:NU):Prop where
 tm:st'.tm=st.tm
 shape:∀ r,shape st' r=shape st r
 cell:∀ r j,st'.cell r j=match L r j with | some p=>(st.cell r j).map (fun _=>p.1) | none=>st.cell r j
 rt:∀ r,(∀ j,L r j=none)->look st'.rt r=look st.rt r
section
variable {P:Program} {cx:Cx P} {Z:Nat->Prop} {g:Gh} {st st':St} {a:Act} {w w':World} {E:En} {L:NU}
theorem rf {st st':St} {r:Nat} {R':Rt} (hs:shape st' r=shape st r) (h:look st'.rt r=some R'):∃ R,look st.rt r=some R/\R'.box=R.box/\R'.cells.length=R.cells.length:=by
 have h1:shape st r=some (R'.box,R'.cells.length):=by rw [<- hs]; simp [shape,h]
 obtain ⟨R,k1,k2,k3⟩:=pP h1;exact ⟨R,k1,k2.symm,k3.symm⟩
theorem Rel.qq (h:Rel cx Z g st a w) (hl:Jv st st' L) (h1:w'.os=w.os) (h2:w'.tape=w.tape) (h3:w'.output=w.output) (hsz:w.heap.size<=w'.heap.size)
 (hL:∀ r j p,L r j=some p->∃ c,st.cell r j=some c/\p.1.s=c.s/\c.m < p.1.m/\∃ e ks xs xs',c.v= .own (.sl e ks) xs/\p.1.v= .own (.sl e ks) xs'/\(aE xs').length=(aE xs).length/\cK w' (.sl e ks) xs' (g.cv r j) p.2)
 (hF:∀ r j p,L r j=some p->∀ b,p.2 b->b < w'.heap.size/\((∃ r0 j0 p0,L r0 j0=some p0/\g.fp r0 j0 b)∨w.heap.size<=b)/\¬ Z b)
 (hd:∀ r j p r' j' p' b,L r j=some p->L r' j'=some p'->p.2 b->p'.2 b->r=r'/\j=j')
 (hblk:∀ b,b < w.heap.size->(∀ r j p,L r j=some p->¬ g.fp r j b)->w'.heap[b]? = w.heap[b]?) :
 Rel cx Z (g.qq L) st' a w'/\jE Z w w' g (g.qq L) st st':=by
 have hfpo:∀ r j b,L r j=none->g.fp r j b->w'.heap[b]? = w.heap[b]? := fun r j b hn hb=>hblk b (h.fp r j b hb).1 fun r0 j0 p0 hp0 hh=>by obtain ⟨e1,e2⟩:=h.disj _ _ _ _ _ hb hh;subst e1; subst e2;rw [hn] at hp0; simp at hp0
 have hz:∀ b,Z b->b < w.heap.size->w'.heap[b]? = w.heap[b]? := fun b hb hlt=>hblk b hlt fun r j p hp hh=>(h.fp r j b hh).2.2.1 hb
 have hfpi:∀ r j b,(g.qq L).fp r j b->(∃ p,L r j=some p/\p.2 b)∨(L r j=none/\g.fp r j b):=fun r j b hb=>by
  simp only [Gh.qq] at hb;cases hp:L r j with
  | none=>rw [hp] at hb; exact .inr ⟨rfl,hb⟩
  | some p=>rw [hp] at hb; exact .inl ⟨p,rfl,hb⟩
 have k:lD Z Z w w' g (g.qq L) st st':=by
  refine { size:=hsz,z:=fun b hb hlt=>⟨hb,hz b hb hlt⟩,root:=fun r R hR => ?_,cell:=fun r j c hc => ?_,own:=fun r j b hb=>(h.fp r j b hb).1,block:=(eh h (st':=st) (w':=w) rfl rfl).block }
  . obtain ⟨R',e1,e2,_⟩:=rf (st:=st') (st':=st) (hl.shape r).symm hR;exact ⟨R',e1,e2.symm,fun _=>rfl⟩
  . rw [hl.cell];cases hp:L r j with
    | none=>exact ⟨c,hc,acb _,acb _,fun _=>rfl,fun _ e ks xs hh=>⟨xs,hh,rfl⟩,fun _ _=>⟨rfl,fun b hb _=>⟨by simp only [Gh.qq,hp]; exact hb,hfpo r j b hp hb⟩⟩⟩
    | some p => obtain ⟨c0,f1,f2,f3,e,ks,xs,xs',f4,f5,f6,f7⟩:=hL r j p hp;rw [hc] at f1;simp only [ab6] at f1;subst f1;rw [hc];refine ⟨p.1,rfl,by omega,by omega,fun _=>rfl,fun _ e' ks' xs0 hh => ?_,fun _ e=>absurd e (by omega)⟩;rw [f4] at hh;simp only [RV.own.injEq,K.sl.injEq] at hh;obtain ⟨⟨rfl,rfl⟩,hh⟩:=hh;have hh:=aeh hh;subst hh;exact ⟨xs',f5,f6⟩
 have hbn:∀ r R,look st.rt r=some R->R.box=true->∀ r' j',¬ (g.qq L).fp r' j' (g.be r):=fun r R hR hb r' j' hh=>by
  obtain ⟨_,_,b3,_,cs,el,fr,b5,_⟩:=h.box r R hR hb;have hlt:g.be r < w.heap.size:=by
   rcases acn (g.be r) w.heap.size with hh | hh
   . exact hh
   . simp [acw hh] at b5
  rcases hfpi _ _ _ hh with ⟨p,hp,hh⟩ | ⟨_,hh⟩
  . rcases (hF _ _ _ hp _ hh).2.1 with ⟨r0,j0,p0,_,k2⟩ | k2
    . exact b3 r0 j0 k2
    . omega
  . exact b3 _ _ hh
 refine ⟨?_,⟨k,hl.tm,rfl,fun r R' hR=>by obtain ⟨R,e1,e2,_⟩:=rf (hl.shape r) hR; exact ⟨R,e1,e2⟩⟩⟩;refine { os:=h1.trans h.os,tape:=h2.trans h.tape,output:=h3.trans h.output,size:=acv h.size hsz,block := ?_,bN:=fun b hb=>⟨acA (h.bN b hb).1 hsz,(h.bN b hb).2⟩,z0:=h.z0,fp := ?_,disj := ?_,box := ?_,cell := ?_,tm := ?_,defers:=h.defers,pin:=h.pin }
 . intro b hb hf;refine (hblk b (acA hb h.size) fun r j p hp hh => ?_).trans (h.block b hb hf);rcases (h.fp r j b hh).2.1 with h4 | h4
   . exact hf h4
   . omega
 . intro r j b hb;rcases hfpi r j b hb with ⟨p,hp,hb⟩ | ⟨hp,hb⟩
   . obtain ⟨k1,k2,k3⟩:=hF r j p hp b hb;obtain ⟨c,f1,_,_,e,ks,xs,xs',_,f5,_⟩:=hL r j p hp;refine ⟨k1,?_,k3,p.1,_,xs',by rw [hl.cell,hp,f1]; rfl,f5⟩;rcases k2 with ⟨r0,j0,p0,_,k2⟩ | k2
     . exact (h.fp _ _ _ k2).2.1
     . exact .inr (acv h.size k2)
   . obtain ⟨k1,k2,k3,c,kk,x,k4,k5⟩:=h.fp r j b hb;exact ⟨acA k1 hsz,k2,k3,c,kk,x,by rw [hl.cell,hp]; exact k4,k5⟩
 . intro r1 j1 r2 j2 b hb1 hb2;rcases hfpi _ _ _ hb1 with ⟨p1,hp1,k1⟩ | ⟨hp1,k1⟩
   . rcases hfpi _ _ _ hb2 with ⟨p2,hp2,k2⟩ | ⟨hp2,k2⟩
     . exact hd _ _ _ _ _ _ b hp1 hp2 k1 k2
     . exfalso;rcases (hF _ _ _ hp1 b k1).2.1 with ⟨r0,j0,p0,hp0,hh⟩ | hh
       . obtain ⟨e1,e2⟩:=h.disj _ _ _ _ _ hh k2;subst e1; subst e2;rw [hp2] at hp0; simp at hp0
       . have:=(h.fp _ _ _ k2).1; omega
   . rcases hfpi _ _ _ hb2 with ⟨p2,hp2,k2⟩ | ⟨hp2,k2⟩
     . exfalso;rcases (hF _ _ _ hp2 b k2).2.1 with ⟨r0,j0,p0,hp0,hh⟩ | hh
       . obtain ⟨e1,e2⟩:=h.disj _ _ _ _ _ hh k1;subst e1; subst e2;rw [hp1] at hp0; simp at hp0
       . have:=(h.fp _ _ _ k1).1; omega
     . exact h.disj _ _ _ _ _ k1 k2
 . intro r R' hR hbx;obtain ⟨R,e1,e2,e3⟩:=rf (hl.shape r) hR;have hbx':R.box=true:=by rw [<- e2]; exact hbx
   obtain ⟨b1,b2,b3,b4,cs,el,fr,b5,b6,b7,b8⟩:=h.box r R e1 hbx';have hlt:g.be r < w.heap.size:=by
    rcases acn (g.be r) w.heap.size with hh | hh
    . exact hh
    . simp [acw hh] at b5
   refine ⟨b1,b2,hbn r R e1 hbx',fun r' R'' hR'' hb'' he => ?_,cs,el,fr,?_,b6,by rw [b7,e3],b8⟩
   . obtain ⟨R2,f1,f2,_⟩:=rf (hl.shape r') hR'';exact b4 r' R2 f1 (by rw [<- f2]; exact hb'') he
   . show w'.heap[g.be r]? = _;rw [hblk _ hlt fun r0 j0 p0 _ hh=>b3 r0 j0 hh];exact b5
 . intro r j c hc;rw [hl.cell] at hc;cases hp:L r j with
   | none =>
     rw [hp] at hc;have e2:(g.qq L).fp r j=g.fp r j:=by funext b; simp only [Gh.qq,hp]
     rw [e2];exact iL.bP k _ _ _ _ (h.cell r j c hc) (fun _ h=>h) (fun b hb _=>hfpo r j b hp hb)
   | some p =>
     rw [hp] at hc;obtain ⟨c0,f1,_,_,e,ks,xs,xs',_,f5,_,f7⟩:=hL r j p hp;rw [f1] at hc;simp only [acG,ab6] at hc;subst hc;have e2:(g.qq L).fp r j=p.2:=by funext b; simp only [Gh.qq,hp]
     rw [e2,f5];exact f7
 . intro t tv ht;rw [hl.tm] at ht;exact ⟨(h.tm t tv ht).1,bl.bP k _ _ (h.tm t tv ht).2⟩
end
end Go.Av
namespace Go.Av
open Go.RowKit (Below)
section
variable {w w':World}
theorem yH:∀ (ks:List K) (x:Tl ks) (j:Nat) (G:Nat->Nat->Prop) (cs:Array Value) (o c:Nat) (k:K) (y:T k),eo w ks x j G cs o->cellAt ks x c=some ⟨k,y⟩->∃ v,cs[o + c]? = some v/\cK w k y v (G (j + c))
 | [],_,_,_,_,_,_,_,_,_,h=>by simp [cellAt] at h
 | k0 :: ks,x,j,G,cs,o,0,k,y,⟨⟨v,h1,h2⟩,_⟩,h=>by simp only [cellAt,ab6,Sigma.mk.injEq] at h;obtain ⟨rfl,h⟩:=h;have h:=aeh h;subst h;exact ⟨v,h1,h2⟩
 | k0 :: ks,x,j,G,cs,o,c + 1,k,y,⟨_,h3⟩,h=>by obtain ⟨v,h1,h2⟩:=yH ks x.2 (j + 1) G cs (o + 1) c k y h3 h;exact ⟨v,by rw [show o + (c + 1)=o + 1 + c by omega]; exact h1,by rw [show j + (c + 1)=j + 1 + c by omega]; exact h2⟩
theorem Kj {e:TypeId} {ks:List K} {xs:T (.sl e ks)} {b o l cap:Nat} {F:Nat->Prop} (h:cK w (.sl e ks) xs (.slice (some ⟨b,o,none⟩) l cap) F) {i c:Nat} (hi:i < (aE xs).length) {k:K} {y:T k} (hc:cellAt ks (fo xs i) c=some ⟨k,y⟩) :
 ∃ v Fi,w.cell? ⟨b,o + i * ks.length + c,none⟩=some v/\cK w k y v Fi/\(∀ q,Fi q->F q/\q≠b)/\F b /\
  ∀ (w':World) (y':T k) (z:Tl ks) (F':Nat->Prop),setAt ks (fo xs i) c k y'=some z->cK w' k y' v F'->(∀ q,F' q->F q->Fi q)->(∀ q,q < w.heap.size->F q->¬ Fi q->w'.heap[q]? = w.heap[q]?)->(∀ q,F q->q < w.heap.size) ->
   cK w' (.sl e ks) (List.set (aE xs) i z) (.slice (some ⟨b,o,none⟩) l cap) (fun q=>(F q/\¬ Fi q)∨F' q):=by
 obtain ⟨a',c0,h1,h2,h3,h4,h5⟩:=h;simp only [ac4] at h1;obtain ⟨rfl,rfl,rfl⟩:=h1;obtain ⟨b',o',cs,el,fr,g1,g2,g3,g4,g5,G,g6,g7,g8⟩:=h5 _ rfl;simp only [adq,adn] at g1;obtain ⟨rfl,rfl⟩:=g1;obtain ⟨v,hv1,hv2⟩:=yH ks _ 0 (G i) cs _ c k y (g8 i _ (jv xs hi)) hc;rw [acz] at hv2;refine ⟨v,G i c,?_,hv2,fun q hq=>g6 i c q hq,g2,fun w' y' z F' hz ho hF' hw hlt => ?_⟩
 . simp only [World.cell?,g3,adi,acU,ado];exact hv1
 . have hlen:(aE (e:=e) (ks:=ks) (List.set (aE xs) i z)).length=(aE xs).length:=aeO ..
   have hbG:¬ G i c b:=fun hh=>(g6 i c b hh).2 rfl
   have hcl:=wh _ _ _ _ _ _ hz;have hblt:=hlt b g2;refine ⟨_,cap,by rw [hlen],by rw [hlen]; exact h2,by rw [hlen]; exact h3,h4,fun a'' ha'' => ?_⟩;simp only [ab6] at ha'';subst ha'';refine ⟨b,o,cs,el,fr,rfl,.inl ⟨g2,hbG⟩,by rw [hw b hblt g2 hbG]; exact g3,g4,g5,fun i' j' q=>if i'=i/\j'=c then F' q else G i' j' q,fun i' j' q hq => ?_,fun i1 j1 i2 j2 q hq1 hq2 => ?_,fun i' x hx => ?_⟩
   . dsimp only at hq;split at hq
     . refine ⟨.inr hq,fun e => ?_⟩;subst e;exact hbG (hF' q hq g2)
     . rename_i hne;refine ⟨.inl ⟨(g6 i' j' q hq).1,fun hh=>hne ?_⟩,(g6 i' j' q hq).2⟩;exact g7 i' j' i c q hq hh
   . dsimp only at hq1 hq2;have cross:∀ i1 j1,¬ (i1=i/\j1=c)->G i1 j1 q->F' q->False:=fun i1 j1 hne hG hF=>by
      exact hne (g7 i1 j1 i c q hG (hF' q hF (g6 i1 j1 q hG).1))
     by_cases e1:i1=i/\j1=c
     . rw [if_pos e1] at hq1;by_cases e2:i2=i/\j2=c
       . exact ⟨e1.1.trans e2.1.symm,e1.2.trans e2.2.symm⟩
       . rw [if_neg e2] at hq2; exact (cross i2 j2 e2 hq2 hq1).elim
     . rw [if_neg e1] at hq1;by_cases e2:i2=i/\j2=c
       . rw [if_pos e2] at hq2; exact (cross i1 j1 e1 hq1 hq2).elim
       . rw [if_neg e2] at hq2; exact g7 _ _ _ _ q hq1 hq2
   . have hx':(List.set (aE xs) i z)[i']? = some x:=hx;rw [aeu] at hx';by_cases ei:i=i'
     . subst ei;rw [if_pos rfl,if_pos hi] at hx';simp only [ab6] at hx';subst hx';refine xe ks (fo xs i) c k y' z 0 (G i) _ F' cs cs _ v hz ho hv1 (fun _ _ _=>rfl) (fun q p hne hp => ?_) (fun p hp => ?_) (fun q p hne hp _ => ?_) (g8 i _ (jv xs hi))
       . show (if i=i/\q=c then F' p else G i q p);rw [if_neg (fun e=>hne (by omega))]; exact hp
       . show (if i=i/\0 + c=c then F' p else G i (0 + c) p);rw [if_pos ⟨rfl,by omega⟩]; exact hp
       . exact hw p (hlt p (g6 i q p hp).1) (g6 i q p hp).1 fun hh=>hne (by have:=(g7 i q i c p hp hh).2; omega)
     . rw [if_neg ei] at hx';refine eo.frame ks x 0 (G i') _ cs _ (fun j q hq => ?_) (fun j q hq _ => ?_) (g8 i' x hx')
       . show (if i'=i/\j=c then F' q else G i' j q);rw [if_neg (fun e=>ei e.1.symm)]; exact hq
       . exact hw q (hlt q (g6 i' j q hq).1) (g6 i' j q hq).1 fun hh=>ei (g7 i' j i c q hq hh).1.symm
end
end Go.Av
namespace Go.Av
open Go.RowKit (Below)
section
variable {P:Program} {cx:Cx P} {Z:Nat->Prop} {a:Act} {w:World} {E:En}
theorem dp.mono {F F':Nat->Nat->Prop} (hF:∀ i b,F i b->F' i b):∀ (ps:List PK) (x:PT ps) (vs:List Value) (i:Nat),dp Z w F ps x vs i->dp Z w F' ps x vs i
 | [],_,[],_,_=>trivial
 | .c _ _ :: ps,x,v :: vs,i,h=>⟨h.1,dp.mono hF ps x.2 vs _ h.2⟩
 | .pt _ :: ps,x,v :: vs,i,h=>⟨h.1,dp.mono hF ps x.2 vs _ h.2⟩
 | .nil :: ps,x,v :: vs,i,h=>⟨h.1,dp.mono hF ps x vs _ h.2⟩
 | .fn _ _ :: ps,x,v :: vs,i,h=>⟨h.1,dp.mono hF ps x.2 vs _ h.2⟩
 | .io _ ks :: ps,x,v :: vs,i,⟨⟨cs,e,h⟩,h'⟩=>⟨⟨cs,e,aM.mono hF ks x.1 cs i h⟩,dp.mono hF ps x.2 vs _ h'⟩
 | .mv _ :: ps,x,v :: vs,i,h=>⟨cK.frame _ _ _ _ _ (hF i) (fun _ _ _=>rfl) h.1,dp.mono hF ps x.2 vs _ h.2⟩
 | [],_,_ :: _,_,h=>h.elim
 | .c _ _ :: _,_,[],_,h=>h.elim
 | .fn _ _ :: _,_,[],_,h=>h.elim
 | .io _ _ :: _,_,[],_,h=>h.elim
 | .pt _ :: _,_,[],_,h=>h.elim
 | .nil :: _,_,[],_,h=>h.elim
 | .mv _ :: _,_,[],_,h=>h.elim
theorem aM.bN {Z':Nat->Prop} {H:Nat->Nat->Prop} (hz:∀ b,Z b->b < w.heap.size->Z' b):∀ (ks:List K) (x:Tl ks) (cs:List Value) (j:Nat),aM true Z w H ks x cs j->aM true Z' w H ks x cs j
 | [],_,[],_,_=>trivial
 | .sl e ks' :: ks,x,v :: vs,j,h=>⟨h.1,aM.bN hz ks x.2 vs _ h.2⟩
 | .int _ :: ks,x,v :: vs,j,h=>⟨h.1.bN hz,aM.bN hz ks x.2 vs j h.2⟩
 | .bool :: ks,x,v :: vs,j,h=>⟨h.1.bN hz,aM.bN hz ks x.2 vs j h.2⟩
 | .str :: ks,x,v :: vs,j,h=>⟨h.1.bN hz,aM.bN hz ks x.2 vs j h.2⟩
 | [],_,_ :: _,_,h=>h.elim
 | .sl _ _ :: _,_,[],_,h=>h.elim
 | .int _ :: _,_,[],_,h=>h.elim
 | .bool :: _,_,[],_,h=>h.elim
 | .str :: _,_,[],_,h=>h.elim
def Zb (Z:Nat->Prop) (g:Gh) (st:St):Nat->Prop:=fun b=>Z b∨∃ r R,look st.rt r=some R/\R.box=true/\g.be r=b
theorem Qk {g:Gh} {st:St} (h:Rel cx Z g st a w):∀ b,Zb Z g st b->b < w.heap.size:=fun b hb=>by
 rcases hb with hb | ⟨r,R,hR,hx,e⟩
 . exact (h.bN b hb).1
 . obtain ⟨_,_,_,_,cs,el,fr,b5,_⟩:=h.box r R hR hx;rw [e] at b5;rcases acn b w.heap.size with hh | hh
   . exact hh
   . simp [acw hh] at b5
theorem PC {g:Gh} {st:St} (h:Rel cx Z g st a w) {r j b:Nat} (hb:g.fp r j b):¬ Zb Z g st b:=fun hz=>by
 rcases hz with hz | ⟨r',R,hR,hx,e⟩
 . exact (h.fp _ _ _ hb).2.2.1 hz
 . exact (h.box r' R hR hx).2.2.1 r j (e ▸ hb)
def DR (g:Gh) (st:St) (w w':World) (r j:Nat) (c':RC) (F F':Nat->Prop):Prop :=
 ∃ c e ks xs xs',st.cell r j=some c/\c'.s=c.s/\c.m < c'.m/\c.v= .own (.sl e ks) xs/\c'.v= .own (.sl e ks) xs'/\(aE xs').length=(aE xs).length/\cK w' (.sl e ks) xs' (g.cv r j) (fun q=>(g.fp r j q/\¬ F q)∨F' q)
structure H7 (g:Gh) (st:St) (w:World) (n:Ln) (k:K) (F:Nat->Prop) (v:Value):Prop where
 sub:∀ b,F b->g.fp n.r n.j b
 back:∀ (w':World) (y':T k) (F':Nat->Prop) (c':RC),st.Ap n ⟨k,y'⟩=some c'->cK w' k y' v F'->(∀ q,F' q->g.fp n.r n.j q->F q)->(∀ q,q < w.heap.size->g.fp n.r n.j q->¬ F q->w'.heap[q]? = w.heap[q]?)->DR g st w w' n.r n.j c' F F'
theorem N9 {w w':World} {e:TypeId} {ks:List K} {xs xs':T (.sl e ks)} {v:Value} {F F':Nat->Prop} (h:cK w (.sl e ks) xs v F) (h':cK w' (.sl e ks) xs' v F'):(aE xs').length=(aE xs).length:=by obtain ⟨a,c,h1,_⟩:=h;obtain ⟨a',c',h1',_⟩:=h';rw [h1] at h1';simp only [ac4] at h1';exact h1'.2.1.symm
theorem Hu {g:Gh} {st:St} (h:Rel cx Z g st a w) {av:AV} {v:Value} {e0:TypeId} {ks0:List K} {n:Ln} {y:T (.sl e0 ks0)} (hr:ba Z g st w av v) (hl:st.Cy (.sl e0 ks0) av=some (n,y)) :
 ∃ F,cK w (.sl e0 ks0) y v F/\H7 g st w n (.sl e0 ks0) F v:=by
 cases av with
 | ref r j s =>
   simp only [St.Cy] at hl;split at hl
   . rename_i s' m k' x hc;cases hb:Nat.beq s' s with
     | false=>rw [hb] at hl; simp at hl
     | true =>
       rw [hb] at hl;simp only [ab9] at hl;split at hl
       . rename_i y' hy;cases hl;obtain ⟨rfl,hy⟩:=ct hy;have hy:x=y:=hy;subst hy;have:=beq_eq hb;subst this;obtain ⟨c,q1,q2,q3⟩:=hr;rw [hc] at q1;cases q1;have q3:=q3 rfl;subst q3;have ho:cK w (.sl e0 ks0) x (g.cv r j) (g.fp r j):=h.cell r j _ hc;refine ⟨g.fp r j,ho,fun b hb=>hb,fun w' y' F' c' hbk ho' hF' hw' => ?_⟩;simp only [St.Ap,hc,ab6] at hbk;subst hbk;refine ⟨_,e0,ks0,x,y',hc,rfl,adA _,rfl,rfl,N9 ho ho',?_⟩;exact cK.frame _ _ _ _ _ (fun b hb=> .inr hb) (fun _ _ _=>rfl) ho'
       . simp at hl
   . simp at hl
 | pref r j s m i c =>
   simp only [St.Cy] at hl;split at hl
   . rename_i s' m' e ks x hc;cases hb:Nat.beq s' s && Nat.beq m' m with
     | false=>rw [hb] at hl; simp at hl
     | true =>
       rw [hb] at hl;simp only [ab9] at hl;simp only [ab8] at hb;split at hl
       . rename_i k' y1 hcell;split at hl
         . rename_i y' hy;cases hl;obtain ⟨rfl,hy⟩:=ct hy;have hy:y1=y:=hy;subst hy;have e1:=beq_eq hb.1;have e2:=beq_eq hb.2;subst e1; subst e2;obtain ⟨c0,q1,q2,q3,q4⟩:=hr;rw [hc] at q1;cases q1;obtain ⟨e',ks',xs',p1,p2,p3,b,o,l,cap,p4,p5⟩:=q4 rfl rfl;simp only [RV.own.injEq,K.sl.injEq] at p1;obtain ⟨⟨rfl,rfl⟩,p1⟩:=p1;have p1:=aeh p1;subst p1;have ho:cK w (.sl e ks) x (g.cv r j) (g.fp r j):=h.cell r j _ hc;rw [p4] at ho;obtain ⟨v',Fi,u1,u2,u3,u4,u5⟩:=Kj ho p2 hcell;rw [p5] at u1;simp only [ab6] at u1;subst u1;refine ⟨Fi,u2,fun b hb=>(u3 b hb).1,fun w' y' F' c' hbk ho' hF' hw' => ?_⟩;simp only [St.Ap,hc] at hbk;split at hbk
           . rename_i z hz;simp only [ab6] at hbk;subst hbk;refine ⟨_,e,ks,x,_,hc,rfl,adA _,rfl,rfl,aeO ..,?_⟩;show cK w' (.sl e ks) _ (g.cv r j) _;rw [p4];exact u5 w' y' z F' hz ho' hF' hw' fun q hq=>(h.fp r j q hq).1
           . simp at hbk
         . simp at hl
       . simp at hl
   . simp at hl
 | _=>simp [St.Cy] at hl
def D0:List K->List Value->List (K×Value)
 | .sl e ks' :: ks,v :: vs=>(.sl e ks',v) :: D0 ks vs
 | .int _ :: ks,_ :: vs=>D0 ks vs
 | .bool :: ks,_ :: vs=>D0 ks vs
 | .str :: ks,_ :: vs=>D0 ks vs
 | _,_=>[]
def xO:List PK->List Value->List (K×Value)
 | .io gg ks :: ps,v :: vs=>D0 ks (cellsOf gg v) ++ xO ps vs
 | .c _ _ :: ps,_ :: vs=>xO ps vs
 | .pt _ :: ps,_ :: vs=>xO ps vs
 | .nil :: ps,_ :: vs=>xO ps vs
 | .fn _ _ :: ps,_ :: vs=>xO ps vs
 | .mv _ :: ps,_ :: vs=>xO ps vs
 | _,_=>[]
def ez (g:Gh) (st:St) (w:World) (F:Nat->Nat->Prop):List Ln->List (K×Value)->Nat->Prop
 | [],[],_=>True
 | n :: l,p :: r,i=>H7 g st w n p.1 (F i) p.2/\ez g st w F l r (i + 1)
 | _,_,_=>False
theorem H7.eq {g:Gh} {st:St} {n:Ln} {k:K} {F F':Nat->Prop} {v:Value} (h:H7 g st w n k F v) (e:∀ b,F b↔F' b):H7 g st w n k F' v:=by
 have:F=F':=funext fun b=>propext (e b)
 rw [<- this]; exact h
theorem ez.eq {g:Gh} {st:St} {F F':Nat->Nat->Prop}:∀ (l:List Ln) (r:List (K×Value)) (i:Nat),(∀ m b,i<=m->m < i + l.length->(F m b↔F' m b))->ez g st w F l r i->ez g st w F' l r i
 | [],[],_,_,_=>trivial
 | n :: l,p :: r,i,e,h=>⟨h.1.eq fun b=>e i b (acb _) (by simp),ez.eq l r (i + 1) (fun m b h1 h2=>e m b (by omega) (by simp only [aca]; omega)) h.2⟩
 | [],_ :: _,_,_,h=>h.elim
 | _ :: _,[],_,_,h=>h.elim
theorem ez.len {g:Gh} {st:St} {F:Nat->Nat->Prop}:∀ (l:List Ln) (r:List (K×Value)) (i:Nat),ez g st w F l r i->l.length=r.length
 | [],[],_,_=>rfl
 | n :: l,p :: r,i,h=>acT (· + 1) (ez.len l r (i + 1) h.2)
 | [],_ :: _,_,h=>h.elim
 | _ :: _,[],_,h=>h.elim
theorem ez.app {g:Gh} {st:St} {F:Nat->Nat->Prop}:∀ (l l':List Ln) (r r':List (K×Value)) (i:Nat),ez g st w F l r i->ez g st w F l' r' (i + l.length)->ez g st w F (l ++ l') (r ++ r') i
 | [],_,[],_,_,_,h=>h
 | n :: l,l',p :: r,r',i,h,h'=>⟨h.1,ez.app l l' r r' (i + 1) h.2 (by rw [show i + 1 + l.length=i + (n :: l).length by simp; omega]; exact h')⟩
 | [],_,_ :: _,_,_,h,_=>h.elim
 | _ :: _,_,[],_,_,h,_=>h.elim
theorem kE {g:Gh} {st:St} (h:Rel cx Z g st a w):∀ (ks:List K) (l:List AV) (cs:List Value) (i:Nat) (ns:List Ln) (y:Tl ks),aN Z g st w l cs->st.mx ks l=some (ns,y) ->
 ns.length=bf ks/\∃ F:Nat->Nat->Prop,aM true Z w F ks y cs i/\ez g st w F ns (D0 ks cs) i/\∀ m b,F m b->i<=m/\m < i + bf ks
 | [],[],[],i,ns,y,_,hl=>by simp only [St.mx,ab6,acI] at hl;obtain ⟨rfl,_⟩:=hl;exact ⟨rfl,fun _ _=>False,trivial,trivial,fun _ _ h=>h.elim⟩
 | [],[],_ :: _,_,_,_,h1,_=>h1.elim
 | [],_ :: _,_,_,_,_,_,hl=>by simp [St.mx] at hl
 | _ :: _,[],_,_,_,_,_,hl=>by simp [St.mx] at hl
 | _ :: _,_ :: _,[],_,_,_,h1,_=>h1.elim
 | .sl e ks' :: ks,av :: l,v :: vs,i,ns,y,h1,hl=>by
   simp only [St.mx] at hl;split at hl
   . rename_i p q hp hq;cases hl;obtain ⟨F1,k1,k2⟩:=Hu h h1.1 hp;obtain ⟨hlen,F,m1,m2,m3⟩:=kE h ks l vs (i + 1) q.1 q.2 h1.2 hq;have hs:∀ m b,(i + 1<=m)->(((m=i/\F1 b)∨F m b)↔F m b):=fun m b hm=>⟨fun hh=>hh.elim (fun h=>by omega) id,.inr⟩
     refine ⟨by simp [bf,hlen],fun m b=>(m=i/\F1 b)∨F m b,⟨cK.frame _ _ _ _ _ (fun b hb=> .inl ⟨rfl,hb⟩) (fun _ _ _=>rfl) k1,aM.mono (fun m b hb=> .inr hb) _ _ _ _ m1⟩,⟨k2.eq fun b=>⟨fun hb=> .inl ⟨rfl,hb⟩,fun hb=>hb.elim (fun h=>h.2) fun hb=>by have:=(m3 i b hb).1; omega⟩,?_⟩,fun m b hb => ?_⟩
     . exact ez.eq _ _ _ (fun m b h1 _=>(hs m b h1).symm) m2
     . simp only [bf];rcases hb with hb | hb
       . omega
       . have:=m3 m b hb; omega
   . simp at hl
 | .int k :: ks,av :: l,v :: vs,i,ns,y,h1,hl=>by
   simp only [St.mx] at hl;split at hl
   . rename_i x q hx hf hq;cases hl;obtain ⟨hlen,F,m1,m2,m3⟩:=kE h ks l vs i q.1 q.2 h1.2 hq;exact ⟨hlen,F,⟨bT h h1.1 hf hx,m1⟩,m2,m3⟩
   . simp at hl
 | .bool :: ks,av :: l,v :: vs,i,ns,y,h1,hl=>by
   simp only [St.mx] at hl;split at hl
   . rename_i x q hx hf hq;cases hl;obtain ⟨hlen,F,m1,m2,m3⟩:=kE h ks l vs i q.1 q.2 h1.2 hq;exact ⟨hlen,F,⟨bT h h1.1 hf hx,m1⟩,m2,m3⟩
   . simp at hl
 | .str :: ks,av :: l,v :: vs,i,ns,y,h1,hl=>by
   simp only [St.mx] at hl;split at hl
   . rename_i x q hx hf hq;cases hl;obtain ⟨hlen,F,m1,m2,m3⟩:=kE h ks l vs i q.1 q.2 h1.2 hq;exact ⟨hlen,F,⟨bT h h1.1 hf hx,m1⟩,m2,m3⟩
   . simp at hl
theorem lx {g:Gh} {st:St} (h:Rel cx Z g st a w) {Z':Nat->Prop} (hz0:∀ b,Z b->b < w.heap.size->Z' b) (hb0:∀ r R,look st.rt r=some R->R.box=true->Z' (g.be r)):∀ (ps:List PK) (l:List TV) (vs:List Value) (i:Nat) (ns:List Ln) (x:PT ps),fz Z g st w l vs->st.bF ps l=some (ns,x) ->
 ∃ F:Nat->Nat->Prop,dp Z' w F ps x vs i/\ez g st w F ns (xO ps vs) i/\∀ m b,F m b->i<=m/\m < i + ns.length
 | [],[],[],i,ns,x,_,hl=>by simp only [St.bF,ab6,acI] at hl;obtain ⟨rfl,_⟩:=hl;exact ⟨fun _ _=>False,trivial,trivial,fun _ _ h=>h.elim⟩
 | [],[],_ :: _,_,_,_,h1,_=>h1.elim
 | [],_ :: _,_,_,_,_,_,hl=>by simp [St.bF] at hl
 | .c _ _ :: _,[],_,_,_,_,_,hl=>by simp [St.bF] at hl
 | .fn _ _ :: _,[],_,_,_,_,_,hl=>by simp [St.bF] at hl
 | .io _ _ :: _,[],_,_,_,_,_,hl=>by simp [St.bF] at hl
 | .mv _ :: _,[],_,_,_,_,_,hl=>by simp [St.bF] at hl
 | .mv _ :: _,_ :: _,_,_,_,_,_,hl=>by simp [St.bF] at hl
 | .pt _ :: _,[],_,_,_,_,_,hl=>by simp [St.bF] at hl
 | .nil :: _,[],_,_,_,_,_,hl=>by simp [St.bF] at hl
 | .nil :: _,_ :: _,_,_,_,_,_,hl=>by simp [St.bF] at hl
 | .pt _ :: _,_ :: _,_,_,_,_,_,hl=>by simp [St.bF] at hl
 | .c _ _ :: _,_ :: _,[],_,_,_,h1,_=>h1.elim
 | .fn _ _ :: _,_ :: _,[],_,_,_,h1,_=>h1.elim
 | .io _ _ :: _,_ :: _,[],_,_,_,h1,_=>h1.elim
 | .c gg ks :: ps,tv :: r,v :: vs,i,ns,x,h1,hl=>by
   unfold St.bF at hl;cases hl2:tv.cQ with
   | none=>rw [hl2] at hl; simp at hl
   | some p =>
     obtain ⟨gg',l⟩:=p;rw [hl2] at hl;simp only at hl;cases hb:bM gg gg' && l.all AV.bC with
     | false=>rw [hb] at hl; simp at hl
     | true =>
       rw [hb] at hl;simp only [ab9] at hl;simp only [ab8] at hb;have hg:=dU hb.1;subst hg;split at hl
       . rename_i z q hz hq;cases hl;obtain ⟨us,e1,e2⟩:=gV (lH h1.1 hl2);obtain ⟨F,k1,k2,k3⟩:=lx h hz0 hb0 ps r vs i q.1 q.2 h1.2 hq;exact ⟨F,⟨⟨us,e1,sZ.bN hz0 ks z us (dw h ks l us z e2 hb.2 hz)⟩,k1⟩,k2,k3⟩
       . simp at hl
 | .fn f cs :: ps,tv :: r,v :: vs,i,ns,x,h1,hl=>by
   cases tv with
   | fn f' caps =>
     unfold St.bF at hl;cases hb:Nat.beq f f' with
     | false=>rw [hb] at hl; simp at hl
     | true =>
       rw [hb] at hl;simp only [ab9] at hl;have hf:=beq_eq hb;subst hf;split at hl
       . rename_i z q hz hq;cases hl;obtain ⟨us,e1,e2⟩:=h1.1;obtain ⟨F,k1,k2,k3⟩:=lx h hz0 hb0 ps r vs i q.1 q.2 h1.2 hq;exact ⟨F,⟨⟨us,e1,nk h hz0 (fun _=>hb0) cs caps us.toList z e2 hz⟩,k1⟩,k2,k3⟩
       . simp at hl
   | _=>simp [St.bF] at hl
 | .io gg ks :: ps,tv :: r,v :: vs,i,ns,x,h1,hl=>by
   unfold St.bF at hl;cases hl2:tv.cQ with
   | none=>rw [hl2] at hl; simp at hl
   | some p =>
     obtain ⟨gg',l⟩:=p;rw [hl2] at hl;simp only at hl;cases hb:bM gg gg' with
     | false=>rw [hb] at hl; simp at hl
     | true =>
       rw [hb] at hl;simp only [ab9] at hl;have hg:=dU hb;subst hg;split at hl
       . rename_i p q hp hq;cases hl;obtain ⟨us,e1,e2⟩:=gV (lH h1.1 hl2);obtain ⟨hlen,F1,m1,m2,m3⟩:=kE h ks l us i p.1 p.2 e2 hp;obtain ⟨F,k1,k2,k3⟩:=lx h hz0 hb0 ps r vs (i + bf ks) q.1 q.2 h1.2 hq;refine ⟨fun m b=>F1 m b∨F m b,⟨⟨us,e1,aM.mono (fun m b hb=> .inl hb) _ _ _ _ (aM.bN hz0 _ _ _ _ m1)⟩,dp.mono (fun m b hb=> .inr hb) _ _ _ _ k1⟩,?_,fun m b hb => ?_⟩
         . simp only [xO,e1.eq];refine ez.app _ _ _ _ _ (ez.eq _ _ _ (fun m b hm1 hm2=>⟨.inl,fun hh=>hh.elim id fun hh=>by have:=(k3 m b hh).1; omega⟩) m2) ?_;rw [hlen];exact ez.eq _ _ _ (fun m b hm1 hm2=>⟨.inr,fun hh=>hh.elim (fun hh=>by have:=(m3 m b hh).2; omega) id⟩) k2
         . simp only [ab7,hlen];rcases hb with hb | hb
           . have:=m3 m b hb; omega
           . have:=k3 m b hb; omega
       . simp at hl
def gW (w':World) (G:Nat->Nat->Prop):List ((k:K)×T k)->List (K×Value)->Nat->Prop
 | [],[],_=>True
 | y :: l,p :: r,i=>(y.1=p.1/\cK w' y.1 y.2 p.2 (G i))/\gW w' G l r (i + 1)
 | _,_,_=>False
theorem gW.app {w':World} {G:Nat->Nat->Prop}:∀ (l l':List ((k:K)×T k)) (r r':List (K×Value)) (i:Nat),gW w' G l r i->gW w' G l' r' (i + l.length)->gW w' G (l ++ l') (r ++ r') i
 | [],_,[],_,_,_,h=>h
 | n :: l,l',p :: r,r',i,h,h'=>⟨h.1,gW.app l l' r r' (i + 1) h.2 (by rw [show i + 1 + l.length=i + (n :: l).length by simp; omega]; exact h')⟩
 | [],_,_ :: _,_,_,h,_=>h.elim
 | _ :: _,_,[],_,_,h,_=>h.elim
theorem jq:∀ (ks:List K) (y:Tl ks),(uO ks y).length=bf ks
 | [],_=>rfl
 | .sl _ _ :: ks,x=>acT (· + 1) (jq ks x.2)
 | .int _ :: ks,x=>jq ks x.2
 | .bool :: ks,x=>jq ks x.2
 | .str :: ks,x=>jq ks x.2
theorem jL {Z':Nat->Prop} {w':World} {G:Nat->Nat->Prop}:∀ (ks:List K) (y:Tl ks) (cs:List Value) (i:Nat),aM true Z' w' G ks y cs i->gW w' G (uO ks y) (D0 ks cs) i
 | [],_,[],_,_=>trivial
 | .sl e ks' :: ks,y,v :: vs,i,h=>⟨⟨rfl,h.1⟩,jL ks y.2 vs (i + 1) h.2⟩
 | .int _ :: ks,y,v :: vs,i,h=>jL ks y.2 vs i h.2
 | .bool :: ks,y,v :: vs,i,h=>jL ks y.2 vs i h.2
 | .str :: ks,y,v :: vs,i,h=>jL ks y.2 vs i h.2
 | [],_,_ :: _,_,h=>h.elim
 | .sl _ _ :: _,_,[],_,h=>h.elim
 | .int _ :: _,_,[],_,h=>h.elim
 | .bool :: _,_,[],_,h=>h.elim
 | .str :: _,_,[],_,h=>h.elim
def BS:List PK->Bool
 | []=>true
 | .mv _ :: _=>false
 | .c _ _ :: ps=>BS ps
 | .pt _ :: ps=>BS ps
 | .nil :: ps=>BS ps
 | .fn _ _ :: ps=>BS ps
 | .io _ _ :: ps=>BS ps
theorem mT {Z':Nat->Prop} {w':World} {G:Nat->Nat->Prop}:∀ (ps:List PK) (y:tz ps) (vs:List Value) (i:Nat),BS ps=true->vs.length=ps.length->xm Z' w' G ps y vs i->gW w' G (jy ps y) (xO ps vs) i
 | [],_,[],_,_,_,_=>trivial
 | .c _ _ :: ps,y,v :: vs,i,hn,hl,h=>mT ps y vs i hn (by simpa using hl) h
 | .pt _ :: ps,y,v :: vs,i,hn,hl,h=>mT ps y vs i hn (by simpa using hl) h
 | .nil :: ps,y,v :: vs,i,hn,hl,h=>mT ps y vs i hn (by simpa using hl) h
 | .fn _ _ :: ps,y,v :: vs,i,hn,hl,h=>mT ps y vs i hn (by simpa using hl) h
 | .mv _ :: ps,y,v :: vs,i,hn,hl,h=>by simp [BS] at hn
 | .io gg ks :: ps,y,v :: vs,i,hn,hl,⟨⟨cs,e,h⟩,h'⟩=>by simp only [xO,jy,e.eq];exact gW.app _ _ _ _ _ (jL ks y.1 cs i h) (by rw [jq]; exact mT ps y.2 vs _ hn (by simpa using hl) h')
 | [],_,_ :: _,_,_,hl,_=>by simp at hl
 | .c _ _ :: ps,y,[],i,hn,hl,h=>h.elim
 | .pt _ :: ps,y,[],i,hn,hl,h=>h.elim
 | .nil :: ps,y,[],i,hn,hl,h=>h.elim
 | .fn _ _ :: ps,y,[],i,hn,hl,h=>h.elim
 | .io _ _ :: ps,y,[],i,hn,hl,h=>h.elim
 | .mv _ :: ps,y,[],i,hn,hl,h=>h.elim
theorem jQ {st:St}:∀ (ps:List PK) (l:List TV) (q:List Ln×PT ps),st.bF ps l=some q->BS ps=true
 | [],_,_,_=>rfl
 | .c gg ks :: ps,[],q,h=>by simp [St.bF] at h
 | .fn _ _ :: ps,[],q,h=>by simp [St.bF] at h
 | .io _ _ :: ps,[],q,h=>by simp [St.bF] at h
 | .mv _ :: ps,[],q,h=>by simp [St.bF] at h
 | .mv _ :: ps,_ :: _,q,h=>by simp [St.bF] at h
 | .pt _ :: ps,[],q,h=>by simp [St.bF] at h
 | .nil :: ps,[],q,h=>by simp [St.bF] at h
 | .nil :: ps,_ :: _,q,h=>by simp [St.bF] at h
 | .pt _ :: ps,_ :: _,q,h=>by simp [St.bF] at h
 | .c gg ks :: ps,tv :: r,q,h=>by
   unfold St.bF at h;split at h
   . rename_i g' l hl;cases hb:bM gg g' && l.all AV.bC with
     | false=>rw [hb] at h; simp at h
     | true =>
       rw [hb] at h;simp only [ab9] at h;split at h
       . rename_i y hx hy; exact jQ ps r _ hy
       . simp at h
   . simp at h
 | .fn f cs :: ps,tv :: r,q,h=>by
   cases tv with
   | fn f' caps =>
     unfold St.bF at h;cases hb:Nat.beq f f' with
     | false=>rw [hb] at h; simp at h
     | true =>
       rw [hb] at h;simp only [ab9] at h;split at h
       . rename_i y hx hy; exact jQ ps r _ hy
       . simp at h
   | _=>simp [St.bF] at h
 | .io gg ks :: ps,tv :: r,q,h=>by
   unfold St.bF at h;split at h
   . rename_i g' l hl;cases hb:bM gg g' with
     | false=>rw [hb] at h; simp at h
     | true =>
       rw [hb] at h;simp only [ab9] at h;split at h
       . rename_i y hx hy; exact jQ ps r _ hy
       . simp at h
   . simp at h
def Hg (g:Gh) (st:St) (w w':World) (F G:Nat->Nat->Prop):List (Nat×Nat×RC)->Nat->Prop
 | [],_=>True
 | (r,j,c) :: l,i=>(DR g st w w' r j c (F i) (G i)/\∀ b,F i b->g.fp r j b)/\Hg g st w w' F G l (i + 1)
theorem yo {g:Gh} {st:St} {w':World} {F G:Nat->Nat->Prop} :
 ∀ (ns:List Ln) (ys:List ((k:K)×T k)) (kv:List (K×Value)) (i:Nat) (qs:List (Nat×Nat×RC)),st.qS ns ys=some qs->ez g st w F ns kv i->gW w' G ys kv i ->
  (∀ m n,ns[m]? = some n->(∀ q,G (i + m) q->g.fp n.r n.j q->F (i + m) q)/\∀ q,q < w.heap.size->g.fp n.r n.j q->¬ F (i + m) q->w'.heap[q]? = w.heap[q]?) ->
  Hg g st w w' F G qs i/\qs.map (fun q=>(q.1,q.2.1))=ns.map fun n=>(n.r,n.j)
 | [],[],[],i,qs,hb,_,_,_=>by simp only [St.qS,ab6] at hb;subst hb;exact ⟨trivial,rfl⟩
 | n :: ns,y :: ys,p :: kv,i,qs,hb,hL,hP,hh=>by
   simp only [St.qS] at hb;split at hb
   . rename_i c q hc hq;simp only [ab6] at hb;subst hb;obtain ⟨k1,k2⟩:=yo ns ys kv (i + 1) q hq hL.2 hP.2 fun m n' hm=>by
      have:=hh (m + 1) n' (by simpa using hm);rw [show i + (m + 1)=i + 1 + m by omega] at this;exact this
     obtain ⟨h1,h2⟩:=hh 0 n rfl;obtain ⟨k0,y0⟩:=y;obtain ⟨kp,v⟩:=p;obtain ⟨⟨e1,e2⟩,_⟩:=hP;simp only at e1 e2;subst e1;exact ⟨⟨⟨hL.1.back w' y0 (G i) c hc e2 h1 h2,hL.1.sub⟩,k1⟩,by simp [k2]⟩
   . simp at hb
 | [],[],_ :: _,_,_,_,h,_,_=>h.elim
 | [],_ :: _,_,_,_,hb,_,_,_=>by simp [St.qS] at hb
 | _ :: _,[],_,_,_,hb,_,_,_=>by simp [St.qS] at hb
 | _ :: _,_ :: _,[],_,_,_,h,_,_=>h.elim
end
end Go.Av
namespace Go.Av
open Go.RowKit (Below)
section
variable {P:Program} {cx:Cx P} {Z:Nat->Prop} {a:Act} {w:World} {E:En}
def jC (g:Gh) (F G:Nat->Nat->Prop):List (Nat×Nat×RC)->Nat->NU
 | [],_=>fun _ _=>none
 | (r,j,c) :: l,i=>fun r' j'=>if r=r'/\j=j' then some (c,fun b=>(g.fp r j b/\¬ F i b)∨G i b) else jC g F G l (i + 1) r' j'
theorem dx {g:Gh} {F G:Nat->Nat->Prop}:∀ (q:List (Nat×Nat×RC)) (i:Nat) (r j:Nat) (p:RC×(Nat->Prop)),jC g F G q i r j=some p->∃ m,q[m]? = some (r,j,p.1)/\p.2=fun b=>(g.fp r j b/\¬ F (i + m) b)∨G (i + m) b
 | [],_,_,_,_,h=>by simp [jC] at h
 | (r0,j0,c) :: l,i,r,j,p,h=>by
   simp only [jC] at h;split at h
   . rename_i e;obtain ⟨rfl,rfl⟩:=e;simp only [ab6] at h;subst h;exact ⟨0,rfl,rfl⟩
   . obtain ⟨m,h1,h2⟩:=dx l (i + 1) r j p h;exact ⟨m + 1,h1,by rw [h2,show i + 1 + m=i + (m + 1) by omega]⟩
theorem rR {g:Gh} {F G:Nat->Nat->Prop}:∀ (q:List (Nat×Nat×RC)) (i m:Nat) (r j:Nat) (c:RC),q[m]? = some (r,j,c)->∃ p,jC g F G q i r j=some p
 | [],_,_,_,_,_,h=>by simp at h
 | (r0,j0,c0) :: l,i,m,r,j,c,h=>by
   simp only [jC];split
   . exact ⟨_,rfl⟩
   . rename_i hne;cases m with
     | zero=>simp only [acj,ab6,acI] at h; exact absurd ⟨h.1,h.2.1⟩ hne
     | succ m=>exact rR l (i + 1) m r j c (by simpa using h)
theorem fE {g:Gh} {F G:Nat->Nat->Prop} {st:St}:∀ (q:List (Nat×Nat×RC)) (i:Nat),Jv st (st.setCells q) (jC g F G q i)
 | [],i=>⟨rfl,fun _=>rfl,fun _ _=>rfl,fun _ _=>rfl⟩
 | (r,j,c) :: l,i=>by
   have ih:=fE (g:=g) (F:=F) (G:=G) (st:=st) l (i + 1);refine ⟨by simp only [St.setCells]; rw [dn]; exact ih.tm,fun r'=>by simp only [St.setCells]; rw [gY]; exact ih.shape r',fun r' j' => ?_,fun r' hr => ?_⟩
   . simp only [St.setCells];rw [cr];simp only [jC];split
     . rw [ih.cell];split
       . simp [Option.map_map];rfl
       . rfl
     . exact ih.cell r' j'
   . simp only [St.setCells];rw [eQ];by_cases e:r=r'
     . have:=hr j;simp [jC,e] at this
     . rw [if_neg e];refine ih.rt r' fun j' => ?_
       have:=hr j';simp only [jC] at this;rw [if_neg (fun hh=>e hh.1)] at this;exact this
theorem Hg.get {g:Gh} {st:St} {w w':World} {F G:Nat->Nat->Prop}:∀ (q:List (Nat×Nat×RC)) (i m:Nat) (r j:Nat) (c:RC),Hg g st w w' F G q i->q[m]? = some (r,j,c)->DR g st w w' r j c (F (i + m)) (G (i + m))/\∀ b,F (i + m) b->g.fp r j b
 | [],_,_,_,_,_,_,h=>by simp at h
 | (r0,j0,c0) :: l,i,0,r,j,c,h,hq=>by simp only [acj,ab6,acI] at hq;obtain ⟨rfl,rfl,rfl⟩:=hq;exact h.1
 | (r0,j0,c0) :: l,i,m + 1,r,j,c,h,hq=>by have:=Hg.get l (i + 1) m r j c h.2 (by simpa using hq);rw [show i + 1 + m=i + (m + 1) by omega] at this;exact this
theorem uV:∀ (l:List Ln) (r j m:Nat) (n:Ln),EM r j l=false->l[m]? = some n->¬ (n.r=r/\n.j=j)
 | [],_,_,_,_,_,h=>by simp at h
 | n0 :: l,r,j,m,n,h,hm=>by
   simp only [EM,adN] at h;cases m with
   | zero => simp only [acj,ab6] at hm;subst hm;rintro ⟨rfl,rfl⟩;simp at h
   | succ m=>exact uV l r j m n h.2 (by simpa using hm)
theorem rL:∀ (l:List Ln) (m m':Nat) (n n':Ln),noTwo l=true->l[m]? = some n->l[m']? = some n'->n.r=n'.r->n.j=n'.j->m=m'
 | [],_,_,_,_,_,h,_,_,_=>by simp at h
 | n0 :: l,m,m',n,n',h,h1,h2,e1,e2=>by
   simp only [noTwo,ab8,acP] at h;cases m with
   | zero =>
     cases m' with
     | zero=>rfl
     | succ m' => simp only [acj,ab6] at h1;subst h1;exact (uV l n0.r n0.j m' n' h.1 (by simpa using h2) ⟨e1.symm,e2.symm⟩).elim
   | succ m =>
     cases m' with
     | zero => simp only [acj,ab6] at h2;subst h2;exact (uV l n0.r n0.j m n h.1 (by simpa using h1) ⟨e1,e2⟩).elim
     | succ m'=>exact acT (· + 1) (rL l m m' n n' h.2 (by simpa using h1) (by simpa using h2) e1 e2)
theorem ez.get {g:Gh} {st:St} {F:Nat->Nat->Prop}:∀ (l:List Ln) (r:List (K×Value)) (i m:Nat) (n:Ln),ez g st w F l r i->l[m]? = some n->∀ b,F (i + m) b->g.fp n.r n.j b
 | [],_,_,_,_,_,h=>by simp at h
 | n0 :: l,p :: r,i,0,n,h,hm=>by simp only [acj,ab6] at hm;subst hm;exact h.1.sub
 | n0 :: l,p :: r,i,m + 1,n,h,hm=>by have:=ez.get l r (i + 1) m n h.2 (by simpa using hm);rw [show i + 1 + m=i + (m + 1) by omega] at this;exact this
 | _ :: _,[],_,_,_,h,_=>h.elim
theorem sM {st:St} {dst:Option Nat} {tvs:List TV}:∀ {l:List Su} {st':St},(st.mI dst l tvs).run=some st'->∃ s ns x z y tv q,s∈l/\(lQ s.rs=false/\s.fresh=true)/\noTwo ns=true/\st.bF s.ps tvs=some (ns,x)/\s.tQ x=some (z,y)/\fK (om 0 true s.rs y 0)=some tv/\st.qS ns (jy s.ps z)=some q/\st'=(st.setCells q).AB dst tv
 | [],st',h=>by simp [St.mI,Tr.run] at h
 | s :: r,st',h=>by
   have again:(st.mI dst r tvs).run=some st'->∃ s' ns x z y tv q,s'∈s :: r/\(lQ s'.rs=false/\s'.fresh=true)/\noTwo ns=true/\st.bF s'.ps tvs=some (ns,x)/\s'.tQ x=some (z,y)/\fK (om 0 true s'.rs y 0)=some tv/\st.qS ns (jy s'.ps z)=some q/\st'=(st.setCells q).AB dst tv:=fun h=>by obtain ⟨s',ns,x,z,y,tv,q,h1,h2⟩:=sM h;exact ⟨s',ns,x,z,y,tv,q,acr _ h1,h2⟩
   unfold St.mI at h;cases hq:lQ s.rs || !s.fresh with
   | true=>rw [hq] at h; exact again h
   | false =>
     rw [hq] at h;simp only [aco] at h;simp only [adN,aeo] at hq;split at h
     . rename_i ns x hx;split at h
       . rename_i f hf;cases hn:noTwo ns with
         | false=>rw [hn] at h; simp [Tr.run] at h
         | true => rw [hn] at h;simp only [ab9,Tr.run,adO] at h;obtain ⟨⟨z,y⟩,h0,h⟩:=h;obtain ⟨tv,h1,h⟩:=Tr.af h;obtain ⟨q,h2,h⟩:=Tr.af h;simp only [Tr.run,ab6] at h;exact ⟨s,ns,x,z,y,tv,q,acu ..,hq,hn,hx,by simp [Su.tQ,hf,h0],h1,h2,h.symm⟩
       . simp [Tr.run] at h
     . exact again h
theorem Ip (hga:de P E) {g:Gh} {st:St} (h:Rel cx Z g st a w) (hn:bm st) (hsz:Fit cx E a) {o:Oper} {dst:Option Nat} (hdn:∀ d,dst=some d->iX cx a d) (hd:o.dst=dst) {c:Call} {f:Operand} {gid:Nat} {caps:List (Bool×List AV)} {l:List TV}
 (ho:o.op= .call c) (hcal:c.callee= .value f) (hg:st.get f=some (.fn gid caps)) (hl:st.getAll c.args.toList=some l) {st':St}
 (hrun:(st.mI dst (E.ga gid) (l ++ caps.map fun p=>bif p.1 then .agg p.2 else (match p.2 with | [a]=> .v a | _=> .agg p.2))).run=some st'):qv P cx E st' a w o:=by
 have hc:=hn.cons.cons;obtain ⟨s,ns,x,z,y,tv,q,hs,⟨hsl,hfr⟩,hnt,hx,hy,hw,hq,rfl⟩:=sM hrun;obtain ⟨cv,ef,ec⟩:=aK h hc hg;have hrel:=fz.app (jS h hc _ _ hl) (kX _ _ ec);have hvs:c.args.toList.map a.eval ++ cv.toList=(c.args.map a.eval ++ cv).toList:=by simp
 rw [hvs] at hrel;obtain ⟨F,k1,k2,k3⟩:=lx h (Z':=Zb Z g st) (fun _ h _=> .inl h) (fun r R hR hb=> .inr ⟨r,R,hR,hb,rfl⟩) s.ps _ _ 0 ns x hrel hx;have hin:∀ i b,F i b->∃ n,ns[i]? = some n/\g.fp n.r n.j b:=fun i b hb=>by
  have hlt:i < ns.length:=by have:=(k3 i b hb).2; omega
  have:=ez.get ns _ 0 i _ k2 (acm hlt) b (by rw [acz]; exact hb);exact ⟨_,acm hlt,this⟩
 have hdis:∀ i j b,F i b->F j b->i=j:=fun i j b h1 h2=>by obtain ⟨n1,q1,q2⟩:=hin i b h1;obtain ⟨n2,q3,q4⟩:=hin j b h2;obtain ⟨e1,e2⟩:=h.disj _ _ _ _ b q2 q4;exact rL ns i j n1 n2 hnt q1 q3 e1 e2
 have hsu:=hga gid s hs w (Zb Z g st) F _ x (z,y) (h.gl.mono (acb _) fun b hb _=>⟨.inl hb,rfl⟩) k1 (Qk h) (fun i b hb=>by obtain ⟨n,_,q2⟩:=hin i b hb; exact ⟨(h.fp _ _ _ q2).1,PC h q2⟩) hdis hy;have htv:¬ tv.gL:=ma hw;have hnm:bm ((st.setCells q).AB dst tv):=fun t tv' ht=>by
  cases dst with
  | none => have e:(st.setCells q).tm=st.tm:=(fE (g:=g) (F:=F) (G:=F) q 0).tm;exact hn t tv' (by rw [<- e]; exact ht)
  | some d =>
    have e:(st.setCells q).tm=st.tm:=(fE (g:=g) (F:=F) (G:=F) q 0).tm;simp only [St.AB] at ht;rw [a8] at ht;split at ht
    . simp only [ab6] at ht; subst ht; exact htv
    . exact hn t tv' (by rw [<- e]; exact ht)
 refine ⟨hnm,fun next Q hk => ?_⟩;unfold Oper.wp;rw [wv ho hcal ef];refine Ae hsu ?_;rintro v w' ⟨Z',H,vs,rfl,ha,hio,hr⟩;have hlen:(c.args.map a.eval ++ cv).toList.length=s.ps.length:=gf _ _ _ _ k1;have hpost:=mT s.ps z _ 0 (jQ s.ps _ _ hx) hlen hio;have hgsub:∀ i b,H (2 * i) b->(∃ m,F m b)∨w.heap.size<=b:=fun i b hb=>(ha.fp _ b hb).2.2
 have hsame:∀ (m:Nat) (n:Ln),ns[m]? = some n->∀ b i,F i b->g.fp n.r n.j b->i=m:=fun m n hm b i hi hb=>by obtain ⟨n1,q1,q2⟩:=hin i b hi;obtain ⟨e1,e2⟩:=h.disj _ _ _ _ b q2 hb;exact rL ns i m n1 n hnt q1 hm e1 e2
 rw [hfr] at hr;obtain ⟨hQ,hnames⟩:=yo (w:=w) (w':=w') (F:=F) (G:=fun i=>H (2 * i)) ns _ _ 0 q hq k2 hpost fun m n hm=>by
  rw [acz];refine ⟨fun b hb hfb => ?_,fun b hlt hfb hnF=>ha.block b hlt fun i hi => ?_⟩
  . rcases hgsub m b hb with ⟨i,hi⟩ | hnew
    . have:=hsame m n hm b i hi hfb;rw [<- this]; exact hi
    . have:=(h.fp _ _ _ hfb).1;omega
  . have:=hsame m n hm b i hi hfb;exact hnF (this ▸ hi)
 have hname:∀ (m r j:Nat) (c':RC),q[m]? = some (r,j,c')->∃ n:Ln,ns[m]? = some n/\n.r=r/\n.j=j:=fun m r j c' hm=>by
  have h1:(q.map (fun q=>(q.1,q.2.1)))[m]? = some (r,j):=by rw [ac5,hm]; rfl
  rw [hnames,ac5] at h1;cases hm2:ns[m]? with
  | none=>rw [hm2] at h1; simp at h1
  | some n => rw [hm2] at h1;simp only [acG,ab6,acI] at h1;exact ⟨n,rfl,h1.1,h1.2⟩
 have hnameB:∀ (m:Nat) (n:Ln),ns[m]? = some n->∃ p,jC g F (fun i=>H (2 * i)) q 0 n.r n.j=some p:=fun m n hm=>by
  have h1:(ns.map fun n=>(n.r,n.j))[m]? = some (n.r,n.j):=by rw [ac5,hm]; rfl
  rw [<- hnames,ac5] at h1;cases hm2:q[m]? with
  | none=>rw [hm2] at h1; simp at h1
  | some c' => obtain ⟨r1,j1,c1⟩:=c';rw [hm2] at h1;simp only [acG,ab6,acI] at h1;obtain ⟨rfl,rfl⟩:=h1;exact rR q 0 m _ _ c1 hm2
 have hlent:=fE (g:=g) (F:=F) (G:=fun i=>H (2 * i)) (st:=st) q 0
 obtain ⟨hR,hM⟩:=h.qq hlent ha.os ha.tape ha.output ha.size
  (fun r j p hp=>by obtain ⟨m,e1,e2⟩:=dx q 0 r j p hp;obtain ⟨⟨c0,e,ks,xs,xs',f1,f2,f3,f4,f5,f6,f7⟩,_⟩:=Hg.get q 0 m r j p.1 hQ e1;exact ⟨c0,f1,f2,f3,e,ks,xs,xs',f4,f5,f6,by rw [e2]; exact f7⟩)
  (fun r j p hp b hb=>by
    obtain ⟨m,e1,e2⟩:=dx q 0 r j p hp;rw [e2] at hb;rcases hb with ⟨hb,_⟩ | hb
    . obtain ⟨t1,t2,t3,_⟩:=h.fp r j b hb;exact ⟨acA t1 ha.size,.inl ⟨r,j,p,hp,hb⟩,t3⟩
    . obtain ⟨t1,t2,t3⟩:=ha.fp _ b hb;refine ⟨t1,?_,fun hz=>t2 (ha.z b (.inl hz))⟩;rcases t3 with ⟨i,hi⟩ | hnew
      . obtain ⟨n,q1,q2⟩:=hin i b hi;obtain ⟨p0,hp0⟩:=hnameB i n q1;exact .inl ⟨n.r,n.j,p0,hp0,q2⟩
      . exact .inr hnew)
  (fun r j p r' j' p' b hp hp' hb hb'=>by
    obtain ⟨m,e1,e2⟩:=dx q 0 r j p hp;obtain ⟨m',e1',e2'⟩:=dx q 0 r' j' p' hp';rw [e2] at hb;rw [e2'] at hb';rw [acz] at hb hb';have cross:∀ m r j c1 i,q[m]? = some (r,j,c1)->g.fp r j b->¬ F m b->H (2 * i) b->False:=fun m r j c1 i e1 k1 k2 k3=>by
     obtain ⟨n,t1,t2,t3⟩:=hname m r j c1 e1;rcases hgsub i b k3 with ⟨i',hi'⟩ | hnew
     . have:=hsame m n t1 b i' hi' (by rw [t2,t3]; exact k1);exact k2 (this ▸ hi')
     . have:=(h.fp _ _ _ k1).1; omega
    rcases hb with ⟨hb,hb2⟩ | hb
    . rcases hb' with ⟨hb',_⟩ | hb'
      . exact h.disj _ _ _ _ b hb hb'
      . exact (cross m r j _ m' e1 hb hb2 hb').elim
    . rcases hb' with ⟨hb',hb2'⟩ | hb'
      . exact (cross m' r' j' _ m e1' hb' hb2' hb).elim
      . have:=ha.disj _ _ b hb hb';have hmm:m=m':=by omega
        subst hmm;rw [e1] at e1';simp only [ab6,acI] at e1';exact ⟨e1'.1,e1'.2.1⟩)
  (fun b hlt hnl=>ha.block b hlt fun i hi=>by obtain ⟨n,q1,q2⟩:=hin i b hi;obtain ⟨p0,hp0⟩:=hnameB i n q1;exact hnl _ _ p0 hp0 q2)
 rw [hd];cases dst with
 | none=>exact hk _ _ _ _ hR hsz
 | some d=>exact hk _ _ _ _ (hR.gj (hdn d rfl) (gn (kx _ _ _ _ hr (fun hh=>by simp at hh) (fun _=>hsl)) hw)) (hsz.put _ _)
end
end Go.Av
namespace Go.Av
open Go.RowKit (Below)
section
variable {P:Program} {cx:Cx P} {Z:Nat->Prop} {a:Act} {w:World} {E:En}
theorem mY {Z':Nat->Prop} (hz0:∀ b,Z b->b < w.heap.size->Z' b):∀ (ps:List PK) (l:List TV) (vs:List Value) (st:St) (g:Gh) (st':St) (x:PT ps) (i:Nat),Rel cx Z g st a w->(∀ r R,look st.rt r=some R->R.box=true->Z' (g.be r))->fz Z g st w l vs->st.fc ps l=some (st',x) ->
 ∃ g' F n,Rel cx Z g' st' a w/\jR cx Z w g g' st st' F i n/\dp Z' w F ps x vs i/\st'.tm=st.tm
 | [],[],vs,st,g,st',x,i,h,hb0,hr,ht=>by
   simp only [St.fc,ab6,acI] at ht;obtain ⟨rfl,_⟩:=ht;cases vs with
   | nil=>exact ⟨g,_,0,h,jR.refl i,trivial,rfl⟩
   | cons _ _=>exact hr.elim
 | .c gg ks :: ps,tv :: r,[],st,g,st',x,i,h,hb0,hr,ht=>hr.elim
 | .c gg ks :: ps,tv :: r,v :: vs,st,g,st',x,i,h,hb0,hr,ht=>by
   unfold St.fc at ht;cases hl:tv.cQ with
   | none=>rw [hl] at ht; simp at ht
   | some p =>
     obtain ⟨gg',l⟩:=p;rw [hl] at ht;simp only at ht;cases hb:bM gg gg' && l.all AV.bC with
     | false=>rw [hb] at ht; simp at ht
     | true =>
       rw [hb] at ht;simp only [ab9] at ht;simp only [ab8] at hb;have hg:=dU hb.1;subst hg;split at ht
       . rename_i z q hz hq;cases ht;obtain ⟨us,e1,e2⟩:=gV (lH hr.1 hl);obtain ⟨g',F,n,k1,k2,k3,k4⟩:=mY hz0 ps r vs st g q.1 q.2 i h hb0 hr.2 hq;refine ⟨g',F,n,k1,k2,⟨⟨us,e1,sZ.bN hz0 ks z us (dw h ks l us z e2 hb.2 hz)⟩,k3⟩,k4⟩
       . simp at ht
 | .fn f cs :: ps,tv :: r,[],st,g,st',x,i,h,hb0,hr,ht=>hr.elim
 | .fn f cs :: ps,tv :: r,v :: vs,st,g,st',x,i,h,hb0,hr,ht=>by
   cases tv with
   | fn f' caps =>
     unfold St.fc at ht;cases hb:Nat.beq f f' with
     | false=>rw [hb] at ht; simp at ht
     | true =>
       rw [hb] at ht;simp only [ab9] at ht;have hf:=beq_eq hb;subst hf;split at ht
       . rename_i z q hz hq;cases ht;obtain ⟨us,e1,e2⟩:=hr.1;obtain ⟨g',F,n,k1,k2,k3,k4⟩:=mY hz0 ps r vs st g q.1 q.2 i h hb0 hr.2 hq;exact ⟨g',F,n,k1,k2,⟨⟨us,e1,nk h hz0 (fun _=>hb0) cs caps us.toList z e2 hz⟩,k3⟩,k4⟩
       . simp at ht
   | _=>simp [St.fc] at ht
 | .mv k :: ps,tv :: r,[],st,g,st',x,i,h,hb0,hr,ht=>hr.elim
 | .mv k :: ps,tv :: r,v :: vs,st,g,st',x,i,h,hb0,hr,ht=>by
   cases tv with
   | v av =>
     unfold St.fc at ht;split at ht
     . rename_i st1 y hy;split at ht
       . rename_i q hq;cases ht;obtain ⟨g1,F1,k1,k2,k3,k4,k5,k6,k7⟩:=eP h hr.1 hy;have t1:jR cx Z w g g1 st st1 (fun n b=>n=i/\F1 b) i 1 :=
          ⟨fun p v=>p9.bP k2.bP p v,fun x v=>ba.bP k2.bP x v,k5,fun n=>⟨fun b hb=>k4.lt b hb.2,fun b hb=>k4.own b hb.2,fun b hb=>k4.z b hb.2,fun b hb=>k4.fp b hb.2,fun b hb=>k4.box b hb.2⟩,fun n b hb=>k6 b hb.2,fun n m b h1 h2=>h1.1.trans h2.1.symm,fun i b hb=>⟨by omega,by omega⟩,k2.be,k2.box⟩
         have hr2:∀ (l:List TV) (vs:List Value),fz Z g st w l vs->fz Z g1 st1 w l vs:=by
          intro l;induction l with
          | nil=>intro vs h; cases vs with | nil=>trivial | cons _ _=>exact h.elim
          | cons p r ih=>intro vs h; cases vs with | nil=>exact h.elim | cons v vs=>exact ⟨bl.bP k2.bP _ _ h.1,ih vs h.2⟩
         obtain ⟨g',F,n,m1,m2,m3,m4⟩:=mY hz0 ps r vs st1 g1 q.1 q.2 (i + 1) k1 (fun r R hR hbx=>by obtain ⟨R0,e1,e2⟩:=k2.box r R hR; rw [k2.be]; exact hb0 r R0 e1 (by rw [<- e2]; exact hbx)) (hr2 _ _ hr.2) hq;exact ⟨g',fun n b=>(n=i/\F1 b)∨F n b,1 + n,m1,t1.trans m2,⟨cK.frame _ _ _ _ _ (fun b hb=> .inl ⟨rfl,hb⟩) (fun _ _ _=>rfl) k3,dp.mono (fun i b hb=> .inr hb) _ _ _ _ m3⟩,m4.trans k2.tm⟩
       . simp at ht
     . simp at ht
   | _=>simp [St.fc] at ht
 | .pt _ :: _,_ :: _,_,st,g,st',x,i,h,hb0,hr,ht=>by simp [St.fc] at ht
 | .nil :: _,_ :: _,_,st,g,st',x,i,h,hb0,hr,ht=>by simp [St.fc] at ht
 | .nil :: _,[],_,st,g,st',x,i,h,hb0,hr,ht=>by simp [St.fc] at ht
 | .pt _ :: _,[],_,st,g,st',x,i,h,hb0,hr,ht=>by simp [St.fc] at ht
 | .io _ _ :: _,_ :: _,_,st,g,st',x,i,h,hb0,hr,ht=>by simp [St.fc] at ht
 | [],_ :: _,_,st,g,st',x,i,h,hb0,hr,ht=>by simp [St.fc] at ht
 | .c _ _ :: _,[],_,st,g,st',x,i,h,hb0,hr,ht=>by simp [St.fc] at ht
 | .fn _ _ :: _,[],_,st,g,st',x,i,h,hb0,hr,ht=>by simp [St.fc] at ht
 | .io _ _ :: _,[],_,st,g,st',x,i,h,hb0,hr,ht=>by simp [St.fc] at ht
 | .mv _ :: _,[],_,st,g,st',x,i,h,hb0,hr,ht=>by simp [St.fc] at ht
theorem vU {st:St} {dst:Nat} {tvs:List TV}:∀ {l:List Su} {st':St},(st.tP dst l tvs).run=some st'->∃ s st1 x z y p,s∈l/\s.fresh=true/\st.fc s.ps tvs=some (st1,x)/\s.tQ x=some (z,y)/\fh dst s y=some p/\st1.free dst=true/\st'=st1.az dst p
 | [],st',h=>by simp [St.tP,Tr.run] at h
 | s :: r,st',h=>by
   have again:(st.tP dst r tvs).run=some st'->∃ s' st1 x z y p,s'∈s :: r/\s'.fresh=true/\st.fc s'.ps tvs=some (st1,x)/\s'.tQ x=some (z,y)/\fh dst s' y=some p/\st1.free dst=true/\st'=st1.az dst p:=fun h=>by obtain ⟨s',st1,x,z,y,p,h1,h2⟩:=vU h;exact ⟨s',st1,x,z,y,p,acr _ h1,h2⟩
   have fin:∀ (st1:St) (p:TV×Option Rt),(bif st1.free dst then Tr.ret (st1.az dst p) else .fail).run=some st'->st1.free dst=true/\st'=st1.az dst p:=fun st1 p hh=>by
    cases hf:st1.free dst with
    | false=>rw [hf] at hh; simp [Tr.run] at hh
    | true=>rw [hf] at hh; simp only [ab9,Tr.run,ab6] at hh; exact ⟨rfl,hh.symm⟩
   unfold St.tP at h;cases hq:fS s.ps || !s.fresh with
   | true=>rw [hq] at h; exact again h
   | false =>
     rw [hq] at h;simp only [aco] at h;simp only [adN,aeo] at hq;split at h
     . rename_i st1 x hx;split at h
       . rename_i f hf;simp only [Tr.run,adO] at h;obtain ⟨⟨z,y⟩,h0,h⟩:=h;obtain ⟨p,h1,h2⟩:=Tr.af h;obtain ⟨h3,h4⟩:=fin st1 p h2;exact ⟨s,st1,x,z,y,p,acu ..,hq.2,hx,by simp [Su.tQ,hf,h0],h1,h3,h4⟩
       . rename_i gg hg;obtain ⟨p,h1,h2⟩:=Tr.af h;obtain ⟨h3,h4⟩:=fin st1 p h2;exact ⟨s,st1,x,MQ s.ps,gg x,p,acu ..,hq.2,hx,by simp [Su.tQ,hg],h1,h3,h4⟩
     . exact again h
theorem Re (hga:de P E) {g:Gh} {st:St} (h:Rel cx Z g st a w) (hn:bm st) (hsz:Fit cx E a) {o:Oper} {d:Nat} (hd:o.dst=some d) (hdn:iX cx a d) {c:Call} {f:Operand} {gid:Nat} {caps:List (Bool×List AV)} {l:List TV}
 (ho:o.op= .call c) (hcal:c.callee= .value f) (hg:st.get f=some (.fn gid caps)) (hl:st.getAll c.args.toList=some l) {st':St}
 (hrun:(st.tP d (E.ga gid) (l ++ caps.map fun p=>bif p.1 then .agg p.2 else (match p.2 with | [a]=> .v a | _=> .agg p.2))).run=some st'):qv P cx E st' a w o:=by
 have hc:=hn.cons.cons;obtain ⟨s,st1,x,z,y,p,hs,hfr,hx,hy,hp,hfree,rfl⟩:=vU hrun;obtain ⟨cv,ef,ec⟩:=aK h hc hg;have hrel:=fz.app (jS h hc _ _ hl) (kX _ _ ec);have hvs:c.args.toList.map a.eval ++ cv.toList=(c.args.map a.eval ++ cv).toList:=by simp
 rw [hvs] at hrel;obtain ⟨g1,F,n,k1,k2,k3,k4⟩:=mY (Z':=Zb Z g st) (fun _ h _=> .inl h) s.ps _ _ st g st1 x 0 h (fun r R hR hb=> .inr ⟨r,R,hR,hb,rfl⟩) hrel hx;have hsu:=hga gid s hs w (Zb Z g st) F _ x (z,y) (h.gl.mono (acb _) fun b hb _=>⟨.inl hb,rfl⟩) k3 (Qk h) (fun i b hb=>⟨(k2.free i).lt b hb,by obtain ⟨r,j,hh⟩:=k2.sub i b hb; exact PC h hh⟩) (fun i j b=>k2.disj i j b) hy;have hp':¬ p.1.gL:=by
  unfold fh at hp;split at hp
  . rename_i tv hw;simp only [ab6] at hp;subst hp;exact ma hw
  . simp at hp
 refine ⟨fun t tv ht => ?_,fun next Q hk => ?_⟩
 . rw [a8] at ht;split at ht
   . simp only [ab6] at ht; subst ht; exact hp'
   . exact hn t tv (by rw [<- k4]; exact ht)
 unfold Oper.wp;rw [wv ho hcal ef];refine Ae hsu ?_;rintro v w' ⟨Z',H,vs,rfl,ha,_,hr⟩;rw [hd];have hFree:fQ cx Z g1 st1 w (fun b=>∃ i,F i b):=⟨fun b ⟨i,hb⟩=>(k2.free i).lt b hb,fun b ⟨i,hb⟩=>(k2.free i).own b hb,fun b ⟨i,hb⟩=>(k2.free i).z b hb,fun b ⟨i,hb⟩=>(k2.free i).fp b hb,fun b ⟨i,hb⟩=>(k2.free i).box b hb⟩;have hw':Rel cx Z g1 st1 a w':=k1.wr hFree ha.os ha.tape ha.output ha.size fun b hb hf=>ha.block b hb fun i hi=>hf ⟨i,hi⟩
 unfold fh at hp;split at hp
 . rename_i tv hw;simp only [ab6] at hp;rw [hfr,aem] at hp;rw [hfr] at hr hw;cases hb:lQ s.rs with
   | false => rw [hb] at hp;subst hp;exact hk _ _ _ _ (hw'.gj hdn (gn (kx _ _ _ _ hr (fun hh=>by simp at hh) (fun _=>hb)) hw)) (hsz.put _ _)
   | true =>
     rw [hb] at hp;subst hp;have hHb:∀ n b,H n b->b < w'.heap.size/\(cx.F0 b∨cx.w0.heap.size<=b)/\¬ Z b/\(∀ r j,¬ g1.fp r j b)/\(∀ r' R',look st1.rt r'=some R'->R'.box=true->g1.be r'≠b):=fun n b hb=>by
      obtain ⟨h1,h2,h3⟩:=ha.fp n b hb;have hz:¬ Z b:=fun hz=>h2 (ha.z b (.inl hz))
      rcases h3 with hf | hnew
      . exact ⟨h1,hFree.own b hf,hz,hFree.fp b hf,hFree.box b hf⟩
      . refine ⟨h1,.inr (acv k1.size hnew),hz,fun r j hh=>by have:=(k1.fp r j b hh).1; omega,fun r' R' hR' hb' he => ?_⟩;obtain ⟨_,_,_,_,cs1,el1,fr1,b5,_⟩:=k1.box r' R' hR' hb';rw [he,acw hnew] at b5;simp at b5
     have h6:=Rel.qE hw' (r:=d) (be:=0) (R:=⟨false,cI s.rs y⟩) (cv:=fun j=>(tk s.rs vs).getD j undef) (fp:=fun j b=>j < (cI s.rs y).length/\H (2 * j + 1) b) (kt hfree)
      (fun j b hb=>by obtain ⟨t1,t2,t3,t4,t5⟩:=hHb _ b hb.2;obtain ⟨e,ks',x',v',g1',g2',g3'⟩:=mg _ _ _ _ hr j _ (acm hb.1);exact ⟨t1,t2,t3,t4,t5,_,_,x',acm hb.1,by rw [g1']⟩)
      (fun j j' b h1 h2=>by have:=ha.disj _ _ b h1.2 h2.2; omega) (fun hb=>by simp at hb)
      (fun j c hj=>by
        obtain ⟨e,ks',x',v',g1',g2',g3'⟩:=mg _ _ _ _ hr j c hj;subst g1';have hjl:j < (cI s.rs y).length:=by
         rcases acn j (cI s.rs y).length with hh | hh
         . exact hh
         . simp [acq hh] at hj
        show cK w' (.sl e ks') x' _ _;simp only [List.getD,g2',adW];rw [acz] at g3';exact cK.frame _ _ _ _ _ (fun b hb=>⟨hjl,hb⟩) (fun _ _ _=>rfl) g3')
     refine hk _ _ _ _ (h6.gj hdn (tv:=tv) (gn (xi _ _ _ _ hr (fun i c hi => ?_) fun i v hi => ?_) hw)) (hsz.put _ _)
     . show (match look ((d,(⟨false,cI s.rs y⟩:Rt)) :: st1.rt) d with | some R=>R.cells[0 + i]? | none=>none)=_;rw [aW,if_pos rfl,acz];exact hi
     . simp [Gh.at,List.getD,hi]
 . simp at hp
theorem Al (hT:bG P E) (hga:de P E):rJ P E:=by
 intro cx Z g st a w o st' h hn hsz hdo hrun;have hdn:∀ d,o.dst=some d->iX cx a d:=fun d hd=>by rw [hd] at hdo;exact hsz.dst hdo
 have key:qv P cx E st' a w o:=by
  generalize hop:o.op=op at hrun;generalize hdst:o.dst=dst at hrun;unfold PU at hrun;split at hrun
  . obtain ⟨ti,h1,hrun⟩:=Tr.af hrun;obtain ⟨ta,h2,hrun⟩:=Tr.af hrun;obtain ⟨av,h3,hrun⟩:=Tr.af hrun;obtain ⟨tx,h4,hrun⟩:=Tr.af hrun;obtain ⟨p,h5,hrun⟩:=Tr.af hrun;cases hb:p.2.all st.live && Nat.beq p.2.length ti.ks.length with
    | false=>rw [hb] at hrun; simp [Tr.run] at hrun
    | true => rw [hb] at hrun;simp only [ab9] at hrun;simp only [ab8] at hb;obtain ⟨hself,hrun⟩:=Tr.bj hrun;obtain ⟨s1,h6,hrun⟩:=Tr.af hrun;simp only [Tr.run,ab6] at hrun;subst hrun;exact N5 hT h hn hsz hdst hop h1 h2 h3 h4 h5 hb.1 (beq_eq hb.2) hself h6
  . obtain ⟨tv,h1,hrun⟩:=Tr.af hrun;simp only [Tr.run,ab6] at hrun;subst hrun;exact je h hn hsz hdst (hdn _ hdst) (.inr hop) h1
  . obtain ⟨tv,h1,hrun⟩:=Tr.af hrun;simp only [Tr.run,ab6] at hrun;subst hrun;exact je h hn hsz hdst (hdn _ hdst) (.inl hop) h1
  . rename_i t x d;obtain ⟨ti,h1,hrun⟩:=Tr.af hrun;obtain ⟨tv,h2,hrun⟩:=Tr.af hrun;obtain ⟨p,h3,hrun⟩:=Tr.af hrun;cases hb:st.free d && p.2.all st.live && Nat.beq p.2.length ti.ks.length with
    | false=>rw [hb] at hrun; simp [Tr.run] at hrun
    | true => rw [hb] at hrun;simp only [ab9] at hrun;simp only [ab8] at hb;obtain ⟨s1,h6,hrun⟩:=Tr.af hrun;simp only [Tr.run,ab6] at hrun;subst hrun;exact TX h hn hsz hdst (hdn _ hdst) hop h2 h3 hb.1.1 hb.1.2 (beq_eq hb.2) h6
  . rename_i c;split at hrun
    . rename_i x y hcal hargs;split at hrun
      . rename_i d t t2 ts hts;obtain ⟨ti,h1,hrun⟩:=Tr.af hrun;obtain ⟨te,h2,hrun⟩:=Tr.af hrun;obtain ⟨tx,h3,hrun⟩:=Tr.af hrun;obtain ⟨ty,h4,hrun⟩:=Tr.af hrun;cases hb:E.str t2 || (E.sl t2).isSome with
        | false =>
          rw [hb] at hrun;simp only [aco] at hrun;cases hb2:E.i64 t2 && ea tx with
          | false=>rw [hb2] at hrun; simp [Tr.run] at hrun
          | true => rw [hb2] at hrun;simp only [ab9] at hrun;simp only [ab8] at hb2;obtain ⟨p,h5,hrun⟩:=Tr.af hrun;exact Ht hT h hn hsz hdst (hdn _ hdst) hop hcal hargs hts h1 h2 h3 h4 hb2.1 hb2.2 h5 hrun
        | true =>
          rw [hb] at hrun;simp only [ab9] at hrun;refine BN hT h hn hsz hdst (hdn _ hdst) hop hcal hargs hts h1 h2 h3 h4 ?_ hrun;simp only [adf] at hb;rcases hb with hb | hb
          . exact .inl hb
          . cases he:E.sl t2 with
            | none=>rw [he] at hb; simp at hb
            | some te2=>exact .inr ⟨te2,rfl⟩
      . simp [Tr.run] at hrun
    . rename_i f hcal;obtain ⟨tf,h1,hrun⟩:=Tr.af hrun;split at hrun
      . rename_i gid caps;obtain ⟨l,h2,hrun⟩:=Tr.af hrun;cases hio:Ko (E.ga gid) with
        | true => rw [hio] at hrun;exact Ip hga h hn hsz (fun d hd=>hdn d (hdst.trans hd)) hdst hop hcal h1 h2 hrun
        | false =>
          rw [hio] at hrun;simp only [aco] at hrun;split at hrun
          . exact Re hga h hn hsz hdst (hdn _ hdst) hop hcal h1 h2 hrun
          . simp [Tr.run] at hrun
      . simp [Tr.run] at hrun
    . simp [Tr.run] at hrun
  . simp [Tr.run] at hrun
 exact key
end
end Go.Av
namespace Go.Av
def Dy:Value->K->Bool
 | .int k n,.int k'=>k == k' && n == 0
 | .bool b,.bool=> !b
 | .string s,.str=>Nat.beq s.size 0
 | .slice none 0 0,.sl _ _=>true
 | _,_=>false
def kL:List Value->List K->Bool
 | [],[]=>true
 | v :: vs,k :: ks=>Dy v k && kL vs ks
 | _,_=>false
theorem GC {v:Value} {k:K} (h:Dy v k=true):v=zV k:=by
 unfold Dy at h;split at h
 . simp only [ab8,beq_iff_eq] at h;rw [h.1,h.2]; rfl
 . rename_i b;cases b with
   | false=>rfl
   | true=>simp at h
 . rename_i s;have hs:s.size=0:=beq_eq h;show Value.string s= .string (dV []);congr 1;apply aeS;apply Array.ext';have:s.data.toList=[]:=by
    apply acp.1;rw [acX];exact hs
   rw [this];rfl
 . rfl
 . simp at h
theorem tG:∀ {vs:List Value} {ks:List K},kL vs ks=true->vs=ks.map zV
 | [],[],_=>rfl
 | v :: vs,k :: ks,h=>by simp only [kL,ab8] at h;rw [GC h.1,tG h.2];rfl
 | [],_ :: _,h=>by simp [kL] at h
 | _ :: _,[],h=>by simp [kL] at h
def sy:List (Nat×Nat)->List Field->Bool
 | [],_=>true
 | (o,t) :: r,f :: fs=>Nat.beq f.offset o && Nat.beq f.type t && sy r fs
 | _ :: _,[]=>false
theorem xx:∀ {l:List (Nat×Nat)} {fs:List Field},sy l fs=true->∀ i o t,F5 l i=some (o,t)->∃ fi,fs[i]? = some fi/\fi.offset=o/\fi.type=t
 | [],fs,h,i,o,t,hf=>by simp [F5] at hf
 | (o0,t0) :: r,f :: fs,h,0,o,t,hf=>by simp only [sy,ab8] at h;simp only [F5,ab6,acI] at hf;exact ⟨f,rfl,(beq_eq h.1.1).trans hf.1,(beq_eq h.1.2).trans hf.2⟩
 | (o0,t0) :: r,f :: fs,h,i + 1,o,t,hf=>by simp only [sy,ab8] at h;exact xx h.2 i o t hf
 | _ :: _,[],h,_,_,_,_=>by simp [sy] at h
def HK (P:Program) (f:Field):Bool:=match P.info? f.type with | some i=>Nat.blt 0 i.size | none=>false
def mK (P:Program) (ti:TI):TypeDesc->Bool
 | .struct fs=>ti.agg && sy ti.flds fs.toList && fs.toList.all (HK P)
 | .slice e=> !ti.agg && (match ti.ks with | [.sl e' _]=>Nat.beq e' e && Nat.beq ti.elem e | _=>false)
 | .int k=> !ti.agg && (match ti.ks with | [.int k']=>k' == k | _=>false)
 | .bool=> !ti.agg && (match ti.ks with | [.bool]=>true | _=>false)
 | .string=> !ti.agg && (match ti.ks with | [.str]=>true | _=>false)
 | _=>false
def SR (P:Program) (t:Nat) (ti:TI):Bool:=match P.info? t,P.underlying t with
 | some i,some d=>Nat.beq i.size ti.ks.length && Nat.beq i.bytes ti.bytes && (match i.zero with | some z=>kL z.cells.toList ti.ks | none=>false) && mK P ti d
 | _,_=>false
theorem GV {P:Program} {ti:TI} {d:TypeDesc} (h:mK P ti d=true):fU P ti d:=by
 cases d with
 | struct fs =>
   simp only [mK,ab8] at h;refine ⟨h.1.1,fun f o u hf => ?_,fun fi hfi => ?_⟩
   . obtain ⟨fi,h1,h2⟩:=xx h.1.2 f o u hf;exact ⟨fi,by rw [<- acf]; exact h1,h2⟩
   . have:=acH.1 h.2 fi hfi;unfold HK at this;cases hi:P.info? fi.type with
     | none=>rw [hi] at this; simp at this
     | some i=>rw [hi] at this; exact ⟨i,rfl,Nat.ne_of_gt (adB (acF this))⟩
 | slice e =>
   simp only [mK,ab8,acP] at h;obtain ⟨h1,h2⟩:=h;split at h2
   . rename_i e' ks hk;simp only [ab8] at h2;have e1:=beq_eq h2.1;subst e1;exact ⟨h1,ks,hk,beq_eq h2.2⟩
   . simp at h2
 | int k =>
   simp only [mK,ab8,acP] at h;obtain ⟨h1,h2⟩:=h;split at h2
   . rename_i k' hk;have:k'=k:=by simpa using h2
     subst this;exact ⟨h1,hk⟩
   . simp at h2
 | bool =>
   simp only [mK,ab8,acP] at h;obtain ⟨h1,h2⟩:=h;split at h2
   . rename_i hk; exact ⟨h1,hk⟩
   . simp at h2
 | string =>
   simp only [mK,ab8,acP] at h;obtain ⟨h1,h2⟩:=h;split at h2
   . rename_i hk; exact ⟨h1,hk⟩
   . simp at h2
 | _=>simp [mK] at h
theorem NY {P:Program} {t:Nat} {ti:TI} (h:SR P t ti=true):pR P t ti:=by
 unfold SR at h;split at h
 . rename_i i d hi hd;simp only [ab8] at h;obtain ⟨⟨⟨h1,h2⟩,h3⟩,h4⟩:=h;refine ⟨⟨i,hi,beq_eq h1,beq_eq h2,?_⟩,d,hd,GV h4⟩;split at h3
   . rename_i z hz;exact ⟨z,hz,tG h3⟩
   . simp at h3
 . simp at h
def LK (P:Program):List (Nat×TI)->Bool
 | []=>true
 | (t,ti) :: r=>SR P t ti && LK P r
theorem Ct {P:Program}:∀ {l:List (Nat×TI)},LK P l=true->∀ t ti,(t,ti)∈l->pR P t ti
 | [],_,_,_,h=>by simp at h
 | (t0,ti0) :: r,h,t,ti,hm=>by
   simp only [LK,ab8] at h;rcases aci.1 hm with hm | hm
   . cases hm; exact NY h.1
   . exact Ct h.2 t ti hm
theorem M5 {P:Program} {E:En} (h:LK P E.tt=true):bG P E:=fun t ti ht=>Ct h t ti (gI _ _ _ ht)
end Go.Av
namespace Go.Av
def kj (lo:Nat->Bool):Code->Bool
 | .seq a b=>kj lo a && kj lo b
 | .cond _ a b=>kj lo a && kj lo b
 | .block id c=> !lo id && kj lo c
 | .loop c=>kj lo c
 | _=>true
theorem bt {P:Program} {E:En} (hrg:∀ id,E.rg id=none:=by intro _; rfl):∀ (c:Code),kj (fun id=>(E.lo id).isSome) c=true->df P E c
 | .seq a b,h=>by simp only [kj,ab8] at h;exact ⟨bt hrg a h.1,bt hrg b h.2⟩
 | .cond _ a b,h=>by simp only [kj,ab8] at h;exact ⟨bt hrg a h.1,bt hrg b h.2⟩
 | .block id c,h=>by simp only [kj,ab8,acP] at h;refine ⟨fun L hL => ?_,fun _=>bt hrg c h.2⟩;rw [hL] at h;simp at h
 | .skip,_=>trivial
 | .region id _ _,_=>fun F hF=>by rw [hrg id] at hF; simp at hF
 | .loop c,h=>bt (E:=E) hrg c h
 | .rangeFunc _ _ _ _,_=>trivial
 | .exit _,_=>trivial
 | .scope _,_=>trivial
 | .label _,_=>trivial
 | .goto _,_=>trivial
 | .ret,_=>trivial
 | .refuse _,_=>trivial
def kg (rg:Nat->Bool) (lo:Nat->Bool):Code->List (Nat×Code)
 | .seq a b=>kg rg lo a ++ kg rg lo b
 | .cond _ a b=>kg rg lo a ++ kg rg lo b
 | .block id c=>bif lo id then [] else kg rg lo c
 | .region id ops dr=>bif rg id then [(id,.region id ops dr)] else []
 | .loop c=>kg rg lo c
 | _=>[]
def du (lo:Nat->Bool):Code->List (Nat×Code)
 | .seq a b=>du lo a ++ du lo b
 | .cond _ a b=>du lo a ++ du lo b
 | .block id c=>bif lo id then [(id,c)] else du lo c
 | .loop c=>du lo c
 | _=>[]
theorem fb {P:Program} {E:En}:∀ (c:Code),(∀ id b F,(id,b)∈kg (fun id=>(E.rg id).isSome) (fun id=>(E.lo id).isSome) c->E.rg id=some F->cF P E b F)->(∀ id b L,(id,b)∈du (fun id=>(E.lo id).isSome) c->E.lo id=some L->bS P E id b L)->df P E c
 | .seq a b,hr,h=>⟨fb a (fun id b F hm=>hr id b F (ad0 _ hm)) fun id b L hm=>h id b L (ad0 _ hm),fb b (fun id b F hm=>hr id b F (aec _ hm)) fun id b L hm=>h id b L (aec _ hm)⟩
 | .cond _ a b,hr,h=>⟨fb a (fun id b F hm=>hr id b F (ad0 _ hm)) fun id b L hm=>h id b L (ad0 _ hm),fb b (fun id b F hm=>hr id b F (aec _ hm)) fun id b L hm=>h id b L (aec _ hm)⟩
 | .block id c,hr,h=>by
   refine ⟨fun L hL=>h id c L ?_ hL,fun hn=>fb c (fun id' b F hm hF=>hr id' b F (by simp only [kg,hn,adi,aco]; exact hm) hF) fun id' b L hm hL=>h id' b L ?_ hL⟩
   . simp [du,hL]
   . simp only [du,hn,adi,aco];exact hm
 | .skip,_,_=>trivial
 | .region id ops dr,hr,_=>fun F hF=>hr id _ F (by simp [kg,hF]) hF
 | .loop c,hr,h=>fb (E:=E) c hr h
 | .rangeFunc _ _ _ _,_,_=>trivial
 | .exit _,_,_=>trivial
 | .scope _,_,_=>trivial
 | .label _,_,_=>trivial
 | .goto _,_,_=>trivial
 | .ret,_,_=>trivial
 | .refuse _,_,_=>trivial
end Go.Av
namespace Go.Av
section
variable {X Y:Type} (step:X->Option (Sum X Y))
theorem yG {n m:Nat} {x:X} {y:Y} (h:iter step n x=some y) (hm:n<=m):iter step m x=some y:=by
 induction n generalizing m x with
 | zero=>simp [iter] at h
 | succ n ih =>
   obtain ⟨k,rfl⟩:∃ k,m=k + 1:=⟨m - 1,by omega⟩;unfold iter at h ⊢;split at h
   . rename_i x' hx;exact ih h (by omega)
   . rename_i z hx;exact h
   . simp at h
noncomputable def ai (x:X):Option Y:=open Classical in if h:∃ n y,iter step n x=some y then some (Classical.choose (ac6 h)) else none
theorem wD {x:X} {y:Y} (h:ai step x=some y):∃ n,iter step n x=some y:=by
 unfold ai at h;split at h
 . rename_i hh;simp only [ab6] at h;subst h;exact ⟨_,ac6 (ac6 hh)⟩
 . simp at h
theorem B9 {n:Nat} {x:X} {y:Y} (h:iter step n x=some y):ai step x=some y:=by have hh:∃ n y,iter step n x=some y:=⟨n,y,h⟩;unfold ai;rw [dif_pos hh];have h1:=ac6 (ac6 hh);have e1:=yG step h (Nat.le_max_left n (Classical.choose hh));have e2:=yG step h1 (Nat.le_max_right n (Classical.choose hh));rw [e1] at e2;exact e2.symm
theorem aQ {x x':X} {y:Y} (h:step x=some (.inl x')) (h':ai step x'=some y):ai step x=some y:=by obtain ⟨n,hn⟩:=wD step h';refine B9 step (n:=n + 1) ?_;unfold iter;rw [h];exact hn
theorem aJ {x:X} {y:Y} (h:step x=some (.inr y)):ai step x=some y:=by refine B9 step (n:=1) ?_;unfold iter;rw [h]
end
abbrev Rd (A Q:Type):=Option (Sum A (Sum A Q))
abbrev wW {A B Z:Type} (r:A->B->Z) (x:A×B×Unit):Z:=r x.1 x.2.1
abbrev PO {A B Z:Type} (φ:A×B×Unit->Z) (a:A) (b:B):Z:=φ (a,b,())
abbrev ff {A B C Z:Type} (r:A->B->C->Z) (x:A×B×C×Unit):Z:=r x.1 x.2.1 x.2.2.1
abbrev rb {A B C Z:Type} (φ:A×B×C×Unit->Z) (a:A) (b:B) (c:C):Z:=φ (a,b,c,())
abbrev cf {A B C D Z:Type} (r:A->B->C->D->Z) (x:A×B×C×D×Unit):Z:=r x.1 x.2.1 x.2.2.1 x.2.2.2.1
abbrev kq {A B C D Z:Type} (φ:A×B×C×D×Unit->Z) (a:A) (b:B) (c:C) (d:D):Z:=φ (a,b,c,d,())
abbrev eS {A B C D E Z:Type} (r:A->B->C->D->E->Z) (x:A×B×C×D×E×Unit):Z:=r x.1 x.2.1 x.2.2.1 x.2.2.2.1 x.2.2.2.2.1
abbrev xI {A B C D E Z:Type} (φ:A×B×C×D×E×Unit->Z) (a:A) (b:B) (c:C) (d:D) (e:E):Z:=φ (a,b,c,d,e,())
abbrev FB {A B C D E F Z:Type} (r:A->B->C->D->E->F->Z) (x:A×B×C×D×E×F×Unit):Z:=r x.1 x.2.1 x.2.2.1 x.2.2.2.1 x.2.2.2.2.1 x.2.2.2.2.2.1
abbrev Vc {A B C D E F Z:Type} (φ:A×B×C×D×E×F×Unit->Z) (a:A) (b:B) (c:C) (d:D) (e:E) (f:F):Z:=φ (a,b,c,d,e,f,())
abbrev JA {A B C D E F G Z:Type} (r:A->B->C->D->E->F->G->Z) (x:A×B×C×D×E×F×G×Unit):Z:=r x.1 x.2.1 x.2.2.1 x.2.2.2.1 x.2.2.2.2.1 x.2.2.2.2.2.1 x.2.2.2.2.2.2.1
abbrev XX {A B C D E F G Z:Type} (φ:A×B×C×D×E×F×G×Unit->Z) (a:A) (b:B) (c:C) (d:D) (e:E) (f:F) (g:G):Z:=φ (a,b,c,d,e,f,g,())
abbrev yF {A B C D E F G H Z:Type} (r:A->B->C->D->E->F->G->H->Z) (x:A×B×C×D×E×F×G×H×Unit):Z:=r x.1 x.2.1 x.2.2.1 x.2.2.2.1 x.2.2.2.2.1 x.2.2.2.2.2.1 x.2.2.2.2.2.2.1 x.2.2.2.2.2.2.2.1
abbrev Tj {A B C D E F G H Z:Type} (φ:A×B×C×D×E×F×G×H×Unit->Z) (a:A) (b:B) (c:C) (d:D) (e:E) (f:F) (g:G) (h:H):Z:=φ (a,b,c,d,e,f,g,h,())
abbrev D9 {A B C D E F G H I Z:Type} (r:A->B->C->D->E->F->G->H->I->Z) (x:A×B×C×D×E×F×G×H×I×Unit):Z:=r x.1 x.2.1 x.2.2.1 x.2.2.2.1 x.2.2.2.2.1 x.2.2.2.2.2.1 x.2.2.2.2.2.2.1 x.2.2.2.2.2.2.2.1 x.2.2.2.2.2.2.2.2.1
abbrev T6 {A B C D E F G H I Z:Type} (φ:A×B×C×D×E×F×G×H×I×Unit->Z) (a:A) (b:B) (c:C) (d:D) (e:E) (f:F) (g:G) (h:H) (i:I):Z:=φ (a,b,c,d,e,f,g,h,i,())
abbrev BW {A B C D E F G H I J Z:Type} (r:A->B->C->D->E->F->G->H->I->J->Z) (x:A×B×C×D×E×F×G×H×I×J×Unit):Z:=r x.1 x.2.1 x.2.2.1 x.2.2.2.1 x.2.2.2.2.1 x.2.2.2.2.2.1 x.2.2.2.2.2.2.1 x.2.2.2.2.2.2.2.1 x.2.2.2.2.2.2.2.2.1 x.2.2.2.2.2.2.2.2.2.1
abbrev WY {A B C D E F G H I J Z:Type} (φ:A×B×C×D×E×F×G×H×I×J×Unit->Z) (a:A) (b:B) (c:C) (d:D) (e:E) (f:F) (g:G) (h:H) (i:I) (j:J):Z:=φ (a,b,c,d,e,f,g,h,i,j,())
end Go.Av
namespace Go.Av
open Go.RowKit (Below)
def aq (k:IntKind) (a b:Int):Int:=k.wrap (a + b)
def aI (k:IntKind) (a b:Int):Int:=k.wrap (a - b)
def jO (k:IntKind) (a b:Int):Int:=k.wrap (a * b)
def lW (k:IntKind) (a b:Int):Int:=k.wrap (a.tdiv b)
def fW (a b:Int):Int:=a.tmod b
def zB (k:IntKind) (a b:Int):Int:=k.wrap ((BitVec.ofInt k.bits a &&& BitVec.ofInt k.bits b).toNat:Int)
def A0 (k:IntKind) (a b:Int):Int:=k.wrap ((BitVec.ofInt k.bits a ^^^ BitVec.ofInt k.bits b).toNat:Int)
def ie (k:IntKind) (a b:Int):Int:=a.fdiv (2 ^ min b.toNat k.bits)
def bw (k:IntKind) (a:Int):Int:=k.wrap a
def ae {α:Type} (xs:List α):Int:=(xs.length:Int)
def aZ {α:Type} (i:Int) (xs:List α):Bool:=kV i xs.length
def dj {α:Type} (lo hi:Int) (xs:List α):Bool:=ft lo hi xs.length
def Ue (lo hi:Int):Bool:=ft lo hi 0
def gt {α:Type} (d:α) (xs:List α) (i:Int):α:=xs.getD i.toNat d
def xM {α:Type} (xs:List α) (i:Int) (x:α):List α:=List.set xs i.toNat x
def HD {α:Type} (xs:List α) (n:Int):List α:=List.take n.toNat xs
def lT {α:Type} (xs ys:List α):List α:=xs ++ ys
def dh (s t:List UInt8):List UInt8:=s ++ t
def cO {α:Type} (bytes:Nat) (xs ys:List α):Bool:=Nat.ble ((xs.length + ys.length) * bytes) aS
def bh (s t:List UInt8):Bool:=Nat.ble (s.length + t.length) aS
def jU (s t:List UInt8):Bool:=Op.bytesLess s t
def SF (s t:List UInt8):Bool:=Op.bytesLess s t || bI s t
def dq (s:List UInt8) (i:Int):Int:=By s i.toNat
def uM {α:Type} (d:α) (n:Int):List α:=List.replicate n.toNat d
def MN (bytes:Nat) (n:Int):Bool:=bz 0 n && (bz (n * bytes) aS && Nat.blt 0 bytes)
def ah (f:Func):Code:=match f.body with | some c=>c | none=> .skip
def RA:Code->Code
 | .loop b=>b
 | _=> .skip
def lk (id:Nat):Code->Option Code
 | .seq a b=>match lk id a with | some c=>some c | none=>lk id b
 | .cond _ a b=>match lk id a with | some c=>some c | none=>lk id b
 | .block i c=>bif Nat.beq i id then some (RA c) else lk id c
 | .loop b=>lk id b
 | _=>none
def aX (id:Nat) (c:Code):Code:=(lk id c).getD .skip
abbrev SS:=Su
abbrev iS (s:Su):SS:=s
def Dx:List (Nat×SS)->Nat->List Su
 | [],_=>[]
 | (g,s) :: r,f=>bif Nat.beq g f then s :: Dx r f else Dx r f
def yQ (n:Nat) (tt:List (Nat×TI)) (l:List (Nat×SS)) (ρ:List SE) (lo:Nat->Option (Lo ρ)) (pins:List Nat) (rg:Nat->Option (St->Tr St)):En:=⟨n,tt,Dx l,ρ,lo,pins,rg⟩
def ri (P:Program):List (Nat×SS)->Prop
 | []=>True
 | (g,s) :: r=>ar P g s/\ri P r
theorem xE {P:Program}:∀ (l:List (Nat×Su)) (f:Nat) (s:Su),ri P l->s∈Dx l f->ar P f s
 | [],_,_,_,h=>by simp [Dx] at h
 | (g,s0) :: r,f,s,hl,h=>by
   unfold Dx at h;cases hb:Nat.beq g f with
   | false=>rw [hb] at h; exact xE r f s hl.2 h
   | true =>
     rw [hb] at h;have:=beq_eq hb;subst this;rcases aci.1 h with h | h
     . subst h; exact hl.1
     . exact xE r g s hl.2 h
theorem cN {P:Program} {E:En} {l:List (Nat×Su)} (hl:ri P l) (h:E.ga=Dx l:=by rfl):de P E:=fun f s hs=>by rw [h] at hs;exact xE l f s hl hs
theorem kr {P:Program} {E E':En} (h:bG P E) (e:E'.tt=E.tt:=by rfl):bG P E':=fun t ti ht=>h t ti (by unfold En.ti at ht ⊢;rw [<- e]; exact ht)
def xr (P:Program) (E:En):List (Nat×Code)->Prop
 | []=>True
 | (id,b) :: r=>(∀ L,E.lo id=some L->bS P E id b L)/\xr P E r
theorem pf {P:Program} {E:En}:∀ (l:List (Nat×Code)) (id:Nat) (b:Code) (L:Lo E.ρ),xr P E l->(id,b)∈l->E.lo id=some L->bS P E id b L
 | [],_,_,_,_,h,_=>by simp at h
 | (i,c) :: r,id,b,L,hl,h,hL=>by
   rcases aci.1 h with h | h
   . cases h; exact hl.1 L hL
   . exact pf r id b L hl.2 h hL
def D7 (P:Program) (E:En):List (Nat×Code)->Prop
 | []=>True
 | (id,b) :: r=>(∀ F,E.rg id=some F->cF P E b F)/\D7 P E r
theorem xp {P:Program} {E:En}:∀ (l:List (Nat×Code)) (id:Nat) (b:Code) (F:St->Tr St),D7 P E l->(id,b)∈l->E.rg id=some F->cF P E b F
 | [],_,_,_,_,h,_=>by simp at h
 | (i,c) :: r,id,b,F,hl,h,hF=>by
   rcases aci.1 h with h | h
   . cases h; exact hl.1 F hF
   . exact xp r id b F hl.2 h hF
theorem vh {P:Program} {E:En} {id:Nat} {b:Code} {F0:St->Tr St} (h:E.rg id=some F0) (hs:cF P E b F0):∀ F,E.rg id=some F->cF P E b F:=fun F hF=>by rw [h] at hF;cases hF;exact hs
theorem tD {P:Program} {E:En} {c:Code} (bs:List (Nat×Code)) (h:du (fun id=>(E.lo id).isSome) c=bs) (hs:xr P E bs) (hrg:∀ id,E.rg id=none:=by intro _; rfl):df P E c :=
 fb c (fun id b F hm hF=>by rw [hrg id] at hF; simp at hF) fun id b L hm hL=>pf bs id b L hs (h ▸ hm) hL
theorem aT {P:Program} {E:En} {c:Code} (bs:List (Nat×Code)) (h:du (fun id=>(E.lo id).isSome) c=bs) (hs:xr P E bs) (rs:List (Nat×Code)) (hr:kg (fun id=>(E.rg id).isSome) (fun id=>(E.lo id).isSome) c=rs) (hrs:D7 P E rs):df P E c :=
 fb c (fun id b F hm hF=>xp rs id b F hrs (hr ▸ hm) hF) fun id b L hm hL=>pf bs id b L hs (h ▸ hm) hL
theorem lL {P:Program} {E:En} {id:Nat} {b:Code} {L0:Lo E.ρ} (h:E.lo id=some L0) (hs:bS P E id b L0):∀ L,E.lo id=some L->bS P E id b L:=fun L hL=>by rw [h] at hL;cases hL;exact hs
theorem dZ {P:Program} {E:En} (hT:bG P E) (hga:de P E) (hm:P.follows .mixedOrders=true) {id:Nat} {σ:List SE} {body:Code} {step:bE σ->Option (Sum (bE σ) (Sum (bE σ) (bE E.ρ)))}
 (ht:∀ x,(cZ E id σ body x).run=step x) (hl:df P E body):bS P E id (.loop body) ⟨σ,fun x=>ai step x⟩ :=
 C3 hT hga (Al hT hga) hm (Co E) hl fun x r h=>by obtain ⟨n,hn⟩:=wD step h;have e:(fun x=>(cZ E id σ body x).run)=step:=funext ht;exact ⟨n,by rw [e]; exact hn⟩
theorem nC {P : Program} {E : En} (hT : bG P E) (hga : de P E) (hm : P.follows .mixedOrders = true) {f : Nat} {fn : Func} {c : Code} (hf : P.funcs[f]? = some fn) (hname : (fn.name == "runtime.NumGoroutine") = false) (hb : fn.body = some c) (hnt : E.nt = fn.ntmps) (hl : df P E c)
 {s:Su} (hs:∀ x y,s.tQ x=some y->∃ z,(kP s.ps=true->z=y.1)/\(Fl E c fn.results.toList s.ps s.rs s.fresh x).run=some (z,y.2)):ar P f s :=
 Ll hT hga (Al hT hga) hm hf hname hb hnt hl hs
end Go.Av
namespace Go.Av
def dL:Code->Code | .seq a _=>a | c=>c
def da:Code->Code | .seq _ b=>b | c=>c
def Jp:Code->Nat | .region i _ _=>i | _=>0
def ep (c:Code) (i:Nat):Oper:=match c with | .region _ ops _=>ops.getD i default | _=>default
end Go.Av
namespace Go.Av
def pC (id:Nat):Code->Option Code
 | .seq a b=>match pC id a with | some c=>some c | none=>pC id b
 | .cond _ a b=>match pC id a with | some c=>some c | none=>pC id b
 | .block _ c=>pC id c
 | .loop b=>pC id b
 | .region i ops dr=>bif Nat.beq i id then some (.region i ops dr) else none
 | _=>none
def a7 (id:Nat) (c:Code):Code:=(pC id c).getD .skip
def uQ (o:Oper):Call:=match o.op with | .call c=>c | _=>⟨.builtin .len,#[],#[]⟩
def Yn (bytes:Nat) (n:Int):Bool:=bz 0 n && bz (n * bytes) aS
end Go.Av
namespace Go.Av
def Xf {ρ:List SE}:List (Nat×Lo ρ)->Nat->Option (Lo ρ)
 | [],_=>none
 | (k,L) :: r,i=>bif Nat.beq k i then some L else Xf r i
def HC (n:Nat) (tt:List (Nat×TI)) (l:List (Nat×SS)) (ρ:List SE) (los:List (Nat×Lo ρ)) (pins:List Nat):En:=yQ n tt l ρ (Xf los) pins fun _=>none
theorem ac {P:Program} {f:Nat} {s:Su} {l:List (Nat×SS)} (h:ar P f s) (r:ri P l):ri P ((f,iS s) :: l):=⟨h,r⟩
theorem an {P:Program}:ri P []:=trivial
def Vz (P:Program) (E:En) (C c:Code):Prop:=bG P E->de P E->P.follows .mixedOrders=true->df P E c
def Om (P:Program) (E:En) (C:Code) (ks:List Nat):Prop:=bG P E->de P E->P.follows .mixedOrders=true->xr P E (ks.map fun k=>(k,.loop (aX k C)))
theorem sn {P:Program} {E:En} {C:Code}:Om P E C []:=fun _ _ _=>trivial
theorem cX {P:Program} {n:Nat} {tt:List (Nat×TI)} {l:List (Nat×SS)} {ρ:List SE} {los:List (Nat×Lo ρ)} {pins:List Nat} {C c:Code}
 (h:du (fun id=>((HC n tt l ρ los pins).lo id).isSome) c=[]:=by kernel_rfl):Vz P (HC n tt l ρ los pins) C c:=fun _ _ _ =>
 tD [] h trivial
theorem sc {P:Program} {E:En} {C:Code} {k:Nat} {ks:List Nat} {σ:List SE} {step:bE σ->Option (Sum (bE σ) (Sum (bE σ) (bE E.ρ)))} (hl:Vz P E C (aX k C)) (r:Om P E C ks) (h:E.lo k=some ⟨σ,fun x=>ai step x⟩:=by exact rfl)
 (ht:∀ x,(cZ E k σ (aX k C) x).run=step x:=by intro x; kernel_rfl):Om P E C (k :: ks):=fun hT hga hm =>
 ⟨lL h (dZ hT hga hm ht (hl hT hga hm)),r hT hga hm⟩
theorem lp {P:Program} {n:Nat} {tt:List (Nat×TI)} {l:List (Nat×SS)} {ρ:List SE} {los:List (Nat×Lo ρ)} {pins:List Nat} {C c:Code} (ks:List Nat) (hs:Om P (HC n tt l ρ los pins) C ks)
 (h:du (fun id=>((HC n tt l ρ los pins).lo id).isSome) c=ks.map fun k=>(k,.loop (aX k C)):=by kernel_rfl):Vz P (HC n tt l ρ los pins) C c:=fun hT hga hm =>
 tD _ h (hs hT hga hm)
theorem flq {P:Program} {tt:List (Nat×TI)} {E0:En} (hT:bG P E0) (hm:P.follows .mixedOrders=true) {f:Nat} {s:Su} {n:Nat} {l:List (Nat×SS)} (hl:ri P l) {ρ:List SE} {los:List (Nat×Lo ρ)} {pins:List Nat} {fn:Func}
 (h : (P.funcs[f]?, (fn.name == "runtime.NumGoroutine"), fn.body.isSome, fn.ntmps) = (some fn, false, true, n)) (hlo : Vz P (HC n tt l ρ los pins) (ah fn) (ah fn))
 (ht:∀ x,(Fl (HC n tt l ρ los pins) (ah fn) fn.results.toList s.ps s.rs s.fresh x).run=s.tQ x) (e:tt=E0.tt:=by rfl):ar P f s:=by
 simp only [acI] at h;have hb:fn.body=some (ah fn):=by
  have h:=h.2.2.1;unfold ah;cases hb:fn.body with
  | none=>rw [hb] at h; simp at h
  | some c=>rfl
 have hT':bG P (HC n tt l ρ los pins):=kr hT e;have hga:de P (HC n tt l ρ los pins):=cN (l:=l) hl;exact nC hT' hga hm h.1 h.2.1 hb h.2.2.2.symm (hlo hT' hga hm) fun x y hy=>⟨y.1,fun _=>rfl,(ht x).trans hy⟩
end Go.Av
namespace Go.Av
open Go.RowKit (Below)
section
variable {P:Program} {E:En} {cx:Cx P}
theorem CP (hT:bG P E) {st:St} {a:Act} {w:World} (h:Good cx E st a w) {id t0 t3 t4 ty ty':Nat} {e e' by':Nat} {fl:List (Nat×Nat)} {ks:List K} {xs:T (.sl e ks)} {o1 o2:Oper}
 (d1:o1.dst=some t3) (p1:o1.op= .move (.tmp t0)) (g1:o1.guard=none) (d2:o2.dst=some t4) (p2:o2.op= .binOp .eql ty (.tmp t3) (.const (.slice none 0 0)) ty') (g2:o2.guard=none)
 (b3:E.dB t3=true) (b4:E.dB t4=true) (hti:E.ti ty=some ⟨false,[.sl e ks],e',by',fl⟩) (h0:st.tv t0=some (.v (.d (.sl e ks) xs))) :
 (Code.region id #[o1,o2] false).wp P (fun ex a' w'=>ex= .normal/\∃ b:Bool,(b=true->aE xs=[])/\Good cx E ((st.az t3 (.v (.d (.sl e ks) xs),none)).az t4 (.v (.d .bool b),none)) a' w') a w:=by
 obtain ⟨hn,hsz,Z,g,hr⟩:=h;refine wp_region ?_;show wpOps P #[o1,o2] _ [0,1] a w;rw [wpOps_cons];refine bD (i:=0) rfl g1 ?_;obtain ⟨hn1,hw1⟩:=je hr hn hsz d1 (hsz.dst b3) (.inl p1) (tv:= .v (.d (.sl e ks) xs)) h0;refine hw1 _ _ fun Z1 g1' a1 w1 hr1 hsz1 => ?_
 rw [wpOps_cons];refine bD (i:=1) rfl g2 ?_;have ht3:look (st.az t3 (.v (.d (.sl e ks) xs),none)).tm t3=some (.v (.d (.sl e ks) xs)):=by rw [a8,if_pos rfl]
 have hv:=(hr1.tm t3 _ ht3).2;obtain ⟨a0,c0,e1,e2,e3,e4,_⟩:=(show RO Z1 w1 (.sl e ks) xs (a1.tmps.getD t3 undef) from hv);obtain ⟨dd,hu,hdd⟩:=(hT ty _ hti).desc;have hu':∃ q,P.underlying ty=some (.slice q):=by cases dd <;> simp [fU] at hdd;exact ⟨_,hu⟩
 obtain ⟨q,hu'⟩:=hu';have hrun:(execOp a1.eval o2).run P w1= .ok (.value (.bool a0.isNone)) w1:=by
  have hev:a1.eval (.tmp t3)= .slice a0 (aE xs).length c0:=e1;have hg:(eqGuard .eql ty (.tmp t3) (.const (.slice none 0 0)) (.slice a0 (aE xs).length c0) (.slice none 0 0)).run P w1= .ok () w1:=by unfold eqGuard; simp
  have he:(Op.equal ty (.slice a0 (aE xs).length c0) (.slice none 0 0)).run P w1= .ok a0.isNone w1:=by show (Op.equalIn (9999 + 1) ty _ _).run P w1=_;unfold Op.equalIn;cases a0 <;> simp [acK hu']
  obtain ⟨v,e1',e2'⟩:∃ v,((do eqGuard .eql ty (.tmp t3) (.const (.slice none 0 0)) (a1.eval (.tmp t3)) (a1.eval (.const (.slice none 0 0))); binOp .eql ty (a1.eval (.tmp t3)) (a1.eval (.const (.slice none 0 0)))):Sem Value).run P w1= .ok v w1/\v= .bool a0.isNone:=by have hev2:a1.eval (.const (.slice none 0 0))= .slice none 0 0:=rfl;rw [hev,hev2];exact ⟨.bool a0.isNone,by simp [hg,binOp,he],rfl⟩
  subst e2';simp only [execOp,p2,acy,e1',ack];rfl
 have hq:=bQ (o:=o2) hr1 d2 (hsz1.dst b4) hrun (tv:= .v (.d .bool a0.isNone)) (show RO Z1 w1 .bool _ _ from rfl);refine hq _ _ fun Z2 g2' v2 w2 hr2 => ?_
 refine ⟨rfl,a0.isNone,fun hb => ?_,fun t tv ht => ?_,hsz1.put _ _,Z2,g2',hr2⟩
 . have:a0=none:=by cases a0 <;> simp_all
   have:=e4 this;exact acp.1 (by omega)
 . rw [a8] at ht;split at ht
   . simp only [ab6] at ht; subst ht; exact fun h=>h
   . exact hn1 t tv ht
theorem D6 (hT : bG P E) (hga : de P E) (hm : P.follows .mixedOrders = true) {f : Nat} {fn : Func} {c0 cc c3 : Code} {id : Nat} {o1 o2 : Oper} (hf : P.funcs[f]? = some fn) (hname : (fn.name == "runtime.NumGoroutine") = false) (hb : fn.body = some (.seq c0 (.seq (.seq (.region id #[o1, o2] false) cc) c3))) (hnt : E.nt = fn.ntmps)
 (hl0:df P E c0) (hlc:df P E cc) (hl3:df P E c3) {t0 t3 t4 ty ty' e e' by':Nat} {fl:List (Nat×Nat)} {ks:List K}
 (d1:o1.dst=some t3) (p1:o1.op= .move (.tmp t0)) (g1:o1.guard=none) (d2:o2.dst=some t4) (p2:o2.op= .binOp .eql ty (.tmp t3) (.const (.slice none 0 0)) ty') (g2:o2.guard=none)
 (b3:E.dB t3=true) (b4:E.dB t4=true) (hti:E.ti ty=some ⟨false,[.sl e ks],e',by',fl⟩)
 {s:Su} (st1:PT s.ps->St) (xs:PT s.ps->T (.sl e ks)) (h0:∀ x,(cC E c0 (start s.ps x)).run=some (.nrm (st1 x))) (h1:∀ x,(st1 x).tv t0=some (.v (.d (.sl e ks) (xs x))))
 (hs:∀ x y,s.tQ x=some y->∀ b,(b=true->aE (xs x)=[])->∃ z,(kP s.ps=true->z=y.1)/\((cC E (.seq cc c3) (((st1 x).az t3 (.v (.d (.sl e ks) (xs x)),none)).az t4 (.v (.d .bool b),none))).bind (Cz E fn.results.toList s.ps s.rs s.fresh)).run=some (z,y.2)):ar P f s:=by
 have hW:=Al hT hga;refine yA hT hf hname hb hnt fun x y hy => ?_
 refine ⟨y.1,fun _=>rfl,fun cx a w hg => ?_⟩;refine wp_seq (wp_mono (bU hT hga hW hm (Co E) c0 _ _ _ _ hl0 hg (h0 x)) fun ex a1 w1 hq => ?_);cases ex <;> first | exact hq.elim | skip
 refine wp_seq (wp_seq (wp_mono (CP hT hq d1 p1 g1 d2 p2 g2 b3 b4 hti (h1 x)) fun ex a2 w2 hq2 => ?_));obtain ⟨rfl,b,hb1,hg2⟩:=hq2;obtain ⟨z,hz,hrun⟩:=hs x y hy b hb1;rw [Tr.run_bind] at hrun;cases ho:(cC E (.seq cc c3) (((st1 x).az t3 (.v (.d (.sl e ks) (xs x)),none)).az t4 (.v (.d .bool b),none))).run with
 | none=>rw [ho] at hrun; simp at hrun
 | some ou =>
   rw [ho] at hrun;simp only [acE] at hrun;have hfin:(Cz E fn.results.toList s.ps s.rs s.fresh ou).run=some (y.1,y.2):=by
    cases hh:kP s.ps with
    | true=>rw [<- hz hh]; exact hrun
    | false=>rw [vR _ hh y.1 z]; exact hrun
   simp only [cC] at ho;rw [Tr.run_bind] at ho;cases hc:(cC E cc (((st1 x).az t3 (.v (.d (.sl e ks) (xs x)),none)).az t4 (.v (.d .bool b),none))).run with
   | none=>rw [hc] at ho; simp at ho
   | some oc =>
     rw [hc] at ho;simp only [acE] at ho;refine wp_mono (bU hT hga hW hm (Co E) cc _ _ _ _ hlc hg2 hc) fun ex a3 w3 hq3 => ?_
     cases oc with
     | nrm st' =>
       cases ex <;> first | exact hq3.elim | skip
       exact wp_mono (bU hT hga hW hm (Co E) c3 _ _ _ _ hl3 hq3 ho) fun ex a4 w4 hq4=>⟨ou,hq4,hfin⟩
     | ext id' st' => simp only [Tr.run,ab6] at ho;subst ho;cases ex <;> first | exact hq3.elim | exact ⟨_,hq3,hfin⟩
     | ret st' => simp only [Tr.run,ab6] at ho;subst ho;cases ex <;> first | exact hq3.elim | exact ⟨_,hq3,hfin⟩
end
end Go.Av
namespace Go.Av
open Go.RowKit (Below)
def Mn {α:Type} (d:α) (xs:List α) (n:Nat):List α:=xs.take n ++ List.replicate (xs.length - n) d
theorem E1 {α:Type} (d:α) (xs:List α) (n:Nat) (h:n<=xs.length):(Mn d xs n).length=xs.length:=by simp [Mn]; omega
theorem NB {α:Type} (d:α) (xs:List α) (n:Nat) (h:n<=xs.length) (i:Nat) (x:α) (hx:(Mn d xs n)[i]? = some x):(i < n/\xs[i]? = some x)∨(n<=i/\i < xs.length/\x=d):=by
 unfold Mn at hx;rw [List.getElem?_append] at hx;simp only [acL,ad9 h] at hx;split at hx
 . rename_i hi;rw [ac8] at hx;rw [if_pos hi] at hx;exact .inl ⟨hi,hx⟩
 . rename_i hi;rw [aeE] at hx;split at hx
   . rename_i h2;simp only [ab6] at hx;exact .inr ⟨by omega,by omega,hx.symm⟩
   . simp at hx
theorem gH:∀ (vs:List Value) (b o:Nat) (w:World) (i:Nat),(w.setCells b o vs).heap[i]? = if b=i then (w.heap[i]?).map (fun | .cells c el fr=> .cells (setFrom c o vs) el fr | x=>x) else w.heap[i]?
 | [],b,o,w,i=>by
   show w.heap[i]? = _;split
   . cases h:w.heap[i]? with
     | none=>rfl
     | some x=>cases x <;> rfl
   . rfl
 | v :: r,b,o,w,i=>by
   show ((w.setCell ⟨b,o,none⟩ v).setCells b (o + 1) r).heap[i]? = _;rw [gH r b (o + 1) _ i];simp only [cM];by_cases e:b=i
   . rw [if_pos e,if_pos e,if_pos e];cases h:w.heap[i]? with
     | none=>rfl
     | some x=>cases x <;> rfl
   . rw [if_neg e,if_neg e,if_neg e]
theorem sI:∀ (vs:List Value) (b o:Nat) (w:World),(w.setCells b o vs).os=w.os/\(w.setCells b o vs).tape=w.tape/\(w.setCells b o vs).output=w.output/\(w.setCells b o vs).heap.size=w.heap.size
 | [],_,_,_=>⟨rfl,rfl,rfl,rfl⟩
 | v :: r,b,o,w=>by obtain ⟨h1,h2,h3,h4⟩:=sI r b (o + 1) (w.setCell ⟨b,o,none⟩ v);exact ⟨h1,h2,h3,h4.trans (by simp [World.setCell])⟩
theorem qn {z:Array Value} {ks:List K} (hz:z.toList=ks.map zV) (n:Nat) (j:Nat) (hj:j < n * ks.length):(Builtin.zeroCells z n).toList[j]? = (ks.map zV)[j % ks.length]? := by
 have hl:z.size=ks.length:=by rw [<- acX,hz]; simp
 have hpos:0 < ks.length:=by
  rcases adX ks.length with h | h
  . rw [h] at hj; simp at hj
  . exact h
 unfold Builtin.zeroCells;rw [acf];simp only [Array.getElem?_map,hl];have:(Array.range (n * ks.length))[j]? = some j:=by simp [hj]
 rw [this];have hm:j % ks.length < ks.length:=aeL _ hpos;simp only [acG];rw [<- hz,acf];rw [Array.getElem!_eq_getD];simp [ach,hl,hm]
section
variable {P:Program} {E:En} {cx:Cx P} {w w':World}
theorem FM {e:TypeId} {ks:List K} {xs:T (.sl e ks)} {b o l cap:Nat} {F:Nat->Prop} (h:cK w (.sl e ks) xs (.slice (some ⟨b,o,none⟩) l cap) F) {n:Nat} (hn:n<=(aE xs).length) {zs:List Value} (hz:∀ j,j < ((aE xs).length - n) * ks.length->zs[j]? = (ks.map zV)[j % ks.length]?) (hzl:zs.length=((aE xs).length - n) * ks.length) (hF:∀ q,F q->q < w.heap.size) :
 F b/\(∃ cs el fr,w.heap[b]? = some (.cells cs el fr)/\(∀ q,q < cs.size->¬ (fr.1<=q/\q < fr.2))/\o + n * ks.length + zs.length<=cs.size)/\cK (w.setCells b (o + n * ks.length) zs) (.sl e ks) (Mn (dR ks) (aE xs) n) (.slice (some ⟨b,o,none⟩) l cap) F:=by
 obtain ⟨a',c0,h1,h2,h3,h4,h5⟩:=h;simp only [ac4] at h1;obtain ⟨rfl,rfl,rfl⟩:=h1;obtain ⟨b',o',cs,el,fr,g1,g2,g3,g4,g5,G,g6,g7,g8⟩:=h5 _ rfl;simp only [adq,adn] at g1;obtain ⟨rfl,rfl⟩:=g1;have hlen:(aE (e:=e) (ks:=ks) (Mn (dR ks) (aE xs) n)).length=(aE xs).length:=E1 _ _ _ hn;have hfit:o + n * ks.length + zs.length<=cs.size:=by rw [hzl,Nat.sub_mul];have h2':(aE xs).length * ks.length<=cap * ks.length:=acC _ h2;have h3':n * ks.length<=(aE xs).length * ks.length:=acC _ hn;omega
 refine ⟨g2,⟨cs,el,fr,g3,fun q hq=>g4 q (Nat.lt_add_right _ hq),hfit⟩,_,cap,by rw [hlen],by rw [hlen]; exact h2,by rw [hlen]; exact h3,h4,fun a'' ha'' => ?_⟩;simp only [ab6] at ha'';subst ha'';refine ⟨b,o,setFrom cs (o + n * ks.length) zs,el,fr,rfl,g2,?_,?_,?_,fun i j q=>i < n/\G i j q,fun i j q hq=>g6 i j q hq.2,fun i j i' j' q hq hq'=>g7 i j i' j' q hq.2 hq'.2,fun i x hx => ?_⟩
 . rw [gH,if_pos rfl,g3]; rfl
 . intro q hq; rw [bX] at hq; exact g4 q hq
 . rw [bX]; exact g5
 . rcases NB _ _ _ hn i x hx with ⟨hi,hx'⟩ | ⟨hi,hil,rfl⟩
   ·
    have hrow:=g8 i x hx';have hlt:o + i * ks.length + ks.length<=o + n * ks.length:=by have:(i + 1) * ks.length<=n * ks.length:=acC _ hi;rw [acZ] at this;omega
    have key:∀ (ks':List K) (y:Tl ks') (j p:Nat),p + ks'.length<=o + n * ks.length->eo w ks' y j (G i) cs p->eo (w.setCells b (o + n * ks.length) zs) ks' y j (fun j q=>i < n/\G i j q) (setFrom cs (o + n * ks.length) zs) p:=by
     intro ks';induction ks' with
     | nil=>intro y j p _ _; trivial
     | cons k ks' ih =>
       intro y j p hp ⟨⟨v,q1,q2⟩,q3⟩;simp only [aca] at hp;refine ⟨⟨v,?_,cK.frame k _ v (G i j) _ (fun q hq=>⟨hi,hq⟩) (fun q hq hqlt => ?_) q2⟩,ih y.2 (j + 1) (p + 1) (by omega) q3⟩
       . rw [cE _ _ _ _ hfit,if_neg (by omega)]; exact q1
       . rw [gH,if_neg (fun e=>(g6 i j q hq).2 e.symm)]
    exact key ks x 0 _ (by omega) hrow
   . refine mS ks 0 _ _ fun c v hc => ?_
     have hcl:c < ks.length:=by
      rcases acn c ks.length with hh | hh
      . exact hh
      . rw [acq (by simpa using hh)] at hc; simp at hc
     have hidx:(i - n) * ks.length + c < ((aE xs).length - n) * ks.length:=by have:(i - n + 1) * ks.length<=((aE xs).length - n) * ks.length:=acC _ (by omega);rw [acZ] at this;omega
     have hoff:o + i * ks.length + c=o + n * ks.length + ((i - n) * ks.length + c):=by
      have:i * ks.length=n * ks.length + (i - n) * ks.length:=by rw [<- acZ]; congr 1; omega
      omega
     rw [cE _ _ _ _ hfit,if_pos (by rw [hzl]; omega),hoff,adp,hz _ hidx,aeN,Nat.mul_add_mod,adz hcl];exact hc
end
end Go.Av
namespace Go.Av
open Go.RowKit (Below)
def nq {α:Type} (d:α) (xs:List α) (n:Int):List α:=Mn d xs n.toNat
def l8 (ta tb tc t0 tI:Nat) (tks:List K) (st:St):Tr St:=match st.tv t0,st.tv tI with
 | some (.v (.ref r j s)),some (.v (.d (.int k) n))=>(match st.cell r j with
   | some ⟨s',m,.own (.sl e ks) xs⟩=>bif Nat.beq s' s && K.jj ks tks then .need (ft n (aE xs).length (aE xs).length)
      (.ret ((((st.az ta (.v (.ref r j s),none)).az tb (.v (.d (.int k) n),none)).az tc (.v .dead,none)).setCell r j ⟨s',m + 1,.own (.sl e ks) (nq (dR ks) (aE xs) n)⟩)) else .fail
   | _=> .fail)
 | _,_=> .fail
section
variable {P:Program} {E:En} {cx:Cx P}
theorem rX (hT:bG P E) {rid ta tb tc t0 tI ty:Nat} {te:TI} {o1 o2 o3 o4:Oper} {c:Call} (hty:E.sl ty=some te)
 (d1:o1.dst=some ta) (p1:o1.op= .move (.tmp t0)) (g1:o1.guard=none) (d2:o2.dst=some tb) (p2:o2.op= .move (.tmp tI)) (g2:o2.guard=none)
 (d3:o3.dst=some tc) (p3:o3.op= .slice ty (.tmp ta) (some (.tmp tb)) none none) (g3:o3.guard=none)
 (d4:o4.dst=none) (p4:o4.op= .call c) (g4:o4.guard=none) (hcal:c.callee= .builtin .clear) (hargs:c.args.toList=[.tmp tc]) (hts:c.argTypes.toList=[ty])
 (b1:E.dB ta=true) (b2:E.dB tb=true) (b3:E.dB tc=true) (n1:Nat.beq ta tI=false) (n2:Nat.beq ta tb=false) :
 cF P E (.region rid #[o1,o2,o3,o4] false) (l8 ta tb tc t0 tI te.ks):=by
 intro cx a w st st' h hrun;unfold l8 at hrun;split at hrun
 . rename_i r j s k n hst0 hstI;split at hrun
   . rename_i s' m e ks xs hcell;cases hb:Nat.beq s' s && K.jj ks te.ks with
     | false=>rw [hb] at hrun; simp [Tr.run] at hrun
     | true =>
       rw [hb] at hrun;simp only [ab9] at hrun;simp only [ab8] at hb;obtain ⟨hk,hrun⟩:=Tr.bj hrun;simp only [Tr.run,ab6] at hrun;subst hrun;have es:=beq_eq hb.1;subst es;have hsz2:=K.ib _ _ hb.2;subst hsz2;obtain ⟨hn,hsz,Z,g,hr⟩:=h;obtain ⟨k0,k1,k2⟩:=eX hk;refine wp_region ?_;show wpOps P #[o1,o2,o3,o4] _ [0,1,2,3] a w;rw [wpOps_cons];refine bD (i:=0) rfl g1 ?_;obtain ⟨hn1,hw1⟩:=je hr hn hsz d1 (hsz.dst b1) (.inl p1) (tv:= .v (.ref r j s')) hst0;refine hw1 _ _ fun Z1 gg1 a1 w1 hr1 hsz1 => ?_
       rw [wpOps_cons];refine bD (i:=1) rfl g2 ?_;have htI:(st.az ta (.v (.ref r j s'),none)).get (.tmp tI)=some (.v (.d (.int k) n)):=by
        show (st.az ta (.v (.ref r j s'),none)).tv tI=_;unfold St.tv at hstI ⊢;rw [a8,if_neg (ady n1)];split at hstI
        . rename_i q want y gg l hq;cases hq2:look st.tm q with
          | none=>rw [hq2] at hstI; simp at hstI
          | some tq=>exact absurd trivial (hn tI _ hq)
        . exact hstI
       obtain ⟨hn2,hw2⟩:=je hr1 hn1 hsz1 d2 (hsz1.dst b2) (.inl p2) htI;refine hw2 _ _ fun Z2 gg2 a2 w2 hr2 hsz2' => ?_
       rw [wpOps_cons];refine bD (i:=2) rfl g3 ?_;have hc2:((st.az ta (.v (.ref r j s'),none)).az tb (.v (.d (.int k) n),none)).cell r j=some ⟨s',m,.own (.sl e te.ks) xs⟩:=hcell;have hta:look ((st.az ta (.v (.ref r j s'),none)).az tb (.v (.d (.int k) n),none)).tm ta=some (.v (.ref r j s')):=by rw [a8,if_neg (fun e=>(ady n2) e.symm),a8,if_pos rfl]
       have htb:look ((st.az ta (.v (.ref r j s'),none)).az tb (.v (.d (.int k) n),none)).tm tb=some (.v (.d (.int k) n)):=by rw [a8,if_pos rfl]
       have va:a2.eval (.tmp ta)=gg2.cv r j:=by obtain ⟨c1,q1,_,q3⟩:=(hr2.tm ta _ hta).2;rw [hc2] at q1;cases q1;exact q3 rfl
       have hown:cK w2 (.sl e te.ks) xs (gg2.cv r j) (gg2.fp r j):=hr2.cell r j _ hc2;have hown2:=hown;obtain ⟨aa,cap,v1,v2,v3,v4,v5⟩:=hown2;obtain ⟨tt,kss,t1,t2,t3,t4,hu⟩:=dX hT hty;have hs:=fun w=>bL (hT _ te t4) (P:=P) w
       have hlh:jJ ((st.az ta (.v (.ref r j s'),none)).az tb (.v (.d (.int k) n),none)) (some (.tmp tb)) none (aE xs).length=some (n,((aE xs).length:Int)):=by
        have:((st.az ta (.v (.ref r j s'),none)).az tb (.v (.d (.int k) n),none)).get (.tmp tb)=some (.v (.d (.int k) n)):=by show St.tv _ tb=_;unfold St.tv;rw [htb]
        simp only [jJ,this,TV.int?,AV.int?];rfl
       have hslice:(execOp a2.eval o3).run P w2= .ok (.value (.slice (if cap=n.toNat then aa else aa.map (·.add (n.toNat * te.ks.length))) ((aE xs).length - n.toNat) (cap - n.toNat))) w2:=by have:=mO hu hs (aa:=aa) (js (P:=P) hr2 hn2.cons.cons true hlh hk v2);simp only [adC] at this;simp only [execOp,p3,va,v1,adC,acy,this,ack];rfl
       unfold Oper.wp;rw [hslice,acM,d3];generalize hv38:(Value.slice (if cap=n.toNat then aa else aa.map (·.add (n.toNat * te.ks.length))) ((aE xs).length - n.toNat) (cap - n.toNat))=v38;have hr3:=hr2.gj (d:=tc) (tv:= .v .dead) (v:=v38) (hsz2'.dst b3) trivial;have hsz3:Fit cx E (a2.put (some tc) v38):=hsz2'.put _ _;rw [wpOps_cons];refine bD (i:=3) rfl g4 ?_;have htc:(a2.put (some tc) v38).eval (.tmp tc)=v38:=by have:=(hsz2'.dst b3).1;simp [Act.put,Act.eval,ach,this]
       have hgF:∀ q,gg2.fp r j q->q < w2.heap.size:=fun q hq=>(hr2.fp r j q hq).1
       have hclear:∃ w4,(execOp (a2.put (some tc) v38).eval o4).run P w2= .ok (.value (.tuple #[])) w4/\w4.os=w2.os/\w4.tape=w2.tape/\w4.output=w2.output/\w4.heap.size=w2.heap.size/\(∀ b,¬ gg2.fp r j b->w4.heap[b]? = w2.heap[b]?)/\cK w4 (.sl e te.ks) (nq (dR te.ks) (aE xs) n) (gg2.cv r j) (gg2.fp r j):=by
        have hargs':c.args = #[.tmp tc]:=by rw [<- adb (xs:=c.args),hargs]
        have hts0:c.argTypes[0]? = some ty:=by rw [<- acf,hts]; rfl
        have fin:∀ w4,(Builtin.clear_ c.argTypes o4.type #[v38]).run P w2= .ok (.tuple #[]) w4->(execOp (a2.put (some tc) v38).eval o4).run P w2= .ok (.value (.tuple #[])) w4:=fun w4 hh=>by simp only [execOp,p4,resolve,hcal,hargs',adJ,ads,ad6,acy,acR,ack,invoke,builtin,htc,hh]
        rcases adX ((aE xs).length - n.toNat) with hz | hpos
        . refine ⟨w2,fin w2 ?_,rfl,rfl,rfl,rfl,fun _ _=>rfl,?_⟩
          . rw [<- hv38,hz];simp only [Builtin.clear_,hts0,acV,acj,acy,acK hu,ack];cases hq:(if cap=n.toNat then aa else aa.map (·.add (n.toNat * te.ks.length))) <;> simp
          . have he:nq (dR te.ks) (aE xs) n=aE xs:=by
             unfold nq Mn;rw [hz,aeF (by omega)];simp
            rw [he];exact hown
        . have haa:∃ b o,aa=some ⟨b,o,none⟩:=by
           cases aa with
           | none=>have:=v4 rfl; omega
           | some a' => obtain ⟨b,o,_,_,_,e1,_⟩:=v5 a' rfl;exact ⟨b,o,by rw [e1]⟩
          obtain ⟨b,o,rfl⟩:=haa;obtain ⟨z,hz1,hz2⟩:=qc (hT _ te t4) (P:=P) w2;have hown':=hown;rw [v1] at hown';have hzl:(Builtin.zeroCells z.cells ((aE xs).length - n.toNat)).toList.length=((aE xs).length - n.toNat) * te.ks.length:=by rw [acX,size_zeroCells,<- acX (xs:=z.cells),hz2]; simp
          obtain ⟨c1,⟨cs,el,fr,c2,c3,c4⟩,c5⟩:=FM hown' (n:=n.toNat) (by omega) (zs:=(Builtin.zeroCells z.cells ((aE xs).length - n.toNat)).toList) (fun j hj=>qn hz2 _ j hj) hzl hgF;have hone:∀ v∈(Builtin.zeroCells z.cells ((aE xs).length - n.toNat)).toList,v.oneCell'=true:=fun v hv=>by
           obtain ⟨i,hi,hv⟩:=aek hv;rw [hzl] at hi;have h1:=qn hz2 _ i hi;rw [acm (by rw [hzl]; exact hi),hv,ac5] at h1;cases hk0:te.ks[i % te.ks.length]? with
           | none=>rw [hk0] at h1; simp at h1
           | some k0 => rw [hk0] at h1;simp only [acG,ab6] at h1;rw [h1];cases k0 <;> rfl
          have hstore:=run_storeCells_cells (P:=P) b (o + n.toNat * te.ks.length) (Builtin.zeroCells z.cells ((aE xs).length - n.toNat)).toList 0 w2 (fun j hj=>by
           simp only [World.cell?,acO,c2];simp;omega) (fun j hj=>by
           simp only [World.frozen?,acO,c2];simp only [aeI,ael];have:=c3 (o + n.toNat * te.ks.length + j) (by omega);by_cases h:fr.1<=o + n.toNat * te.ks.length + j
           . exact .inr fun h'=>this ⟨h,h'⟩
           . exact .inl h) hone
          rw [acO] at hstore;obtain ⟨w1',w2',w3',w4'⟩:=sI (Builtin.zeroCells z.cells ((aE xs).length - n.toNat)).toList b (o + n.toNat * te.ks.length) w2;refine ⟨_,fin _ ?_,w1',w2',w3',w4',fun b' hb' => ?_,by rw [v1]; exact c5⟩
          . rw [<- hv38];have hne:cap≠n.toNat:=by omega
            obtain ⟨q,hq⟩:∃ q,(aE xs).length - n.toNat=q + 1:=⟨(aE xs).length - n.toNat - 1,by omega⟩;simp only [if_neg hne,acG,gC,Builtin.clear_,hts0,acV,acj,acy,acK hu,ack,hq];rw [hq] at hstore;simp only [hz1,acy,ack,hstore,acR]
          . rw [gH,if_neg];intro e;subst e;exact hb' c1
       obtain ⟨w4,q1,q2,q3,q4,q5,q6,q7⟩:=hclear;unfold Oper.wp;rw [q1,acM,d4];have hlent:=fE (g:=gg2) (F:=fun _ _=>False) (G:=fun _ _=>False) (st:=((st.az ta (.v (.ref r j s'),none)).az tb (.v (.d (.int k) n),none)).az tc (.v .dead,none)) [(r,j,(⟨s',m + 1,.own (.sl e te.ks) (nq (dR te.ks) (aE xs) n)⟩:RC))] 0;have hcl:(nq (dR te.ks) (aE xs) n).length=(aE xs).length:=E1 _ _ _ (by omega)
       obtain ⟨hR,_⟩:=hr3.qq hlent q2 q3 q4 (Nat.le_of_eq q5.symm)
        (fun r1 j1 p hp=>by
          obtain ⟨i,e1,e2⟩:=dx _ 0 r1 j1 p hp;cases i with
          | succ i=>simp at e1
          | zero => simp only [acj,ab6,acI] at e1;obtain ⟨rfl,rfl,e3⟩:=e1;rw [<- e3];refine ⟨_,hc2,rfl,adA _,e,te.ks,xs,_,rfl,rfl,hcl,?_⟩;rw [e2];exact cK.frame _ _ _ _ _ (fun b hb=> .inl ⟨hb,fun h=>h⟩) (fun _ _ _=>rfl) q7)
        (fun r1 j1 p hp b hb=>by
          obtain ⟨i,e1,e2⟩:=dx _ 0 r1 j1 p hp;rw [e2] at hb;rcases hb with ⟨hb,_⟩ | hb
          . exact ⟨by rw [q5]; exact (hr2.fp _ _ _ hb).1,.inl ⟨r1,j1,p,hp,hb⟩,(hr2.fp _ _ _ hb).2.2.1⟩
          . exact hb.elim)
        (fun r1 j1 p r2 j2 p' b hp hp' hb hb'=>by
          obtain ⟨i,e1,e2⟩:=dx _ 0 r1 j1 p hp;obtain ⟨i',e1',e2'⟩:=dx _ 0 r2 j2 p' hp';rw [e2] at hb;rw [e2'] at hb';rcases hb with ⟨hb,_⟩ | hb
          . rcases hb' with ⟨hb',_⟩ | hb'
            . exact hr2.disj _ _ _ _ b hb hb'
            . exact hb'.elim
          . exact hb.elim)
        (fun b hb hno=>q6 b fun hh=>by obtain ⟨p0,hp0⟩:=rR (g:=gg2) (F:=fun _ _=>False) (G:=fun _ _=>False) [(r,j,(⟨s',m + 1,.own (.sl e te.ks) (nq (dR te.ks) (aE xs) n)⟩:RC))] 0 0 r j _ rfl;exact hno r j p0 hp0 hh)
       refine ⟨fun t tv ht => ?_,hsz3,Z2,_,hR⟩;have ht:look (((st.az ta (.v (.ref r j s'),none)).az tb (.v (.d (.int k) n),none)).az tc (.v .dead,none)).tm t=some tv:=by rw [dn] at ht; exact ht
       rw [a8] at ht;split at ht
       . simp only [ab6] at ht; subst ht; exact fun h=>h
       . exact hn2 t tv ht
   . simp [Tr.run] at hrun
 . simp [Tr.run] at hrun
end
end Go.Av
namespace Go.Av
open Go.RowKit (Below)
section
variable {P:Program} {w w':World}
def cut (cs:Array Value) (o n:Nat):List Value:=(List.range n).map fun q=>cs.getD (o + q) undef
end
end Go.Av
namespace Go.Av
open Go.RowKit (Below)
structure XZ (P:Program) (f T ov k:Nat):Prop where
 zero:∀ (a:Option Addr) (n c i:Nat) (a2:Option Addr) (m c2:Nat) (w:World),i<=n->n<=c->(m:Int)=0 ->
  Calls P f #[.slice a n c,.int .i64 i,.slice a2 m c2] w fun e w'=>e= .returned (.slice a n c)/\w'=w
 last:∀ (a:Option Addr) (n c:Nat) (a2:Option Addr) (m c2:Nat) (w w':World) (v':Value),n<=c->¬ ((m:Int)=0) ->
  (Builtin.append_ #[T,T] T #[.slice a n c,.slice a2 m c2]).run P w= .ok v' w' ->
  Calls P f #[.slice a n c,.int .i64 n,.slice a2 m c2] w fun e w1=>e= .returned v'/\w1=w'
 room:∀ (b o n c i:Nat) (a2:Option Addr) (m c2:Nat) (w:World),i < n->n + m<=c->n + m<=140737488355328->0 < m->∀ (W1 W2:World),
  (∀ lb cb,(callFunc ov #[.slice a2 m c2,.slice (some ⟨b,o + (i + m) * k,none⟩) lb cb]).run P w= .ok (.value (.bool false)) w) ->
  (∀ ty dc sc,(Builtin.copy_ #[T,T] ty #[.slice (some ⟨b,o + (i + m) * k,none⟩) (n + m - (i + m)) dc,.slice (some ⟨b,o + i * k,none⟩) (n + m - i) sc]).run P w.drew= .ok (goInt (n - i:Nat)) W1) ->
  (∀ ty dc,(Builtin.copy_ #[T,T] ty #[.slice (some ⟨b,o + i * k,none⟩) (n + m - i) dc,.slice a2 m c2]).run P W1= .ok (goInt m) W2) ->
  Calls P f #[.slice (some ⟨b,o,none⟩) n c,.int .i64 i,.slice a2 m c2] w fun e w1=>e= .returned (.slice (some ⟨b,o,none⟩) (n + m) c)/\w1=W2
 grow:∀ (b o n c i:Nat) (a2:Option Addr) (m c2:Nat) (w:World),i < n->n<=c->c < n + m->n + m<=140737488355328->0 < m->∀ (W1 W2 W3:World) (N G:Nat),n + m<=G->G<=9223372036854775807 ->
  (∀ ty,(Builtin.append_ #[T,3] ty #[.slice (some ⟨b,o,none⟩) i c,.int .i64 ((n:Int) + (m:Int) - (i:Int))]).run P w= .ok (.slice (some ⟨N,0,none⟩) (n + m) G) W1) ->
  (∀ ty dc,(Builtin.copy_ #[T,T] ty #[.slice (some ⟨N,i * k,none⟩) (n + m - i) dc,.slice a2 m c2]).run P W1= .ok (goInt m) W2) ->
  (∀ ty dc sc,(Builtin.copy_ #[T,T] ty #[.slice (some ⟨N,(i + m) * k,none⟩) (n + m - (i + m)) dc,.slice (some ⟨b,o + i * k,none⟩) (n - i) sc]).run P W2.drew= .ok (goInt (n - i:Nat)) W3) ->
  Calls P f #[.slice (some ⟨b,o,none⟩) n c,.int .i64 i,.slice a2 m c2] w fun e w1=>e= .returned (.slice (some ⟨N,0,none⟩) (n + m) G)/\w1=W3
section
variable {P:Program} {w w':World}
end
end Go.Av
namespace Go.Av
open Go.RowKit (Below)
section
variable {P:Program} {E:En} {ops:Array Oper} {P:Program} {cx:Cx P} {Q:Exit->Act->World->Prop}
end
end Go.Av
namespace Go.Av
open Go.RowKit (Below)
section
variable {st:St} {tm:List (Nat×TV)}
end
end Go.Av
namespace Go.Av
section
variable {E:En} {base:St} {ops:List Oper} {ns:List Nat}
theorem yh (hnf:∀ i,gy ns i=false) (hg:bd ops=false):∀ (l:List Oper) (i:Nat) (bs:Bd) (v:St),(∀ o∈l,o.guard=none)->dk E.yj base bs->(∀ e∈bs,e.1 < i)->(dH E true ops ns l i base bs).run=some v ->
 ∃ bs',dk E.yj base bs'/\v=aA base bs'/\(∀ e∈bs,e∈bs')/\∀ k o,l[k]? = some o->∃ d p mask bs0,o.dst=some d/\(i + k,d,p)∈bs'/\(∀ e∈bs0,e∈bs')/\(xH E (view base mask bs0) d o.op).run=some p
 | [],i,bs,v,_,hb,_,h=>by simp only [dH,Tr.run,ab6,hg,iC,aco] at h;exact ⟨bs,hb,h.symm,fun e he=>he,fun k o hk=>by simp at hk⟩
 | o :: r,i,bs,v,hgd,hb,hi,h=>by
   have hgo:=hgd o (acu ..);unfold dH at h;simp only [hgo] at h;split at h
   . rename_i d hd;have key:∀ (t:Tr (TV×Option Rt)),t=wX E (ns.getD i cq) o d base bs (true && !gy ns i)->(t.bind fun p=>dH E true ops ns r (i + 1) base ((i,d,p) :: bs)).run=some v->∃ bs',dk E.yj base bs'/\v=aA base bs'/\(∀ e∈bs,e∈bs')/\∀ k o',(o :: r)[k]? = some o'->∃ d p mask bs0,o'.dst=some d/\(i + k,d,p)∈bs'/\(∀ e∈bs0,e∈bs')/\(xH E (view base mask bs0) d o'.op).run=some p:=by
      intro t ht h;rw [Tr.run_bind] at h;cases hp:t.run with
      | none=>rw [hp] at h; simp at h
      | some p =>
        rw [hp] at h;simp only [acE] at h;rw [ht] at hp;unfold wX at hp;cases ha:(l0 o.op && !(true && !gy ns i)) with
        | true=>rw [ha] at hp; simp [Tr.run] at hp
        | false =>
          rw [ha] at hp;simp only [aco] at hp;cases hc:E.dB d && sU base d && base.free d && !iJ d bs with
          | false=>rw [hc] at hp; simp [Tr.run] at hp
          | true =>
            rw [hc] at hp;simp only [ab9] at hp;have hb':dk E.yj base ((i,d,p) :: bs):=dk.uw (fun h=>h) hb hc fun e he=>Nat.ne_of_lt (hi e he)
            obtain ⟨bs',g1,g2,g3,g4⟩:=yh hnf hg r (i + 1) ((i,d,p) :: bs) v (fun o' ho'=>hgd o' (acr _ ho')) hb' (fun e he=>by
             rcases aci.1 he with he | he
             . subst he; exact adA _
             . exact aeW (hi e he)) h
            refine ⟨bs',g1,g2,fun e he=>g3 e (acr _ he),fun k o' hk => ?_⟩;cases k with
            | zero => simp only [acj,ab6] at hk;subst hk;exact ⟨d,p,_,bs,hd,g3 _ (acu ..),fun e he=>g3 e (acr _ he),hp⟩
            | succ k => obtain ⟨d',p',m',b0,q1,q2,q3,q4⟩:=g4 k o' (by simpa using hk);exact ⟨d',p',m',b0,q1,by rw [show i + (k + 1)=i + 1 + k by omega]; exact q2,q3,q4⟩
     split at h
     . simp [hnf,Tr.run] at h
     . exact key _ rfl h
   . simp [hnf,Tr.run] at h
end
theorem sE {base:St} {m:Nat}:∀ {bs:Bd} {t:Nat} {tv:TV},look (view base m bs).tm t=some tv->(∃ i p,(i,t,p)∈bs/\p.1=tv)∨look base.tm t=some tv
 | [],t,tv,h=> .inr h
 | (i0,t0,p0) :: r,t,tv,h=>by
   unfold view at h;cases hb:m.testBit i0 with
   | false =>
     rw [hb] at h;rcases sE (bs:=r) h with ⟨i,p,h1,h2⟩ | h1
     . exact .inl ⟨i,p,acr _ h1,h2⟩
     . exact .inr h1
   | true =>
     rw [hb] at h;simp only [ab9] at h;rw [a8] at h;split at h
     . rename_i he;subst he;simp only [ab6] at h;exact .inl ⟨i0,p0,acu ..,h⟩
     . rcases sE (bs:=r) h with ⟨i,p,h1,h2⟩ | h1
       . exact .inl ⟨i,p,acr _ h1,h2⟩
       . exact .inr h1
theorem KZ {l:List Nat} (hl:0 < l.length) (i:Nat):gy (l ++ [0]) i=false:=by
 cases hf:gy (l ++ [0]) i with
 | false=>rfl
 | true =>
   exfalso;unfold gy at hf;simp only [ab8,acH,adt] at hf;rcases acn i l.length with h | h
   . have:=hf.2 (l.length - i - 1) (by rw [ab7]; simp; omega);rw [show i + 1 + (l.length - i - 1)=l.length by omega] at this;simp [List.getD] at this
   . have:=hf.1 0 (by omega);have e:(l ++ [0]).getD i 0=0:=by
      rw [List.getD];rcases acn i (l ++ [0]).length with h2 | h2
      . have:i=l.length:=by rw [ab7] at h2; simp at h2; omega
        subst this;simp
      . rw [acq h2]; rfl
     rw [e] at this;simp at this
end Go.Av
namespace Go.Av
open Go.RowKit (Below)
theorem HF (E:En) (st:St) (d:Nat) (t:TypeId) (x:Operand):xH E st d (.load t x)=Tr.bo (E.ti t) fun ti=>Tr.bo (st.get x) fun tv=>Tr.bo tv.B0 fun a=>Tr.bo (st.load ti.ks.length a) fun l=>Tr.bo (er ti.agg l) fun tv=> .ret (tv,none):=rfl
def Fy (v:St) (l:List Oper):Bool:=l.all fun o=>match o.dst with | some d=>v.free d | none=>true
def opsOf (c:Code):Array Oper:=match c with | .region _ ops _=>ops | _ => #[]
theorem wm {base:St} {S:Nat}:∀ {bs:Bd},(∀ i t p,(i,t,p)∈bs->p.2=none)->(view base S bs).rt=base.rt
 | [],_=>rfl
 | (i,t,p) :: r,h=>by
   have ih:=wm (base:=base) (S:=S) (bs:=r) fun i t p hm=>h i t p (acr _ hm)
   have hp:=h i t p (acu ..);unfold view;cases S.testBit i with
   | false=>exact ih
   | true => simp only [ab9];unfold St.az;rw [hp];exact ih
theorem sK {base:St} {bs:Bd} (h:∀ i t p,(i,t,p)∈bs->p.2=none):(aA base bs).rt=base.rt:=by rw [fY base (bitsOf bs) bs (fun i t p h=>dz h)];exact wm h
theorem eO {st:St} (h:bm st) (t:Nat):st.tv t=look st.tm t:=by
 unfold St.tv;split
 . rename_i q want y gg l hq;exact absurd trivial (h t _ hq)
 . rfl
theorem AJ:∀ {l:List Nat} {n:Nat},j4 l n=true->n∈l
 | [],n,h=>by simp [j4] at h
 | x :: r,n,h=>by
   simp only [j4,adf] at h;rcases h with h | h
   . rw [beq_eq h]; exact acu ..
   . exact acr _ (AJ h)
theorem zH {l:List Oper} (h:bd l=false) {i:Nat} {o:Oper} (ho:l[i]? = some o):o.guard=none:=by
 unfold bd at h;rw [List.any_eq_false] at h;have:=h o (acg ho);cases hg:o.guard with
 | none=>rfl
 | some g=>rw [hg] at this; simp at this
section
variable {P:Program} {E:En}
theorem GD {ops ops':Array Oper} {Q:Exit->Act->World->Prop} {j:Nat} {o:Oper} (h:ops[j]? = some o) (h':ops'[j]? = some o) (hg:o.guard=none) {K:Act->World->Prop} {a:Act} {w:World} (hw:wpOp P ops' Q j K a w):wpOp P ops Q j K a w:=by
 unfold wpOp at hw ⊢;have e:∀ (ops:Array Oper),Region.wanted o (yielded ops a.tmps)=true:=fun ops=>by simp [Region.wanted,hg]
 simp only [h,h',e] at hw ⊢;exact hw
theorem gh {E0:En} {c:Code} {F:St->Tr St} (hn:E.nt=E0.nt) (hp:E.pins=E0.pins) (h:cF P E0 c F):cF P E c F:=by
 have hf:∀ (cx:Cx P) (a:Act),Fit cx E a↔Fit cx E0 a:=fun cx a=>by unfold Fit; rw [hn,hp]
 have hg:∀ (cx:Cx P) (st:St) (a:Act) (w:World),Good cx E st a w↔Good cx E0 st a w:=fun cx st a w=>by unfold Good; rw [hf]
 intro cx a w st st' hgd hr;refine wp_mono (h cx a w st st' ((hg _ _ _ _).1 hgd) hr) fun e a' w' hq => ?_
 cases e <;> first | exact hq.elim | exact (hg _ _ _ _).2 hq
end
end Go.Av
namespace Go.Av
open Go.RowKit (Below)
def CO (o:Oper):Bool:=match o.op,o.guard,o.dst with | .extract (.tmp _) _,none,some _=>true | .move (.tmp _),none,some _=>true | _,_,_=>false
def Bk (ex:List (Nat×Nat)) (i:Nat):List Edge:=(ex.filter fun p=>Nat.beq p.1 i).map fun p=>⟨p.2,.data⟩
def jN (ex:List (Nat×Nat)):List Oper->Nat->List Oper
 | [],_=>[]
 | o :: r,i=>{ o with after:=o.after ++ (Bk ex i).toArray } :: jN ex r (i + 1)
theorem Cg (ex:List (Nat×Nat)):∀ (l:List Oper) (i k:Nat),(jN ex l i)[k]? = (l[k]?).map fun o=>{ o with after:=o.after ++ (Bk ex (i + k)).toArray }
 | [],_,_=>by simp [jN]
 | o :: r,i,0=>by simp [jN]
 | o :: r,i,k + 1=>by rw [jN,ada,Cg ex r (i + 1) k,ada,show i + 1 + k=i + (k + 1) by omega]
theorem A8 (ex:List (Nat×Nat)):∀ (l:List Oper) (i:Nat),(jN ex l i).length=l.length
 | [],_=>rfl
 | o :: r,i=>by simp [jN,A8 ex r]
def lf (ex:List (Nat×Nat)) (ops:Array Oper):Array Oper:=(jN ex ops.toList 0).toArray
theorem re (ex:List (Nat×Nat)) (ops:Array Oper) (k:Nat):(lf ex ops)[k]? = (ops[k]?).map fun o=>{ o with after:=o.after ++ (Bk ex k).toArray }:=by rw [lf,acV,Cg,acf,acz]
theorem yB (ex:List (Nat×Nat)) (ops:Array Oper):(lf ex ops).size=ops.size:=by simp [lf,A8]
section
variable {P:Program} {ops:Array Oper} {Q:Exit->Act->World->Prop}
theorem An (ex:List (Nat×Nat)) (ops:Array Oper) (tmps:Array Value):yielded (lf ex ops) tmps=yielded ops tmps:=by funext g;unfold yielded;rw [re];cases ops[g]? <;> rfl
theorem xZ {ex:List (Nat×Nat)} {k:Nat} {K:Act->World->Prop} {a:Act} {w:World} (h:wpOp P (lf ex ops) Q k K a w):wpOp P ops Q k K a w:=by
 unfold wpOp at h ⊢;rw [re,An] at h;cases ho:ops[k]? with
 | none=>rw [ho] at h; exact h
 | some o=>rw [ho] at h; exact h
theorem AY {o:Oper} (hp:CO o=true) (hL:¬ LetsOut Q) (hQ:∀ c a w,¬ Q (.panic c) a w) {k:Nat} (ho:ops[k]? = some o) {K:Act->World->Prop} {a:Act} {w:World} (h:wpOp P ops Q k K a w) :
 ∃ v,Yields P ops o v a/\K (a.put o.dst v) w:=by
 unfold CO at hp;split at hp
 . rename_i t i d h1 h2 h3;have hw:Region.wanted o (yielded ops a.tmps)=true:=by simp [Region.wanted,h2]
   unfold wpOp at h;rw [ho] at h;simp only [hw,if_true] at h;have h:=h.resolve_right fun h=>hL h.2
   unfold Oper.wp at h;have he:∀ w,(execOp a.eval o).run P w=(match a.eval (.tmp t) with | .tuple vs=>(match vs[i]? with | some v=>Result.ok (.value v) w | none=>(execOp a.eval o).run P w) | _=>(execOp a.eval o).run P w):=fun w=>by
    split
    . rename_i vs hv;split
      . rename_i v hi;simp [execOp,h1,hv,Instr.extract,hi]
      . rfl
    . rfl
   cases hv:a.eval (.tmp t) with
   | tuple vs =>
     cases hi:vs[i]? with
     | some v => refine ⟨v,.inl ⟨hw,fun w=>by rw [he w,hv]; simp only [hi]⟩,?_⟩;rw [he w,hv] at h;simp only [hi,Oper.upon] at h;exact h
     | none => exfalso;simp [execOp,h1,hv,Instr.extract,hi,Oper.upon] at h
   | _ => exfalso;simp [execOp,h1,hv,Instr.extract,Oper.upon] at h
 . rename_i t d h1 h2 h3;have hw:Region.wanted o (yielded ops a.tmps)=true:=by simp [Region.wanted,h2]
   unfold wpOp at h;rw [ho] at h;simp only [hw,if_true] at h;have h:=h.resolve_right fun h=>hL h.2
   have he:∀ w,(execOp a.eval o).run P w= .ok (.value (a.eval (.tmp t))) w:=fun w=>by simp [execOp,h1]
   refine ⟨a.eval (.tmp t),.inl ⟨hw,he⟩,?_⟩;unfold Oper.wp at h;rw [he w,acM] at h;exact h
 . simp at hp
theorem HR {ex:List (Nat×Nat)} {k:Nat} {e:Edge} (h:e∈Bk ex k):∃ p,p∈ex/\p.1=k/\e.on=p.2:=by unfold Bk at h;obtain ⟨p,hp,rfl⟩:=ad7.1 h;obtain ⟨h1,h2⟩:=adR.1 hp;exact ⟨p,h1,beq_eq h2,rfl⟩
theorem vH {ex:List (Nat×Nat)} {p:Nat×Nat} (h:p∈ex):(⟨p.2,.data⟩:Edge)∈Bk ex p.1 :=
 ad7.2 ⟨p,adR.2 ⟨h,aeP _⟩,rfl⟩
theorem jt {ex:List (Nat×Nat)} {listed:Array Bool} {k:Nat}:k∈Region.ready .any (lf ex ops) listed↔k∈Region.ready .any ops listed/\∀ p∈ex,p.1=k->listed.getD p.2 false=true:=by
 rw [mem_ready,mem_ready];constructor
 . rintro ⟨h0,o',ho',hall⟩;rw [re] at ho';cases ho:ops[k]? with
   | none=>rw [ho] at ho'; simp at ho'
   | some o => rw [ho] at ho';simp only [acG,ab6] at ho';subst ho';refine ⟨⟨h0,o,rfl,fun e he hb=>hall e (by simp [he]) hb⟩,fun p hp hk => ?_⟩;subst hk;exact hall ⟨p.2,.data⟩ (by simp [vH hp]) rfl
 . rintro ⟨⟨h0,o,ho,hall⟩,hex⟩;refine ⟨h0,_,by rw [re,ho]; rfl,fun e he hb => ?_⟩;simp only [Array.mem_append,List.mem_toArray] at he;rcases he with he | he
   . exact hall e he hb
   . obtain ⟨p,hp,h1,h2⟩:=HR he;rw [h2];exact hex p hp h1
end
section
variable {P:Program} {E:En}
end
end Go.Av
namespace Go.Av
open Go.RowKit (Below)
theorem Fp:∀ n i,CE n (2 ^ i - 1)=n - i
 | 0,i=>by simp [CE]
 | n + 1,i=>by
   rw [CE,Fp n i,fB];by_cases h:n < i
   . simp only [h,decide_true]; omega
   . simp only [h,decide_false]; omega
section
variable {P:Program} {E:En} {ops:Array Oper} {P:Program} {cx:Cx P} {Q:Exit->Act->World->Prop}
theorem CB (hed:fP ops.toList 0=true):∀ (n i:Nat) (listed:Array Bool) (fuel:Nat) (a:Act) (w:World),i + n=ops.size->listed.size=ops.size->(∀ k,k < ops.size->listed.getD k false=decide (k < i))->n<=fuel ->
 (∀ k,i < k->k < ops.size->∃ o e,ops[k]? = some o/\e∈o.after/\cu e=true/\e.on=k - 1)->wpOps P ops Q (List.range' i n) a w->wpAny P .any ops Q fuel listed a w
 | 0,i,listed,fuel,a,w,hi,hls,hl,hf,hch,h=>by
   have hr:Region.ready .any ops listed=[]:=adZ.2 fun k hk=>by obtain ⟨h0,o,ho,_⟩:=mem_ready.1 hk;have hlt:k < ops.size:=(acx.1 ho).1;have:=hl k hlt;rw [ace (by omega)] at this;simp [ach,hls,hlt] at h0 this;rw [h0] at this;simp at this
   have h:Q .normal a w:=h;cases fuel with
   | zero=>exact ⟨hr,h⟩
   | succ fuel=>exact ⟨fun _=>h,fun k hk=>by rw [hr] at hk; simp at hk⟩
 | n + 1,i,listed,fuel,a,w,hi,hls,hl,hf,hch,h=>by
   obtain ⟨fuel,rfl⟩:∃ f,fuel=f + 1:=⟨fuel - 1,by omega⟩;rw [List.range'_succ,wpOps_cons] at h;have hil:i < ops.size:=by omega
   have hri:i∈Region.ready .any ops listed:=by
    refine mem_ready.2 ⟨?_,ops[i],by simp [hil],fun e he hb => ?_⟩
    . have:=hl i hil;rw [acD (by omega)] at this;simp [ach,hls,hil] at this ⊢;exact this
    . have:=gJ ops.toList 0 hed i ops[i] (by rw [acf]; simp [hil]) e (adw.2 he) hb;rw [hl e.on (by omega)];exact ace (by omega)
   refine ⟨fun h0=>by rw [h0] at hri; simp at hri,fun k hk => ?_⟩;have hki:k=i:=by
    obtain ⟨h0,o,ho,hall⟩:=mem_ready.1 hk;have hlt:k < ops.size:=(acx.1 ho).1;have hge:i<=k:=by
     have:=hl k hlt;rcases acn k i with hh | hh
     . rw [ace hh] at this;simp [ach,hls,hlt] at h0 this;rw [h0] at this;simp at this
     . exact hh
    rcases acn i k with hh | hh
    . obtain ⟨o',e,ho',he,hb,hon⟩:=hch k hh hlt;rw [ho] at ho';cases ho';have:=hall e he hb;rw [hon,hl (k - 1) (by omega)] at this;have:=of_decide_eq_true this;omega
    . omega
   subst hki;refine wpOp_mono (fun a' w' h'=>CB hed n (k + 1) _ fuel a' w' (by omega) (by simpa using hls) (fun j hj => ?_) (by omega) (fun j hj hj2=>hch j (by omega) hj2) h') h;by_cases e:k=j
   . subst e;simp [ach,hls,hj]
   . rw [getD_set_ne false e,hl j hj];congr 1;exact propext ⟨fun h=>by omega,fun h=>by omega⟩
theorem MA (hed:fP ops.toList 0=true) {i1:Nat} (hi1:i1 < ops.size) {base:St} {bsF:Bd} (hstep:∀ j,j < i1->oz P E ops (bY ops.toList []) base bsF 0 j)
 (hneed:∀ j,j < i1->((bY ops.toList []).getD i1 0).testBit j=true) (hch:∀ k,i1 < k->k < ops.size->∃ o e,ops[k]? = some o/\e∈o.after/\cu e=true/\e.on=k - 1)
 (hend:∀ (a:Act) (w:World) (Z:Nat->Prop) (g:Gh),Rel cx Z g (view base (2 ^ i1 - 1) bsF) a w->Fit cx E a->wpOps P ops Q (List.range' i1 (ops.size - i1)) a w) :
 ∀ (fuel:Nat) (listed:Array Bool) (S:Nat) (a:Act) (w:World) (Z:Nat->Prop) (g:Gh),listed.size=ops.size->(∀ k,k < ops.size->listed.getD k false=S.testBit k)->(∀ k,i1<=k->S.testBit k=false)->CE ops.size S<=fuel ->
  (∀ k,S.testBit k=true->∀ b,((bY ops.toList []).getD k 0).testBit b=true->S.testBit b=true)->Rel cx Z g (view base S bsF) a w->Fit cx E a->wpAny P .any ops Q fuel listed a w:=by
 have hlen:(bY ops.toList []).length=ops.size:=by rw [nb]; simp
 have full:∀ (fuel:Nat) (listed:Array Bool) (S:Nat) (a:Act) (w:World) (Z:Nat->Prop) (g:Gh),listed.size=ops.size->(∀ k,k < ops.size->listed.getD k false=S.testBit k)->(∀ k,i1<=k->S.testBit k=false)->CE ops.size S<=fuel->(∀ k,k < i1->S.testBit k=true)->Rel cx Z g (view base S bsF) a w->Fit cx E a->wpAny P .any ops Q fuel listed a w:=by
  intro fuel listed S a w Z g hls hS hhi hfuel hlo h hsz;have e:S=2 ^ i1 - 1:=by
   apply Nat.eq_of_testBit_eq;intro k;rw [fB];by_cases hk:k < i1
   . simp [hk,hlo k hk]
   . simp [hk,hhi k (by omega)]
  subst e;rw [Fp] at hfuel;exact CB hed (ops.size - i1) i1 listed fuel a w (by omega) hls (fun k hk=>by rw [hS k hk,fB]) hfuel hch (hend a w Z g h hsz)
 intro fuel;induction fuel with
 | zero => intro listed S a w Z g hls hS hhi hfuel hcl h hsz;have:=zu _ _ (Nat.le_zero.1 hfuel) i1 hi1;rw [hhi i1 (acb _)] at this;simp at this
 | succ fuel ih =>
   intro listed S a w Z g hls hS hhi hfuel hcl h hsz;by_cases hlo:∀ k,k < i1->S.testBit k=true
   . exact full (fuel + 1) listed S a w Z g hls hS hhi hfuel hlo h hsz
   have hmask:∀ j,j∈Region.ready .any ops listed->j < ops.size/\S.testBit j=false/\∀ b,((bY ops.toList []).getD j 0).testBit b=true->S.testBit b=true:=by
    intro j hj;obtain ⟨hj0,o,ho,he⟩:=mem_ready.1 hj;have hlt:j < ops.size:=(acx.1 ho).1;refine ⟨hlt,?_,fun b hbit => ?_⟩
    . rw [<- hS j hlt];simp [ach,hls,hlt] at hj0 ⊢;exact hj0
    . obtain ⟨e,h1,h2,h3⟩:=se ops.toList [] j o b (by rw [acf]; exact ho) (by simpa using hbit);have hl:=he e (adw.1 h1) h2;have hon:e.on < ops.size:=by
       rcases acn e.on ops.size with hh | hh
       . exact hh
       . simp [ach,hls,hh] at hl
      rw [hS _ hon] at hl;rcases h3 with h3 | ⟨_,h3⟩
      . rw [<- h3]; exact hl
      . exact hcl _ hl b h3
   have hnext:∀ k,k < ops.size->S.testBit k=false->∃ j,j∈Region.ready .any ops listed:=by
    intro k;induction k using Nat.strongRecOn with
    | _ k ihk =>
      intro hk hkS;obtain ⟨o,ho⟩:∃ o,ops[k]? = some o:=⟨ops[k],by simp [hk]⟩;by_cases hall:∀ e∈o.after,Region.binds .any e=true->listed.getD e.on false=true
      . refine ⟨k,mem_ready.2 ⟨?_,o,ho,hall⟩⟩;have:=hS k hk;rw [hkS] at this;simp [ach,hls,hk] at this ⊢;exact this
      . simp only [aex] at hall;obtain ⟨e,he,hbe,hnl⟩:=hall;have hon:=gJ ops.toList 0 hed k o (by rw [acf]; exact ho) e (adw.2 he) hbe;rw [acz] at hon;have hon':e.on < ops.size:=Nat.lt_trans hon hk;refine ihk e.on hon hon' ?_;rw [<- hS _ hon'];simpa using hnl
   have hlt1:∀ j,j∈Region.ready .any ops listed->j < i1:=fun j hj=>by
    obtain ⟨m1,m2,m3⟩:=hmask j hj;rcases acn j i1 with hh | hh
    . exact hh
    . exfalso;apply hlo;rcases acn i1 j with h2 | h2
      ·
       obtain ⟨o,e,ho,he,hb,hon⟩:=hch j h2 m1;obtain ⟨_,o',ho',hall⟩:=mem_ready.1 hj;rw [ho] at ho';cases ho';have:=hall e he hb;rw [hon,hS _ (by omega),hhi _ (by omega)] at this;simp at this
      . have:j=i1:=by omega
        subst this;exact fun k hk=>m3 k (hneed k hk)
   refine ⟨fun h0 => ?_,fun j hj => ?_⟩
   . obtain ⟨j,hj⟩:=hnext i1 hi1 (hhi i1 (acb _));rw [h0] at hj;simp at hj
   . obtain ⟨m1,m2,m3⟩:=hmask j hj;have hj1:=hlt1 j hj;refine hstep j hj1 cx S a w Z g _ _ (fun k _ hk hb => ?_) m2 h hsz fun Z' g' a' w' hr' hsz' => ?_
     . refine m3 k ?_;rw [List.getD_eq_getElem?_getD] at hb ⊢;rw [acm (by rw [hlen]; omega)] at hb ⊢;exact hb
     . refine ih (listed.setIfInBounds j true) (S ||| 2 ^ j) a' w' Z' g' (by simpa using hls) (fun k hk => ?_) (fun k hk => ?_) ?_ (fun k hk b hb => ?_) hr' hsz'
       . rw [bc];by_cases e:j=k
         . subst e;simp [ach,hls,hk]
         . rw [getD_set_ne false e,hS k hk];simp [e]
       . rw [bc,hhi k hk];simp; omega
       . have:=zR ops.size j S m2;rw [if_pos m1] at this;omega
       . rw [bc] at hk ⊢;simp only [adf,adg] at hk ⊢;rcases hk with hk | rfl
         . exact .inl (hcl k hk b hb)
         . exact .inl (m3 b hb)
end
end Go.Av
namespace Go.Av
open Go.RowKit (Below)
section
variable {P:Program} {w w':World}
theorem Gd {t t2 ty:TypeId} {e:TypeId} {te:TI} {ats:Array TypeId} {d2:TypeDesc} (hu:P.underlying t=some (.slice e)) (hTe:pR P e te) (hu2:P.underlying t2=some d2) (hd2:∀ k,d2≠ .int k) (hat:ats[0]? = some t) (hat2:ats[1]? = some t2) (hby:0 < te.bytes)
 {xs:T (.sl e te.ks)} {ys:List (Tl te.ks)} {v0 vy:Value} {F FH:Nat->Prop} {news:List Value} {H:Nat->Nat->Nat->Prop} (hx:cK w (.sl e te.ks) xs v0 F) (hr:uz w te.ks ys news H FH) (hl:(Builtin.lenOf vy).run P w= .ok ys.length w)
 (hcl:∀ w1:World,w1.heap=w.heap->(Builtin.firstCells te.ks.length ys.length vy).run P w1= .ok news.toArray w1) (hlt:∀ q,F q∨FH q->q < w.heap.size) (hdj:∀ q,FH q->¬ F q) (hbytes:((aE xs).length + ys.length) * te.bytes<=aS) :
 ∃ v' w' F',(Builtin.append_ ats ty #[v0,vy]).run P w= .ok v' w'/\w'.os=w.os/\w'.tape=w.tape/\w'.output=w.output/\w.heap.size<=w'.heap.size/\(∀ q,q < w.heap.size->¬ F q->w'.heap[q]? = w.heap[q]?)/\(∀ q,F' q->q < w'.heap.size/\(F q∨FH q∨w.heap.size<=q))/\v'.oneCell'=true /\
  cK w' (.sl e te.ks) (cat te.ks (aE xs) ys) v' F':=by
 have hbig:(aE xs).length + ys.length<=aS:=acv (adP _ hby) hbytes;obtain ⟨base,cap,rfl,c1,c2,c3,c4⟩:=hx;have hnl:=hr.len;by_cases hfit:(aE xs).length + ys.length<=cap
 . cases base with
   | none =>
     have hcap:=c3 rfl;have hx0:aE xs=[]:=acp.1 (by omega);have hy0:ys=[]:=acp.1 (by omega);refine ⟨.slice none 0 0,w,fun _=>False,?_,rfl,rfl,rfl,acb _,fun _ _ _=>rfl,fun q hq=>hq.elim,rfl,?_⟩
     . rw [hx0,hcap];refine append_nil (news:=news) hu hTe hu2 hd2 hat hat2 ?_ ?_
       . rw [hy0] at hl; exact hl
       . have:=hcl w rfl; rw [hy0] at this; exact this
     . rw [hx0,hy0];exact iT _ _
   | some aa =>
     obtain ⟨b,of,cs,el,fr,rfl,n2,n3,n4,n5,G,n6,n7,n8⟩:=c4 _ rfl;obtain ⟨s1,s2,s3,s4,s5,s6⟩:=fG b news (of + (aE xs).length * te.ks.length) w cs el fr n3;have hroom:of + (aE xs).length * te.ks.length + news.length<=cs.size:=by have:=acC te.ks.length hfit;rw [acZ] at this;omega
     refine ⟨.slice (some ⟨b,of,none⟩) ((aE xs).length + ys.length) cap,w.setCells b (of + (aE xs).length * te.ks.length) news,fun q=>F q∨FH q,sP hu hTe hu2 hd2 hat hat2 hl (hcl w rfl) hfit hr.one (fun j hj=>⟨cs,el,fr,n3,by omega,n4 _ (by omega)⟩),s4,s5,s6,by rw [s3]; exact acb _,fun q _ hq=>s2 q fun e=>hq (by rw [e]; exact n2),fun q hq => ?_,rfl,?_⟩
     . rw [s3];refine ⟨hlt q hq,?_⟩;rcases hq with hq | hq
       . exact .inl hq
       . exact .inr (.inl hq)
     . refine uA (w:=w) (b0:=b) (F:=F) n6 n7 n8 hr (fun q hq=>⟨hdj q hq,fun e=>hdj q hq (by rw [e]; exact n2)⟩) s1 (fun q hq=>n4 q (by rw [bX] at hq; exact hq)) (.inl n2) (fun q hq _=> .inl hq) (fun q hq=> .inr hq) (fun i j q hq=>(n6 i j q hq).2) (fun q hq e=>hdj q hq (by rw [e]; exact n2)) (fun q hq h1 _=>s2 q h1) (fun q hq => ?_) (fun q hq => ?_) hfit (by rw [bX]; exact n5) hbig
       . rw [cE _ _ _ _ hroom,if_neg (by omega)]
       . rw [cE _ _ _ _ hroom,if_pos (by omega)];congr 1;omega
 . have hgrow:cap < (aE xs).length + ys.length:=by omega
   have hge:=grownCap_ge w ((aE xs).length + ys.length) cap e;have hnot:∀ q,F q∨FH q->q≠w.heap.size:=fun q hq e=>by have:=hlt q hq;omega
   have olds:∃ (olds:List Value) (b0:Nat) (cs:Array Value) (of:Nat) (G:Nat->Nat->Nat->Prop),(Builtin.firstCells te.ks.length (aE xs).length (.slice base (aE xs).length cap)).run P w.drew= .ok olds.toArray w.drew/\olds.length=(aE xs).length * te.ks.length/\(∀ q,q < (aE xs).length * te.ks.length->olds[q]? = cs[of + q]?) /\
    (∀ i j b,G i j b->F b/\b≠b0)/\(∀ i j i' j' b,G i j b->G i' j' b->i=i'/\j=j')/\(∀ i x,(aE xs)[i]? = some x->eo w te.ks x 0 (G i) cs (of + i * te.ks.length))/\(∀ q,FH q->q≠b0):=by
    cases base with
    | none => have hcap:=c3 rfl;have hx0:aE xs=[]:=acp.1 (by omega);refine ⟨[],w.heap.size,#[],0,fun _ _ _=>False,?_,by rw [hx0]; simp,fun q hq=>by rw [hx0] at hq; simp at hq,fun _ _ _ h=>h.elim,fun _ _ _ _ _ h=>h.elim,fun i x hi=>by rw [hx0] at hi; simp at hi,fun q hq=>hnot q (.inr hq)⟩;exact run_firstCells_none (P:=P) w.drew _ _ _ _
    | some aa =>
      obtain ⟨b,of,cs,el,fr,rfl,n2,n3,n4,n5,G,n6,n7,n8⟩:=c4 _ rfl;have hbound:∀ q,q < (aE xs).length * te.ks.length->of + q < cs.size:=fun q hq=>by have:=acC te.ks.length c1;omega
      have hnl':∀ q,q < (aE xs).length * te.ks.length->((List.range ((aE xs).length * te.ks.length)).map fun q=>cs.getD (of + q) undef)[q]? = cs[of + q]? := fun q hq=>by have:=hbound q hq;simp [hq,this]
      refine ⟨(List.range ((aE xs).length * te.ks.length)).map fun q=>cs.getD (of + q) undef,b,cs,of,G,?_,by simp,hnl',n6,n7,n8,fun q hq e=>hdj q hq (by rw [e]; exact n2)⟩;refine run_firstCells_some (P:=P) w.drew _ _ ⟨b,of,none⟩ _ _ _ (by simp) fun j v hj => ?_
      have hjl:j < (aE xs).length * te.ks.length:=by
       rcases acn j ((aE xs).length * te.ks.length) with hh | hh
       . exact hh
       . rw [acq (by simpa using hh)] at hj; simp at hj
      rw [hnl' j hjl] at hj;rw [gC];have n3':w.drew.heap[b]? = some (.cells cs el fr):=n3;simp only [World.cell?,n3'];exact hj
   obtain ⟨olds,b0,cs,of,G,r1,r2,r3,r4,r5,r6,r7⟩:=olds;obtain ⟨zs,z1,z2⟩:=qy (P:=P) (ty:=ty) (vx:=vy) hu hTe hu2 hd2 hat hat2 hl r1 (hcl w.drew rfl) hgrow hby hbytes;have hheap:(w.drew.alloc (.cells (olds.toArray ++ news.toArray ++ zs) e (0,0))).heap=w.heap.push (.cells (olds.toArray ++ news.toArray ++ zs) e (0,0)):=rfl;have hsize:(w.drew.alloc (.cells (olds.toArray ++ news.toArray ++ zs) e (0,0))).heap.size=w.heap.size + 1:=by rw [hheap,adQ]
   have hold:∀ q,q < w.heap.size->(w.drew.alloc (.cells (olds.toArray ++ news.toArray ++ zs) e (0,0))).heap[q]? = w.heap[q]? := fun q hq=>by rw [hheap,ac2,if_neg (by omega)]
   refine ⟨.slice (some ⟨w.heap.size,0,none⟩) ((aE xs).length + ys.length) (grownCap w ((aE xs).length + ys.length) cap e),w.drew.alloc (.cells (olds.toArray ++ news.toArray ++ zs) e (0,0)),fun q=>(F q∨FH q)∨q=w.heap.size,z2,rfl,rfl,rfl,by rw [hsize]; omega,fun q hq _=>hold q hq,fun q hq => ?_,rfl,?_⟩
   . rw [hsize];rcases hq with hq | rfl
     . refine ⟨by have:=hlt q hq; omega,?_⟩;rcases hq with hq | hq
       . exact .inl hq
       . exact .inr (.inl hq)
     . exact ⟨by omega,.inr (.inr (acb _))⟩
   . refine uA (w:=w) (b0:=b0) (F:=F) r4 r5 r6 hr (fun q hq=>⟨hdj q hq,r7 q hq⟩) (el:=e) (fr:=(0,0)) (cs':=olds.toArray ++ news.toArray ++ zs) (by rw [hheap,ac2,if_pos rfl]) (by simp) (.inr rfl) (fun q hq _=> .inl (.inl hq)) (fun q hq=> .inl (.inr hq)) (fun i j q hq=>hnot q (.inl (r4 i j q hq).1)) (fun q hq=>hnot q (.inr hq)) (fun q hq _ _=>hold q hq) (fun q hq => ?_) (fun q hq => ?_) hge ?_ hbig
     . rw [<- r3 q hq,acz,aep,adF (by simp; omega)];simp
     . rw [acz,aep,Array.getElem?_append_right (by simp; omega),adF (by simp; omega)];simp only [List.size_toArray,r2,adp,acV]
     . have e1:(olds.toArray ++ news.toArray ++ zs).size=olds.length + news.length + zs.size:=by simp
       rw [e1,r2,hnl,z1,acz,<- acZ,<- acZ];exact acC _ (by omega)
end
end Go.Av
namespace Go.Av
open Go.RowKit (Below)
def uZ (i:Int) (len n:Nat):Bool:=kV i len && Nat.beq i.toNat n
def AA {α:Type} (i:Int) (xs:List α) (n:Int):Bool:=uZ i xs.length n.toNat
def il (d:Nat):Operand->Bool
 | .tmp t=> !Nat.beq t d
 | _=>true
theorem mC {d:Nat} {x:Operand} (h:il d x=true):∀ d',some d=some d'->x≠ .tmp d':=by rintro d' e rfl;cases e;simp only [il,acP] at h;exact ady h rfl
section
variable {P:Program} {E:En} {cx:Cx P} {Z:Nat->Prop} {g:Gh} {st v:St} {a:Act} {w:World}
theorem dE {a:Act} {d:Nat} {v:Value} (hd:d < a.tmps.size):(a.put (some d) v).eval (.tmp d)=v:=by simp [Act.put,Act.eval,ach,hd]
theorem Km {st st':St} (h:st'.tm=st.tm) (o:Operand):st'.get o=st.get o:=by
 cases o with
 | tmp t => show st'.tv t=st.tv t;unfold St.tv;rw [h]
 | _=>rfl
end
end Go.Av
namespace Go.Av
open Go.RowKit (Below)
def chained (l:List Oper) (n:Nat):Bool:=(List.range (l.length - n - 1)).all fun k=>match l[n + 1 + k]? with | some o=>o.after.toList.any fun e=>cu e && Nat.beq e.on (n + k) | none=>false
def Dl (ops:List Oper) (n:Nat):Bool:=fP ops 0 && (Nat.beq ops.length (n + 4) && (!bd ops && (!bd (ops.take n) && ((List.range n).all (fun j=>((bY ops []).getD n 0).testBit j) && chained ops n))))
section
variable {P:Program} {E:En}
end
end Go.Av
namespace Go.Av
open Go.RowKit (Below)
def zO (v:Value):Prop:=∃ k n,v= .int k n
def mQ (ints:List Nat) (o:Oper) (d:Nat):Bool:=match o.op,o.guard,o.dst with | .move (.tmp b),none,some d'=>j4 ints b && Nat.beq d' d | _,_,_=>false
def yV (ops:Array Oper) (ints:List Nat) (o:Oper):Operand->Bool
 | .const (.int _ _)=>true
 | .tmp x=>o.after.toList.any fun e=>cu e && (match ops[e.on]? with | some o'=>mQ ints o' x | none=>false)
 | _=>false
def KD:BinOp->Bool | .add=>true | .sub=>true | _=>false
def EZ (ops:Array Oper) (ints:List Nat) (o:Oper):Bool:=CO o || (match o.op,o.guard,o.dst with | .binOp op _ x y _,none,some _=>KD op && (yV ops ints o x && yV ops ints o y) | _,_,_=>false)
def uo (l:List Oper) (ints:List Nat):Bool:=(List.range l.length).all fun i=>match qK l i with | some d=> !j4 ints d && (List.range l.length).all fun k=>Nat.beq k i || (match qK l k with | some d'=> !Nat.beq d' d | none=>true) | none=>true
def kI (ops:Array Oper) (ints:List Nat) (ex:List (Nat×Nat)):Bool :=
 Region.noSelect ops && (fP ops.toList 0 && (uo ops.toList ints && ex.all fun p=>(match ops[p.2]?,ops[p.1]? with
  | some oj,some oi=>EZ ops ints oj && (Bk ex p.2).isEmpty && (oj.after.toList.all fun e=> !cu e || ((oi.after.toList.any fun e'=>cu e' && Nat.beq e'.on e.on) || ex.any fun p'=>Nat.beq p'.1 p.1 && Nat.beq p'.2 e.on)) &&
     (List.range ops.size).all fun k=>Nat.beq k p.2 || (match ops[k]? with | some ok=>(ok.after.toList.any fun e=>cu e && Nat.beq e.on p.2) || ((oj.after.toList.any fun e=>cu e && Nat.beq e.on k) || oj.apart ops ok) | none=>true)
  | _,_=>false)))
def gq (ops:Array Oper) (ints:List Nat) (listed:Array Bool) (a:Act):Prop :=
 (∀ (k:Nat) (o:Oper) (d:Nat),ops[k]? = some o->o.dst=some d->d < a.tmps.size)/\(∀ b∈ints,zO (a.eval (.tmp b)))/\∀ (k:Nat) (o:Oper) (d:Nat),ops[k]? = some o->mQ ints o d=true->listed.getD k false=true->zO (a.eval (.tmp d))
theorem ED:∀ {l:List Nat} {n:Nat},n∈l->j4 l n=true
 | x :: r,n,h=>by
   simp only [j4,adf];rcases aci.1 h with h | h
   . subst h; exact .inl (aeP _)
   . exact .inr (ED h)
section
variable {P:Program} {ops:Array Oper} {Q:Exit->Act->World->Prop} {ints:List Nat}
theorem zb (h:uo ops.toList ints=true) {k:Nat} {o:Oper} {d:Nat} (ho:ops[k]? = some o) (hd:o.dst=some d):(∀ b∈ints,b≠d)/\∀ (k':Nat) (o':Oper),ops[k']? = some o'->o'.dst=some d->k'=k:=by
 have hk:k < ops.toList.length:=by rw [acX]; exact (acx.1 ho).1
 have h1:=acH.1 h k (adt.2 hk);have e:qK ops.toList k=some d:=by unfold qK; rw [acf,ho]; exact hd
 rw [e] at h1;simp only [ab8,acP] at h1;refine ⟨fun b hb hbd => ?_,fun k' o' ho' hd' => ?_⟩
 . subst hbd;have:j4 ints b=true:=ED hb;rw [h1.1] at this;simp at this
 . have hk':k' < ops.toList.length:=by rw [acX]; exact (acx.1 ho').1
   have h2:=acH.1 h1.2 k' (adt.2 hk');have e':qK ops.toList k'=some d:=by unfold qK; rw [acf,ho']; exact hd'
   rw [e'] at h2;simp only [adf,acP] at h2;rcases h2 with h2 | h2
   . exact beq_eq h2
   . exact absurd rfl (ady h2)
theorem iN {o:Oper} {d:Nat} (h:mQ ints o d=true):∃ b,o.op= .move (.tmp b)/\o.guard=none/\o.dst=some d/\b∈ints:=by
 unfold mQ at h;split at h
 . rename_i b d' h1 h2 h3;simp only [ab8] at h;have:=beq_eq h.2;subst this;exact ⟨b,h1,h2,h3,AJ h.1⟩
 . simp at h
theorem tC (a:Act) (l:List Deferred) (x:Operand):({ a with defers:=l }:Act).eval x=a.eval x:=by cases x <;> rfl
theorem gq.put (hnew:uo ops.toList ints=true) {k:Nat} {o:Oper} (ho:ops[k]? = some o) {listed:Array Bool} {a:Act} (hI:gq ops ints listed a) {v:Value} (hv:∀ d,mQ ints o d=true->zO v):gq ops ints (listed.setIfInBounds k true) (a.put o.dst v):=by
 cases hd:o.dst with
 | none =>
   refine ⟨hI.1,fun b hb=>hI.2.1 b hb,fun k' o' d' ho' hm hl => ?_⟩;have hne:k≠k':=fun e=>by subst e;rw [ho] at ho'; cases ho';obtain ⟨_,_,_,h3,_⟩:=iN hm;rw [hd] at h3; simp at h3
   rw [getD_set_ne false hne] at hl;exact hI.2.2 k' o' d' ho' hm hl
 | some d =>
   obtain ⟨n1,n2⟩:=zb hnew ho hd;have hev:∀ t,t≠d->(a.put (some d) v).eval (.tmp t)=a.eval (.tmp t):=fun t ht=>Act.eval_put fun d' e e2=>by cases e; cases e2; exact ht rfl
   refine ⟨fun k' o' d' ho' hd'=>by rw [qC]; exact hI.1 k' o' d' ho' hd',fun b hb=>by rw [hev b (n1 b hb)]; exact hI.2.1 b hb,fun k' o' d' ho' hm hl => ?_⟩;obtain ⟨b',_,_,h3,_⟩:=iN hm;by_cases e:d'=d
   . subst e;have:=n2 k' o' ho' h3;subst this;rw [ho] at ho'; cases ho';rw [dE (hI.1 _ _ _ ho hd)];exact hv _ hm
   . rw [hev d' e];have hne:k≠k':=fun e2=>by
      subst e2;rw [ho] at ho'; cases ho';rw [hd] at h3; cases h3; exact e rfl
     rw [getD_set_ne false hne] at hl;exact hI.2.2 k' o' d' ho' hm hl
theorem gq.defers {listed:Array Bool} {a:Act} {l:List Deferred} (hI:gq ops ints listed a):gq ops ints listed { a with defers:=l } :=
 ⟨hI.1,fun b hb=>by rw [tC]; exact hI.2.1 b hb,fun k o d ho hm hl=>by rw [tC]; exact hI.2.2 k o d ho hm hl⟩
theorem yK (hnew:uo ops.toList ints=true) {k:Nat} {K:Act->World->Prop} {listed:Array Bool} {a:Act} {w:World} (hk:k < ops.size) (hI:gq ops ints listed a) (h:wpOp P ops Q k K a w) :
 wpOp P ops Q k (fun a' w'=>K a' w'/\gq ops ints (listed.setIfInBounds k true) a') a w:=by
 obtain ⟨o,ho⟩:∃ o,ops[k]? = some o:=⟨ops[k],by simp [hk]⟩;unfold wpOp at h ⊢;simp only [ho] at h ⊢;by_cases hw:Region.wanted o (yielded ops a.tmps)=true;rotate_left
 . rw [if_neg hw] at h ⊢;refine ⟨h,hI.put hnew ho fun d hm => ?_⟩;obtain ⟨_,_,h2,_,_⟩:=iN hm;exfalso; apply hw; simp [Region.wanted,h2]
 . rw [if_pos hw] at h ⊢;refine h.imp (fun h => ?_) id;unfold Oper.wp at h ⊢;by_cases hmv:∃ d,mQ ints o d=true
   . obtain ⟨d,hm⟩:=hmv;obtain ⟨b,h1,h2,h3,h4⟩:=iN hm;have he:(execOp a.eval o).run P w= .ok (.value (a.eval (.tmp b))) w:=by simp [execOp,h1]
     rw [he,acM] at h ⊢;exact ⟨h,hI.put hnew ho fun _ _=>hI.2.1 b h4⟩
   . have hp:∀ (a:Act) (v:Value),gq ops ints listed a->gq ops ints (listed.setIfInBounds k true) (a.put o.dst v):=fun a v hI=>hI.put hnew ho fun d hm=>absurd ⟨d,hm⟩ hmv
     generalize (execOp a.eval o).run P w=r at h ⊢;cases r with
     | halt e w'=>cases e <;> exact h
     | ok n w' =>
       cases n with
       | value v=>exact ⟨h,hp _ _ hI⟩
       | skip=>exact ⟨h,hp _ _ hI⟩
       | defer d=>exact ⟨h,hp _ _ hI.defers⟩
       | enter f args =>
         refine Calls.mono h fun e w'' he => ?_
         cases e with
         | returned v=>exact ⟨he,hp _ _ hI⟩
         | panicked c=>exact he
         | outgrown=>exact he
       | row row args=>exact Rows.mono h fun v w'' he=>⟨he,hp _ _ hI⟩
       | _=>exact h
theorem Aj {o:Oper} {listed:Array Bool} {a:Act} (hI:gq ops ints listed a) (hready:∀ e∈o.after,Region.binds .any e=true->listed.getD e.on false=true) (hp:EZ ops ints o=true) (hL:¬ LetsOut Q) (hQ:∀ c a w,¬ Q (.panic c) a w) {k:Nat} (ho:ops[k]? = some o) {K:Act->World->Prop} {w:World} (h:wpOp P ops Q k K a w) :
 ∃ v,Yields P ops o v a/\K (a.put o.dst v) w:=by
 unfold EZ at hp;rw [adf] at hp;rcases hp with hp | hp
 . exact AY hp hL hQ ho h
 . split at hp
   . rename_i op t x y t' d h1 h2 h3;simp only [ab8] at hp;obtain ⟨hop,hx,hy⟩:=hp;have arg:∀ x,yV ops ints o x=true->zO (a.eval x):=fun x hx=>by
      unfold yV at hx;split at hx
      . exact ⟨_,_,rfl⟩
      . rename_i t;obtain ⟨e,he,h'⟩:=ad2.1 hx;simp only [ab8] at h';obtain ⟨hb,h'⟩:=h';split at h'
        . rename_i o' ho';exact hI.2.2 _ _ _ ho' h' (hready e (by simpa using he) hb)
        . simp at h'
      . simp at hx
     obtain ⟨k1,n1,ex⟩:=arg x hx;obtain ⟨k2,n2,ey⟩:=arg y hy;have hw:Region.wanted o (yielded ops a.tmps)=true:=by simp [Region.wanted,h2]
     unfold wpOp at h;rw [ho] at h;simp only [hw,if_true] at h;have h:=h.resolve_right fun h=>hL h.2
     unfold Oper.wp at h;by_cases hk:k1=k2
     . subst hk;obtain ⟨v,hv⟩:∃ v,∀ w,(execOp a.eval o).run P w= .ok (.value v) w:=by
        cases op with
        | add=>exact ⟨_,fun w=>by simp [execOp,h1,ex,ey,eqGuard,binOp,Op.intArith]; rfl⟩
        | sub=>exact ⟨_,fun w=>by simp [execOp,h1,ex,ey,eqGuard,binOp,Op.intArith]; rfl⟩
        | _=>simp [KD] at hop
       refine ⟨v,.inl ⟨hw,hv⟩,?_⟩;rw [hv w,acM] at h;exact h
     . exfalso;cases op with
       | add=>simp [execOp,h1,ex,ey,eqGuard,binOp,hk,Oper.upon,stuck] at h
       | sub=>simp [execOp,h1,ex,ey,eqGuard,binOp,hk,Oper.upon,stuck] at h
       | _=>simp [KD] at hop
   . simp at hp
theorem Je {ex:List (Nat×Nat)} (hok:kI ops ints ex=true) (hL:¬ LetsOut Q) (hQ:∀ c a w,¬ Q (.panic c) a w) :
 ∀ (fuel:Nat) (listed:Array Bool) (a:Act) (w:World),listed.size=ops.size->gq ops ints listed a->wpAny P .any (lf ex ops) Q fuel listed a w->wpAny P .any ops Q fuel listed a w:=by
 unfold kI at hok;simp only [ab8] at hok;obtain ⟨hns,hed,hnew,hok⟩:=hok;have hsel:=Region.noSelect_spec hns
 have facts:∀ p∈ex,∃ oj oi,ops[p.2]? = some oj/\ops[p.1]? = some oi/\EZ ops ints oj=true/\Bk ex p.2=[]/\(∀ e∈oj.after,cu e=true->(∃ e'∈oi.after,cu e'=true/\e'.on=e.on)∨∃ p'∈ex,p'.1=p.1/\p'.2=e.on) /\
  ∀ k ok,ops[k]? = some ok->k≠p.2->(∀ e∈ok.after,Region.binds .any e=true->e.on≠p.2)->(∃ e∈oj.after,cu e=true/\e.on=k)∨oj.apart ops ok=true:=by
  intro p hp;have h:=acH.1 hok p hp;cases h2:ops[p.2]? with
  | none=>rw [h2] at h; simp at h
  | some oj =>
    cases h1:ops[p.1]? with
    | none=>rw [h2,h1] at h; simp at h
    | some oi =>
      rw [h2,h1] at h;simp only [ab8] at h;obtain ⟨⟨⟨g1,g2⟩,g3⟩,g4⟩:=h;refine ⟨oj,oi,rfl,rfl,g1,List.isEmpty_iff.1 g2,fun e he hb => ?_,fun k ok hk hne hno => ?_⟩
      . have:=acH.1 g3 e (by simpa using he);rw [hb] at this;simp only [acY,Bool.false_or,adf] at this;rcases this with this | this
        . obtain ⟨e',he',h'⟩:=ad2.1 this;simp only [ab8] at h';exact .inl ⟨e',by simpa using he',h'.1,beq_eq h'.2⟩
        . obtain ⟨p',hp',h'⟩:=ad2.1 this;simp only [ab8] at h';exact .inr ⟨p',hp',beq_eq h'.1,beq_eq h'.2⟩
      . have hlt:k < ops.size:=(acx.1 hk).1;have:=acH.1 g4 k (adt.2 hlt);rw [hk] at this;simp only [adf] at this;rcases this with h | h | h | h
        . exact absurd (beq_eq h) hne
        . obtain ⟨e',he',h'⟩:=ad2.1 h;simp only [ab8] at h';exact absurd (beq_eq h'.2) (hno e' (by simpa using he') h'.1)
        . obtain ⟨e',he',h'⟩:=ad2.1 h;simp only [ab8] at h';exact .inl ⟨e',by simpa using he',h'.1,beq_eq h'.2⟩
        . exact .inr h
 have hR:∀ (listed:Array Bool),listed.size=ops.size->∀ k,k∈Region.ready .any ops listed->∀ (n:Nat),∀ p∈ex,p.2=n->p.1=k->listed.getD p.2 false≠true->∃ q∈ex,q.2∈Region.ready .any ops listed:=by
  intro listed hls k hk n;induction n using Nat.strongRecOn with
  | _ n ih =>
    intro p hp hpn hpk hun;obtain ⟨oj,oi,h2,h1,g1,g2,g3,g4⟩:=facts p hp;obtain ⟨_,o,ho,hall⟩:=mem_ready.1 hk;rw [<- hpk,h1] at ho;cases ho;have hlt:p.2 < listed.size:=by rw [hls]; exact (acx.1 h2).1
    by_cases hr:∀ e∈oj.after,Region.binds .any e=true->listed.getD e.on false=true
    . refine ⟨p,hp,mem_ready.2 ⟨?_,oj,h2,hr⟩⟩;simp only [ach,aeg hlt,adW] at hun ⊢;simpa using hun
    . simp only [aex] at hr;obtain ⟨e,he,hb,hne⟩:=hr;rcases g3 e he hb with ⟨e',he',hb',h'⟩ | ⟨p',hp',h1',h2'⟩
      . exfalso;apply hne;rw [<- h'];exact hall e' he' hb'
      . have hon:=gJ ops.toList 0 hed p.2 oj (by rw [acf]; exact h2) e (adw.2 he) hb;rw [acz] at hon;exact ih e.on (by omega) p' hp' h2' (by rw [h1',hpk]) (by rw [h2']; exact hne)
 intro fuel;induction fuel with
 | zero =>
   intro listed a w hls hI H;refine ⟨adZ.2 fun k hk => ?_,H.2⟩;by_cases hall:∀ p∈ex,p.1=k->listed.getD p.2 false=true
   . have:=jt.2 ⟨hk,hall⟩;rw [H.1] at this;simp at this
   . simp only [aex] at hall;obtain ⟨p,hp,hpk,hun⟩:=hall;obtain ⟨q,hq,hr⟩:=hR listed hls k hk p.2 p hp rfl hpk hun;obtain ⟨_,_,_,_,_,g2,_,_⟩:=facts q hq;have hr2:q.2∈Region.ready .any (lf ex ops) listed:=jt.2 ⟨hr,fun q' hq' hqk=>by
      have:=vH hq';rw [hqk,g2] at this;simp at this⟩
     rw [H.1] at hr2;simp at hr2
 | succ fuel ih =>
   intro listed a w hls hI H;by_cases hex:∃ p,p∈ex/\p.2∈Region.ready .any ops listed
   . obtain ⟨p,hp,hr⟩:=hex;obtain ⟨oj,oi,h2,h1,g1,g2,g3,g4⟩:=facts p hp;have hr2:p.2∈Region.ready .any (lf ex ops) listed:=jt.2 ⟨hr,fun q hq hqk=>by
      have:=vH hq;rw [hqk,g2] at this;simp at this⟩
     have hrdy:∀ e∈oj.after,Region.binds .any e=true->listed.getD e.on false=true:=by obtain ⟨_,o,ho,hall⟩:=mem_ready.1 hr;rw [h2] at ho;cases ho;exact hall
     have hlt2:p.2 < ops.size:=(acx.1 h2).1;obtain ⟨v,hy,hK,hI'⟩:=Aj hI hrdy g1 hL hQ h2 (yK hnew hlt2 hI (xZ (H.2 p.2 hr2)));refine wpAny_first h2 hsel (fun c a w h=>(hQ _ _ _ h).elim) fuel listed a w (fun k ok hk hne hun hno=>(g4 k ok hk hne hno).resolve_left fun ⟨e,he,hb,hek⟩ => ?_) hr hy (ih _ _ _ (by simpa using hls) hI' hK);obtain ⟨_,o,ho,hall⟩:=mem_ready.1 hr;rw [h2] at ho;cases ho;have h5:=hall e he hb;rw [hek] at h5;have hlt:k < listed.size:=by rw [hls]; exact (acx.1 hk).1
     simp only [ach,aeg hlt,adW] at hun h5;rw [h5] at hun;simp at hun
   . have hsub:∀ k,k∈Region.ready .any ops listed->k∈Region.ready .any (lf ex ops) listed:=fun k hk=>by
      refine jt.2 ⟨hk,fun p hp hpk => ?_⟩;by_cases hun:listed.getD p.2 false=true
      . exact hun
      . exact absurd (hR listed hls k hk p.2 p hp rfl hpk hun) fun ⟨q,hq,hr⟩=>hex ⟨q,hq,hr⟩
     refine ⟨fun h0=>H.1 (adZ.2 fun k hk => ?_),fun k hk => ?_⟩
     . have:=(jt.1 hk).1;rw [h0] at this;simp at this
     . have hlt:k < ops.size:=by
        obtain ⟨_,o,ho,_⟩:=mem_ready.1 hk;exact (acx.1 ho).1
       exact wpOp_mono (fun a' w' h=>ih _ a' w' (by simpa using hls) h.2 h.1) (yK hnew hlt hI (xZ (H.2 k (hsub k hk))))
end
end Go.Av
namespace Go.Av
open Go.RowKit (Below)
def j5 {α:Type} (d:α) (xs:List α) (i j:Nat):List α:=(xs.set i (xs.getD j d)).set j (xs.getD i d)
def HB {α:Type} (d:α) (xs:List α) (i j:Int):List α:=j5 d xs i.toNat j.toNat
theorem BF {α:Type} (d:α) (xs:List α) (i j:Nat):(j5 d xs i j).length=xs.length:=by simp [j5]
def LC (i j k:Nat):Nat:=if k=j then i else if k=i then j else k
theorem Fe (i j k:Nat):LC i j (LC i j k)=k:=by
 unfold LC;split
 . split
   . subst_vars; rfl
   . subst_vars; simp
 . split
   . subst_vars; simp
   . rename_i h1 h2; simp [h1,h2]
theorem IZ {α:Type} (d:α) {xs:List α} {i j k:Nat} (hi:i < xs.length) (hj:j < xs.length):(j5 d xs i j)[k]? = xs[LC i j k]? := by
 unfold j5 LC;rw [aeu];by_cases e:k=j
 . subst e;simp [hi,hj,List.getD]
 . rw [if_neg (fun h=>e h.symm),if_neg e,aeu];by_cases e2:k=i
   . subst e2;simp [hi,hj,List.getD]
   . rw [if_neg (fun h=>e2 h.symm),if_neg e2]
section
variable {w:World}
theorem uW:∀ (ks:List K) (x:Tl ks) (j:Nat) (G:Nat->Nat->Prop) (cs:Array Value) (o:Nat) (c:Nat),c < ks.length->eo w ks x j G cs o->∃ (k:K) (y:T k) (u:Value),cellAt ks x c=some ⟨k,y⟩/\cs[o + c]? = some u/\cK w k y u (G (j + c))
 | [],_,_,_,_,_,_,h,_=>by simp at h
 | k :: ks,x,j,G,cs,o,0,_,⟨⟨v,h1,h2⟩,_⟩=>⟨k,x.1,v,rfl,h1,h2⟩
 | k :: ks,x,j,G,cs,o,c + 1,h,⟨_,h3⟩=>by obtain ⟨k',y,u,a1,a2,a3⟩:=uW ks x.2 (j + 1) G cs (o + 1) c (by simpa using h) h3;exact ⟨k',y,u,a1,by rw [show o + (c + 1)=o + 1 + c by omega]; exact a2,by rw [show j + (c + 1)=j + 1 + c by omega]; exact a3⟩
theorem ID {e:TypeId} {ks:List K} {xs:T (.sl e ks)} {b o l cap:Nat} {F:Nat->Prop} (h:cK w (.sl e ks) xs (.slice (some ⟨b,o,none⟩) l cap) F) {i j:Nat} (hi:i < (aE xs).length) (hj:j < (aE xs).length) :
 ∃ cs el fr,F b/\l=(aE xs).length/\w.heap[b]? = some (.cells cs el fr)/\(∀ q,q < cs.size->¬ (fr.1<=q/\q < fr.2))/\o + (aE xs).length * ks.length<=cs.size /\
  (∀ i c,i < (aE xs).length->c < ks.length->∃ (k:K) (y:T k) (u:Value) (H:Nat->Prop),cellAt ks (fo xs i) c=some ⟨k,y⟩/\cs[o + i * ks.length + c]? = some u/\cK w k y u H) /\
  ∀ (w':World) (cs':Array Value),w'.heap[b]? = some (.cells cs' el fr)->cs'.size=cs.size->(∀ q,q < ks.length->cs'[o + i * ks.length + q]? = cs[o + j * ks.length + q]?)->(∀ q,q < ks.length->cs'[o + j * ks.length + q]? = cs[o + i * ks.length + q]?) ->
   (∀ k q,k≠i->k≠j->q < ks.length->cs'[o + k * ks.length + q]? = cs[o + k * ks.length + q]?)->(∀ q,q < w.heap.size->q≠b->F q->w'.heap[q]? = w.heap[q]?)->(∀ q,F q->q < w.heap.size) ->
   cK w' (.sl e ks) (j5 (dR ks) (aE xs) i j) (.slice (some ⟨b,o,none⟩) l cap) F:=by
 obtain ⟨a',c0,h1,h2,h3,h4,h5⟩:=h;simp only [ac4] at h1;obtain ⟨rfl,rfl,rfl⟩:=h1;obtain ⟨b',o',cs,el,fr,g1,g2,g3,g4,g5,G,g6,g7,g8⟩:=h5 _ rfl;simp only [adq,adn] at g1;obtain ⟨rfl,rfl⟩:=g1;refine ⟨cs,el,fr,g2,rfl,g3,fun q hq=>g4 q (Nat.lt_add_right _ hq),?_,fun i c hi hc => ?_,fun w' cs' hb hs hci hcj hck hw hlt => ?_⟩
 . have:=acC ks.length h2;omega
 . obtain ⟨k,y,u,a1,a2,a3⟩:=uW ks _ 0 (G i) cs _ c hc (g8 i _ (jv xs hi));exact ⟨k,y,u,_,a1,a2,a3⟩
 . have hlen:(j5 (dR ks) (aE xs) i j).length=(aE xs).length:=BF _ _ _ _;have hlen':(aE (e:=e) (ks:=ks) (j5 (dR ks) (aE xs) i j)).length=(aE xs).length:=hlen;refine ⟨_,cap,by rw [hlen'],by rw [hlen']; exact h2,by rw [hlen']; exact h3,h4,fun a'' ha'' => ?_⟩;simp only [ab6] at ha'';subst ha'';refine ⟨b,o,cs',el,fr,rfl,g2,hb,by rw [hs]; exact g4,by rw [hs]; exact g5,fun i'=>G (LC i j i'),fun i' j' q hq=>g6 _ j' q hq,fun i1 j1 i2 j2 q hq1 hq2 => ?_,fun i' x hx => ?_⟩
   . obtain ⟨e1,e2⟩:=g7 _ _ _ _ q hq1 hq2;have:=acT (LC i j) e1;rw [Fe,Fe] at this;exact ⟨this,e2⟩
   . have hx':(j5 (dR ks) (aE xs) i j)[i']? = some x:=hx;rw [IZ _ hi hj] at hx';refine iW ks x 0 (G (LC i j i')) _ cs cs' (o + LC i j i' * ks.length) _ (fun q hq => ?_) (fun _ _ h=>h) (fun j' q hq _=>hw q (hlt q (g6 _ j' q hq).1) (g6 _ j' q hq).2 (g6 _ j' q hq).1) (g8 _ x hx');unfold LC;by_cases e1:i'=j
     . subst e1;rw [if_pos rfl];exact hcj q hq
     . rw [if_neg e1];by_cases e2:i'=i
       . subst e2;rw [if_pos rfl];exact hci q hq
       . rw [if_neg e2];exact hck i' q e2 e1 hq
theorem Hi {Z:Nat->Prop} {k:K} {y:T k} {u v:Value} {H:Nat->Prop} (hk:kQ k=false) (h1:cK w k y u H) (h2:RO Z w k y v):v=u:=by
 cases k with
 | int k=>exact (show v= .int k y/\_ from h2).1.trans (show u= .int k y/\_ from h1).1.symm
 | bool=>exact (show v= .bool y from h2).trans (show u= .bool y from h1).symm
 | str=>exact (show v= .string (dV y)/\_ from h2).1.trans (show u= .string (dV y)/\_ from h1).1.symm
 | sl e ks=>simp [kQ] at hk
end
end Go.Av
namespace Go.Av
open Go.RowKit (Below)
theorem tr {ks:List K} {x:Tl ks} {sl:Nat->(k:K)->T k->AV}:∀ (n c:Nat) (l:List AV),eE ks x sl c n=some l->l.length=n/\∀ q,q < n->∃ a,xF ks x (c + q) (sl (c + q))=some a/\l[q]? = some a
 | 0,c,l,h=>by simp only [eE,ab6] at h;subst h;exact ⟨rfl,fun q hq=>by omega⟩
 | n + 1,c,l,h=>by
   simp only [eE] at h;split at h
   . rename_i a l' ha hl;simp only [ab6] at h;subst h;obtain ⟨h1,h2⟩:=tr n (c + 1) l' hl;refine ⟨by simp [h1],fun q hq => ?_⟩;cases q with
     | zero=>exact ⟨a,ha,rfl⟩
     | succ q => obtain ⟨a',g1,g2⟩:=h2 q (by omega);exact ⟨a',by rw [show c + (q + 1)=c + 1 + q by omega]; exact g1,by simpa using g2⟩
   . simp at h
theorem zQ {O n i k q:Nat} (h:i≠k) (hq:q < n):¬ (O + k * n<=O + i * n + q/\O + i * n + q < O + k * n + n):=by
 rintro ⟨h1,h2⟩;rcases acn i k with hh | hh
 . have:=acC n (show i + 1<=k from hh);rw [acZ,adV] at this; omega
 . have:=acC n (show k + 1<=i by omega);rw [acZ,adV] at this; omega
section
variable {P:Program} {E:En} {cx:Cx P} {Z:Nat->Prop} {g:Gh} {st v:St} {a:Act} {w:World}
theorem Eu (h:Rel cx Z g v a w) {r j s m i:Nat} {e:TypeId} {ks:List K} {xs:T (.sl e ks)} (hcell:v.cell r j=some ⟨s,m,.own (.sl e ks) xs⟩) {B O L C:Nat} (hcv:g.cv r j= .slice (some ⟨B,O,none⟩) L C) {cs:Array Value} {el:TypeId} {fr:Nat×Nat} (hB:w.heap[B]? = some (.cells cs el fr))
 (hc:∀ c,c < ks.length->∃ (k:K) (y:T k) (u:Value) (H:Nat->Prop),cellAt ks (fo xs i) c=some ⟨k,y⟩/\cs[O + i * ks.length + c]? = some u/\cK w k y u H) {l:List AV} {vs:List Value} (hl:eE ks (fo xs i) (fun c' _ _=> .pref r j s m i c') 0 ks.length=some l) (hr:aN Z g v w l vs) :
 vs.length=ks.length/\(∀ c,c < ks.length->vs[c]? = cs[O + i * ks.length + c]?)/\∀ u∈vs,u.oneCell'=true:=by
 obtain ⟨h1,h2⟩:=tr _ _ _ hl;have hlen:vs.length=ks.length:=by rw [<- cY hr,h1]
 have key:∀ c,c < ks.length->∃ u,vs[c]? = some u/\cs[O + i * ks.length + c]? = some u/\u.oneCell'=true:=fun c hlt=>by
  obtain ⟨k,y,u,H,a1,a2,a3⟩:=hc c hlt;obtain ⟨av,b1,b2⟩:=h2 c hlt;rw [acz] at b1;have hv:vs[c]? = some (vs[c]'(by omega)):=by simp [hlen,hlt]
  generalize (vs[c]'(by omega))=vv at hv;have hrv:=lG hr _ _ _ b2 hv;refine ⟨vv,hv,?_⟩;have:vv=u:=by
   unfold xF at b1;rw [a1] at b1;cases hk:kQ k with
   | true =>
     cases k with
     | sl e' ks' => simp only [ab6] at b1;subst b1;obtain ⟨cc,x1,x2,x3,x4⟩:=hrv;rw [hcell] at x1;cases x1;obtain ⟨e',ks',xs',x5,x6,x7,B',O',L',C',x8,x9⟩:=x4 rfl rfl;simp only [RV.own.injEq,K.sl.injEq] at x5;obtain ⟨⟨rfl,rfl⟩,x5⟩:=x5;rw [hcv] at x8;simp only [ac4,ab6,adq,adn] at x8;obtain ⟨⟨rfl,rfl⟩,rfl,rfl⟩:=x8;simp only [World.cell?,hB,adi,acU,ado] at x9;rw [a2] at x9;exact (adk x9).symm
     | _=>simp [kQ] at hk
   | false =>
     have:av= .d k y:=by
      cases k with
      | sl e' ks'=>simp [kQ] at hk
      | _=>simp only [ab6] at b1; exact b1.symm
     subst this;exact Hi hk a3 hrv
  subst this;exact ⟨a2,(ud a3).2⟩
 refine ⟨hlen,fun c hlt => ?_,fun u hu => ?_⟩
 . obtain ⟨u,k1,k2,_⟩:=key c hlt;rw [k1,k2]
 . obtain ⟨c,hlt,hc'⟩:=aek hu;obtain ⟨u',k1,_,k3⟩:=key c (by omega);rw [acm hlt,hc'] at k1;cases k1;exact k3
theorem Hv (hT:bG P E) (h:Rel cx Z g v a w) (hn:bm v) (hsz:Fit cx E a) {ops:Array Oper} {k0:Nat} {o0 o1 o2 o3:Oper} (h0:ops[k0]? = some o0) (h1:ops[k0 + 1]? = some o1) (h2:ops[k0 + 2]? = some o2) (h3:ops[k0 + 3]? = some o3)
 (g0:o0.guard=none) (g1:o1.guard=none) (g2:o2.guard=none) (g3:o3.guard=none) {dA dB:Nat} (d0:o0.dst=some dA) (d1:o1.dst=none) (d2:o2.dst=some dB) (d3:o3.dst=none) (b0:E.dB dA=true) (b2:E.dB dB=true)
 {tA tB tS1 tS2 bA bB x1 x2:Nat} {iA iB:Operand} (p0:o0.op= .indexAddr tA (.tmp bA) iA) (p1:o1.op= .store tS1 (.tmp dA) (.tmp x1)) (p2:o2.op= .indexAddr tB (.tmp bB) iB) (p3:o3.op= .store tS2 (.tmp dB) (.tmp x2))
 (n1:il dA (.tmp x1)=true) (n2:il dA (.tmp bB)=true) (n3:il dA iB=true) (n4:il dA (.tmp x2)=true) (n5:il dB (.tmp x2)=true)
 {r j s m e1 e2:Nat} {e:TypeId} {ks:List K} {xs:T (.sl e ks)} (hcell:v.cell r j=some ⟨s,m,.own (.sl e ks) xs⟩) {l1 l2:List AV} (hx1:v.get (.tmp x1)=some (.agg l1)) (hx2:v.get (.tmp x2)=some (.agg l2))
 (hl1:eE ks (fo xs e1) (fun c' _ _=> .pref r j s m e1 c') 0 ks.length=some l1) (hl2:eE ks (fo xs e2) (fun c' _ _=> .pref r j s m e2 c') 0 ks.length=some l2)
 (hbA:v.get (.tmp bA)=some (.v (.ref r j s))) (hbB:v.get (.tmp bB)=some (.v (.ref r j s))) {tvA tvB:TV} {pA pB:IntKind×Int} (hiA:v.get iA=some tvA) (hpA:tvA.int? = some pA) (hiB:v.get iB=some tvB) (hpB:tvB.int? = some pB)
 {tnA tnB ts1 ts2:TI} (hnA:E.sl tA=some tnA) (hnB:E.sl tB=some tnB) (ht1:E.ti tS1=some ts1) (ht2:E.ti tS2=some ts2) (cA:ks.length=tnA.ks.length) (cB:ks.length=tnB.ks.length) (c1:ks.length=ts1.ks.length) (c2:ks.length=ts2.ks.length)
 (idA:uZ pA.2 (aE xs).length e2=true) (idB:uZ pB.2 (aE xs).length e1=true) :
 wpOps P ops (QO cx E (.nrm (((v.setCell r j ⟨s,m + 1,.own (.sl e ks) (j5 (dR ks) (aE xs) e2 e1)⟩).az dA (.v .dead,none)).az dB (.v .dead,none)))) [k0,k0 + 1,k0 + 2,k0 + 3] a w:=by
 have hc:=hn.cons.cons;obtain ⟨_,_,_,_,_,u4,huA⟩:=dX hT hnA;obtain ⟨_,_,_,_,_,u4',huB⟩:=dX hT hnB;have hsA:=fun w=>bL (hT _ tnA u4) (P:=P) w
 have hsB:=fun w=>bL (hT _ tnB u4') (P:=P) w
 simp only [uZ,ab8] at idA idB;obtain ⟨iA0,iA1,iA2⟩:=fT idA.1;obtain ⟨iB0,iB1,iB2⟩:=fT idB.1;have eA:=beq_eq idA.2;have eB:=beq_eq idB.2;have hi2:e2 < (aE xs).length:=by rw [<- eA]; exact iA2
 have hi1:e1 < (aE xs).length:=by rw [<- eB]; exact iB2
 have viA:a.eval iA= .int pA.1 pA.2:=(cP (aK h hc hiA) (show tvA.int? = some (pA.1,pA.2) from hpA)).1;have viB:a.eval iB= .int pB.1 pB.2:=(cP (aK h hc hiB) (show tvB.int? = some (pB.1,pB.2) from hpB)).1;have vb:∀ b,v.get (.tmp b)=some (.v (.ref r j s))->a.eval (.tmp b)=g.cv r j:=fun b hb=>by obtain ⟨cc,y1,y2,y3⟩:=aK h hc hb;rw [hcell] at y1;cases y1;exact y3 rfl
 have hown:cK w (.sl e ks) xs (g.cv r j) (g.fp r j):=h.cell r j _ hcell;obtain ⟨B,O,L,C,hcv⟩:∃ B O L C,g.cv r j= .slice (some ⟨B,O,none⟩) L C:=by
  obtain ⟨aa,cap,v1,v2,v3,v4,v5⟩:=hown;cases aa with
  | none=>have:=v4 rfl; omega
  | some aa => obtain ⟨b,o,_,_,_,rfl,_⟩:=v5 aa rfl;exact ⟨b,o,_,_,v1⟩
 rw [hcv] at hown;obtain ⟨cs,el,fr,z1,z2,z3,z4,z5,z6,z7⟩:=ID hown hi2 hi1;obtain ⟨vs1,q1,q2⟩:=aK h hc hx1;obtain ⟨vs2,q3,q4⟩:=aK h hc hx2;obtain ⟨r1,r2,r3⟩:=Eu h hcell hcv z3 (z6 e1 · hi1) hl1 q2;obtain ⟨r4,r5,r6⟩:=Eu h hcell hcv z3 (z6 e2 · hi2) hl2 q4;have hfpl:∀ b,g.fp r j b->b < w.heap.size:=fun b hb=>(h.fp r j b hb).1
 have hroom:∀ i,i < (aE xs).length->O + i * ks.length + ks.length<=cs.size:=fun i hi=>by have:=acC ks.length (show i + 1<=(aE xs).length from hi);rw [acZ,adV] at this;omega
 rw [wpOps_cons];refine bD h0 g0 ?_;have run0:(execOp a.eval o0).run P w= .ok (.value (.pointer (some ⟨B,O + e2 * ks.length,none⟩))) w:=by have:=mc (P:=P) (w:=w) huA hsA (b:=B) (o:=O) (len:=L) (cap:=C) (k:=pA.1) (n:=pA.2) iA0 (by rw [z2]; exact iA1);rw [eA,<- cA] at this;simp only [execOp,p0,vb bA hbA,hcv,viA];simp [this]
 unfold Oper.wp;rw [run0,acM,d0];generalize hvA:Value.pointer (some ⟨B,O + e2 * ks.length,none⟩)=vA;rw [wpOps_cons];refine bD h1 g1 ?_;have eA1:(a.put (some dA) vA).eval (.tmp dA)=vA:=dE (hsz.dst b0).1;have ex1:(a.put (some dA) vA).eval (.tmp x1)= .agg vs1:=by rw [Act.eval_put (mC n1),q1]
 have hst1:=mH (P:=P) (hT tS1 ts1 ht1) (w:=w) (b:=B) (o:=O + e2 * ks.length) (v:= .agg vs1) (vs:=vs1.toList) rfl (by rw [r1,c1]) r3 (fun q hq=>⟨cs,el,fr,z3,by have:=hroom e2 hi2; omega,z4 _ (by have:=hroom e2 hi2; omega)⟩);rw [hvA] at hst1;have run1:(execOp (a.put (some dA) vA).eval o1).run P w= .ok .skip (w.setCells B (O + e2 * ks.length) vs1.toList):=by simp only [execOp,p1,acy,eA1,ex1,hst1,ack];rfl
 unfold Oper.wp;rw [run1,Oper.upon_skip,d1];obtain ⟨s1,s2,s3,s4,s5,s6⟩:=fG B vs1.toList (O + e2 * ks.length) w cs el fr z3;generalize hw1:w.setCells B (O + e2 * ks.length) vs1.toList=w1 at s1 s2 s3 s4 s5 s6;show wpOps P ops _ [k0 + 2,k0 + 3] (a.put (some dA) vA) w1;rw [wpOps_cons];refine bD h2 g2 ?_;have run2:(execOp (a.put (some dA) vA).eval o2).run P w1= .ok (.value (.pointer (some ⟨B,O + e1 * ks.length,none⟩))) w1:=by have:=mc (P:=P) (w:=w1) huB hsB (b:=B) (o:=O) (len:=L) (cap:=C) (k:=pB.1) (n:=pB.2) iB0 (by rw [z2]; exact iB1);rw [eB,<- cB] at this;simp only [execOp,p2,Act.eval_put (mC n2),Act.eval_put (mC n3),vb bB hbB,hcv,viB];simp [this]
 unfold Oper.wp;rw [run2,acM,d2];generalize hvB:Value.pointer (some ⟨B,O + e1 * ks.length,none⟩)=vB;have hsz1:=hsz.put (some dA) vA;rw [wpOps_cons];refine bD h3 g3 ?_;have eB1:((a.put (some dA) vA).put (some dB) vB).eval (.tmp dB)=vB:=dE (hsz1.dst b2).1;have ex2:((a.put (some dA) vA).put (some dB) vB).eval (.tmp x2)= .agg vs2:=by rw [Act.eval_put (mC n5),Act.eval_put (mC n4),q3]
 have hst2:=mH (P:=P) (hT tS2 ts2 ht2) (w:=w1) (b:=B) (o:=O + e1 * ks.length) (v:= .agg vs2) (vs:=vs2.toList) rfl (by rw [r4,c2]) r6 (fun q hq=>⟨_,el,fr,s1,by rw [bX]; have:=hroom e1 hi1; omega,z4 _ (by have:=hroom e1 hi1; omega)⟩);rw [hvB] at hst2;have run3:(execOp ((a.put (some dA) vA).put (some dB) vB).eval o3).run P w1= .ok .skip (w1.setCells B (O + e1 * ks.length) vs2.toList):=by simp only [execOp,p3,acy,eB1,ex2,hst2,ack];rfl
 unfold Oper.wp;rw [run3,Oper.upon_skip,d3];obtain ⟨s1',s2',s3',s4',s5',s6'⟩:=fG B vs2.toList (O + e1 * ks.length) w1 _ el fr s1;generalize hw2:w1.setCells B (O + e1 * ks.length) vs2.toList=w2 at s1' s2' s3' s4' s5' s6';have hother:∀ q,q≠B->w2.heap[q]? = w.heap[q]? := fun q hq=>(s2' q hq).trans (s2 q hq)
 have hsize:w2.heap.size=w.heap.size:=s3'.trans s3;have hlen:(j5 (dR ks) (aE xs) e2 e1).length=(aE xs).length:=BF _ _ _ _;have get1:∀ i q,i < (aE xs).length->q < ks.length->(setFrom cs (O + e2 * ks.length) vs1.toList)[O + i * ks.length + q]? = if i=e2 then cs[O + e1 * ks.length + q]? else cs[O + i * ks.length + q]? := fun i q hi hq=>by
  rw [cE _ _ _ _ (by rw [r1]; exact hroom e2 hi2),r1];by_cases ei:i=e2
  . subst ei;rw [if_pos ⟨by omega,by omega⟩,if_pos rfl,show O + i * ks.length + q - (O + i * ks.length)=q by omega,r2 q hq]
  . rw [if_neg (zQ ei hq),if_neg ei]
 have get2:∀ i q,i < (aE xs).length->q < ks.length->(setFrom (setFrom cs (O + e2 * ks.length) vs1.toList) (O + e1 * ks.length) vs2.toList)[O + i * ks.length + q]? = if i=e1 then cs[O + e2 * ks.length + q]? else if i=e2 then cs[O + e1 * ks.length + q]? else cs[O + i * ks.length + q]? := fun i q hi hq=>by
  rw [cE _ _ _ _ (by rw [r4,bX]; exact hroom e1 hi1),r4];by_cases ei:i=e1
  . subst ei;rw [if_pos ⟨by omega,by omega⟩,if_pos rfl,show O + i * ks.length + q - (O + i * ks.length)=q by omega,r5 q hq]
  . rw [if_neg (zQ ei hq),if_neg ei,get1 i q hi hq]
 have hown2:cK w2 (.sl e ks) (j5 (dR ks) (aE xs) e2 e1) (.slice (some ⟨B,O,none⟩) L C) (g.fp r j):=by
  refine z7 w2 _ s1' (by rw [bX,bX]) (fun q hq => ?_) (fun q hq => ?_) (fun k q hk1 hk2 hq => ?_) (fun q _ hne _=>hother q hne) hfpl
  . rw [get2 e2 q hi2 hq];by_cases ee:e2=e1
    . rw [if_pos ee,ee]
    . rw [if_neg ee,if_pos rfl]
  . rw [get2 e1 q hi1 hq,if_pos rfl]
  . rw [cE _ _ _ _ (by rw [r4,bX]; exact hroom e1 hi1),r4,if_neg (zQ hk2 hq),cE _ _ _ _ (by rw [r1]; exact hroom e2 hi2),r1,if_neg (zQ hk1 hq)]
 have hch:=h.change hcell (c':=⟨s,m + 1,.own (.sl e ks) (j5 (dR ks) (aE xs) e2 e1)⟩) (w':=w2) (v':=g.cv r j) (F':=g.fp r j) (s4'.trans s4) (s5'.trans s5) (s6'.trans s6) (by rw [hsize]; exact acb _) (acb _) (adA _)
  (fun _=>rfl) (fun _ e' ks' xs' hx=>by simp only [RV.own.injEq,K.sl.injEq] at hx;obtain ⟨⟨rfl,rfl⟩,hx⟩:=hx;have hx:=aeh hx;subst hx;exact ⟨_,rfl,hlen⟩)
  (fun q hq hf _=>hother q fun e=>hf (by rw [e]; exact z1))
  (fun q hq=>by obtain ⟨k1,k2,k3,_⟩:=h.fp r j q hq;exact ⟨by rw [hsize]; exact k1,k2,k3,fun r' j' hh=>h.disj _ _ _ _ _ hh hq,fun r' R' hR' hx he=>(h.box r' R' hR' hx).2.2.1 r j (by rw [he]; exact hq),_,_,rfl⟩)
  (fun R' hR' hx=>by
    obtain ⟨_,_,b3,_,cs1,el1,fr1,b5,_,_,b8⟩:=h.box r R' hR' hx;refine ⟨cs1,el1,fr1,cs1,b5,?_,rfl,fun q hq => ?_⟩
    . rw [hother _ fun e=>b3 r j (by rw [e]; exact z1)]; exact b5
    . rw [b8 q hq];by_cases e:q=j
      . subst e; rw [if_pos rfl]
      . rw [if_neg e])
  (fun kp=>by show cK _ (.sl e ks) (j5 (dR ks) (aE xs) e2 e1) (g.cv r j) _;rw [hcv];exact hown2)
 obtain ⟨hR,_⟩:=hch;have hA:=hR.gj (d:=dA) (tv:= .v .dead) (v:=vA) (hsz.dst b0) trivial;have hB:=hA.gj (d:=dB) (tv:= .v .dead) (v:=vB) (hsz1.dst b2) trivial;refine ⟨fun t tv ht => ?_,(hsz1.put _ _).put _ _,Z,_,hB⟩;rw [a8] at ht;split at ht
 . simp only [ab6] at ht; subst ht; exact fun h=>h
 rw [a8] at ht;split at ht
 . simp only [ab6] at ht; subst ht; exact fun h=>h
 rw [dn] at ht;exact hn t tv ht
end
end Go.Av
