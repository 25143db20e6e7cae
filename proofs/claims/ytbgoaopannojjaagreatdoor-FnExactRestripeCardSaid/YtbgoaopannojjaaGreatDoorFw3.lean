/- Part of a proof that the law FnExactRestripe answers true for every input: the framework, an evaluator over symbolic data and why it is right. No conditions beyond the statement. -/
import Derived.Test.YtbgoaopannojjaaGreatDoorFw2
import Derived.Laws.AppendOwn
import Derived.KernelRfl
import Derived.Lib.Overlaps
import Derived.Lib.AppendZerosOnto
namespace Go.Av
open Go.RowKit (Below)
def rC (P:Program) (cx:Cx P) (E:En) (st':St) (a:Act) (w:World) (o:Oper):Prop :=
 bt st'/\∀ (next:Act->World->Prop) (Q:Exit->Act->World->Prop),(∀ Z' g' a' w',Rel cx Z' g' st' a' w'->Fit cx E a'->next a' w')->o.wp P a w next Q
section
variable {P:Program} {cx:Cx P} {Z:Nat->Prop} {g:Gh} {st:St} {a:Act} {w:World} {E:En}
theorem Wc (h:Rel cx Z g st a w):∀ (l:List AV) (vs:List Value),aP Z g st w l vs->l.all st.live=true->∀ u∈vs,u.oneCell'=true
 | [],[],_,_=>by simp
 | x :: l,v :: vs,hr,hl=>by
   simp only [aef,ac5] at hl;intro u hu;rcases adg.1 hu with hu | hu
   . subst hu; exact (Ao h hr.1 hl.1).2
   . exact Wc h l vs hr.2 hl.2 u hu
 | [],_ :: _,hr,_=>hr.elim
 | _ :: _,[],hr,_=>hr.elim
theorem uj {r j s m i:Nat}:∀ (l:List AV) (c:Nat),lM r j s m i c l=true->∀ q a,l[q]? = some a->oY r j s m (c + q) a=true->∃ i' q',a= .pref r j s m i' q'/\q'=c + q/\i'=i
 | [],_,_,q,a,h,_=>by simp at h
 | x :: l,c,h,q,a,hq,hs=>by
   have self:∀ a,oY r j s m c a=true->∃ i' ,a= .pref r j s m i' c:=fun a ha=>by
    unfold oY at ha;split at ha
    . rename_i r' j' s' m' i' q';simp only [ac5] at ha;obtain ⟨h1,h2,h3,h4,h5⟩:=ha;exact ⟨i',by rw [beq_eq h1,beq_eq h2,beq_eq h3,beq_eq h4,beq_eq h5]⟩
    . simp at ha
   unfold lM at h;cases q with
   | zero => simp only [adf,ac3] at hq;subst hq;rw [adO] at hs;rw [hs] at h;obtain ⟨i',rfl⟩:=self _ hs;simp only [ac6,ac5] at h;exact ⟨i',c,rfl,rfl,beq_eq h.1⟩
   | succ q =>
     rw [ad2] at hq;have hr:lM r j s m i (c + 1) l=true:=by
      cases hx:oY r j s m c x with
      | false=>rw [hx] at h; exact h
      | true => rw [hx] at h;obtain ⟨i',rfl⟩:=self _ hx;simp only [ac6,ac5] at h;exact h.2
     obtain ⟨i',q',e1,e2,e3⟩:=uj l (c + 1) hr q a hq (by rw [show c + 1 + q=c + (q + 1) by omega]; exact hs);exact ⟨i',q',e1,by omega,e3⟩
theorem GC {r j s i c:Nat} {c0:RC} {e:TypeId} {ks:List K} {xs:T (.sl e ks)} {b of l cap:Nat} {av:List AV} {vs:List Value} (h1:st.cell r j=some c0) (h2:c0.s=s) (h3:c0.v= .own (.sl e ks) xs) (h4:g.cv r j= .slice (some ⟨b,of,none⟩) l cap)
 (hr:aP Z g st w av vs) (hs:st.Jw (.pel r j s i c) av=true):mW w r j s (st.IA r j) b (of + i * ks.length) c av vs:=fun q a v ha hv hself=>by
 obtain ⟨i',q',rfl,rfl,rfl⟩:=uj _ _ hs q a ha hself;have hrel:∀ (l:List AV) (vs:List Value),aP Z g st w l vs->∀ (q:Nat) (a:AV) (v:Value),l[q]? = some a->vs[q]? = some v->bj Z g st w a v:=by
  intro l;induction l with
  | nil=>intro vs _ q a v h; simp at h
  | cons x l ih =>
    intro vs hr q a v h1 h2;cases vs with
    | nil=>simp at h2
    | cons u vs =>
      cases q with
      | zero=>simp only [adf,ac3] at h1 h2; subst h1 h2; exact hr.1
      | succ q=>exact ih vs hr.2 q a v (by simpa using h1) (by simpa using h2)
 obtain ⟨c1,k1,k2,k3,k4⟩:=hrel _ _ hr q _ v ha hv;rw [h1] at k1;simp only [ac3] at k1;subst k1;have hm:c0.m=st.IA r j:=by unfold St.IA; rw [h1]
 obtain ⟨e',ks',xs',f1,f2,f3,b',o',l',cap',f4,f5⟩:=k4 h2 hm;rw [h3] at f1;simp only [RV.own.injEq,K.sl.injEq] at f1;obtain ⟨⟨rfl,rfl⟩,_⟩:=f1;rw [h4] at f4;simp only [adX,ac3,aei,aej] at f4;obtain ⟨⟨rfl,rfl⟩,_⟩:=f4;rw [show of + i' * ks.length + c + q=of + i' * ks.length + (c + q) by omega];exact f5
theorem Pj (hT:bK P E) (h:Rel cx Z g st a w) (hn:bt st) (hsz:Fit cx E a) {o:Oper} (hd:o.dst=none) {t:TypeId} {pa x:Operand} (ho:o.op= .store t pa x) {ti:TI} {ta tx:TV} {av:AV} {p:Bool×List AV} {st':St}
 (hti:E.ti t=some ti) (hpa:st.get pa=some ta) (hav:ta.Cp = some av) (hx:st.get x=some tx) (hp:tx.db = some p) (hlive:p.2.all st.live=true) (hlen:p.2.length=ti.ks.length) (hself:st.Jw av p.2=true) (hs:st.store ti.ks p.2 av=some st'):rC P cx E st' a w o:=by
 have hc:=hn.cons.cons;have ra:=rN (aM h hc hpa) hav;obtain ⟨rv,rl⟩:=kG h (aM h hc hx) hp hlive;have hlen':(a.eval x).cells.toList.length=ti.ks.length:=by rw [<- dk rv]; exact hlen
 have h1:=Wc h _ _ rv hlive;have go:∀ (b of:Nat) (g':Gh),a.eval pa= .pointer (some ⟨b,of,none⟩)->Rel cx Z g' st' a (w.setCells b of (a.eval x).cells.toList)->st'.tm=st.tm->(∀ j,j < (a.eval x).cells.toList.length->∃ cs el fr,w.heap[b]? = some (.cells cs el fr)/\of + j < cs.size/\¬ (fr.1<=of + j/\of + j < fr.2))->rC P cx E st' a w o:=by
  intro b of g' e1 e2 e3 e4;refine ⟨fun t tv ht=>hn t tv (by rw [<- e3]; exact ht),fun next Q hk => ?_⟩;have hrun:=kE (P:=P) (hT t ti hti) (w:=w) (b:=b) (o:=of) (v:=a.eval x) rfl hlen' h1 e4;unfold Oper.wp;have:(execOp a.eval o).run P w= .ok .skip (w.setCells b of (a.eval x).cells.toList):=by simp only [execOp,ho,adv,e1,hrun,adh];rfl
  rw [this,Oper.upon_skip,hd];exact hk Z g' a _ e2 hsz
 cases av with
 | ptr r j =>
   obtain ⟨R,f1,f2,f3⟩:=ra;have hsh:shape st r=some (true,R.cells.length):=by simp [shape,f1,f2]
   obtain ⟨g',m1,m2,m3⟩:=nU (a:=a) (r:=r) (n:=R.cells.length) ti.ks p.2 _ st g w j st' h hsh rv hs;obtain ⟨b1,b2,b3,b4,cs,el,fr,b5,b6,b7,b8⟩:=h.box r R f1 f2;refine go (g.be r) j g' f3 m1 m2 fun q hq=>⟨cs,el,fr,b5,?_,?_⟩
   . rcases m3 with m3 | m3
     . rw [m3] at hq; simp at hq
     . omega
   . apply b6;rcases m3 with m3 | m3
     . rw [m3] at hq; simp at hq
     . omega
 | pel r j s i c =>
   simp only [St.store] at hs;cases hl:st.live (.pel r j s i c) with
   | false=>rw [hl] at hs; simp at hs
   | true =>
     rw [hl] at hs;simp only [ac6] at hs;have ra':=ra;obtain ⟨c0,f1,f2,f3⟩:=ra;simp only [St.live,f1] at hl;obtain ⟨e,ks,xs,f4,f5,b,of,l,cap,f6,f7⟩:=f3 (beq_eq hl);rw [f7] at ra';have hs:st.rf r j s i (st.IA r j) c ti.ks p.2=some st':=by
      cases hrow:Nat.beq c 0 && Nat.ble 8 p.2.length with
      | false=>rw [hrow] at hs; exact hs
      | true => rw [hrow] at hs;simp only [ac5] at hrow;have e0:=beq_eq hrow.1;subst e0;obtain ⟨c0s,c0m,c0v⟩:=c0;simp only at f4 hl;subst f4;have es:=beq_eq hl;subst es;exact LM f1 f5 hs
     obtain ⟨g',m1,m2,m3⟩:=xN (a:=a) (b:=b) (p:=of + i * ks.length) ti.ks p.2 _ st g w c st' h ra' rv (GC f1 (beq_eq hl) f4 f6 rv hself) hs;exact go b (of + i * ks.length + c) g' f7 m1 m2 m3
 | _=>simp [St.store] at hs
theorem jP (h:Rel cx Z g st a w) (hn:bt st) (hsz:Fit cx E a) {o:Oper} {d:Nat} (hd:o.dst=some d) (hdn:jG cx a d) {x:Operand} (ho:o.op= .move x∨o.op= .assign x) {tv:TV} (hx:st.get x=some tv):rC P cx E (st.aE d (tv,none)) a w o:=by
 refine ⟨fun t tv' ht => ?_,fun next Q hk=>DF h hn.cons.cons hd hdn ho hx next Q fun Z' g' v w' hr=>hk Z' g' _ w' hr (hsz.put _ _)⟩;rw [bd] at ht;split at ht
 . simp only [ac3] at ht;subst ht;intro hm;obtain ⟨d',hd'⟩:=zc hx hm;exact hn d' _ hd' hm
 . exact hn t tv' ht
def setFrom (cs:Array Value):Nat->List Value->Array Value
 | _,[]=>cs
 | o,v :: r=>setFrom (cs.setIfInBounds o v) (o + 1) r
theorem nu (w:World) (t:TypeId) (fr:Nat×Nat):∀ (vs:List Value) (o:Nat) (cs:Array Value),(w.alloc (.cells cs t fr)).setCells w.heap.size o vs=w.alloc (.cells (setFrom cs o vs) t fr)
 | [],_,_=>rfl
 | v :: r,o,cs=>by
   have:(w.alloc (.cells cs t fr)).setCell ⟨w.heap.size,o,none⟩ v=w.alloc (.cells (cs.setIfInBounds o v) t fr):=by
    have hh:((w.alloc (.cells cs t fr)).setCell ⟨w.heap.size,o,none⟩ v).heap=(w.alloc (.cells (cs.setIfInBounds o v) t fr)).heap:=by
     apply aeH;intro i;rw [cY];show (if w.heap.size=i then ((w.heap.push (.cells cs t fr))[i]?).map _ else (w.heap.push (.cells cs t fr))[i]?)=(w.heap.push (.cells (cs.setIfInBounds o v) t fr))[i]?;rw [ad0,ad0];by_cases e:w.heap.size=i
     . subst e; simp
     . rw [if_neg e,if_neg (fun x=>e x.symm),if_neg (fun x=>e x.symm)]
    cases w;simp only [World.setCell,World.alloc] at hh ⊢;congr 1
   rw [World.setCells,this];exact nu w t fr r (o + 1) _
theorem cz:∀ (vs:List Value) (o:Nat) (cs:Array Value) (i:Nat),o + vs.length<=cs.size->(setFrom cs o vs)[i]? = if o<=i/\i < o + vs.length then vs[i - o]? else cs[i]?
 | [],o,cs,i,h=>by
   have:¬ (o<=i/\i < o + ([]:List Value).length):=by intro hh;have:=hh.2;simp only [adk] at this;omega
   rw [if_neg this];rfl
 | v :: r,o,cs,i,h=>by
   have hl:(v :: r).length=r.length + 1:=rfl;rw [setFrom,cz r (o + 1) _ i (by simp; omega)];by_cases e:o=i
   . subst e;rw [if_neg (by omega),if_pos (by omega),ad1,if_pos rfl,if_pos (by omega),aeh];rfl
   . by_cases e2:o + 1<=i/\i < o + 1 + r.length
     . rw [if_pos e2,if_pos (by omega),show i - o=(i - (o + 1)) + 1 by omega];rfl
     . rw [if_neg e2,if_neg (by omega),ad1,if_neg e]
theorem Ce (cs:Array Value) (vs:List Value) (h:vs.length=cs.size):setFrom cs 0 vs=vs.toArray:=by
 apply aeH;intro i;rw [cz vs 0 cs i (by omega)];by_cases e:i < vs.length
 . rw [if_pos (by omega)]; simp
 . rw [if_neg (by omega)];rw [adr (by omega),adr (by simp; omega)]
theorem Ox (h:Rel cx Z g st a w) {tv:TV} {v:Value} {p:Bool×List AV} (hr:bD Z g st w tv v) (hp:tv.db = some p) (hl:p.2.all st.live=true):Ib p.1 v v.cells.toList:=by
 cases tv with
 | v x => simp only [TV.db,ac3] at hp;subst hp;simp only [aef,List.all_nil,Bool.and_true] at hl;show v.cells.toList=[v];rw [(Ao h hr hl).1]
 | agg l => simp only [TV.db,ac3] at hp;subst hp;obtain ⟨vs,e,_⟩:=hr;subst e;simp [Ib,Value.cells]
 | _=>simp [TV.db] at hp
theorem Cu (w:World) (cs:Array Value) (t:TypeId) (i:Nat):cs.toList[i]? = (w.alloc (.cells cs t (0,0))).cell? ⟨w.heap.size,i,none⟩:=by
 have:(w.alloc (.cells cs t (0,0))).heap[w.heap.size]? = some (.cells cs t (0,0)):=by show (w.heap.push (.cells cs t (0,0)))[w.heap.size]? = _;simp
 simp only [World.cell?,this];simp
theorem ET {w0 w':World} {g':Gh} {st':St} {a':Act} {x:Operand} {d n:Nat} {g:Bool} {v:Value} {t:TypeId} (h:Rel cx Z g' st' a' w') (hn:bt st') (hd:look st'.tm d=some (.v (.ptr d 0))) (hdv:a'.tmps.getD d undef= .pointer (some ⟨w0.heap.size,0,none⟩))
 (hx:∀ t,x= .tmp t->t≠d->a'.tmps.getD t undef=v) (hlt:∀ t,x= .tmp t->t < a'.tmps.size) (hC:Ib g v v.cells.toList) (hlen:n=v.cells.size) (hw:w'=w0.alloc (.cells v.cells t (0,0))):bt (st'.rebind x d g n)/\Rel cx Z g' (st'.rebind x d g n) a' w':=by
 unfold St.rebind;cases x with
 | tmp t0 =>
   simp only;cases hb:Nat.beq t0 d with
   | true=>exact ⟨hn,h⟩
   | false =>
     simp only [adm];have hne:t0≠d:=aew hb;cases hl:st'.fT d 0 n with
     | none=>exact ⟨hn,h⟩
     | some l =>
       simp only;obtain ⟨b,o,vs,e1,e2,e3,e4⟩:=xJ h (p:= .ptr d 0) (n:=n) (l:=l) (h.tm d _ hd).2 hl;rw [hdv] at e1;simp only [Value.pointer.injEq,ac3,aei,aej] at e1;obtain ⟨rfl,rfl⟩:=e1;have hvs:vs=v.cells.toList:=by
        apply afG;intro i;rcases adj i vs.length with hi | hi
        . have:=e3 i _ (adi hi);rw [adA,hw] at this;rw [adi hi,<- this];exact (Cu w0 v.cells t i).symm
        . rw [adp hi,adp (by simp; omega)]
       rw [hvs] at e4;refine ⟨fun t tv ht => ?_,?_⟩
       . have ht:look ((t0,dV g l) :: st'.tm) t=some tv:=ht;rw [ba] at ht;split at ht
         . simp only [ac3] at ht;subst ht;intro hm;cases ho:dV g l with
           | may q w y g' l'=>exact jF ho
           | _=>rw [ho] at hm; exact hm
         . exact hn t tv ht
       . refine h.tell (tm:=st'.tm) (rt:=st'.rt) (hlt t0 rfl) ?_;rw [hx t0 rfl hne];exact xY hC e4
 | _=>exact ⟨hn,h⟩
theorem UY (h:Rel cx Z g st a w) (hn:bt st) (hsz:Fit cx E a) {o:Oper} {d:Nat} (hd:o.dst=some d) (hdn:jG cx a d) {t:TypeId} {x:Operand} (ho:o.op= .box t x) {ti:TI} {tx:TV} {p:Bool×List AV} {st':St}
 (hx:st.get x=some tx) (hp:tx.db = some p) (hf:st.free d=true) (hlive:p.2.all st.live=true) (hlen:p.2.length=ti.ks.length) (hs:(st.aE d (.v (.ptr d 0),some ⟨true,ti.ks.map mg⟩)).gQ d 0 ti.ks p.2=some st'):rC P cx E (st'.rebind x d p.1 ti.ks.length) a w o:=by
 have hc:=hn.cons.cons;obtain ⟨rv,rl⟩:=kG h (aM h hc hx) hp hlive;obtain ⟨g1,h1,hk,hbe⟩:=h.Bs (d:=d) hdn hf (cs:=(ti.ks.map zV).toArray) (e:=t) (l:=ti.ks.map mg) (by simp) (fun j c v hj hv=>by
  have hj':(ti.ks[j]?).map mg=some c:=by rw [<- adY]; exact hj
  have hv':(ti.ks[j]?).map zV=some v:=by rw [<- adY]; simpa using hv
  cases hk:ti.ks[j]? with
  | none=>rw [hk] at hj'; simp at hj'
  | some k0 => rw [hk] at hj' hv';simp only [adG,ac3] at hj' hv';exact .inl ⟨k0,hj'.symm,hv'.symm⟩) (tv:= .v (.ptr d 0)) (v:= .pointer (some ⟨w.heap.size,0,none⟩)) (.inl ⟨rfl,rfl⟩)
 have hsh:shape (st.aE d (.v (.ptr d 0),some ⟨true,ti.ks.map mg⟩)) d=some (true,ti.ks.length):=by unfold shape;rw [vw];simp
 obtain ⟨g',m1,m2,m3⟩:=nU (r:=d) (n:=ti.ks.length) ti.ks p.2 _ _ g1 _ 0 st' h1 hsh (aP.bZ hk _ _ rv) hs;rw [hbe,nu,Ce _ _ (by rw [<- dk rv,hlen]; simp),aec] at m1;have hnm':bt st':=fun t tv ht=>by
  rw [m2,bd] at ht;split at ht
  . simp only [ac3] at ht; subst ht; exact fun h=>h
  . exact hn t tv ht
 obtain ⟨hnm2,m1⟩:=ET (x:=x) (g:=p.1) m1 hnm' (d:=d) (v:=a.eval x) (by rw [m2,bd,if_pos rfl]) (by simp [Act.put,hdn.1]) (fun t ht hne=>by subst ht; simp [Act.put,Act.eval,adb,afP (Ne.symm hne)]) (fun t ht=>by
  subst ht;have ht2:(a.put (some d) (.pointer (some ⟨w.heap.size,0,none⟩))).tmps.size=a.tmps.size:=by simp [Act.put]
  rw [ht2];have hx:st.tv t=some tx:=hx;obtain ⟨tq,h1,_⟩:=Aq hn.cons hx;exact (h.tm t tq h1).1) (Ox h (aM h hc hx) hp hlive) (hlen.symm.trans rl.symm) rfl
 refine ⟨hnm2,fun next Q hk => ?_⟩
 . have hrun:(execOp a.eval o).run P w= .ok (.value (.pointer (some ⟨w.heap.size,0,none⟩))) (w.alloc (.cells (a.eval x).cells t (0,0))):=by
    simp [execOp,ho,Instr.box,newVar,newRow]
   unfold Oper.wp;rw [hrun,adI,hd];exact hk Z g' _ _ m1 (hsz.put _ _)
end
end Go.Av
namespace Go.Av
open Go.RowKit (Below)
section
variable {w w':World}
theorem iG:∀ (ks:List K) (x:Tl ks) (j:Nat) (G G':Nat->Nat->Prop) (cs cs':Array Value) (o o':Nat),(∀ q,q < ks.length->cs'[o' + q]? = cs[o + q]?)->(∀ j b,G j b->G' j b)->(∀ j b,G j b->b < w.heap.size->w'.heap[b]? = w.heap[b]?)->eP w ks x j G cs o->eP w' ks x j G' cs' o'
 | [],_,_,_,_,_,_,_,_,_,_,_,_=>trivial
 | k :: ks,x,j,G,G',cs,cs',o,o',hc,hG,hw,⟨⟨v,h1,h2⟩,h3⟩ =>
   ⟨⟨v,by rw [<- h1]; exact hc 0 (by simp),cO.frame k _ v (G j) (G' j) (hG j) (hw j) h2⟩,iG ks _ (j + 1) G G' cs cs' (o + 1) (o' + 1) (fun q hq=>by rw [show o' + 1 + q=o' + (q + 1) by omega,show o + 1 + q=o + (q + 1) by omega]; exact hc (q + 1) (by simp; omega)) hG hw h3⟩
structure vc (w:World) (ks:List K) (ys:List (Tl ks)) (news:List Value) (H:Nat->Nat->Nat->Prop) (F:Nat->Prop):Prop where
 len:news.length=ys.length * ks.length
 one:∀ v∈news,v.oneCell'=true
 sub:∀ i j b,H i j b->F b
 disj:∀ i j i' j' b,H i j b->H i' j' b->i=i'/\j=j'
 row:∀ (i:Nat) (y:Tl ks),ys[i]? = some y->eP w ks y 0 (H i) news.toArray (i * ks.length)
theorem yD {i m n q:Nat} (hi:i < m) (hq:q < n):i * n + q < m * n:=by have:=adz n (show i + 1<=m from hi);rw [adR,aeE] at this;omega
theorem uY {e:TypeId} {ks:List K} {xs:T (.sl e ks)} {ys:List (Tl ks)} {G:Nat->Nat->Nat->Prop} {cs:Array Value} {o:Nat} {news:List Value} {H:Nat->Nat->Nat->Prop} {FH:Nat->Prop} {F:Nat->Prop} {b0:Nat} {cap:Nat}
 (hG1:∀ i j b,G i j b->F b/\b≠b0) (hG2:∀ i j i' j' b,G i j b->G i' j' b->i=i'/\j=j') (hx:∀ i x,(aG xs)[i]? = some x->eP w ks x 0 (G i) cs (o + i * ks.length)) (hn:vc w ks ys news H FH) (hFH:∀ b,FH b->¬ F b/\b≠b0)
 {b o':Nat} {cs':Array Value} {el:TypeId} {fr:Nat×Nat} {F':Nat->Prop} (hb:w'.heap[b]? = some (.cells cs' el fr)) (hfr:∀ q,q < cs'.size + mk1 ks->¬ (fr.1<=q/\q < fr.2)) (hF'b:F' b) (hF':∀ q,F q->q≠b0->F' q) (hF'':∀ q,FH q->F' q) (hGb:∀ i j q,G i j q->q≠b) (hHb:∀ q,FH q->q≠b)
 (hsame:∀ q,q < w.heap.size->q≠b0->q≠b->w'.heap[q]? = w.heap[q]?)
 (hold:∀ q,q < (aG xs).length * ks.length->cs'[o' + q]? = cs[o + q]?) (hnew:∀ q,q < news.length->cs'[o' + (aG xs).length * ks.length + q]? = news[q]?) (hcap:(aG xs).length + ys.length<=cap) (hsz:o' + cap * ks.length<=cs'.size) (hbig:(aG xs).length + ys.length<=aT) :
 cO w' (.sl e ks) (cat ks (aG xs) ys) (.slice (some ⟨b,o',none⟩) ((aG xs).length + ys.length) cap) F':=by
 have hlen:(aG (e:=e) (ks:=ks) (cat ks (aG xs) ys)).length=(aG xs).length + ys.length:=ac4 ..
 refine ⟨_,cap,by rw [hlen],by rw [hlen]; exact hcap,by rw [hlen]; exact hbig,by simp,fun a' ha' => ?_⟩;simp only [ac3] at ha';subst ha';refine ⟨b,o',cs',el,fr,rfl,hF'b,hb,hfr,hsz,fun i j q=>if i < (aG xs).length then G i j q else H (i - (aG xs).length) j q,fun i j q hq => ?_,fun i j i' j' q h1 h2 => ?_,fun i x hi => ?_⟩
 . dsimp only at hq;split at hq
   . exact ⟨hF' q (hG1 i j q hq).1 (hG1 i j q hq).2,hGb i j q hq⟩
   . exact ⟨hF'' q (hn.sub _ _ _ hq),hHb q (hn.sub _ _ _ hq)⟩
 . dsimp only at h1 h2;split at h1
   . split at h2
     . exact hG2 _ _ _ _ _ h1 h2
     . exact absurd (hG1 _ _ _ h1).1 (hFH q (hn.sub _ _ _ h2)).1
   . split at h2
     . exact absurd (hG1 _ _ _ h2).1 (hFH q (hn.sub _ _ _ h1)).1
     . obtain ⟨e1,e2⟩:=hn.disj _ _ _ _ _ h1 h2;exact ⟨by omega,e2⟩
 . have hi':(aG xs ++ ys)[i]? = some x:=hi;by_cases hl:i < (aG xs).length
   . rw [ad3 hl] at hi';refine iG ks x 0 (G i) _ cs cs' _ _ (fun q hq => ?_) (fun j q hq => ?_) (fun j q hq hlt=>hsame q hlt (hG1 i j q hq).2 (hGb i j q hq)) (hx i x hi')
     . have:=hold (i * ks.length + q) (yD hl hq);rw [show o' + i * ks.length + q=o' + (i * ks.length + q) by omega,show o + i * ks.length + q=o + (i * ks.length + q) by omega];exact this
     . show (if i < (aG xs).length then G i j q else H (i - (aG xs).length) j q);rw [if_pos hl]; exact hq
   . rw [adV (by omega)] at hi';have hlt:i - (aG xs).length < ys.length:=by
      rcases adj (i - (aG xs).length) ys.length with h | h
      . exact h
      . simp [adp h] at hi'
     refine iG ks x 0 (H (i - (aG xs).length)) _ news.toArray cs' _ _ (fun q hq => ?_) (fun j q hq => ?_) (fun j q hq hlt'=>hsame q hlt' (hFH q (hn.sub _ _ _ hq)).2 (hHb q (hn.sub _ _ _ hq))) (hn.row _ x hi')
     . have hq':(i - (aG xs).length) * ks.length + q < news.length:=by rw [hn.len]; exact yD hlt hq
       have:=hnew _ hq';have hmul:i * ks.length=(aG xs).length * ks.length + (i - (aG xs).length) * ks.length:=by rw [<- adR]; congr 1; omega
       rw [show o' + i * ks.length + q=o' + (aG xs).length * ks.length + ((i - (aG xs).length) * ks.length + q) by omega,this];simp
     . show (if i < (aG xs).length then G i j q else H (i - (aG xs).length) j q);rw [if_neg hl]; exact hq
end
section
variable {P:Program} {cx:Cx P} {Z:Nat->Prop} {g:Gh} {st:St} {a:Act} {w:World} {E:En}
theorem Rel.wr (h:Rel cx Z g st a w) {w':World} {F:Nat->Prop} (hF:gK cx Z g st w F) (h1:w'.os=w.os) (h2:w'.tape=w.tape) (h3:w'.output=w.output) (hs:w.heap.size<=w'.heap.size) (hb:∀ b,b < w.heap.size->¬ F b->w'.heap[b]? = w.heap[b]?):Rel cx Z g st a w':=by
 have hz:∀ b,Z b->b < w.heap.size->w'.heap[b]? = w.heap[b]? := fun b hz hlt=>hb b hlt fun hf=>hF.z b hf hz
 have hfp:∀ r j b,g.fp r j b->w'.heap[b]? = w.heap[b]? := fun r j b hf=>hb b (h.fp r j b hf).1 fun hf'=>hF.fp b hf' r j hf
 have k:l8 Z Z w w' g g st st :=
  { size:=hs,z:=fun b hz' hlt=>⟨hz',hz b hz' hlt⟩,root:=fun r R hR=>⟨R,hR,rfl,fun _=>rfl⟩
    cell:=fun r j c hc=>⟨c,hc,ac7 _,ac7 _,fun _=>rfl,fun _ e ks xs hh=>⟨xs,hh,rfl⟩,fun _ _=>⟨rfl,fun b hb' _=>⟨hb',hfp r j b hb'⟩⟩⟩
    own:=fun r j b hb'=>(h.fp r j b hb').1
    block:=(eO h (st':=st) (w':=w) rfl rfl).block }
 refine { os:=h1.trans h.os,tape:=h2.trans h.tape,output:=h3.trans h.output,size:=ady h.size hs,block := ?_,bS:=fun b hb'=>⟨adw (h.bS b hb').1 hs,(h.bS b hb').2⟩,z0:=h.z0,fp := ?_,disj:=h.disj,box := ?_,cell := ?_,tm := ?_,defers:=h.defers,pin:=h.pin }
 . intro b hlt hf;refine (hb b (adw hlt h.size) fun hf' => ?_).trans (h.block b hlt hf);rcases hF.own b hf' with h4 | h4
   . exact hf h4
   . omega
 . intro r j b hb';obtain ⟨h1,h2,h3,h4⟩:=h.fp r j b hb';exact ⟨adw h1 hs,h2,h3,h4⟩
 . intro r R hR hbx;obtain ⟨b1,b2,b3,b4,cs,e,fr,b5,b6⟩:=h.box r R hR hbx;have hlt:g.be r < w.heap.size:=by
    rcases adj (g.be r) w.heap.size with hh | hh
    . exact hh
    . simp [adr hh] at b5
   exact ⟨b1,b2,b3,b4,cs,e,fr,by rw [hb _ hlt fun hf=>hF.box _ hf r R hR hbx rfl]; exact b5,b6⟩
 . intro r j c hc;exact jo.bZ k _ _ _ _ (h.cell r j c hc) (fun _ h=>h) (fun b hb' _=>hfp r j b hb')
 . exact fun t tv ht=>⟨(h.tm t tv ht).1,bD.bZ k _ _ (h.tm t tv ht).2⟩
theorem Rel.AQ (h:Rel cx Z g st a w) {d:Nat} (hd:jG cx a d) (hf:st.free d=true) {k:K} {x:T k} {v:Value} {F:Nat->Prop} (hF:∀ b,F b->b < w.heap.size/\(cx.F0 b∨cx.w0.heap.size<=b)/\¬ Z b/\(∀ r j,¬ g.fp r j b)/\(∀ r' R',look st.rt r'=some R'->R'.box=true->g.be r'≠b)) (ho:cO w k x v F) :
 ∃ g',Rel cx Z g' (st.aE d (.v (.ref d 0 0),some ⟨false,[⟨0,0,.own k x⟩]⟩)) (a.put (some d) v) w:=by
 have h6:=Rel.qL h (r:=d) (be:=0) (R:=⟨false,[⟨0,0,.own k x⟩]⟩) (cv:=fun _=>v) (fp:=fun j b=>j=0/\F b) (lE hf)
  (fun j b hb=>⟨(hF b hb.2).1,(hF b hb.2).2.1,(hF b hb.2).2.2.1,(hF b hb.2).2.2.2.1,(hF b hb.2).2.2.2.2,⟨0,0,.own k x⟩,k,x,by rw [hb.1]; rfl,rfl⟩)
  (fun j j' b h1 h2=>h1.1.trans h2.1.symm) (fun hb=>by simp at hb)
  (fun j c hj=>by
    cases j with
    | zero => simp only [adf,ac3] at hj;subst hj;exact cO.frame _ _ _ _ _ (fun b hb=>⟨rfl,hb⟩) (fun _ _ _=>rfl) ho
    | succ j=>simp at hj)
 refine ⟨_,h6.fA hd (tv:= .v (.ref d 0 0)) ⟨⟨0,0,.own k x⟩,?_,ac7 _,fun _=>by simp [Gh.at]⟩⟩;show (match look ((d,(⟨false,[⟨0,0,.own k x⟩]⟩:Rt)) :: st.rt) d with | some R=>R.cells[0]? | none=>none)=_;rw [ba,if_pos rfl];rfl
end
end Go.Av
namespace Go.Av
open Go.RowKit (Below)
section
variable {P:Program} {w:World} {E:En}
theorem ud {t t2 ty:TypeId} {e:TypeId} {te:TI} (ht:P.underlying t=some (.slice e)) (hTe:qx P e te) {d2:TypeDesc} (h2:P.underlying t2=some d2) (h2':∀ k,d2≠ .int k) {b o sLen sCap n:Nat} {vx:Value} {news:List Value} {ats:Array TypeId} (hat:ats[0]? = some t) (hat2:ats[1]? = some t2)
 (hl:(Builtin.lenOf vx).run P w= .ok n w) (hf:(Builtin.firstCells te.ks.length n vx).run P w= .ok news.toArray w) (hc:sLen + n<=sCap) (h1:∀ u∈news,u.oneCell'=true)
 (hcell:∀ j,j < news.length->∃ cs el fr,w.heap[b]? = some (.cells cs el fr)/\o + sLen * te.ks.length + j < cs.size/\¬ (fr.1<=o + sLen * te.ks.length + j/\o + sLen * te.ks.length + j < fr.2)) :
 (Builtin.append_ ats ty #[.slice (some ⟨b,o,none⟩) sLen sCap,vx]).run P w= .ok (.slice (some ⟨b,o,none⟩) (sLen + n) sCap) (w.setCells b (o + sLen * te.ks.length) news):=by
 have hst:=run_storeCells_cells (P:=P) b (o + sLen * te.ks.length) news 0 w (fun j hj=>by
  obtain ⟨cs,el,fr,e1,e2,_⟩:=hcell j hj;simp [World.cell?,e1,e2]) (fun j hj=>by
  obtain ⟨cs,el,fr,e1,e2,e3⟩:=hcell j hj;simp only [World.frozen?,adO,e1];simp only [afN,afk];by_cases h:fr.1<=o + sLen * te.ks.length + j
  . exact .inr fun h'=>e3 ⟨h,h'⟩
  . exact .inl h) h1
 rw [adO] at hst;have hz:(match d2 with | .int _=>true | _=>false)=false:=by cases d2 <;> first | rfl | exact absurd rfl (h2' _)
 simp only [Builtin.append_,hat,hat2,adS,adf,ad2,adv,adH ht,adh,bM hTe,adH h2,adN,hz,adQ,aek,hl,hc,if_true,aeV,hf,gI,hst]
theorem append_nil {t t2 ty:TypeId} {e:TypeId} {te:TI} (ht:P.underlying t=some (.slice e)) (hTe:qx P e te) {d2:TypeDesc} (h2:P.underlying t2=some d2) (h2':∀ k,d2≠ .int k) {vx:Value} {news:List Value} {ats:Array TypeId} (hat:ats[0]? = some t) (hat2:ats[1]? = some t2)
 (hl:(Builtin.lenOf vx).run P w= .ok 0 w) (hf:(Builtin.firstCells te.ks.length 0 vx).run P w= .ok news.toArray w) :
 (Builtin.append_ ats ty #[.slice none 0 0,vx]).run P w= .ok (.slice none 0 0) w:=by
 have hz:(match d2 with | .int _=>true | _=>false)=false:=by cases d2 <;> first | rfl | exact absurd rfl (h2' _)
 simp only [Builtin.append_,hat,hat2,adS,adf,ad2,adv,adH ht,adh,bM hTe,adH h2,adN,hz,adQ,aek,hl,ac7,adO,if_true,aeV,hf]
theorem qY {t t2 ty:TypeId} {e:TypeId} {te:TI} (ht:P.underlying t=some (.slice e)) (hTe:qx P e te) {d2:TypeDesc} (h2:P.underlying t2=some d2) (h2':∀ k,d2≠ .int k) {base:Option Addr} {sLen sCap n:Nat} {vx:Value} {olds news:List Value} {ats:Array TypeId} (hat:ats[0]? = some t) (hat2:ats[1]? = some t2)
 (hl:(Builtin.lenOf vx).run P w= .ok n w) (hfo:(Builtin.firstCells te.ks.length sLen (.slice base sLen sCap)).run P w.drew= .ok olds.toArray w.drew) (hf:(Builtin.firstCells te.ks.length n vx).run P w.drew= .ok news.toArray w.drew) (hc:sCap < sLen + n) (hby:0 < te.bytes) (hb:(sLen + n) * te.bytes<=aT) :
 ∃ zs:Array Value,zs.size=(grownCap w (sLen + n) sCap e - (sLen + n)) * te.ks.length/\(Builtin.append_ ats ty #[.slice base sLen sCap,vx]).run P w= .ok (.slice (some ⟨w.heap.size,0,none⟩) (sLen + n) (grownCap w (sLen + n) sCap e)) (w.drew.alloc (.cells (olds.toArray ++ news.toArray ++ zs) e (0,0))):=by
 have hz:(match d2 with | .int _=>true | _=>false)=false:=by cases d2 <;> first | rfl | exact absurd rfl (h2' _)
 obtain ⟨i,e1,e2,e3,z,e4,e5⟩:=hTe.info;have hzs:z.cells.size=te.ks.length:=by rw [<- adW,e5]; simp
 refine ⟨Builtin.zeroCells z.cells (grownCap w (sLen + n) sCap e - (sLen + n)),by rw [size_zeroCells,hzs],?_⟩;have hn:¬ (sLen + n<=sCap):=by omega
 have hbb:(sLen + n) * te.bytes<=140737488355328:=hb;have hle:sLen + n<=(sLen + n) * te.bytes:=aeN _ hby;have h63:¬ (9223372036854775807 < ((sLen:Int) + (n:Int))):=by omega
 have h48:¬ (281474976710656 < Builtin.nextslicecap (sLen + n) sCap * i.bytes):=by have:=growslice_fits (need:=sLen + n) (old:=sCap) (bytes:=i.bytes) hc (by rw [e3]; exact hbb);omega
 have hfo':(Builtin.firstCells i.size sLen (.slice base sLen sCap)).run P w.drew= .ok olds.toArray w.drew:=by rw [e2]; exact hfo
 have hf':(Builtin.firstCells i.size n vx).run P w.drew= .ok news.toArray w.drew:=by rw [e2]; exact hf
 simp [Builtin.append_,hat,hat2,adH ht,adH h2,sizeOf,typeInfo,zeroValue,e1,e4,hl,hn,h63,h48,Question.forced,hf',hfo',newRow,grownCap,hz];congr 2;rw [<- afs];congr 1;simp
end
end Go.Av
namespace Go.Av
open Go.RowKit (Below)
section
variable {P:Program} {cx:Cx P} {Z:Nat->Prop} {g:Gh} {st:St} {a:Act} {w:World} {E:En}
theorem hJ {fresh:Bool} {H:Nat->Nat->Prop}:∀ (ks:List K) (x:Tl ks) (cs:List Value) (j:Nat),aQ fresh Z w H ks x cs j->cs.length=ks.length
 | [],_,[],_,_=>rfl
 | .sl e ks' :: ks,x,v :: vs,j,h=>adU (· + 1) (hJ ks x.2 vs _ h.2)
 | .int _ :: ks,x,v :: vs,j,h=>adU (· + 1) (hJ ks x.2 vs _ h.2)
 | .bool :: ks,x,v :: vs,j,h=>adU (· + 1) (hJ ks x.2 vs _ h.2)
 | .str :: ks,x,v :: vs,j,h=>adU (· + 1) (hJ ks x.2 vs _ h.2)
 | [],_,_ :: _,_,h=>h.elim
 | .sl _ _ :: _,_,[],_,h=>h.elim
 | .int _ :: _,_,[],_,h=>h.elim
 | .bool :: _,_,[],_,h=>h.elim
 | .str :: _,_,[],_,h=>h.elim
theorem gk {H:Nat->Nat->Prop}:∀ (ks:List K) (x:Tl ks) (cs:List Value) (j:Nat),aQ true Z w H ks x cs j->∀ u∈cs,u.oneCell'=true
 | [],_,[],_,_=>by simp
 | .sl e ks' :: ks,x,v :: vs,j,h=>fun u hu=>by
   rcases adg.1 hu with hu | hu
   . subst hu; exact (rJ h.1).2
   . exact gk ks x.2 vs _ h.2 u hu
 | .int _ :: ks,x,v :: vs,j,h=>fun u hu=>by
   rcases adg.1 hu with hu | hu
   . subst hu; exact (oF h.1).2
   . exact gk ks x.2 vs _ h.2 u hu
 | .bool :: ks,x,v :: vs,j,h=>fun u hu=>by
   rcases adg.1 hu with hu | hu
   . subst hu; exact (oF (k:= .bool) h.1).2
   . exact gk ks x.2 vs _ h.2 u hu
 | .str :: ks,x,v :: vs,j,h=>fun u hu=>by
   rcases adg.1 hu with hu | hu
   . subst hu; exact (oF (k:= .str) h.1).2
   . exact gk ks x.2 vs _ h.2 u hu
 | [],_,_ :: _,_,h=>h.elim
 | .sl _ _ :: _,_,[],_,h=>h.elim
 | .int _ :: _,_,[],_,h=>h.elim
 | .bool :: _,_,[],_,h=>h.elim
 | .str :: _,_,[],_,h=>h.elim
theorem mT {H:Nat->Nat->Prop} (hd:∀ n m b,H n b->H m b->n=m) {cs:Array Value}:∀ (ks:List K) (x:Tl ks) (vs:List Value) (j j0 o:Nat),aQ true Z w H ks x vs j->(∀ q,q < vs.length->cs[o + q]? = vs[q]?) ->
 ∃ G:Nat->Nat->Prop,eP w ks x j0 G cs o/\(∀ q b,G q b->j0<=q/\∃ n,j<=n/\H n b)/\(∀ q q' b,G q b->G q' b->q=q')
 | [],_,[],j,j0,o,_,_=>⟨fun _ _=>False,trivial,fun _ _ h=>h.elim,fun _ _ _ h=>h.elim⟩
 | .sl e ks' :: ks,x,v :: vs,j,j0,o,h,hc=>by
   obtain ⟨G,g1,g2,g3⟩:=mT hd ks x.2 vs (j + 1) (j0 + 1) (o + 1) h.2 fun q hq=>by rw [show o + 1 + q=o + (q + 1) by omega]; exact hc (q + 1) (by simp; omega)
   refine ⟨fun q b=>if q=j0 then H j b else G q b,⟨⟨v,by have:=hc 0 (by simp); simpa using this,cO.frame _ _ _ _ _ (fun b hb=>by dsimp only; rw [if_pos rfl]; exact hb) (fun _ _ _=>rfl) h.1⟩,?_⟩,fun q b hb => ?_,fun q q' b hb hb' => ?_⟩
   . refine eP.frame ks x.2 (j0 + 1) G _ cs (o + 1) (fun q b hb => ?_) (fun _ _ _ _=>rfl) g1;have:=(g2 q b hb).1;rw [if_neg (by omega)];exact hb
   . dsimp only at hb;split at hb
     . exact ⟨by omega,j,ac7 _,hb⟩
     . obtain ⟨k1,n,k2,k3⟩:=g2 q b hb;exact ⟨by omega,n,by omega,k3⟩
   . dsimp only at hb hb';split at hb
     . split at hb'
       . omega
       . obtain ⟨_,n,k2,k3⟩:=g2 q' b hb';have:=hd j n b hb k3;omega
     . split at hb'
       . obtain ⟨_,n,k2,k3⟩:=g2 q b hb;have:=hd j n b hb' k3;omega
       . exact g3 q q' b hb hb'
 | .int k :: ks,x,v :: vs,j,j0,o,h,hc=>by
   obtain ⟨G,g1,g2,g3⟩:=mT hd ks x.2 vs j (j0 + 1) (o + 1) h.2 fun q hq=>by rw [show o + 1 + q=o + (q + 1) by omega]; exact hc (q + 1) (by simp; omega)
   exact ⟨G,⟨⟨v,by have:=hc 0 (by simp); simpa using this,iD rfl h.1⟩,g1⟩,fun q b hb=>⟨by have:=(g2 q b hb).1; omega,(g2 q b hb).2⟩,g3⟩
 | .bool :: ks,x,v :: vs,j,j0,o,h,hc=>by
   obtain ⟨G,g1,g2,g3⟩:=mT hd ks x.2 vs j (j0 + 1) (o + 1) h.2 fun q hq=>by rw [show o + 1 + q=o + (q + 1) by omega]; exact hc (q + 1) (by simp; omega)
   exact ⟨G,⟨⟨v,by have:=hc 0 (by simp); simpa using this,iD (k:= .bool) rfl h.1⟩,g1⟩,fun q b hb=>⟨by have:=(g2 q b hb).1; omega,(g2 q b hb).2⟩,g3⟩
 | .str :: ks,x,v :: vs,j,j0,o,h,hc=>by
   obtain ⟨G,g1,g2,g3⟩:=mT hd ks x.2 vs j (j0 + 1) (o + 1) h.2 fun q hq=>by rw [show o + 1 + q=o + (q + 1) by omega]; exact hc (q + 1) (by simp; omega)
   exact ⟨G,⟨⟨v,by have:=hc 0 (by simp); simpa using this,iD (k:= .str) rfl h.1⟩,g1⟩,fun q b hb=>⟨by have:=(g2 q b hb).1; omega,(g2 q b hb).2⟩,g3⟩
 | [],_,_ :: _,_,_,_,h,_=>h.elim
 | .sl _ _ :: _,_,[],_,_,_,h,_=>h.elim
 | .int _ :: _,_,[],_,_,_,h,_=>h.elim
 | .bool :: _,_,[],_,_,_,h,_=>h.elim
 | .str :: _,_,[],_,_,_,h,_=>h.elim
theorem nP {Z':Nat->Prop} {G:Nat->Nat->Prop} {cs:Array Value}:∀ (ks:List K) (x:Tl ks) (j b o o':Nat),flat ks=true->wP Z' w ks x b o->(∀ q,q < ks.length->cs[o' + q]? = w.cell? ⟨b,o + q,none⟩)->eP w ks x j G cs o'
 | [],_,_,_,_,_,_,_,_=>trivial
 | .int k :: ks,x,j,b,o,o',hf,⟨⟨v,h1,h2⟩,h3⟩,hc=>⟨⟨v,by rw [<- h1]; exact hc 0 (by simp),iD rfl h2⟩,nP ks x.2 (j + 1) b (o + 1) (o' + 1) hf h3 fun q hq=>by rw [show o' + 1 + q=o' + (q + 1) by omega,show o + 1 + q=o + (q + 1) by omega]; exact hc (q + 1) (by simp; omega)⟩
 | .bool :: ks,x,j,b,o,o',hf,⟨⟨v,h1,h2⟩,h3⟩,hc=>⟨⟨v,by rw [<- h1]; exact hc 0 (by simp),iD (k:= .bool) rfl h2⟩,nP ks x.2 (j + 1) b (o + 1) (o' + 1) hf h3 fun q hq=>by rw [show o' + 1 + q=o' + (q + 1) by omega,show o + 1 + q=o + (q + 1) by omega]; exact hc (q + 1) (by simp; omega)⟩
 | .str :: ks,x,j,b,o,o',hf,⟨⟨v,h1,h2⟩,h3⟩,hc=>⟨⟨v,by rw [<- h1]; exact hc 0 (by simp),iD (k:= .str) rfl h2⟩,nP ks x.2 (j + 1) b (o + 1) (o' + 1) hf h3 fun q hq=>by rw [show o' + 1 + q=o' + (q + 1) by omega,show o + 1 + q=o + (q + 1) by omega]; exact hc (q + 1) (by simp; omega)⟩
 | .sl _ _ :: _,_,_,_,_,_,hf,_,_=>by simp [flat] at hf
theorem E8 {Z':Nat->Prop}:∀ (ks:List K) (x:Tl ks) (b o q:Nat),wP Z' w ks x b o->q < ks.length->∃ v,w.cell? ⟨b,o + q,none⟩=some v/\v.oneCell'=true
 | [],_,_,_,_,_,hq=>by simp at hq
 | k :: ks,x,b,o,0,⟨⟨v,h1,h2⟩,_⟩,_=>⟨v,h1,(oF h2).2⟩
 | k :: ks,x,b,o,q + 1,⟨_,h3⟩,hq=>by obtain ⟨v,h1,h2⟩:=E8 ks x.2 b (o + 1) q h3 (by simpa using hq);exact ⟨v,by rw [show o + (q + 1)=o + 1 + q by omega]; exact h1,h2⟩
theorem xr {G:Nat->Nat->Prop} {cs:Array Value}:∀ (ks:List K) (x:Tl ks) (j o q:Nat),eP w ks x j G cs o->q < ks.length->∃ v,cs[o + q]? = some v/\v.oneCell'=true
 | [],_,_,_,_,_,hq=>by simp at hq
 | k :: ks,x,j,o,0,⟨⟨v,h1,h2⟩,_⟩,_=>⟨v,h1,(rJ h2).2⟩
 | k :: ks,x,j,o,q + 1,⟨_,h3⟩,hq=>by obtain ⟨v,h1,h2⟩:=xr ks x.2 (j + 1) (o + 1) q h3 (by simpa using hq);exact ⟨v,by rw [show o + (q + 1)=o + 1 + q by omega]; exact h1,h2⟩
theorem sS {m n q:Nat} (h:q < m * n):q / n < m/\q % n < n/\q=q / n * n + q % n:=by
 have hn:0 < n:=by
  rcases aeU n with h0 | h0
  . subst h0; simp at h
  . exact h0
 exact ⟨Nat.div_lt_of_lt_mul (by rw [afS]; exact h),afQ _ hn,by rw [afS]; exact (Nat.div_add_mod q n).symm⟩
structure xl (P:Program) (cx:Cx P) (Z:Nat->Prop) (g g':Gh) (st st':St) (w:World) (ks:List K) (ys:List (Tl ks)) (v:Value) (news:List Value) (H:Nat->Nat->Nat->Prop) (FH:Nat->Prop):Prop where
 rows:vc w ks ys news H FH
 len:(Builtin.lenOf v).run P w= .ok ys.length w
 cells:∀ w1:World,w1.heap=w.heap->(Builtin.firstCells ks.length ys.length v).run P w1= .ok news.toArray w1
 free:gK cx Z g' st' w FH
 other:∀ F,gK cx Z g st w F->gK cx Z g' st' w F/\∀ b,FH b->¬ F b
 tm:st'.tm=st.tm
theorem xl.Bb {ks:List K} {ys:List (Tl ks)} {v:Value} {news:List Value} (h1:news.length=ys.length * ks.length) (h2:∀ u∈news,u.oneCell'=true) (h3:∀ (i:Nat) (y:Tl ks),ys[i]? = some y->eP w ks y 0 (fun _ _=>False) news.toArray (i * ks.length))
 (h4:(Builtin.lenOf v).run P w= .ok ys.length w) (h5:∀ w1:World,w1.heap=w.heap->(Builtin.firstCells ks.length ys.length v).run P w1= .ok news.toArray w1):xl P cx Z g g st st w ks ys v news (fun _ _ _=>False) (fun _=>False) :=
 ⟨⟨h1,h2,fun _ _ _ h=>h,fun _ _ _ _ _ h=>h.elim,h3⟩,h4,h5,gK.none _ _ _ _ _,fun F hF=>⟨hF,fun _ h=>h.elim⟩,rfl⟩
theorem HZ (h:Rel cx Z g st a w) {e:TypeId} {ks:List K} {z:T (.sl e ks)} {v:Value} (hro:RO (fZ w) w (.sl e ks) z v) (hf:flat ks=true):∃ news,xl P cx Z g g st st w ks (aG z) v news (fun _ _ _=>False) (fun _=>False):=by
 obtain ⟨aa,c,rfl,h2,h3,h4,h5⟩:=hro;by_cases hne:aG z=[]
 . refine ⟨[],xl.Bb (by rw [hne]; simp) (by simp) (fun i y hi=>by rw [hne] at hi; simp at hi) rfl fun w1 _ => ?_⟩;rw [hne];cases aa with
   | none=>exact run_firstCells_none (P:=P) w1 _ _ _ _
   | some b=>exact run_firstCells_some (P:=P) w1 _ _ b _ _ [] (by simp) (fun j v hj=>by simp at hj)
 . obtain ⟨b,o,rfl,_,_,hrow⟩:=h5 hne;have hcell:∀ q,q < (aG z).length * ks.length->∃ v,w.cell? ⟨b,o + q,none⟩=some v/\v.oneCell'=true:=fun q hq=>by
    obtain ⟨q1,q2,q3⟩:=sS hq;obtain ⟨v,k1,k2⟩:=E8 ks _ b _ (q % ks.length) (hrow _ _ (adi q1)) q2;exact ⟨v,by rw [q3,<- aeK]; exact k1,k2⟩
   have hnl:∀ q,q < (aG z).length * ks.length->((List.range ((aG z).length * ks.length)).map fun q=>(w.cell? ⟨b,o + q,none⟩).getD undef)[q]? = w.cell? ⟨b,o + q,none⟩:=fun q hq=>by obtain ⟨v,k1,_⟩:=hcell q hq;simp [hq,k1]
   refine ⟨(List.range ((aG z).length * ks.length)).map fun q=>(w.cell? ⟨b,o + q,none⟩).getD undef,xl.Bb (by simp) (fun u hu => ?_) (fun i y hi => ?_) rfl fun w1 hw1 => ?_⟩
   . obtain ⟨q,hq,rfl⟩:=ae9.1 hu;obtain ⟨v,k1,k2⟩:=hcell q (ad9.1 hq);rw [k1];exact k2
   . have hil:i < (aG z).length:=by
      rcases adj i (aG z).length with hh | hh
      . exact hh
      . simp [adp hh] at hi
     refine nP ks y 0 b _ _ hf (hrow i y hi) fun q hq => ?_
     have:=hnl (i * ks.length + q) (yD hil hq);rw [adS,this,aeK]
   . refine run_firstCells_some (P:=P) w1 _ _ ⟨b,o,none⟩ _ _ _ (by simp) fun j v hj => ?_
     have hjl:j < (aG z).length * ks.length:=by
      rcases adj j ((aG z).length * ks.length) with hh | hh
      . exact hh
      . rw [adp (by simpa using hh)] at hj; simp at hj
     rw [hnl j hjl] at hj;rw [gI];simp only [World.cell?,hw1] at hj ⊢;exact hj
end
end Go.Av
namespace Go.Av
open Go.RowKit (Below)
section
variable {P:Program} {cx:Cx P} {Z:Nat->Prop} {g:Gh} {st:St} {a:Act} {w:World} {E:En}
def lg:List UInt8->List Value
 | []=>[]
 | c :: s=> .int .u8 c.toNat :: lg s
theorem mx:∀ s,(lg s).length=s.length
 | []=>rfl
 | _ :: s=>adU (· + 1) (mx s)
theorem me:∀ s:List UInt8,lg s=s.map fun b=>Value.int .u8 b.toNat
 | []=>rfl
 | c :: s=>adU (Value.int .u8 c.toNat :: ·) (me s)
theorem rF:∀ (s:List UInt8) (i:Nat),i < s.length->(lg s)[i]? = some (.int .u8 (s.getD i 0).toNat)
 | [],i,h=>by simp at h
 | c :: s,0,_=>rfl
 | c :: s,i + 1,h=>rF s i (by simpa using h)
theorem Mj (e:TypeId) (s:List UInt8):∃ news,xl P cx Z g g st st w [.int .u8] (aG (e:=e) (bytesOf s)) (.string (et s)) news (fun _ _ _=>False) (fun _=>False):=by
 have hl:(aG (e:=e) (bytesOf s)).length=s.length:=bytesOf_length s;refine ⟨lg s,xl.Bb (by rw [mx,hl]; simp) (fun u hu => ?_) (fun i y hi => ?_) ?_ fun w1 _ => ?_⟩
 . rw [me] at hu;obtain ⟨c,_,rfl⟩:=ae9.1 hu;rfl
 . obtain ⟨hi1,rfl⟩:=mF s i y hi;refine ⟨⟨_,by rw [adS]; simpa using rF s i hi1,rfl,?_⟩,trivial⟩;have:=(s.getD i 0).toNat_lt;have e1:IntKind.u8.min=0:=rfl;have e2:IntKind.u8.max=255:=rfl;unfold mq;rw [e1,e2];show 0<=((s.getD i 0).toNat:Int)/\((s.getD i 0).toNat:Int)<=255;omega
 . rw [hl];show Result.ok (et s).size w=_;rw [jd]
 . rw [hl];have:((et s).extract 0 s.length).data.map (fun b=>Value.int .u8 b.toNat)=(lg s).toArray:=by
    rw [me];have h2:(et s).extract 0 s.length=et s:=by have:s.length=(et s).size:=(jd s).symm;rw [this];apply afX;simp [ByteArray.data_extract]
    rw [h2];simp [et]
   show Result.ok (((et s).extract 0 s.length).data.map (fun b=>Value.int .u8 b.toNat)) w1=_;rw [this]
theorem KZ {g':Gh} {st':St} {e:TypeId} {ks:List K} {z:T (.sl e ks)} {v:Value} {F:Nat->Prop} (ho:cO w (.sl e ks) z v F) (hF:gK cx Z g' st' w F) (hfp:∀ r j b,g'.fp r j b->g.fp r j b) (hsub:∀ b,F b->∃ r j,g.fp r j b) (hbe:g'.be=g.be) (hbx:∀ r R',look st'.rt r=some R'->∃ R,look st.rt r=some R/\R'.box=R.box) (htm:st'.tm=st.tm) :
 ∃ news H,xl P cx Z g g' st st' w ks (aG z) v news H F:=by
 have oth:∀ F',gK cx Z g st w F'->gK cx Z g' st' w F'/\∀ b,F b->¬ F' b:=fun F' h'=>⟨h'.mono hfp hbe hbx,fun b hb hb'=>by obtain ⟨r,j,hh⟩:=hsub b hb;exact h'.fp b hb' r j hh⟩
 obtain ⟨aa,c,rfl,h2,h3,h4,h5⟩:=ho;cases aa with
 | none => have hz:aG z=[]:=adl.1 (by have:=h4 rfl; omega);refine ⟨[],fun _ _ _=>False,⟨by rw [hz]; simp,by simp,fun _ _ _ h=>h.elim,fun _ _ _ _ _ h=>h.elim,fun i y hi=>by rw [hz] at hi; simp at hi⟩,rfl,fun w1 _=>by rw [hz]; exact run_firstCells_none (P:=P) w1 _ _ _ _,hF,oth,htm⟩
 | some aa =>
   obtain ⟨b,o,cs,el,fr,rfl,k2,k3,k4,k5,G,k6,k7,k8⟩:=h5 _ rfl;have hbound:∀ q,q < (aG z).length * ks.length->o + q < cs.size:=fun q hq=>by have:=adz ks.length h2;omega
   have hnl:∀ q,q < (aG z).length * ks.length->((List.range ((aG z).length * ks.length)).map fun q=>cs.getD (o + q) undef)[q]? = cs[o + q]? := fun q hq=>by have:=hbound q hq;simp [hq,this]
   refine ⟨(List.range ((aG z).length * ks.length)).map fun q=>cs.getD (o + q) undef,G,⟨by simp,fun u hu => ?_,fun i j b' hb'=>(k6 i j b' hb').1,k7,fun i y hi => ?_⟩,rfl,fun w1 hw1 => ?_,hF,oth,htm⟩
   . obtain ⟨q,hq,rfl⟩:=ae9.1 hu;obtain ⟨q1,q2,q3⟩:=sS (ad9.1 hq);obtain ⟨v,f1,f2⟩:=xr ks _ 0 _ (q % ks.length) (k8 _ _ (adi q1)) q2;rw [aeK,<- q3] at f1;rw [adb,f1];exact f2
   . have hil:i < (aG z).length:=by
      rcases adj i (aG z).length with hh | hh
      . exact hh
      . simp [adp hh] at hi
     refine iG ks y 0 (G i) (G i) cs _ _ _ (fun q hq => ?_) (fun _ _ h=>h) (fun _ _ _ _=>rfl) (k8 i y hi);rw [adS,hnl _ (yD hil hq),aeK]
   . refine run_firstCells_some (P:=P) w1 _ _ ⟨b,o,none⟩ _ _ _ (by simp) fun j v hj => ?_
     have hjl:j < (aG z).length * ks.length:=by
      rcases adj j ((aG z).length * ks.length) with hh | hh
      . exact hh
      . rw [adp (by simpa using hh)] at hj; simp at hj
     rw [hnl j hjl] at hj;rw [gI];simp only [World.cell?,hw1,k3];exact hj
theorem H5 (h:Rel cx Z g st a w) {r:Nat} {l:List RC} {v:Value} {ks:List K} {x:Tl ks} {st':St} (hl:look st.rt r=some ⟨true,l⟩) (hv:v= .slice (some ⟨g.be r,0,none⟩) 1 1) (ht:kH st true ks (l.map DI)=some (st',x)) :
 ∃ g' news H FH,Rel cx Z g' st' a w/\xl P cx Z g g' st st' w ks [x] v news H FH:=by
 obtain ⟨b1,b2,b3,b4,cs,el,fr,b5,b6,b7,b8⟩:=h.box r _ hl rfl;have hrel:aP Z g st w (l.map DI) cs.toList:=by
  refine lr (by simp [b7]) fun j y u hj hu => ?_
  rw [adY] at hj;cases hc:l[j]? with
  | none=>rw [hc] at hj; simp at hj
  | some c =>
    rw [hc] at hj;simp only [adG,ac3] at hj;have hcell:st.cell r j=some c:=by simp only [St.cell,hl]; exact hc
    have hjl:j < cs.size:=by rw [b7];exact Ax hcell hl
    rw [ac8,b8 j hjl] at hu;simp only [ac3] at hu;subst hj;subst hu;unfold DI;cases hcv:c.v with
    | own k y=>trivial
    | av y=>exact Bp h hcell hcv
 obtain ⟨g',H0,m1,m2,m3⟩:=j6 true ks (l.map DI) cs.toList st g st' x 0 h hrel ht;have htm:st'.tm=st.tm:=by
  have:∀ (ks:List K) (l:List AV) (st st':St) (x:Tl ks),kH st true ks l=some (st',x)->st'.tm=st.tm:=by
   intro ks;induction ks with
   | nil=>intro l st st' x hh; cases l with | nil=>cases hh; rfl | cons _ _=>simp [kH] at hh
   | cons k ks ih =>
     intro l st st' x hh;cases l with
     | nil=>cases k <;> simp [kH] at hh
     | cons av l =>
       cases k with
       | sl e ks' =>
         unfold kH at hh;simp only [ac6] at hh;split at hh
         . rename_i st1 y hy;split at hh
           . rename_i q hq;cases hh;exact (ih l st1 q.1 q.2 hq).trans (ri hy 0).2
           . simp at hh
         . simp at hh
       | _ =>
         unfold kH at hh;split at hh
         . rename_i y q hy hf hq;cases hh;exact ih l st q.1 q.2 hq
         . simp at hh
  exact this ks _ st st' x ht
 obtain ⟨G,n1,n2,n3⟩:=mT (H:=H0) m2.disj (cs:=cs) ks x cs.toList 0 0 0 m3 fun q hq=>by rw [adA,ac8]
 have hlen:=hJ ks x _ 0 m3;have hfree:gK cx Z g' st' w (fun b=>∃ n,H0 n b):=⟨fun b ⟨n,hb⟩=>(m2.free n).lt b hb,fun b ⟨n,hb⟩=>(m2.free n).own b hb,fun b ⟨n,hb⟩=>(m2.free n).z b hb,fun b ⟨n,hb⟩=>(m2.free n).fp b hb,fun b ⟨n,hb⟩=>(m2.free n).box b hb⟩;refine ⟨g',cs.toList,fun i j b=>i=0/\G j b,fun b=>∃ n,H0 n b,m1,⟨by simpa using hlen,gk ks x _ 0 m3,fun i j b hb=>by
  obtain ⟨_,n,_,hh⟩:=n2 j b hb.2;exact ⟨n,hh⟩,fun i j i' j' b hb hb'=>⟨hb.1.trans hb'.1.symm,n3 j j' b hb.2 hb'.2⟩,fun i y hi => ?_⟩,by rw [hv]; rfl,fun w1 hw1 => ?_,hfree,fun F hF=>⟨hF.mono m2.fp m2.be m2.box,fun b ⟨n,hb⟩ hb'=>by
  obtain ⟨r0,j0,hh⟩:=m2.sub n b hb;exact hF.fp b hb' r0 j0 hh⟩,htm⟩
 . cases i with
   | zero => simp only [adf,ac3] at hi;subst hi;rw [Nat.zero_mul,aec];exact eP.frame ks x 0 G _ cs 0 (fun j b hb=>⟨rfl,hb⟩) (fun _ _ _ _=>rfl) n1
   | succ i=>simp at hi
 . rw [hv];refine run_firstCells_some (P:=P) w1 _ _ ⟨g.be r,0,none⟩ _ _ _ (by simpa using hlen) fun j u hj => ?_
   rw [gI,adA];simp only [World.cell?,hw1,b5];rw [ac8] at hj;exact hj
theorem C5 (h:Rel cx Z g st a w) {e:TypeId} {ks:List K} {y:TV} {v:Value} (hr:bD Z g st w y v) {st':St} {ys:List (Tl ks)} (hn:st.news e ks y=some (st',ys)):∃ g' news H FH,Rel cx Z g' st' a w/\xl P cx Z g g' st st' w ks ys v news H FH:=by
 have src:∀ av,bD Z g st w (.v av) v->(match st.source (.sl e ks) ks av with | some (st',z)=>some (st',aG z) | none=>none)=some (st',ys)->∃ g' news H FH,Rel cx Z g' st' a w/\xl P cx Z g g' st st' w ks ys v news H FH:=by
  intro av hra hh;unfold St.source at hh;cases hf:flat ks with
  | true =>
    rw [hf] at hh;simp only [ac6] at hh;cases hra':st.ct (.sl e ks) av with
    | none=>rw [hra'] at hh; simp at hh
    | some z => rw [hra'] at hh;cases hh;obtain ⟨news,hnews⟩:=HZ (P:=P) h (lh h hra hra') hf;exact ⟨g,news,_,_,h,hnews⟩
  | false =>
    rw [hf] at hh;simp only [adm] at hh;cases htk:st.dS (.sl e ks) av with
    | none=>rw [htk] at hh; simp at hh
    | some q => obtain ⟨st1,z⟩:=q;rw [htk] at hh;cases hh;obtain ⟨g1,F,k1,k2,k3,k4,k5,k6,k7⟩:=fw h hra htk;obtain ⟨news,H,hnews⟩:=KZ (P:=P) (g:=g) (st:=st) k3 k4 k5 k6 k2.be k2.box k2.tm;exact ⟨g1,news,H,F,k1,hnews⟩
 cases y with
 | v av =>
   cases av with
   | d k s =>
     cases k with
     | str =>
       simp only [St.news] at hn;split at hn
       . rename_i z hz;cases hn;obtain ⟨eq,hz⟩:=cF hz;cases eq;subst hz;obtain ⟨hv,_⟩:=(hr:RO Z w .str s v);subst hv;obtain ⟨news,hnews⟩:=Mj (P:=P) (cx:=cx) (Z:=Z) (g:=g) (st:=st) (w:=w) e s;exact ⟨g,news,_,_,h,hnews⟩
       . simp at hn
     | _=>exact src _ hr hn
   | brow r n =>
     simp only [St.news] at hn;cases hb:Nat.beq n 1 with
     | false=>rw [hb] at hn; simp at hn
     | true =>
       rw [hb] at hn;simp only [ac6] at hn;have hn1:=beq_eq hb;subst hn1;split at hn
       . rename_i l hl;split at hn
         . rename_i st1 x hx;cases hn;obtain ⟨R,_,_,hv⟩:=(hr:bj Z g st w (.brow r 1) v);exact H5 h hl hv hx
         . simp at hn
       . simp at hn
   | _=>exact src _ hr hn
 | _=>simp [St.news] at hn
end
end Go.Av
namespace Go.Av
open Go.RowKit (Below)
theorem cf:∀ (vs:List Value) (o:Nat) (cs:Array Value),(setFrom cs o vs).size=cs.size
 | [],_,_=>rfl
 | v :: r,o,cs=>by rw [setFrom,cf r]; simp
theorem eM (b:Nat):∀ (vs:List Value) (o:Nat) (w:World) (cs:Array Value) (el:TypeId) (fr:Nat×Nat),w.heap[b]? = some (.cells cs el fr) ->
 (w.setCells b o vs).heap[b]? = some (.cells (setFrom cs o vs) el fr)/\(∀ i,i≠b->(w.setCells b o vs).heap[i]? = w.heap[i]?)/\(w.setCells b o vs).heap.size=w.heap.size/\(w.setCells b o vs).os=w.os/\(w.setCells b o vs).tape=w.tape/\(w.setCells b o vs).output=w.output
 | [],o,w,cs,el,fr,h=>⟨h,fun _ _=>rfl,rfl,rfl,rfl,rfl⟩
 | v :: r,o,w,cs,el,fr,h=>by
   have h1:(w.setCell ⟨b,o,none⟩ v).heap[b]? = some (.cells (cs.setIfInBounds o v) el fr):=by rw [cY,if_pos rfl,h]; rfl
   obtain ⟨g1,g2,g3,g4,g5,g6⟩:=eM b r (o + 1) _ _ el fr h1;refine ⟨g1,fun i hi => ?_,?_,g4,g5,g6⟩
   . rw [World.setCells,g2 i hi,cY,if_neg (fun e=>hi e.symm)]
   . rw [World.setCells,g3]; simp [World.setCell]
section
variable {P:Program} {cx:Cx P} {Z:Nat->Prop} {g:Gh} {st:St} {a:Act} {w:World} {E:En}
theorem Dv (hT:bK P E) (h:Rel cx Z g st a w) (hn:bt st) (hsz:Fit cx E a) {o:Oper} {d:Nat} (hd:o.dst=some d) (hdn:jG cx a d) {c:Call} (ho:o.op= .call c) (hcal:c.callee= .builtin .append) {x y:Operand} (hargs:c.args.toList=[x,y]) {t t2:Nat} {ts:List Nat} (hts:c.argTypes.toList=t :: t2 :: ts)
 {ti te:TI} (hti:E.ti t=some ti) (hte:E.sl t=some te) {tx ty:TV} (hx:st.get x=some tx) (hy:st.get y=some ty) (h2:E.str t2=true∨∃ te2,E.sl t2=some te2) {st':St} (hrun:(st.append d ti.elem te tx ty).run=some st'):rC P cx E st' a w o:=by
 have hc:=hn.cons.cons;obtain ⟨ks0,q1,q2,q3,q4⟩:=qX hT hte hti;have hTe:=hT _ _ q4;obtain ⟨tt,ks1,t1,_,_,_,hu⟩:=dx hT hte;rw [hti] at t1;simp only [ac3] at t1;subst t1;obtain ⟨d2,hu2,hd2⟩:∃ d2,P.underlying t2=some d2/\∀ k,d2≠ .int k:=by
  rcases h2 with h2 | ⟨te2,h2⟩
  . exact ⟨_,lI hT h2,fun _ h=>by simp at h⟩
  . obtain ⟨_,_,_,_,_,_,hu2⟩:=dx hT h2;exact ⟨_,hu2,fun _ h=>by simp at h⟩
 unfold St.append at hrun;obtain ⟨av,hav,hrun⟩:=Tr.af hrun;obtain ⟨⟨st1,xs⟩,htk,hrun⟩:=Tr.af hrun;obtain ⟨⟨st2,ys⟩,hnw,hrun⟩:=Tr.af hrun;simp only at hnw hrun;cases hcond:st2.free d && Nat.blt 0 te.bytes with
 | false=>rw [hcond] at hrun; simp [Tr.run] at hrun
 | true =>
   rw [hcond] at hrun;simp only [ac6] at hrun;simp only [ac5] at hcond;obtain ⟨hfree,hby⟩:=hcond;have hby:0 < te.bytes:=aen (adC hby);obtain ⟨hble,hrun⟩:=Tr.bo hrun;simp only [Tr.run,ac3] at hrun;subst hrun;have hbytes:((aG xs).length + ys.length) * te.bytes<=aT:=adC hble;have hbig:(aG xs).length + ys.length<=aT:=ady (aeN _ hby) hbytes;obtain ⟨g1,F,k1,k2,k3,k4,k5,k6,k7⟩:=fw h (rN (aM h hc hx) hav) htk;obtain ⟨g2,news,H,FH,m1,m2⟩:=C5 (P:=P) k1 (bD.bZ k2.bZ _ _ (aM h hc hy)) hnw;obtain ⟨f1,f2⟩:=m2.other F k4;have hnm:bt (st2.aE d (.v (.ref d 0 0),some ⟨false,[⟨0,0,.own (.sl ti.elem te.ks) (cat te.ks (aG xs) ys)⟩]⟩)):=fun t tv ht=>by
    rw [bd] at ht;split at ht
    . simp only [ac3] at ht; subst ht; exact fun h=>h
    . exact hn t tv (by rw [<- k2.tm,<- m2.tm]; exact ht)
   refine ⟨hnm,fun next Q hk => ?_⟩
   have fin:∀ (v':Value) (w':World) (F':Nat->Prop),(Builtin.append_ c.argTypes o.type #[a.eval x,a.eval y]).run P w= .ok v' w'->Rel cx Z g2 st2 a w'->(∀ b,F' b->b < w'.heap.size/\(cx.F0 b∨cx.w0.heap.size<=b)/\¬ Z b/\(∀ r j,¬ g2.fp r j b)/\(∀ r' R',look st2.rt r'=some R'->R'.box=true->g2.be r'≠b)) ->
    cO w' (.sl ti.elem te.ks) (cat te.ks (aG xs) ys) v' F'->o.wp P a w next Q:=by
    intro v' w' F' hr hrel hF' hown;have hargs':c.args = #[x,y]:=by rw [<- aec (xs:=c.args),hargs]
    have:(execOp a.eval o).run P w= .ok (.value v') w':=by simp only [execOp,ho,resolve,hcal,hargs',adv,adN,adh,invoke,builtin,aeC,ad4,ae1,hr]
    unfold Oper.wp;rw [this,adI,hd];obtain ⟨g3,hg⟩:=hrel.AQ hdn hfree hF' hown;exact hk Z g3 _ _ hg (hsz.put _ _)
   have hat:c.argTypes[0]? = some t:=by rw [<- ac8,hts]; rfl
   have hat2:c.argTypes[1]? = some t2:=by rw [<- ac8,hts]; rfl
   have hFs:∀ (w':World),w.heap.size<=w'.heap.size->∀ b,F b∨FH b->b < w'.heap.size/\(cx.F0 b∨cx.w0.heap.size<=b)/\¬ Z b/\(∀ r j,¬ g2.fp r j b)/\(∀ r' R',look st2.rt r'=some R'->R'.box=true->g2.be r'≠b):=fun w' hs b hb=>by
    rcases hb with hb | hb
    . exact ⟨adw (f1.lt b hb) hs,f1.own b hb,f1.z b hb,f1.fp b hb,f1.box b hb⟩
    . exact ⟨adw (m2.free.lt b hb) hs,m2.free.own b hb,m2.free.z b hb,m2.free.fp b hb,m2.free.box b hb⟩
   obtain ⟨base,cap,ev,c1,c2,c3,c4⟩:=k3;have hnl:=m2.rows.len;by_cases hfit:(aG xs).length + ys.length<=cap
   . cases base with
     | none =>
       have hcap:=c3 rfl;have hx0:aG xs=[]:=adl.1 (by omega);have hy0:ys=[]:=adl.1 (by omega);have e1:a.eval x= .slice none 0 0:=by rw [ev,hx0,hcap]; rfl
       refine fin (.slice none 0 0) w (fun _=>False) ?_ m1 (fun b hb=>hb.elim) ?_
       . rw [e1];refine append_nil (news:=news) hu hTe hu2 hd2 hat hat2 ?_ ?_
         . have:=m2.len; rw [hy0] at this; exact this
         . have:=m2.cells w rfl; rw [hy0] at this; exact this
       . rw [hx0,hy0];exact jx _ _
     | some aa =>
       obtain ⟨b,of,cs,el,fr,rfl,n2,n3,n4,n5,G,n6,n7,n8⟩:=c4 _ rfl;obtain ⟨s1,s2,s3,s4,s5,s6⟩:=eM b news (of + (aG xs).length * te.ks.length) w cs el fr n3;have hroom:of + (aG xs).length * te.ks.length + news.length<=cs.size:=by have:=adz te.ks.length hfit;rw [adR] at this;omega
       refine fin (.slice (some ⟨b,of,none⟩) ((aG xs).length + ys.length) cap) (w.setCells b (of + (aG xs).length * te.ks.length) news) (fun q=>F q∨FH q) ?_ (m1.wr f1 s4 s5 s6 (by rw [s3]; exact ac7 _) fun q _ hq=>s2 q fun e=>hq (by rw [e]; exact n2)) (hFs _ (by rw [s3]; exact ac7 _)) ?_
       . rw [ev];exact ud hu hTe hu2 hd2 hat hat2 m2.len (m2.cells w rfl) hfit m2.rows.one fun j hj=>⟨cs,el,fr,n3,by omega,n4 _ (by omega)⟩
       . refine uY (w:=w) (b0:=b) (F:=F) n6 n7 n8 m2.rows (fun q hq=>⟨f2 q hq,fun e=>f2 q hq (by rw [e]; exact n2)⟩) s1 (fun q hq=>n4 q (by rw [cf] at hq; exact hq)) (.inl n2) (fun q hq _=> .inl hq) (fun q hq=> .inr hq) (fun i j q hq=>(n6 i j q hq).2) (fun q hq e=>f2 q hq (by rw [e]; exact n2)) (fun q _ hq _=>s2 q hq) (fun q hq => ?_) (fun q hq => ?_) hfit (by rw [cf]; exact n5) hbig
         . rw [cz _ _ _ _ hroom,if_neg (by omega)]
         . rw [cz _ _ _ _ hroom,if_pos (by omega)];congr 1;omega
   . have hgrow:cap < (aG xs).length + ys.length:=by omega
     have hge:=grownCap_ge w ((aG xs).length + ys.length) cap ti.elem;have hnot:∀ q,F q∨FH q->q≠w.heap.size:=fun q hq e=>by have:=(hFs w (ac7 _) q hq).1;omega
     have olds:∃ (olds:List Value) (b0:Nat) (cs:Array Value) (of:Nat) (G:Nat->Nat->Nat->Prop),(Builtin.firstCells te.ks.length (aG xs).length (.slice base (aG xs).length cap)).run P w.drew= .ok olds.toArray w.drew/\olds.length=(aG xs).length * te.ks.length/\(∀ q,q < (aG xs).length * te.ks.length->olds[q]? = cs[of + q]?) /\
      (∀ i j b,G i j b->F b/\b≠b0)/\(∀ i j i' j' b,G i j b->G i' j' b->i=i'/\j=j')/\(∀ i x,(aG xs)[i]? = some x->eP w te.ks x 0 (G i) cs (of + i * te.ks.length))/\(∀ q,FH q->q≠b0):=by
      cases base with
      | none => have hcap:=c3 rfl;have hx0:aG xs=[]:=adl.1 (by omega);refine ⟨[],w.heap.size,#[],0,fun _ _ _=>False,?_,by rw [hx0]; simp,fun q hq=>by rw [hx0] at hq; simp at hq,fun _ _ _ h=>h.elim,fun _ _ _ _ _ h=>h.elim,fun i x hi=>by rw [hx0] at hi; simp at hi,fun q hq=>hnot q (.inr hq)⟩;exact run_firstCells_none (P:=P) w.drew _ _ _ _
      | some aa =>
        obtain ⟨b,of,cs,el,fr,rfl,n2,n3,n4,n5,G,n6,n7,n8⟩:=c4 _ rfl;have hbound:∀ q,q < (aG xs).length * te.ks.length->of + q < cs.size:=fun q hq=>by have:=adz te.ks.length c1;omega
        have hnl':∀ q,q < (aG xs).length * te.ks.length->((List.range ((aG xs).length * te.ks.length)).map fun q=>cs.getD (of + q) undef)[q]? = cs[of + q]? := fun q hq=>by have:=hbound q hq;simp [hq,this]
        refine ⟨(List.range ((aG xs).length * te.ks.length)).map fun q=>cs.getD (of + q) undef,b,cs,of,G,?_,by simp,hnl',n6,n7,n8,fun q hq e=>f2 q hq (by rw [e]; exact n2)⟩;refine run_firstCells_some (P:=P) w.drew _ _ ⟨b,of,none⟩ _ _ _ (by simp) fun j v hj => ?_
        have hjl:j < (aG xs).length * te.ks.length:=by
         rcases adj j ((aG xs).length * te.ks.length) with hh | hh
         . exact hh
         . rw [adp (by simpa using hh)] at hj; simp at hj
        rw [hnl' j hjl] at hj;rw [gI];have n3':w.drew.heap[b]? = some (.cells cs el fr):=n3;simp only [World.cell?,n3'];exact hj
     obtain ⟨olds,b0,cs,of,G,r1,r2,r3,r4,r5,r6,r7⟩:=olds;obtain ⟨zs,z1,z2⟩:=qY (ty:=o.type) (vx:=a.eval y) hu hTe hu2 hd2 hat hat2 m2.len r1 (m2.cells w.drew rfl) hgrow hby hbytes;have hheap:(w.drew.alloc (.cells (olds.toArray ++ news.toArray ++ zs) ti.elem (0,0))).heap=w.heap.push (.cells (olds.toArray ++ news.toArray ++ zs) ti.elem (0,0)):=rfl;have hsize:(w.drew.alloc (.cells (olds.toArray ++ news.toArray ++ zs) ti.elem (0,0))).heap.size=w.heap.size + 1:=by rw [hheap,aeP]
     have hold:∀ q,q < w.heap.size->(w.drew.alloc (.cells (olds.toArray ++ news.toArray ++ zs) ti.elem (0,0))).heap[q]? = w.heap[q]? := fun q hq=>by rw [hheap,ad0,if_neg (by omega)]
     refine fin (.slice (some ⟨w.heap.size,0,none⟩) ((aG xs).length + ys.length) (grownCap w ((aG xs).length + ys.length) cap ti.elem)) (w.drew.alloc (.cells (olds.toArray ++ news.toArray ++ zs) ti.elem (0,0))) (fun q=>(F q∨FH q)∨q=w.heap.size) (by rw [ev]; exact z2) (m1.wr f1 rfl rfl rfl (by rw [hsize]; omega) fun q hq _=>hold q hq) (fun b hb => ?_) ?_
     . rcases hb with hb | rfl
       . exact hFs _ (by rw [hsize]; omega) b hb
       . refine ⟨by rw [hsize]; omega,.inr m1.size,fun hz=>by have:=(m1.bS _ hz).1; omega,fun r j hh=>by have:=(m1.fp r j _ hh).1; omega,fun r' R' hR' hb' he => ?_⟩;obtain ⟨_,_,_,_,cs1,el1,fr1,b5,_⟩:=m1.box r' R' hR' hb';rw [he,adr (ac7 _)] at b5;simp at b5
     . refine uY (w:=w) (b0:=b0) (F:=F) r4 r5 r6 m2.rows (fun q hq=>⟨f2 q hq,r7 q hq⟩) (el:=ti.elem) (fr:=(0,0)) (cs':=olds.toArray ++ news.toArray ++ zs) (by rw [hheap,ad0,if_pos rfl]) (by simp) (.inr rfl) (fun q hq _=> .inl (.inl hq)) (fun q hq=> .inl (.inr hq)) (fun i j q hq=>hnot q (.inl (r4 i j q hq).1)) (fun q hq=>hnot q (.inr hq)) (fun q hq _ _=>hold q hq) (fun q hq => ?_) (fun q hq => ?_) hge ?_ hbig
       . rw [<- r3 q hq,adA,afs,aeD (by simp; omega)];simp
       . rw [adA,afs,Array.getElem?_append_right (by simp; omega),aeD (by simp; omega)];simp only [List.size_toArray,r2,aeo,adS]
       . have e1:(olds.toArray ++ news.toArray ++ zs).size=olds.length + news.length + zs.size:=by simp
         rw [e1,r2,hnl,z1,adA,<- adR,<- adR];exact adz _ (by omega)
end
end Go.Av
namespace Go.Av
open Go.RowKit (Below)
section
variable {P:Program} {w:World} {E:En} {P:Program} {cx:Cx P} {Z:Nat->Prop} {g:Gh} {st:St} {a:Act}
theorem yO {z:Array Value} {ks:List K} (hz:z.toList=ks.map zV) (n j:Nat) (hj:j < n * ks.length):(Builtin.zeroCells z n)[j]? = (ks.map zV)[j % ks.length]? := by
 have hl:z.size=ks.length:=by rw [<- adW,hz]; simp
 have hpos:0 < ks.length:=by
  rcases aeU ks.length with h | h
  . rw [h] at hj; simp at hj
  . exact h
 unfold Builtin.zeroCells;simp only [Array.getElem?_map,hl];have:(Array.range (n * ks.length))[j]? = some j:=by simp [hj]
 rw [this];have hm:j % ks.length < ks.length:=afQ _ hpos;simp only [adG];rw [<- hz,ac8];rw [Array.getElem!_eq_getD];simp [adb,hl,hm]
theorem CM {t t2 ty:TypeId} {e:TypeId} {te:TI} (ht:P.underlying t=some (.slice e)) (hTe:qx P e te) {k2:IntKind} (h2:P.underlying t2=some (.int k2)) {ats:Array TypeId} (hat:ats[0]? = some t) (hat2:ats[1]? = some t2) {k:IntKind} :
 (Builtin.append_ ats ty #[.slice none 0 0,.int k 0]).run P w= .ok (.slice none 0 0) w:=by
 obtain ⟨i,e1,e2,e3,z,e4,e5⟩:=hTe.info;have hw:IntKind.i64.wrap 0=0:=by decide
 have ha:∀ w,(asInt (.int k 0)).run P w= .ok 0 w:=fun w=>by simp [asInt,asIntOf]
 simp [Builtin.append_,hat,hat2,adH ht,adH h2,sizeOf,typeInfo,zeroValue,e1,e4,ha,hw]
theorem yQ {t t2 ty:TypeId} {e:TypeId} {te:TI} (ht:P.underlying t=some (.slice e)) (hTe:qx P e te) {k2:IntKind} (h2:P.underlying t2=some (.int k2)) {ats:Array TypeId} (hat:ats[0]? = some t) (hat2:ats[1]? = some t2) {k:IntKind} {n:Nat} (hn:0 < n) (hby:0 < te.bytes) (hb:n * te.bytes<=aT) :
 ∃ zs:Array Value,zs.size=(grownCap w n 0 e) * te.ks.length/\(∀ j,j < n * te.ks.length->zs[j]? = (te.ks.map zV)[j % te.ks.length]?)/\(Builtin.append_ ats ty #[.slice none 0 0,.int k (n:Int)]).run P w= .ok (.slice (some ⟨w.heap.size,0,none⟩) n (grownCap w n 0 e)) (w.drew.alloc (.cells zs e (0,0))):=by
 obtain ⟨i,e1,e2,e3,z,e4,e5⟩:=hTe.info;have hzs:z.cells.size=te.ks.length:=by rw [<- adW,e5]; simp
 have hge:=grownCap_ge w n 0 e;have hbb:n * te.bytes<=140737488355328:=hb;have hle:n<=n * te.bytes:=aeN _ hby;have h63:¬ (9223372036854775807 < (n:Int)):=by omega
 have h48:¬ (281474976710656 < Builtin.nextslicecap n 0 * i.bytes):=by have:=growslice_fits (need:=n) (old:=0) (bytes:=i.bytes) hn (by rw [e3]; exact hbb);omega
 have hmin:IntKind.i64.min = -9223372036854775808:=by decide
 have hmax:IntKind.i64.max=9223372036854775807:=by decide
 have hw:IntKind.i64.wrap (n:Int)=n:=Gk ⟨by rw [hmin]; omega,by rw [hmax]; omega⟩;have h48':¬ (281474976710656 < (n:Int) * (i.bytes:Int)):=by rw [e3];have:((n * te.bytes:Nat):Int)<=((140737488355328:Nat):Int):=Int.ofNat_le.2 hbb;rw [Int.natCast_mul] at this;omega
 have hneg:¬ ((n:Int) < 0):=by omega
 have hn0:¬ (n=0):=by omega
 have ha:∀ w,(asInt (.int k (n:Int))).run P w= .ok (n:Int) w:=fun w=>by simp [asInt,asIntOf]
 have hfo:∀ w,(Builtin.firstCells i.size 0 (.slice none 0 0)).run P w= .ok #[] w:=fun w=>by simp [Builtin.firstCells]
 refine ⟨(if n * i.size=0 then #[] else Builtin.zeroCells z.cells n) ++ Builtin.zeroCells z.cells (grownCap w n 0 e - n),?_,?_,?_⟩
 . rw [Array.size_append,size_zeroCells,hzs,e2];split
   . rename_i h0;rcases Nat.mul_eq_zero.1 h0 with h | h
     . omega
     . rw [h]; simp
   . rw [size_zeroCells,hzs,<- adR];congr 1;omega
 . intro j hj;have hne:¬ (n * i.size=0):=by rw [e2]; omega
   rw [if_neg hne,aeD (by rw [size_zeroCells,hzs]; exact hj)];exact yO e5 n j hj
 . simp only [Builtin.append_,hat,hat2,adS,adf,ad2,adv,adH ht,adh,bM hTe,adH h2,adN,if_true,ha,hw,hneg,aek,typeInfo];simp [e1,h48',hw,hneg,hn0,h63,h48,Question.forced,hfo,newRow,grownCap,zeroValue,e4,ha,sizeOf,typeInfo];have hfo':∀ w,(Builtin.firstCells te.ks.length 0 (.slice none 0 0)).run P w= .ok #[] w:=fun w=>by simp [Builtin.firstCells]
   rw [hfo',<- e2];simp only [adh,Array.empty_append];by_cases h0:n * i.size=0
   . rw [if_pos h0,if_pos h0]; simp
   . rw [if_neg h0,if_neg h0]; rfl
theorem HJ (hT:bK P E) (h:Rel cx Z g st a w) (hn:bt st) (hsz:Fit cx E a) {o:Oper} {d:Nat} (hd:o.dst=some d) (hdn:jG cx a d) {c:Call} (ho:o.op= .call c) (hcal:c.callee= .builtin .append) {x y:Operand} (hargs:c.args.toList=[x,y]) {t t2:Nat} {ts:List Nat} (hts:c.argTypes.toList=t :: t2 :: ts)
 {ti te:TI} (hti:E.ti t=some ti) (hte:E.sl t=some te) {tx ty:TV} (hx:st.get x=some tx) (hy:st.get y=some ty) (h2:E.i64 t2=true) (hnil:eG tx=true) {k:IntKind} {n:Int} (hint:ty.int? = some (k,n)) {st':St} (hrun:(st.Au d ti.elem te n).run=some st'):rC P cx E st' a w o:=by
 have hc:=hn.cons.cons;obtain ⟨ks0,q1,q2,q3,q4⟩:=qX hT hte hti;have hTe:=hT _ _ q4;obtain ⟨tt,ks1,t1,_,_,_,hu⟩:=dx hT hte;rw [hti] at t1;simp only [ac3] at t1;subst t1;have hu2:∃ k2,P.underlying t2=some (.int k2):=by
  unfold En.i64 at h2;split at h2
  . rename_i e0 by0 fl0 hti2;obtain ⟨dd,u1,u2⟩:=(hT t2 _ hti2).desc;cases dd <;> simp [gM] at u2;exact ⟨_,u1⟩
  . simp at h2
 obtain ⟨k2,hu2⟩:=hu2;unfold St.Au at hrun;cases hcond:st.free d && Nat.blt 0 te.bytes with
 | false=>rw [hcond] at hrun; simp [Tr.run] at hrun
 | true =>
   rw [hcond] at hrun;simp only [ac6] at hrun;simp only [ac5] at hcond;obtain ⟨hfree,hby⟩:=hcond;have hby:0 < te.bytes:=aen (adC hby);obtain ⟨hble,hrun⟩:=Tr.bo hrun;simp only [Tr.run,ac3] at hrun;subst hrun;simp only [ac5,bL,aeg] at hble;obtain ⟨n0,n1⟩:=hble;obtain ⟨m,rfl⟩:=afl n0;have hmb:m * te.bytes<=aT:=by
    have:((m * te.bytes:Nat):Int)<=(aT:Int):=by rw [Int.natCast_mul]; exact n1
    exact_mod_cast this
   have hnm:bt (st.aE d (.v (.ref d 0 0),some ⟨false,[⟨0,0,.own (.sl ti.elem te.ks) (List.replicate (m:Int).toNat (dZ te.ks))⟩]⟩)):=fun t tv ht=>by
    rw [bd] at ht;split at ht
    . simp only [ac3] at ht; subst ht; exact fun h=>h
    . exact hn t tv ht
   refine ⟨hnm,fun next Q hk => ?_⟩;have ex:a.eval x= .slice none 0 0:=sy (aM h hc hx) hnil;have ey:a.eval y= .int k (m:Int):=(cS (aM h hc hy) hint).1;have hat:c.argTypes[0]? = some t:=by rw [<- ac8,hts]; rfl
   have hat2:c.argTypes[1]? = some t2:=by rw [<- ac8,hts]; rfl
   have hargs':c.args = #[x,y]:=by rw [<- aec (xs:=c.args),hargs]
   have fin:∀ (v':Value) (w':World) (F':Nat->Prop),(Builtin.append_ c.argTypes o.type #[a.eval x,a.eval y]).run P w= .ok v' w'->Rel cx Z g st a w'->(∀ b,F' b->b < w'.heap.size/\(cx.F0 b∨cx.w0.heap.size<=b)/\¬ Z b/\(∀ r j,¬ g.fp r j b)/\(∀ r' R',look st.rt r'=some R'->R'.box=true->g.be r'≠b)) ->
    cO w' (.sl ti.elem te.ks) (List.replicate (m:Int).toNat (dZ te.ks)) v' F'->o.wp P a w next Q:=by
    intro v' w' F' hr hrel hF' hown;have:(execOp a.eval o).run P w= .ok (.value v') w':=by simp only [execOp,ho,resolve,hcal,hargs',adv,adN,adh,invoke,builtin,aeC,ad4,ae1,hr]
    unfold Oper.wp;rw [this,adI,hd];obtain ⟨g3,hg⟩:=hrel.AQ hdn hfree hF' hown;exact hk Z g3 _ _ hg (hsz.put _ _)
   rcases aeU m with hm | hm
   . subst hm;refine fin (.slice none 0 0) w (fun _=>False) (by rw [ex,ey]; exact CM hu hTe hu2 hat hat2) h (fun b hb=>hb.elim) ?_;exact jx _ _
   . obtain ⟨zs,z1,z2,z3⟩:=yQ (P:=P) (w:=w) (ty:=o.type) hu hTe hu2 hat hat2 (k:=k) hm hby hmb;have hge:=grownCap_ge w m 0 ti.elem;have hheap:(w.drew.alloc (.cells zs ti.elem (0,0))).heap=w.heap.push (.cells zs ti.elem (0,0)):=rfl;have hsize:(w.drew.alloc (.cells zs ti.elem (0,0))).heap.size=w.heap.size + 1:=by rw [hheap,aeP]
     have hold:∀ q,q < w.heap.size->(w.drew.alloc (.cells zs ti.elem (0,0))).heap[q]? = w.heap[q]? := fun q hq=>by rw [hheap,ad0,if_neg (by omega)]
     have hrel:Rel cx Z g st a (w.drew.alloc (.cells zs ti.elem (0,0))):=h.wr (gK.none _ _ _ _ _) rfl rfl rfl (by rw [hsize]; omega) fun q hq _=>hold q hq
     refine fin _ _ (fun q=>q=w.heap.size) (by rw [ex,ey]; exact z3) hrel (fun b hb => ?_) ?_
     . subst hb;refine ⟨by rw [hsize]; omega,.inr h.size,fun hz=>by have:=(h.bS _ hz).1; omega,fun r j hh=>by have:=(h.fp r j _ hh).1; omega,fun r' R' hR' hb' he => ?_⟩;obtain ⟨_,_,_,_,cs1,el1,fr1,b5,_⟩:=h.box r' R' hR' hb';rw [he,adr (ac7 _)] at b5;simp at b5
     . have hlen:(aG (e:=ti.elem) (ks:=te.ks) (List.replicate (m:Int).toNat (dZ te.ks))).length=m:=by simp [aG]
       have hbig:m<=aT:=ady (aeN _ hby) hmb;refine ⟨_,_,by rw [hlen],by rw [hlen]; omega,by rw [hlen]; exact hbig,fun h=>by simp at h,fun a' ha' => ?_⟩;simp only [ac3] at ha';subst ha';refine ⟨_,_,zs,ti.elem,(0,0),rfl,rfl,by rw [hheap,ad0,if_pos rfl],fun q _ hh=>by simp at hh,by rw [z1]; omega,fun _ _ _=>False,fun _ _ _ h=>h.elim,fun _ _ _ _ _ h=>h.elim,fun i y hi => ?_⟩;have hil:i < m:=by
        rcases adj i m with hh | hh
        . exact hh
        . rw [adp (by rw [hlen]; exact hh)] at hi; simp at hi
       have hy:y=dZ te.ks:=by
        have:(List.replicate (m:Int).toNat (dZ te.ks))[i]? = some y:=hi;rw [afF] at this;split at this
        . simp only [ac3] at this; exact this.symm
        . simp at this
       subst hy;refine nB te.ks 0 zs _ fun c v hc => ?_
       have hcl:c < te.ks.length:=by
        rcases adj c te.ks.length with hh | hh
        . exact hh
        . rw [adp (by simpa using hh)] at hc; simp at hc
       have hidx:i * te.ks.length + c < m * te.ks.length:=by have:(i + 1) * te.ks.length<=m * te.ks.length:=adz _ (by omega);rw [adR] at this;omega
       rw [adA,z2 _ hidx,afS,Nat.mul_add_mod,aex hcl];exact hc
end
end Go.Av
namespace Go.Av
open Go.RowKit (Below)
abbrev NU:=Nat->Nat->Option (RC×(Nat->Prop))
def Gh.qW (g:Gh) (L:NU):Gh:=⟨g.be,g.cv,fun r j b=>match L r j with | some p=>p.2 b | none=>g.fp r j b⟩
structure Ja (st st':St) (L:NU):Prop where
 tm:st'.tm=st.tm
 shape:∀ r,shape st' r=shape st r
 cell:∀ r j,st'.cell r j=match L r j with | some p=>(st.cell r j).map (fun _=>p.1) | none=>st.cell r j
 rt:∀ r,(∀ j,L r j=none)->look st'.rt r=look st.rt r
section
variable {P:Program} {cx:Cx P} {Z:Nat->Prop} {g:Gh} {st st':St} {a:Act} {w w':World} {E:En} {L:NU}
theorem qN {st st':St} {r:Nat} {R':Rt} (hs:shape st' r=shape st r) (h:look st'.rt r=some R'):∃ R,look st.rt r=some R/\R'.box=R.box/\R'.cells.length=R.cells.length:=by
 have h1:shape st r=some (R'.box,R'.cells.length):=by rw [<- hs]; simp [shape,h]
 obtain ⟨R,k1,k2,k3⟩:=pn h1;exact ⟨R,k1,k2.symm,k3.symm⟩
theorem Rel.qW (h:Rel cx Z g st a w) (hl:Ja st st' L) (h1:w'.os=w.os) (h2:w'.tape=w.tape) (h3:w'.output=w.output) (hsz:w.heap.size<=w'.heap.size)
 (hL:∀ r j p,L r j=some p->∃ c,st.cell r j=some c/\p.1.s=c.s/\c.m < p.1.m/\∃ e ks xs xs',c.v= .own (.sl e ks) xs/\p.1.v= .own (.sl e ks) xs'/\(aG xs').length=(aG xs).length/\cO w' (.sl e ks) xs' (g.cv r j) p.2)
 (hF:∀ r j p,L r j=some p->∀ b,p.2 b->b < w'.heap.size/\((∃ r0 j0 p0,L r0 j0=some p0/\g.fp r0 j0 b)∨w.heap.size<=b)/\¬ Z b)
 (hd:∀ r j p r' j' p' b,L r j=some p->L r' j'=some p'->p.2 b->p'.2 b->r=r'/\j=j')
 (hblk:∀ b,b < w.heap.size->(∀ r j p,L r j=some p->¬ g.fp r j b)->w'.heap[b]? = w.heap[b]?) :
 Rel cx Z (g.qW L) st' a w'/\j7 Z w w' g (g.qW L) st st':=by
 have hfpo:∀ r j b,L r j=none->g.fp r j b->w'.heap[b]? = w.heap[b]? := fun r j b hn hb=>hblk b (h.fp r j b hb).1 fun r0 j0 p0 hp0 hh=>by obtain ⟨e1,e2⟩:=h.disj _ _ _ _ _ hb hh;subst e1; subst e2;rw [hn] at hp0; simp at hp0
 have hz:∀ b,Z b->b < w.heap.size->w'.heap[b]? = w.heap[b]? := fun b hb hlt=>hblk b hlt fun r j p hp hh=>(h.fp r j b hh).2.2.1 hb
 have hfpi:∀ r j b,(g.qW L).fp r j b->(∃ p,L r j=some p/\p.2 b)∨(L r j=none/\g.fp r j b):=fun r j b hb=>by
  simp only [Gh.qW] at hb;cases hp:L r j with
  | none=>rw [hp] at hb; exact .inr ⟨rfl,hb⟩
  | some p=>rw [hp] at hb; exact .inl ⟨p,rfl,hb⟩
 have k:l8 Z Z w w' g (g.qW L) st st':=by
  refine { size:=hsz,z:=fun b hb hlt=>⟨hb,hz b hb hlt⟩,root:=fun r R hR => ?_,cell:=fun r j c hc => ?_,own:=fun r j b hb=>(h.fp r j b hb).1,block:=(eO h (st':=st) (w':=w) rfl rfl).block }
  . obtain ⟨R',e1,e2,_⟩:=qN (st:=st') (st':=st) (hl.shape r).symm hR;exact ⟨R',e1,e2.symm,fun _=>rfl⟩
  . rw [hl.cell];cases hp:L r j with
    | none=>exact ⟨c,hc,ac7 _,ac7 _,fun _=>rfl,fun _ e ks xs hh=>⟨xs,hh,rfl⟩,fun _ _=>⟨rfl,fun b hb _=>⟨by simp only [Gh.qW,hp]; exact hb,hfpo r j b hp hb⟩⟩⟩
    | some p => obtain ⟨c0,f1,f2,f3,e,ks,xs,xs',f4,f5,f6,f7⟩:=hL r j p hp;rw [hc] at f1;simp only [ac3] at f1;subst f1;rw [hc];refine ⟨p.1,rfl,by omega,by omega,fun _=>rfl,fun _ e' ks' xs0 hh => ?_,fun _ e=>absurd e (by omega)⟩;rw [f4] at hh;simp only [RV.own.injEq,K.sl.injEq] at hh;obtain ⟨⟨rfl,rfl⟩,hh⟩:=hh;have hh:=ae8 hh;subst hh;exact ⟨xs',f5,f6⟩
 have hbn:∀ r R,look st.rt r=some R->R.box=true->∀ r' j',¬ (g.qW L).fp r' j' (g.be r):=fun r R hR hb r' j' hh=>by
  obtain ⟨_,_,b3,_,cs,el,fr,b5,_⟩:=h.box r R hR hb;have hlt:g.be r < w.heap.size:=by
   rcases adj (g.be r) w.heap.size with hh | hh
   . exact hh
   . simp [adr hh] at b5
  rcases hfpi _ _ _ hh with ⟨p,hp,hh⟩ | ⟨_,hh⟩
  . rcases (hF _ _ _ hp _ hh).2.1 with ⟨r0,j0,p0,_,k2⟩ | k2
    . exact b3 r0 j0 k2
    . omega
  . exact b3 _ _ hh
 refine ⟨?_,⟨k,hl.tm,rfl,fun r R' hR=>by obtain ⟨R,e1,e2,_⟩:=qN (hl.shape r) hR; exact ⟨R,e1,e2⟩⟩⟩;refine { os:=h1.trans h.os,tape:=h2.trans h.tape,output:=h3.trans h.output,size:=ady h.size hsz,block := ?_,bS:=fun b hb=>⟨adw (h.bS b hb).1 hsz,(h.bS b hb).2⟩,z0:=h.z0,fp := ?_,disj := ?_,box := ?_,cell := ?_,tm := ?_,defers:=h.defers,pin:=h.pin }
 . intro b hb hf;refine (hblk b (adw hb h.size) fun r j p hp hh => ?_).trans (h.block b hb hf);rcases (h.fp r j b hh).2.1 with h4 | h4
   . exact hf h4
   . omega
 . intro r j b hb;rcases hfpi r j b hb with ⟨p,hp,hb⟩ | ⟨hp,hb⟩
   . obtain ⟨k1,k2,k3⟩:=hF r j p hp b hb;obtain ⟨c,f1,_,_,e,ks,xs,xs',_,f5,_⟩:=hL r j p hp;refine ⟨k1,?_,k3,p.1,_,xs',by rw [hl.cell,hp,f1]; rfl,f5⟩;rcases k2 with ⟨r0,j0,p0,_,k2⟩ | k2
     . exact (h.fp _ _ _ k2).2.1
     . exact .inr (ady h.size k2)
   . obtain ⟨k1,k2,k3,c,kk,x,k4,k5⟩:=h.fp r j b hb;exact ⟨adw k1 hsz,k2,k3,c,kk,x,by rw [hl.cell,hp]; exact k4,k5⟩
 . intro r1 j1 r2 j2 b hb1 hb2;rcases hfpi _ _ _ hb1 with ⟨p1,hp1,k1⟩ | ⟨hp1,k1⟩
   . rcases hfpi _ _ _ hb2 with ⟨p2,hp2,k2⟩ | ⟨hp2,k2⟩
     . exact hd _ _ _ _ _ _ b hp1 hp2 k1 k2
     . exfalso;rcases (hF _ _ _ hp1 b k1).2.1 with ⟨r0,j0,p0,hp0,hh⟩ | hh
       . obtain ⟨e1,e2⟩:=h.disj _ _ _ _ _ hh k2;subst e1; subst e2;rw [hp2] at hp0; simp at hp0
       . have:=(h.fp _ _ _ k2).1; omega
   . rcases hfpi _ _ _ hb2 with ⟨p2,hp2,k2⟩ | ⟨hp2,k2⟩
     . exfalso;rcases (hF _ _ _ hp2 b k2).2.1 with ⟨r0,j0,p0,hp0,hh⟩ | hh
       . obtain ⟨e1,e2⟩:=h.disj _ _ _ _ _ hh k1;subst e1; subst e2;rw [hp1] at hp0; simp at hp0
       . have:=(h.fp _ _ _ k1).1; omega
     . exact h.disj _ _ _ _ _ k1 k2
 . intro r R' hR hbx;obtain ⟨R,e1,e2,e3⟩:=qN (hl.shape r) hR;have hbx':R.box=true:=by rw [<- e2]; exact hbx
   obtain ⟨b1,b2,b3,b4,cs,el,fr,b5,b6,b7,b8⟩:=h.box r R e1 hbx';have hlt:g.be r < w.heap.size:=by
    rcases adj (g.be r) w.heap.size with hh | hh
    . exact hh
    . simp [adr hh] at b5
   refine ⟨b1,b2,hbn r R e1 hbx',fun r' R'' hR'' hb'' he => ?_,cs,el,fr,?_,b6,by rw [b7,e3],b8⟩
   . obtain ⟨R2,f1,f2,_⟩:=qN (hl.shape r') hR'';exact b4 r' R2 f1 (by rw [<- f2]; exact hb'') he
   . show w'.heap[g.be r]? = _;rw [hblk _ hlt fun r0 j0 p0 _ hh=>b3 r0 j0 hh];exact b5
 . intro r j c hc;rw [hl.cell] at hc;cases hp:L r j with
   | none =>
     rw [hp] at hc;have e2:(g.qW L).fp r j=g.fp r j:=by funext b; simp only [Gh.qW,hp]
     rw [e2];exact jo.bZ k _ _ _ _ (h.cell r j c hc) (fun _ h=>h) (fun b hb _=>hfpo r j b hp hb)
   | some p =>
     rw [hp] at hc;obtain ⟨c0,f1,_,_,e,ks,xs,xs',_,f5,_,f7⟩:=hL r j p hp;rw [f1] at hc;simp only [adG,ac3] at hc;subst hc;have e2:(g.qW L).fp r j=p.2:=by funext b; simp only [Gh.qW,hp]
     rw [e2,f5];exact f7
 . intro t tv ht;rw [hl.tm] at ht;exact ⟨(h.tm t tv ht).1,bD.bZ k _ _ (h.tm t tv ht).2⟩
end
end Go.Av
namespace Go.Av
open Go.RowKit (Below)
section
variable {w w':World}
theorem tl:∀ (ks:List K) (x:Tl ks) (j:Nat) (G:Nat->Nat->Prop) (cs:Array Value) (o c:Nat) (k:K) (y:T k),eP w ks x j G cs o->cellAt ks x c=some ⟨k,y⟩->∃ v,cs[o + c]? = some v/\cO w k y v (G (j + c))
 | [],_,_,_,_,_,_,_,_,_,h=>by simp [cellAt] at h
 | k0 :: ks,x,j,G,cs,o,0,k,y,⟨⟨v,h1,h2⟩,_⟩,h=>by simp only [cellAt,ac3,Sigma.mk.injEq] at h;obtain ⟨rfl,h⟩:=h;have h:=ae8 h;subst h;exact ⟨v,h1,h2⟩
 | k0 :: ks,x,j,G,cs,o,c + 1,k,y,⟨_,h3⟩,h=>by obtain ⟨v,h1,h2⟩:=tl ks x.2 (j + 1) G cs (o + 1) c k y h3 h;exact ⟨v,by rw [show o + (c + 1)=o + 1 + c by omega]; exact h1,by rw [show j + (c + 1)=j + 1 + c by omega]; exact h2⟩
theorem L7 {e:TypeId} {ks:List K} {xs:T (.sl e ks)} {b o l cap:Nat} {F:Nat->Prop} (h:cO w (.sl e ks) xs (.slice (some ⟨b,o,none⟩) l cap) F) {i c:Nat} (hi:i < (aG xs).length) {k:K} {y:T k} (hc:cellAt ks (eC xs i) c=some ⟨k,y⟩) :
 ∃ v Fi,w.cell? ⟨b,o + i * ks.length + c,none⟩=some v/\cO w k y v Fi/\(∀ q,Fi q->F q/\q≠b)/\F b /\
  ∀ (w':World) (y':T k) (z:Tl ks) (F':Nat->Prop),setAt ks (eC xs i) c k y'=some z->cO w' k y' v F'->(∀ q,F' q->F q->Fi q)->(∀ q,q < w.heap.size->F q->¬ Fi q->w'.heap[q]? = w.heap[q]?)->(∀ q,F q->q < w.heap.size) ->
   cO w' (.sl e ks) (List.set (aG xs) i z) (.slice (some ⟨b,o,none⟩) l cap) (fun q=>(F q/\¬ Fi q)∨F' q):=by
 obtain ⟨a',c0,h1,h2,h3,h4,h5⟩:=h;simp only [adX] at h1;obtain ⟨rfl,rfl,rfl⟩:=h1;obtain ⟨b',o',cs,el,fr,g1,g2,g3,g4,g5,G,g6,g7,g8⟩:=h5 _ rfl;simp only [aei,aej] at g1;obtain ⟨rfl,rfl⟩:=g1;obtain ⟨v,hv1,hv2⟩:=tl ks _ 0 (G i) cs _ c k y (g8 i _ (ij xs hi)) hc;rw [adA] at hv2;refine ⟨v,G i c,?_,hv2,fun q hq=>g6 i c q hq,g2,fun w' y' z F' hz ho hF' hw hlt => ?_⟩
 . simp only [World.cell?,g3,aed,adQ,aek];exact hv1
 . have hlen:(aG (e:=e) (ks:=ks) (List.set (aG xs) i z)).length=(aG xs).length:=afr ..
   have hbG:¬ G i c b:=fun hh=>(g6 i c b hh).2 rfl
   have hcl:=qS _ _ _ _ _ _ hz;have hblt:=hlt b g2;refine ⟨_,cap,by rw [hlen],by rw [hlen]; exact h2,by rw [hlen]; exact h3,h4,fun a'' ha'' => ?_⟩;simp only [ac3] at ha'';subst ha'';refine ⟨b,o,cs,el,fr,rfl,.inl ⟨g2,hbG⟩,by rw [hw b hblt g2 hbG]; exact g3,g4,g5,fun i' j' q=>if i'=i/\j'=c then F' q else G i' j' q,fun i' j' q hq => ?_,fun i1 j1 i2 j2 q hq1 hq2 => ?_,fun i' x hx => ?_⟩
   . dsimp only at hq;split at hq
     . refine ⟨.inr hq,fun e => ?_⟩;subst e;exact hbG (hF' q hq g2)
     . rename_i hne;refine ⟨.inl ⟨(g6 i' j' q hq).1,fun hh=>hne ?_⟩,(g6 i' j' q hq).2⟩;exact g7 i' j' i c q hq hh
   . dsimp only at hq1 hq2;have cross:∀ i1 j1,¬ (i1=i/\j1=c)->G i1 j1 q->F' q->False:=fun i1 j1 hne hG hF=>by
      exact hne (g7 i1 j1 i c q hG (hF' q hF (g6 i1 j1 q hG).1))
     by_cases e1:i1=i/\j1=c
     . rw [if_pos e1] at hq1;by_cases e2:i2=i/\j2=c
       . exact ⟨e1.1.trans e2.1.symm,e1.2.trans e2.2.symm⟩
       . rw [if_neg e2] at hq2; exact (cross i2 j2 e2 hq2 hq1).elim
     . rw [if_neg e1] at hq1;by_cases e2:i2=i/\j2=c
       . rw [if_pos e2] at hq2; exact (cross i1 j1 e1 hq1 hq2).elim
       . rw [if_neg e2] at hq2; exact g7 _ _ _ _ q hq1 hq2
   . have hx':(List.set (aG xs) i z)[i']? = some x:=hx;rw [ae5] at hx';by_cases ei:i=i'
     . subst ei;rw [if_pos rfl,if_pos hi] at hx';simp only [ac3] at hx';subst hx';refine sd ks (eC xs i) c k y' z 0 (G i) _ F' cs cs _ v hz ho hv1 (fun _ _ _=>rfl) (fun q p hne hp => ?_) (fun p hp => ?_) (fun q p hne hp _ => ?_) (g8 i _ (ij xs hi))
       . show (if i=i/\q=c then F' p else G i q p);rw [if_neg (fun e=>hne (by omega))]; exact hp
       . show (if i=i/\0 + c=c then F' p else G i (0 + c) p);rw [if_pos ⟨rfl,by omega⟩]; exact hp
       . exact hw p (hlt p (g6 i q p hp).1) (g6 i q p hp).1 fun hh=>hne (by have:=(g7 i q i c p hp hh).2; omega)
     . rw [if_neg ei] at hx';refine eP.frame ks x 0 (G i') _ cs _ (fun j q hq => ?_) (fun j q hq _ => ?_) (g8 i' x hx')
       . show (if i'=i/\j=c then F' q else G i' j q);rw [if_neg (fun e=>ei e.1.symm)]; exact hq
       . exact hw q (hlt q (g6 i' j q hq).1) (g6 i' j q hq).1 fun hh=>ei (g7 i' j i c q hq hh).1.symm
end
end Go.Av
namespace Go.Av
open Go.RowKit (Below)
section
variable {P:Program} {cx:Cx P} {Z:Nat->Prop} {a:Act} {w:World} {E:En}
theorem dz.mono {F F':Nat->Nat->Prop} (hF:∀ i b,F i b->F' i b):∀ (ps:List PK) (x:PT ps) (vs:List Value) (i:Nat),dz Z w F ps x vs i->dz Z w F' ps x vs i
 | [],_,[],_,_=>trivial
 | .c _ _ :: ps,x,v :: vs,i,h=>⟨h.1,dz.mono hF ps x.2 vs _ h.2⟩
 | .pt _ :: ps,x,v :: vs,i,h=>⟨h.1,dz.mono hF ps x.2 vs _ h.2⟩
 | .nil :: ps,x,v :: vs,i,h=>⟨h.1,dz.mono hF ps x vs _ h.2⟩
 | .fn _ _ :: ps,x,v :: vs,i,h=>⟨h.1,dz.mono hF ps x.2 vs _ h.2⟩
 | .io _ ks :: ps,x,v :: vs,i,⟨⟨cs,e,h⟩,h'⟩=>⟨⟨cs,e,aQ.mono hF ks x.1 cs i h⟩,dz.mono hF ps x.2 vs _ h'⟩
 | .mv _ :: ps,x,v :: vs,i,h=>⟨cO.frame _ _ _ _ _ (hF i) (fun _ _ _=>rfl) h.1,dz.mono hF ps x.2 vs _ h.2⟩
 | [],_,_ :: _,_,h=>h.elim
 | .c _ _ :: _,_,[],_,h=>h.elim
 | .fn _ _ :: _,_,[],_,h=>h.elim
 | .io _ _ :: _,_,[],_,h=>h.elim
 | .pt _ :: _,_,[],_,h=>h.elim
 | .nil :: _,_,[],_,h=>h.elim
 | .mv _ :: _,_,[],_,h=>h.elim
theorem aQ.bS {Z':Nat->Prop} {H:Nat->Nat->Prop} (hz:∀ b,Z b->b < w.heap.size->Z' b):∀ (ks:List K) (x:Tl ks) (cs:List Value) (j:Nat),aQ true Z w H ks x cs j->aQ true Z' w H ks x cs j
 | [],_,[],_,_=>trivial
 | .sl e ks' :: ks,x,v :: vs,j,h=>⟨h.1,aQ.bS hz ks x.2 vs _ h.2⟩
 | .int _ :: ks,x,v :: vs,j,h=>⟨h.1.bS hz,aQ.bS hz ks x.2 vs j h.2⟩
 | .bool :: ks,x,v :: vs,j,h=>⟨h.1.bS hz,aQ.bS hz ks x.2 vs j h.2⟩
 | .str :: ks,x,v :: vs,j,h=>⟨h.1.bS hz,aQ.bS hz ks x.2 vs j h.2⟩
 | [],_,_ :: _,_,h=>h.elim
 | .sl _ _ :: _,_,[],_,h=>h.elim
 | .int _ :: _,_,[],_,h=>h.elim
 | .bool :: _,_,[],_,h=>h.elim
 | .str :: _,_,[],_,h=>h.elim
def Zb (Z:Nat->Prop) (g:Gh) (st:St):Nat->Prop:=fun b=>Z b∨∃ r R,look st.rt r=some R/\R.box=true/\g.be r=b
theorem PY {g:Gh} {st:St} (h:Rel cx Z g st a w):∀ b,Zb Z g st b->b < w.heap.size:=fun b hb=>by
 rcases hb with hb | ⟨r,R,hR,hx,e⟩
 . exact (h.bS b hb).1
 . obtain ⟨_,_,_,_,cs,el,fr,b5,_⟩:=h.box r R hR hx;rw [e] at b5;rcases adj b w.heap.size with hh | hh
   . exact hh
   . simp [adr hh] at b5
theorem PG {g:Gh} {st:St} (h:Rel cx Z g st a w) {r j b:Nat} (hb:g.fp r j b):¬ Zb Z g st b:=fun hz=>by
 rcases hz with hz | ⟨r',R,hR,hx,e⟩
 . exact (h.fp _ _ _ hb).2.2.1 hz
 . exact (h.box r' R hR hx).2.2.1 r j (e ▸ hb)
def Eh (g:Gh) (st:St) (w w':World) (r j:Nat) (c':RC) (F F':Nat->Prop):Prop :=
 ∃ c e ks xs xs',st.cell r j=some c/\c'.s=c.s/\c.m < c'.m/\c.v= .own (.sl e ks) xs/\c'.v= .own (.sl e ks) xs'/\(aG xs').length=(aG xs).length/\cO w' (.sl e ks) xs' (g.cv r j) (fun q=>(g.fp r j q/\¬ F q)∨F' q)
structure JB (g:Gh) (st:St) (w:World) (n:Ln) (k:K) (F:Nat->Prop) (v:Value):Prop where
 sub:∀ b,F b->g.fp n.r n.j b
 back:∀ (w':World) (y':T k) (F':Nat->Prop) (c':RC),st.A9 n ⟨k,y'⟩=some c'->cO w' k y' v F'->(∀ q,F' q->g.fp n.r n.j q->F q)->(∀ q,q < w.heap.size->g.fp n.r n.j q->¬ F q->w'.heap[q]? = w.heap[q]?)->Eh g st w w' n.r n.j c' F F'
theorem ML {w w':World} {e:TypeId} {ks:List K} {xs xs':T (.sl e ks)} {v:Value} {F F':Nat->Prop} (h:cO w (.sl e ks) xs v F) (h':cO w' (.sl e ks) xs' v F'):(aG xs').length=(aG xs).length:=by obtain ⟨a,c,h1,_⟩:=h;obtain ⟨a',c',h1',_⟩:=h';rw [h1] at h1';simp only [adX] at h1';exact h1'.2.1.symm
theorem Hd {g:Gh} {st:St} (h:Rel cx Z g st a w) {av:AV} {v:Value} {e0:TypeId} {ks0:List K} {n:Ln} {y:T (.sl e0 ks0)} (hr:bj Z g st w av v) (hl:st.Cz (.sl e0 ks0) av=some (n,y)) :
 ∃ F,cO w (.sl e0 ks0) y v F/\JB g st w n (.sl e0 ks0) F v:=by
 cases av with
 | ref r j s =>
   simp only [St.Cz] at hl;split at hl
   . rename_i s' m k' x hc;cases hb:Nat.beq s' s with
     | false=>rw [hb] at hl; simp at hl
     | true =>
       rw [hb] at hl;simp only [ac6] at hl;split at hl
       . rename_i y' hy;cases hl;obtain ⟨rfl,hy⟩:=cF hy;have hy:x=y:=hy;subst hy;have:=beq_eq hb;subst this;obtain ⟨c,q1,q2,q3⟩:=hr;rw [hc] at q1;cases q1;have q3:=q3 rfl;subst q3;have ho:cO w (.sl e0 ks0) x (g.cv r j) (g.fp r j):=h.cell r j _ hc;refine ⟨g.fp r j,ho,fun b hb=>hb,fun w' y' F' c' hbk ho' hF' hw' => ?_⟩;simp only [St.A9,hc,ac3] at hbk;subst hbk;refine ⟨_,e0,ks0,x,y',hc,rfl,ael _,rfl,rfl,ML ho ho',?_⟩;exact cO.frame _ _ _ _ _ (fun b hb=> .inr hb) (fun _ _ _=>rfl) ho'
       . simp at hl
   . simp at hl
 | pref r j s m i c =>
   simp only [St.Cz] at hl;split at hl
   . rename_i s' m' e ks x hc;cases hb:Nat.beq s' s && Nat.beq m' m with
     | false=>rw [hb] at hl; simp at hl
     | true =>
       rw [hb] at hl;simp only [ac6] at hl;simp only [ac5] at hb;split at hl
       . rename_i k' y1 hcell;split at hl
         . rename_i y' hy;cases hl;obtain ⟨rfl,hy⟩:=cF hy;have hy:y1=y:=hy;subst hy;have e1:=beq_eq hb.1;have e2:=beq_eq hb.2;subst e1; subst e2;obtain ⟨c0,q1,q2,q3,q4⟩:=hr;rw [hc] at q1;cases q1;obtain ⟨e',ks',xs',p1,p2,p3,b,o,l,cap,p4,p5⟩:=q4 rfl rfl;simp only [RV.own.injEq,K.sl.injEq] at p1;obtain ⟨⟨rfl,rfl⟩,p1⟩:=p1;have p1:=ae8 p1;subst p1;have ho:cO w (.sl e ks) x (g.cv r j) (g.fp r j):=h.cell r j _ hc;rw [p4] at ho;obtain ⟨v',Fi,u1,u2,u3,u4,u5⟩:=L7 ho p2 hcell;rw [p5] at u1;simp only [ac3] at u1;subst u1;refine ⟨Fi,u2,fun b hb=>(u3 b hb).1,fun w' y' F' c' hbk ho' hF' hw' => ?_⟩;simp only [St.A9,hc] at hbk;split at hbk
           . rename_i z hz;simp only [ac3] at hbk;subst hbk;refine ⟨_,e,ks,x,_,hc,rfl,ael _,rfl,rfl,afr ..,?_⟩;show cO w' (.sl e ks) _ (g.cv r j) _;rw [p4];exact u5 w' y' z F' hz ho' hF' hw' fun q hq=>(h.fp r j q hq).1
           . simp at hbk
         . simp at hl
       . simp at hl
   . simp at hl
 | _=>simp [St.Cz] at hl
def ER:List K->List Value->List (K×Value)
 | .sl e ks' :: ks,v :: vs=>(.sl e ks',v) :: ER ks vs
 | .int _ :: ks,_ :: vs=>ER ks vs
 | .bool :: ks,_ :: vs=>ER ks vs
 | .str :: ks,_ :: vs=>ER ks vs
 | _,_=>[]
def yJ:List PK->List Value->List (K×Value)
 | .io gg ks :: ps,v :: vs=>ER ks (cellsOf gg v) ++ yJ ps vs
 | .c _ _ :: ps,_ :: vs=>yJ ps vs
 | .pt _ :: ps,_ :: vs=>yJ ps vs
 | .nil :: ps,_ :: vs=>yJ ps vs
 | .fn _ _ :: ps,_ :: vs=>yJ ps vs
 | .mv _ :: ps,_ :: vs=>yJ ps vs
 | _,_=>[]
def eZ (g:Gh) (st:St) (w:World) (F:Nat->Nat->Prop):List Ln->List (K×Value)->Nat->Prop
 | [],[],_=>True
 | n :: l,p :: r,i=>JB g st w n p.1 (F i) p.2/\eZ g st w F l r (i + 1)
 | _,_,_=>False
theorem JB.eq {g:Gh} {st:St} {n:Ln} {k:K} {F F':Nat->Prop} {v:Value} (h:JB g st w n k F v) (e:∀ b,F b↔F' b):JB g st w n k F' v:=by
 have:F=F':=funext fun b=>propext (e b)
 rw [<- this]; exact h
theorem eZ.eq {g:Gh} {st:St} {F F':Nat->Nat->Prop}:∀ (l:List Ln) (r:List (K×Value)) (i:Nat),(∀ m b,i<=m->m < i + l.length->(F m b↔F' m b))->eZ g st w F l r i->eZ g st w F' l r i
 | [],[],_,_,_=>trivial
 | n :: l,p :: r,i,e,h=>⟨h.1.eq fun b=>e i b (ac7 _) (by simp),eZ.eq l r (i + 1) (fun m b h1 h2=>e m b (by omega) (by simp only [ac9]; omega)) h.2⟩
 | [],_ :: _,_,_,h=>h.elim
 | _ :: _,[],_,_,h=>h.elim
theorem eZ.len {g:Gh} {st:St} {F:Nat->Nat->Prop}:∀ (l:List Ln) (r:List (K×Value)) (i:Nat),eZ g st w F l r i->l.length=r.length
 | [],[],_,_=>rfl
 | n :: l,p :: r,i,h=>adU (· + 1) (eZ.len l r (i + 1) h.2)
 | [],_ :: _,_,h=>h.elim
 | _ :: _,[],_,h=>h.elim
theorem eZ.app {g:Gh} {st:St} {F:Nat->Nat->Prop}:∀ (l l':List Ln) (r r':List (K×Value)) (i:Nat),eZ g st w F l r i->eZ g st w F l' r' (i + l.length)->eZ g st w F (l ++ l') (r ++ r') i
 | [],_,[],_,_,_,h=>h
 | n :: l,l',p :: r,r',i,h,h'=>⟨h.1,eZ.app l l' r r' (i + 1) h.2 (by rw [show i + 1 + l.length=i + (n :: l).length by simp; omega]; exact h')⟩
 | [],_,_ :: _,_,_,h,_=>h.elim
 | _ :: _,_,[],_,_,h,_=>h.elim
theorem lH {g:Gh} {st:St} (h:Rel cx Z g st a w):∀ (ks:List K) (l:List AV) (cs:List Value) (i:Nat) (ns:List Ln) (y:Tl ks),aP Z g st w l cs->st.nk ks l=some (ns,y) ->
 ns.length=bp ks/\∃ F:Nat->Nat->Prop,aQ true Z w F ks y cs i/\eZ g st w F ns (ER ks cs) i/\∀ m b,F m b->i<=m/\m < i + bp ks
 | [],[],[],i,ns,y,_,hl=>by simp only [St.nk,ac3,adF] at hl;obtain ⟨rfl,_⟩:=hl;exact ⟨rfl,fun _ _=>False,trivial,trivial,fun _ _ h=>h.elim⟩
 | [],[],_ :: _,_,_,_,h1,_=>h1.elim
 | [],_ :: _,_,_,_,_,_,hl=>by simp [St.nk] at hl
 | _ :: _,[],_,_,_,_,_,hl=>by simp [St.nk] at hl
 | _ :: _,_ :: _,[],_,_,_,h1,_=>h1.elim
 | .sl e ks' :: ks,av :: l,v :: vs,i,ns,y,h1,hl=>by
   simp only [St.nk] at hl;split at hl
   . rename_i p q hp hq;cases hl;obtain ⟨F1,k1,k2⟩:=Hd h h1.1 hp;obtain ⟨hlen,F,m1,m2,m3⟩:=lH h ks l vs (i + 1) q.1 q.2 h1.2 hq;have hs:∀ m b,(i + 1<=m)->(((m=i/\F1 b)∨F m b)↔F m b):=fun m b hm=>⟨fun hh=>hh.elim (fun h=>by omega) id,.inr⟩
     refine ⟨by simp [bp,hlen],fun m b=>(m=i/\F1 b)∨F m b,⟨cO.frame _ _ _ _ _ (fun b hb=> .inl ⟨rfl,hb⟩) (fun _ _ _=>rfl) k1,aQ.mono (fun m b hb=> .inr hb) _ _ _ _ m1⟩,⟨k2.eq fun b=>⟨fun hb=> .inl ⟨rfl,hb⟩,fun hb=>hb.elim (fun h=>h.2) fun hb=>by have:=(m3 i b hb).1; omega⟩,?_⟩,fun m b hb => ?_⟩
     . exact eZ.eq _ _ _ (fun m b h1 _=>(hs m b h1).symm) m2
     . simp only [bp];rcases hb with hb | hb
       . omega
       . have:=m3 m b hb; omega
   . simp at hl
 | .int k :: ks,av :: l,v :: vs,i,ns,y,h1,hl=>by
   simp only [St.nk] at hl;split at hl
   . rename_i x q hx hf hq;cases hl;obtain ⟨hlen,F,m1,m2,m3⟩:=lH h ks l vs i q.1 q.2 h1.2 hq;exact ⟨hlen,F,⟨cu h h1.1 hf hx,m1⟩,m2,m3⟩
   . simp at hl
 | .bool :: ks,av :: l,v :: vs,i,ns,y,h1,hl=>by
   simp only [St.nk] at hl;split at hl
   . rename_i x q hx hf hq;cases hl;obtain ⟨hlen,F,m1,m2,m3⟩:=lH h ks l vs i q.1 q.2 h1.2 hq;exact ⟨hlen,F,⟨cu h h1.1 hf hx,m1⟩,m2,m3⟩
   . simp at hl
 | .str :: ks,av :: l,v :: vs,i,ns,y,h1,hl=>by
   simp only [St.nk] at hl;split at hl
   . rename_i x q hx hf hq;cases hl;obtain ⟨hlen,F,m1,m2,m3⟩:=lH h ks l vs i q.1 q.2 h1.2 hq;exact ⟨hlen,F,⟨cu h h1.1 hf hx,m1⟩,m2,m3⟩
   . simp at hl
theorem mj {g:Gh} {st:St} (h:Rel cx Z g st a w) {Z':Nat->Prop} (hz0:∀ b,Z b->b < w.heap.size->Z' b) (hb0:∀ r R,look st.rt r=some R->R.box=true->Z' (g.be r)):∀ (ps:List PK) (l:List TV) (vs:List Value) (i:Nat) (ns:List Ln) (x:PT ps),gb Z g st w l vs->st.bQ ps l=some (ns,x) ->
 ∃ F:Nat->Nat->Prop,dz Z' w F ps x vs i/\eZ g st w F ns (yJ ps vs) i/\∀ m b,F m b->i<=m/\m < i + ns.length
 | [],[],[],i,ns,x,_,hl=>by simp only [St.bQ,ac3,adF] at hl;obtain ⟨rfl,_⟩:=hl;exact ⟨fun _ _=>False,trivial,trivial,fun _ _ h=>h.elim⟩
 | [],[],_ :: _,_,_,_,h1,_=>h1.elim
 | [],_ :: _,_,_,_,_,_,hl=>by simp [St.bQ] at hl
 | .c _ _ :: _,[],_,_,_,_,_,hl=>by simp [St.bQ] at hl
 | .fn _ _ :: _,[],_,_,_,_,_,hl=>by simp [St.bQ] at hl
 | .io _ _ :: _,[],_,_,_,_,_,hl=>by simp [St.bQ] at hl
 | .mv _ :: _,[],_,_,_,_,_,hl=>by simp [St.bQ] at hl
 | .mv _ :: _,_ :: _,_,_,_,_,_,hl=>by simp [St.bQ] at hl
 | .pt _ :: _,[],_,_,_,_,_,hl=>by simp [St.bQ] at hl
 | .nil :: _,[],_,_,_,_,_,hl=>by simp [St.bQ] at hl
 | .nil :: _,_ :: _,_,_,_,_,_,hl=>by simp [St.bQ] at hl
 | .pt _ :: _,_ :: _,_,_,_,_,_,hl=>by simp [St.bQ] at hl
 | .c _ _ :: _,_ :: _,[],_,_,_,h1,_=>h1.elim
 | .fn _ _ :: _,_ :: _,[],_,_,_,h1,_=>h1.elim
 | .io _ _ :: _,_ :: _,[],_,_,_,h1,_=>h1.elim
 | .c gg ks :: ps,tv :: r,v :: vs,i,ns,x,h1,hl=>by
   unfold St.bQ at hl;cases hl2:tv.db with
   | none=>rw [hl2] at hl; simp at hl
   | some p =>
     obtain ⟨gg',l⟩:=p;rw [hl2] at hl;simp only at hl;cases hb:bU gg gg' && l.all AV.bP with
     | false=>rw [hb] at hl; simp at hl
     | true =>
       rw [hb] at hl;simp only [ac6] at hl;simp only [ac5] at hb;have hg:=eo hb.1;subst hg;split at hl
       . rename_i z q hz hq;cases hl;obtain ⟨us,e1,e2⟩:=iC (lX h1.1 hl2);obtain ⟨F,k1,k2,k3⟩:=mj h hz0 hb0 ps r vs i q.1 q.2 h1.2 hq;exact ⟨F,⟨⟨us,e1,ur.bS hz0 ks z us (dK h ks l us z e2 hb.2 hz)⟩,k1⟩,k2,k3⟩
       . simp at hl
 | .fn f cs :: ps,tv :: r,v :: vs,i,ns,x,h1,hl=>by
   cases tv with
   | fn f' caps =>
     unfold St.bQ at hl;cases hb:Nat.beq f f' with
     | false=>rw [hb] at hl; simp at hl
     | true =>
       rw [hb] at hl;simp only [ac6] at hl;have hf:=beq_eq hb;subst hf;split at hl
       . rename_i z q hz hq;cases hl;obtain ⟨us,e1,e2⟩:=h1.1;obtain ⟨F,k1,k2,k3⟩:=mj h hz0 hb0 ps r vs i q.1 q.2 h1.2 hq;exact ⟨F,⟨⟨us,e1,nA h hz0 (fun _=>hb0) cs caps us.toList z e2 hz⟩,k1⟩,k2,k3⟩
       . simp at hl
   | _=>simp [St.bQ] at hl
 | .io gg ks :: ps,tv :: r,v :: vs,i,ns,x,h1,hl=>by
   unfold St.bQ at hl;cases hl2:tv.db with
   | none=>rw [hl2] at hl; simp at hl
   | some p =>
     obtain ⟨gg',l⟩:=p;rw [hl2] at hl;simp only at hl;cases hb:bU gg gg' with
     | false=>rw [hb] at hl; simp at hl
     | true =>
       rw [hb] at hl;simp only [ac6] at hl;have hg:=eo hb;subst hg;split at hl
       . rename_i p q hp hq;cases hl;obtain ⟨us,e1,e2⟩:=iC (lX h1.1 hl2);obtain ⟨hlen,F1,m1,m2,m3⟩:=lH h ks l us i p.1 p.2 e2 hp;obtain ⟨F,k1,k2,k3⟩:=mj h hz0 hb0 ps r vs (i + bp ks) q.1 q.2 h1.2 hq;refine ⟨fun m b=>F1 m b∨F m b,⟨⟨us,e1,aQ.mono (fun m b hb=> .inl hb) _ _ _ _ (aQ.bS hz0 _ _ _ _ m1)⟩,dz.mono (fun m b hb=> .inr hb) _ _ _ _ k1⟩,?_,fun m b hb => ?_⟩
         . simp only [yJ,e1.eq];refine eZ.app _ _ _ _ _ (eZ.eq _ _ _ (fun m b hm1 hm2=>⟨.inl,fun hh=>hh.elim id fun hh=>by have:=(k3 m b hh).1; omega⟩) m2) ?_;rw [hlen];exact eZ.eq _ _ _ (fun m b hm1 hm2=>⟨.inr,fun hh=>hh.elim (fun hh=>by have:=(m3 m b hh).2; omega) id⟩) k2
         . simp only [ac4,hlen];rcases hb with hb | hb
           . have:=m3 m b hb; omega
           . have:=k3 m b hb; omega
       . simp at hl
def iO (w':World) (G:Nat->Nat->Prop):List ((k:K)×T k)->List (K×Value)->Nat->Prop
 | [],[],_=>True
 | y :: l,p :: r,i=>(y.1=p.1/\cO w' y.1 y.2 p.2 (G i))/\iO w' G l r (i + 1)
 | _,_,_=>False
theorem iO.app {w':World} {G:Nat->Nat->Prop}:∀ (l l':List ((k:K)×T k)) (r r':List (K×Value)) (i:Nat),iO w' G l r i->iO w' G l' r' (i + l.length)->iO w' G (l ++ l') (r ++ r') i
 | [],_,[],_,_,_,h=>h
 | n :: l,l',p :: r,r',i,h,h'=>⟨h.1,iO.app l l' r r' (i + 1) h.2 (by rw [show i + 1 + l.length=i + (n :: l).length by simp; omega]; exact h')⟩
 | [],_,_ :: _,_,_,h,_=>h.elim
 | _ :: _,_,[],_,_,h,_=>h.elim
theorem j4:∀ (ks:List K) (y:Tl ks),(wK ks y).length=bp ks
 | [],_=>rfl
 | .sl _ _ :: ks,x=>adU (· + 1) (j4 ks x.2)
 | .int _ :: ks,x=>j4 ks x.2
 | .bool :: ks,x=>j4 ks x.2
 | .str :: ks,x=>j4 ks x.2
theorem kd {Z':Nat->Prop} {w':World} {G:Nat->Nat->Prop}:∀ (ks:List K) (y:Tl ks) (cs:List Value) (i:Nat),aQ true Z' w' G ks y cs i->iO w' G (wK ks y) (ER ks cs) i
 | [],_,[],_,_=>trivial
 | .sl e ks' :: ks,y,v :: vs,i,h=>⟨⟨rfl,h.1⟩,kd ks y.2 vs (i + 1) h.2⟩
 | .int _ :: ks,y,v :: vs,i,h=>kd ks y.2 vs i h.2
 | .bool :: ks,y,v :: vs,i,h=>kd ks y.2 vs i h.2
 | .str :: ks,y,v :: vs,i,h=>kd ks y.2 vs i h.2
 | [],_,_ :: _,_,h=>h.elim
 | .sl _ _ :: _,_,[],_,h=>h.elim
 | .int _ :: _,_,[],_,h=>h.elim
 | .bool :: _,_,[],_,h=>h.elim
 | .str :: _,_,[],_,h=>h.elim
def De:List PK->Bool
 | []=>true
 | .mv _ :: _=>false
 | .c _ _ :: ps=>De ps
 | .pt _ :: ps=>De ps
 | .nil :: ps=>De ps
 | .fn _ _ :: ps=>De ps
 | .io _ _ :: ps=>De ps
theorem nT {Z':Nat->Prop} {w':World} {G:Nat->Nat->Prop}:∀ (ps:List PK) (y:uw ps) (vs:List Value) (i:Nat),De ps=true->vs.length=ps.length->vF Z' w' G ps y vs i->iO w' G (jH ps y) (yJ ps vs) i
 | [],_,[],_,_,_,_=>trivial
 | .c _ _ :: ps,y,v :: vs,i,hn,hl,h=>nT ps y vs i hn (by simpa using hl) h
 | .pt _ :: ps,y,v :: vs,i,hn,hl,h=>nT ps y vs i hn (by simpa using hl) h
 | .nil :: ps,y,v :: vs,i,hn,hl,h=>nT ps y vs i hn (by simpa using hl) h
 | .fn _ _ :: ps,y,v :: vs,i,hn,hl,h=>nT ps y vs i hn (by simpa using hl) h
 | .mv _ :: ps,y,v :: vs,i,hn,hl,h=>by simp [De] at hn
 | .io gg ks :: ps,y,v :: vs,i,hn,hl,⟨⟨cs,e,h⟩,h'⟩=>by simp only [yJ,jH,e.eq];exact iO.app _ _ _ _ _ (kd ks y.1 cs i h) (by rw [j4]; exact nT ps y.2 vs _ hn (by simpa using hl) h')
 | [],_,_ :: _,_,_,hl,_=>by simp at hl
 | .c _ _ :: ps,y,[],i,hn,hl,h=>h.elim
 | .pt _ :: ps,y,[],i,hn,hl,h=>h.elim
 | .nil :: ps,y,[],i,hn,hl,h=>h.elim
 | .fn _ _ :: ps,y,[],i,hn,hl,h=>h.elim
 | .io _ _ :: ps,y,[],i,hn,hl,h=>h.elim
 | .mv _ :: ps,y,[],i,hn,hl,h=>h.elim
theorem kF {st:St}:∀ (ps:List PK) (l:List TV) (q:List Ln×PT ps),st.bQ ps l=some q->De ps=true
 | [],_,_,_=>rfl
 | .c gg ks :: ps,[],q,h=>by simp [St.bQ] at h
 | .fn _ _ :: ps,[],q,h=>by simp [St.bQ] at h
 | .io _ _ :: ps,[],q,h=>by simp [St.bQ] at h
 | .mv _ :: ps,[],q,h=>by simp [St.bQ] at h
 | .mv _ :: ps,_ :: _,q,h=>by simp [St.bQ] at h
 | .pt _ :: ps,[],q,h=>by simp [St.bQ] at h
 | .nil :: ps,[],q,h=>by simp [St.bQ] at h
 | .nil :: ps,_ :: _,q,h=>by simp [St.bQ] at h
 | .pt _ :: ps,_ :: _,q,h=>by simp [St.bQ] at h
 | .c gg ks :: ps,tv :: r,q,h=>by
   unfold St.bQ at h;split at h
   . rename_i g' l hl;cases hb:bU gg g' && l.all AV.bP with
     | false=>rw [hb] at h; simp at h
     | true =>
       rw [hb] at h;simp only [ac6] at h;split at h
       . rename_i y hx hy; exact kF ps r _ hy
       . simp at h
   . simp at h
 | .fn f cs :: ps,tv :: r,q,h=>by
   cases tv with
   | fn f' caps =>
     unfold St.bQ at h;cases hb:Nat.beq f f' with
     | false=>rw [hb] at h; simp at h
     | true =>
       rw [hb] at h;simp only [ac6] at h;split at h
       . rename_i y hx hy; exact kF ps r _ hy
       . simp at h
   | _=>simp [St.bQ] at h
 | .io gg ks :: ps,tv :: r,q,h=>by
   unfold St.bQ at h;split at h
   . rename_i g' l hl;cases hb:bU gg g' with
     | false=>rw [hb] at h; simp at h
     | true =>
       rw [hb] at h;simp only [ac6] at h;split at h
       . rename_i y hx hy; exact kF ps r _ hy
       . simp at h
   . simp at h
def Hr (g:Gh) (st:St) (w w':World) (F G:Nat->Nat->Prop):List (Nat×Nat×RC)->Nat->Prop
 | [],_=>True
 | (r,j,c) :: l,i=>(Eh g st w w' r j c (F i) (G i)/\∀ b,F i b->g.fp r j b)/\Hr g st w w' F G l (i + 1)
theorem zR {g:Gh} {st:St} {w':World} {F G:Nat->Nat->Prop} :
 ∀ (ns:List Ln) (ys:List ((k:K)×T k)) (kv:List (K×Value)) (i:Nat) (qs:List (Nat×Nat×RC)),st.rV ns ys=some qs->eZ g st w F ns kv i->iO w' G ys kv i ->
  (∀ m n,ns[m]? = some n->(∀ q,G (i + m) q->g.fp n.r n.j q->F (i + m) q)/\∀ q,q < w.heap.size->g.fp n.r n.j q->¬ F (i + m) q->w'.heap[q]? = w.heap[q]?) ->
  Hr g st w w' F G qs i/\qs.map (fun q=>(q.1,q.2.1))=ns.map fun n=>(n.r,n.j)
 | [],[],[],i,qs,hb,_,_,_=>by simp only [St.rV,ac3] at hb;subst hb;exact ⟨trivial,rfl⟩
 | n :: ns,y :: ys,p :: kv,i,qs,hb,hL,hP,hh=>by
   simp only [St.rV] at hb;split at hb
   . rename_i c q hc hq;simp only [ac3] at hb;subst hb;obtain ⟨k1,k2⟩:=zR ns ys kv (i + 1) q hq hL.2 hP.2 fun m n' hm=>by
      have:=hh (m + 1) n' (by simpa using hm);rw [show i + (m + 1)=i + 1 + m by omega] at this;exact this
     obtain ⟨h1,h2⟩:=hh 0 n rfl;obtain ⟨k0,y0⟩:=y;obtain ⟨kp,v⟩:=p;obtain ⟨⟨e1,e2⟩,_⟩:=hP;simp only at e1 e2;subst e1;exact ⟨⟨⟨hL.1.back w' y0 (G i) c hc e2 h1 h2,hL.1.sub⟩,k1⟩,by simp [k2]⟩
   . simp at hb
 | [],[],_ :: _,_,_,_,h,_,_=>h.elim
 | [],_ :: _,_,_,_,hb,_,_,_=>by simp [St.rV] at hb
 | _ :: _,[],_,_,_,hb,_,_,_=>by simp [St.rV] at hb
 | _ :: _,_ :: _,[],_,_,_,h,_,_=>h.elim
end
end Go.Av
namespace Go.Av
open Go.RowKit (Below)
section
variable {P:Program} {cx:Cx P} {Z:Nat->Prop} {a:Act} {w:World} {E:En}
def jQ (g:Gh) (F G:Nat->Nat->Prop):List (Nat×Nat×RC)->Nat->NU
 | [],_=>fun _ _=>none
 | (r,j,c) :: l,i=>fun r' j'=>if r=r'/\j=j' then some (c,fun b=>(g.fp r j b/\¬ F i b)∨G i b) else jQ g F G l (i + 1) r' j'
theorem dP {g:Gh} {F G:Nat->Nat->Prop}:∀ (q:List (Nat×Nat×RC)) (i:Nat) (r j:Nat) (p:RC×(Nat->Prop)),jQ g F G q i r j=some p->∃ m,q[m]? = some (r,j,p.1)/\p.2=fun b=>(g.fp r j b/\¬ F (i + m) b)∨G (i + m) b
 | [],_,_,_,_,h=>by simp [jQ] at h
 | (r0,j0,c) :: l,i,r,j,p,h=>by
   simp only [jQ] at h;split at h
   . rename_i e;obtain ⟨rfl,rfl⟩:=e;simp only [ac3] at h;subst h;exact ⟨0,rfl,rfl⟩
   . obtain ⟨m,h1,h2⟩:=dP l (i + 1) r j p h;exact ⟨m + 1,h1,by rw [h2,show i + 1 + m=i + (m + 1) by omega]⟩
theorem tH {g:Gh} {F G:Nat->Nat->Prop}:∀ (q:List (Nat×Nat×RC)) (i m:Nat) (r j:Nat) (c:RC),q[m]? = some (r,j,c)->∃ p,jQ g F G q i r j=some p
 | [],_,_,_,_,_,h=>by simp at h
 | (r0,j0,c0) :: l,i,m,r,j,c,h=>by
   simp only [jQ];split
   . exact ⟨_,rfl⟩
   . rename_i hne;cases m with
     | zero=>simp only [adf,ac3,adF] at h; exact absurd ⟨h.1,h.2.1⟩ hne
     | succ m=>exact tH l (i + 1) m r j c (by simpa using h)
theorem gh {g:Gh} {F G:Nat->Nat->Prop} {st:St}:∀ (q:List (Nat×Nat×RC)) (i:Nat),Ja st (st.setCells q) (jQ g F G q i)
 | [],i=>⟨rfl,fun _=>rfl,fun _ _=>rfl,fun _ _=>rfl⟩
 | (r,j,c) :: l,i=>by
   have ih:=gh (g:=g) (F:=F) (G:=G) (st:=st) l (i + 1);refine ⟨by simp only [St.setCells]; rw [dm]; exact ih.tm,fun r'=>by simp only [St.setCells]; rw [iI]; exact ih.shape r',fun r' j' => ?_,fun r' hr => ?_⟩
   . simp only [St.setCells];rw [cJ];simp only [jQ];split
     . rw [ih.cell];split
       . simp [Option.map_map];rfl
       . rfl
     . exact ih.cell r' j'
   . simp only [St.setCells];rw [fo];by_cases e:r=r'
     . have:=hr j;simp [jQ,e] at this
     . rw [if_neg e];refine ih.rt r' fun j' => ?_
       have:=hr j';simp only [jQ] at this;rw [if_neg (fun hh=>e hh.1)] at this;exact this
theorem Hr.get {g:Gh} {st:St} {w w':World} {F G:Nat->Nat->Prop}:∀ (q:List (Nat×Nat×RC)) (i m:Nat) (r j:Nat) (c:RC),Hr g st w w' F G q i->q[m]? = some (r,j,c)->Eh g st w w' r j c (F (i + m)) (G (i + m))/\∀ b,F (i + m) b->g.fp r j b
 | [],_,_,_,_,_,_,h=>by simp at h
 | (r0,j0,c0) :: l,i,0,r,j,c,h,hq=>by simp only [adf,ac3,adF] at hq;obtain ⟨rfl,rfl,rfl⟩:=hq;exact h.1
 | (r0,j0,c0) :: l,i,m + 1,r,j,c,h,hq=>by have:=Hr.get l (i + 1) m r j c h.2 (by simpa using hq);rw [show i + 1 + m=i + (m + 1) by omega] at this;exact this
theorem yx:∀ (l:List Ln) (r j m:Nat) (n:Ln),F6 r j l=false->l[m]? = some n->¬ (n.r=r/\n.j=j)
 | [],_,_,_,_,_,h=>by simp at h
 | n0 :: l,r,j,m,n,h,hm=>by
   simp only [F6,aeL] at h;cases m with
   | zero => simp only [adf,ac3] at hm;subst hm;rintro ⟨rfl,rfl⟩;simp at h
   | succ m=>exact yx l r j m n h.2 (by simpa using hm)
theorem sK:∀ (l:List Ln) (m m':Nat) (n n':Ln),noTwo l=true->l[m]? = some n->l[m']? = some n'->n.r=n'.r->n.j=n'.j->m=m'
 | [],_,_,_,_,_,h,_,_,_=>by simp at h
 | n0 :: l,m,m',n,n',h,h1,h2,e1,e2=>by
   simp only [noTwo,ac5,adK] at h;cases m with
   | zero =>
     cases m' with
     | zero=>rfl
     | succ m' => simp only [adf,ac3] at h1;subst h1;exact (yx l n0.r n0.j m' n' h.1 (by simpa using h2) ⟨e1.symm,e2.symm⟩).elim
   | succ m =>
     cases m' with
     | zero => simp only [adf,ac3] at h2;subst h2;exact (yx l n0.r n0.j m n h.1 (by simpa using h1) ⟨e1,e2⟩).elim
     | succ m'=>exact adU (· + 1) (sK l m m' n n' h.2 (by simpa using h1) (by simpa using h2) e1 e2)
theorem eZ.get {g:Gh} {st:St} {F:Nat->Nat->Prop}:∀ (l:List Ln) (r:List (K×Value)) (i m:Nat) (n:Ln),eZ g st w F l r i->l[m]? = some n->∀ b,F (i + m) b->g.fp n.r n.j b
 | [],_,_,_,_,_,h=>by simp at h
 | n0 :: l,p :: r,i,0,n,h,hm=>by simp only [adf,ac3] at hm;subst hm;exact h.1.sub
 | n0 :: l,p :: r,i,m + 1,n,h,hm=>by have:=eZ.get l r (i + 1) m n h.2 (by simpa using hm);rw [show i + 1 + m=i + (m + 1) by omega] at this;exact this
 | _ :: _,[],_,_,_,h,_=>h.elim
theorem tZ {st:St} {dst:Option Nat} {tvs:List TV}:∀ {l:List Su} {st':St},(st.mX dst l tvs).run=some st'->∃ s ns x z y tv q,s∈l/\(mo s.rs=false/\s.fresh=true)/\noTwo ns=true/\st.bQ s.ps tvs=some (ns,x)/\s.uA x=some (z,y)/\gu (oR 0 true s.rs y 0)=some tv/\st.rV ns (jH s.ps z)=some q/\st'=(st.setCells q).BU dst tv
 | [],st',h=>by simp [St.mX,Tr.run] at h
 | s :: r,st',h=>by
   have again:(st.mX dst r tvs).run=some st'->∃ s' ns x z y tv q,s'∈s :: r/\(mo s'.rs=false/\s'.fresh=true)/\noTwo ns=true/\st.bQ s'.ps tvs=some (ns,x)/\s'.uA x=some (z,y)/\gu (oR 0 true s'.rs y 0)=some tv/\st.rV ns (jH s'.ps z)=some q/\st'=(st.setCells q).BU dst tv:=fun h=>by obtain ⟨s',ns,x,z,y,tv,q,h1,h2⟩:=tZ h;exact ⟨s',ns,x,z,y,tv,q,adt _ h1,h2⟩
   unfold St.mX at h;cases hq:mo s.rs || !s.fresh with
   | true=>rw [hq] at h; exact again h
   | false =>
     rw [hq] at h;simp only [adm] at h;simp only [aeL,afq] at hq;split at h
     . rename_i ns x hx;split at h
       . rename_i f hf;cases hn:noTwo ns with
         | false=>rw [hn] at h; simp [Tr.run] at h
         | true => rw [hn] at h;simp only [ac6,Tr.run,aeM] at h;obtain ⟨⟨z,y⟩,h0,h⟩:=h;obtain ⟨tv,h1,h⟩:=Tr.af h;obtain ⟨q,h2,h⟩:=Tr.af h;simp only [Tr.run,ac3] at h;exact ⟨s,ns,x,z,y,tv,q,adu ..,hq,hn,hx,by simp [Su.uA,hf,h0],h1,h2,h.symm⟩
       . simp [Tr.run] at h
     . exact again h
theorem KY (hga:df P E) {g:Gh} {st:St} (h:Rel cx Z g st a w) (hn:bt st) (hsz:Fit cx E a) {o:Oper} {dst:Option Nat} (hdn:∀ d,dst=some d->jG cx a d) (hd:o.dst=dst) {c:Call} {f:Operand} {gid:Nat} {caps:List (Bool×List AV)} {l:List TV}
 (ho:o.op= .call c) (hcal:c.callee= .value f) (hg:st.get f=some (.fn gid caps)) (hl:st.getAll c.args.toList=some l) {st':St}
 (hrun:(st.mX dst (E.ga gid) (l ++ caps.map fun p=>bif p.1 then .agg p.2 else (match p.2 with | [a]=> .v a | _=> .agg p.2))).run=some st'):rC P cx E st' a w o:=by
 have hc:=hn.cons.cons;obtain ⟨s,ns,x,z,y,tv,q,hs,⟨hsl,hfr⟩,hnt,hx,hy,hw,hq,rfl⟩:=tZ hrun;obtain ⟨cv,ef,ec⟩:=aM h hc hg;have hrel:=gb.app (kD h hc _ _ hl) (lD _ _ ec);have hvs:c.args.toList.map a.eval ++ cv.toList=(c.args.map a.eval ++ cv).toList:=by simp
 rw [hvs] at hrel;obtain ⟨F,k1,k2,k3⟩:=mj h (Z':=Zb Z g st) (fun _ h _=> .inl h) (fun r R hR hb=> .inr ⟨r,R,hR,hb,rfl⟩) s.ps _ _ 0 ns x hrel hx;have hin:∀ i b,F i b->∃ n,ns[i]? = some n/\g.fp n.r n.j b:=fun i b hb=>by
  have hlt:i < ns.length:=by have:=(k3 i b hb).2; omega
  have:=eZ.get ns _ 0 i _ k2 (adi hlt) b (by rw [adA]; exact hb);exact ⟨_,adi hlt,this⟩
 have hdis:∀ i j b,F i b->F j b->i=j:=fun i j b h1 h2=>by obtain ⟨n1,q1,q2⟩:=hin i b h1;obtain ⟨n2,q3,q4⟩:=hin j b h2;obtain ⟨e1,e2⟩:=h.disj _ _ _ _ b q2 q4;exact sK ns i j n1 n2 hnt q1 q3 e1 e2
 have hsu:=hga gid s hs w (Zb Z g st) F _ x (z,y) (h.gl.mono (ac7 _) fun b hb _=>⟨.inl hb,rfl⟩) k1 (PY h) (fun i b hb=>by obtain ⟨n,_,q2⟩:=hin i b hb; exact ⟨(h.fp _ _ _ q2).1,PG h q2⟩) hdis hy;have htv:¬ tv.iq:=mI hw;have hnm:bt ((st.setCells q).BU dst tv):=fun t tv' ht=>by
  cases dst with
  | none => have e:(st.setCells q).tm=st.tm:=(gh (g:=g) (F:=F) (G:=F) q 0).tm;exact hn t tv' (by rw [<- e]; exact ht)
  | some d =>
    have e:(st.setCells q).tm=st.tm:=(gh (g:=g) (F:=F) (G:=F) q 0).tm;simp only [St.BU] at ht;rw [bd] at ht;split at ht
    . simp only [ac3] at ht; subst ht; exact htv
    . exact hn t tv' (by rw [<- e]; exact ht)
 refine ⟨hnm,fun next Q hk => ?_⟩;unfold Oper.wp;rw [wU ho hcal ef];refine Bt hsu ?_;rintro v w' ⟨Z',H,vs,rfl,ha,hio,hr⟩;have hlen:(c.args.map a.eval ++ cv).toList.length=s.ps.length:=gP _ _ _ _ k1;have hpost:=nT s.ps z _ 0 (kF s.ps _ _ hx) hlen hio;have hgsub:∀ i b,H (2 * i) b->(∃ m,F m b)∨w.heap.size<=b:=fun i b hb=>(ha.fp _ b hb).2.2
 have hsame:∀ (m:Nat) (n:Ln),ns[m]? = some n->∀ b i,F i b->g.fp n.r n.j b->i=m:=fun m n hm b i hi hb=>by obtain ⟨n1,q1,q2⟩:=hin i b hi;obtain ⟨e1,e2⟩:=h.disj _ _ _ _ b q2 hb;exact sK ns i m n1 n hnt q1 hm e1 e2
 rw [hfr] at hr;obtain ⟨hQ,hnames⟩:=zR (w:=w) (w':=w') (F:=F) (G:=fun i=>H (2 * i)) ns _ _ 0 q hq k2 hpost fun m n hm=>by
  rw [adA];refine ⟨fun b hb hfb => ?_,fun b hlt hfb hnF=>ha.block b hlt fun i hi => ?_⟩
  . rcases hgsub m b hb with ⟨i,hi⟩ | hnew
    . have:=hsame m n hm b i hi hfb;rw [<- this]; exact hi
    . have:=(h.fp _ _ _ hfb).1;omega
  . have:=hsame m n hm b i hi hfb;exact hnF (this ▸ hi)
 have hname:∀ (m r j:Nat) (c':RC),q[m]? = some (r,j,c')->∃ n:Ln,ns[m]? = some n/\n.r=r/\n.j=j:=fun m r j c' hm=>by
  have h1:(q.map (fun q=>(q.1,q.2.1)))[m]? = some (r,j):=by rw [adY,hm]; rfl
  rw [hnames,adY] at h1;cases hm2:ns[m]? with
  | none=>rw [hm2] at h1; simp at h1
  | some n => rw [hm2] at h1;simp only [adG,ac3,adF] at h1;exact ⟨n,rfl,h1.1,h1.2⟩
 have hnameB:∀ (m:Nat) (n:Ln),ns[m]? = some n->∃ p,jQ g F (fun i=>H (2 * i)) q 0 n.r n.j=some p:=fun m n hm=>by
  have h1:(ns.map fun n=>(n.r,n.j))[m]? = some (n.r,n.j):=by rw [adY,hm]; rfl
  rw [<- hnames,adY] at h1;cases hm2:q[m]? with
  | none=>rw [hm2] at h1; simp at h1
  | some c' => obtain ⟨r1,j1,c1⟩:=c';rw [hm2] at h1;simp only [adG,ac3,adF] at h1;obtain ⟨rfl,rfl⟩:=h1;exact tH q 0 m _ _ c1 hm2
 have hlent:=gh (g:=g) (F:=F) (G:=fun i=>H (2 * i)) (st:=st) q 0
 obtain ⟨hR,hM⟩:=h.qW hlent ha.os ha.tape ha.output ha.size
  (fun r j p hp=>by obtain ⟨m,e1,e2⟩:=dP q 0 r j p hp;obtain ⟨⟨c0,e,ks,xs,xs',f1,f2,f3,f4,f5,f6,f7⟩,_⟩:=Hr.get q 0 m r j p.1 hQ e1;exact ⟨c0,f1,f2,f3,e,ks,xs,xs',f4,f5,f6,by rw [e2]; exact f7⟩)
  (fun r j p hp b hb=>by
    obtain ⟨m,e1,e2⟩:=dP q 0 r j p hp;rw [e2] at hb;rcases hb with ⟨hb,_⟩ | hb
    . obtain ⟨t1,t2,t3,_⟩:=h.fp r j b hb;exact ⟨adw t1 ha.size,.inl ⟨r,j,p,hp,hb⟩,t3⟩
    . obtain ⟨t1,t2,t3⟩:=ha.fp _ b hb;refine ⟨t1,?_,fun hz=>t2 (ha.z b (.inl hz))⟩;rcases t3 with ⟨i,hi⟩ | hnew
      . obtain ⟨n,q1,q2⟩:=hin i b hi;obtain ⟨p0,hp0⟩:=hnameB i n q1;exact .inl ⟨n.r,n.j,p0,hp0,q2⟩
      . exact .inr hnew)
  (fun r j p r' j' p' b hp hp' hb hb'=>by
    obtain ⟨m,e1,e2⟩:=dP q 0 r j p hp;obtain ⟨m',e1',e2'⟩:=dP q 0 r' j' p' hp';rw [e2] at hb;rw [e2'] at hb';rw [adA] at hb hb';have cross:∀ m r j c1 i,q[m]? = some (r,j,c1)->g.fp r j b->¬ F m b->H (2 * i) b->False:=fun m r j c1 i e1 k1 k2 k3=>by
     obtain ⟨n,t1,t2,t3⟩:=hname m r j c1 e1;rcases hgsub i b k3 with ⟨i',hi'⟩ | hnew
     . have:=hsame m n t1 b i' hi' (by rw [t2,t3]; exact k1);exact k2 (this ▸ hi')
     . have:=(h.fp _ _ _ k1).1; omega
    rcases hb with ⟨hb,hb2⟩ | hb
    . rcases hb' with ⟨hb',_⟩ | hb'
      . exact h.disj _ _ _ _ b hb hb'
      . exact (cross m r j _ m' e1 hb hb2 hb').elim
    . rcases hb' with ⟨hb',hb2'⟩ | hb'
      . exact (cross m' r' j' _ m e1' hb' hb2' hb).elim
      . have:=ha.disj _ _ b hb hb';have hmm:m=m':=by omega
        subst hmm;rw [e1] at e1';simp only [ac3,adF] at e1';exact ⟨e1'.1,e1'.2.1⟩)
  (fun b hlt hnl=>ha.block b hlt fun i hi=>by obtain ⟨n,q1,q2⟩:=hin i b hi;obtain ⟨p0,hp0⟩:=hnameB i n q1;exact hnl _ _ p0 hp0 q2)
 rw [hd];cases dst with
 | none=>exact hk _ _ _ _ hR hsz
 | some d=>exact hk _ _ _ _ (hR.fA (hdn d rfl) (gS (kY _ _ _ _ hr (fun hh=>by simp at hh) (fun _=>hsl)) hw)) (hsz.put _ _)
end
end Go.Av
namespace Go.Av
open Go.RowKit (Below)
section
variable {P:Program} {cx:Cx P} {Z:Nat->Prop} {a:Act} {w:World} {E:En}
theorem nH {Z':Nat->Prop} (hz0:∀ b,Z b->b < w.heap.size->Z' b):∀ (ps:List PK) (l:List TV) (vs:List Value) (st:St) (g:Gh) (st':St) (x:PT ps) (i:Nat),Rel cx Z g st a w->(∀ r R,look st.rt r=some R->R.box=true->Z' (g.be r))->gb Z g st w l vs->st.fm ps l=some (st',x) ->
 ∃ g' F n,Rel cx Z g' st' a w/\kC cx Z w g g' st st' F i n/\dz Z' w F ps x vs i/\st'.tm=st.tm
 | [],[],vs,st,g,st',x,i,h,hb0,hr,ht=>by
   simp only [St.fm,ac3,adF] at ht;obtain ⟨rfl,_⟩:=ht;cases vs with
   | nil=>exact ⟨g,_,0,h,kC.refl i,trivial,rfl⟩
   | cons _ _=>exact hr.elim
 | .c gg ks :: ps,tv :: r,[],st,g,st',x,i,h,hb0,hr,ht=>hr.elim
 | .c gg ks :: ps,tv :: r,v :: vs,st,g,st',x,i,h,hb0,hr,ht=>by
   unfold St.fm at ht;cases hl:tv.db with
   | none=>rw [hl] at ht; simp at ht
   | some p =>
     obtain ⟨gg',l⟩:=p;rw [hl] at ht;simp only at ht;cases hb:bU gg gg' && l.all AV.bP with
     | false=>rw [hb] at ht; simp at ht
     | true =>
       rw [hb] at ht;simp only [ac6] at ht;simp only [ac5] at hb;have hg:=eo hb.1;subst hg;split at ht
       . rename_i z q hz hq;cases ht;obtain ⟨us,e1,e2⟩:=iC (lX hr.1 hl);obtain ⟨g',F,n,k1,k2,k3,k4⟩:=nH hz0 ps r vs st g q.1 q.2 i h hb0 hr.2 hq;refine ⟨g',F,n,k1,k2,⟨⟨us,e1,ur.bS hz0 ks z us (dK h ks l us z e2 hb.2 hz)⟩,k3⟩,k4⟩
       . simp at ht
 | .fn f cs :: ps,tv :: r,[],st,g,st',x,i,h,hb0,hr,ht=>hr.elim
 | .fn f cs :: ps,tv :: r,v :: vs,st,g,st',x,i,h,hb0,hr,ht=>by
   cases tv with
   | fn f' caps =>
     unfold St.fm at ht;cases hb:Nat.beq f f' with
     | false=>rw [hb] at ht; simp at ht
     | true =>
       rw [hb] at ht;simp only [ac6] at ht;have hf:=beq_eq hb;subst hf;split at ht
       . rename_i z q hz hq;cases ht;obtain ⟨us,e1,e2⟩:=hr.1;obtain ⟨g',F,n,k1,k2,k3,k4⟩:=nH hz0 ps r vs st g q.1 q.2 i h hb0 hr.2 hq;exact ⟨g',F,n,k1,k2,⟨⟨us,e1,nA h hz0 (fun _=>hb0) cs caps us.toList z e2 hz⟩,k3⟩,k4⟩
       . simp at ht
   | _=>simp [St.fm] at ht
 | .mv k :: ps,tv :: r,[],st,g,st',x,i,h,hb0,hr,ht=>hr.elim
 | .mv k :: ps,tv :: r,v :: vs,st,g,st',x,i,h,hb0,hr,ht=>by
   cases tv with
   | v av =>
     unfold St.fm at ht;split at ht
     . rename_i st1 y hy;split at ht
       . rename_i q hq;cases ht;obtain ⟨g1,F1,k1,k2,k3,k4,k5,k6,k7⟩:=fw h hr.1 hy;have t1:kC cx Z w g g1 st st1 (fun n b=>n=i/\F1 b) i 1 :=
          ⟨fun p v=>qV.bZ k2.bZ p v,fun x v=>bj.bZ k2.bZ x v,k5,fun n=>⟨fun b hb=>k4.lt b hb.2,fun b hb=>k4.own b hb.2,fun b hb=>k4.z b hb.2,fun b hb=>k4.fp b hb.2,fun b hb=>k4.box b hb.2⟩,fun n b hb=>k6 b hb.2,fun n m b h1 h2=>h1.1.trans h2.1.symm,fun i b hb=>⟨by omega,by omega⟩,k2.be,k2.box⟩
         have hr2:∀ (l:List TV) (vs:List Value),gb Z g st w l vs->gb Z g1 st1 w l vs:=by
          intro l;induction l with
          | nil=>intro vs h; cases vs with | nil=>trivial | cons _ _=>exact h.elim
          | cons p r ih=>intro vs h; cases vs with | nil=>exact h.elim | cons v vs=>exact ⟨bD.bZ k2.bZ _ _ h.1,ih vs h.2⟩
         obtain ⟨g',F,n,m1,m2,m3,m4⟩:=nH hz0 ps r vs st1 g1 q.1 q.2 (i + 1) k1 (fun r R hR hbx=>by obtain ⟨R0,e1,e2⟩:=k2.box r R hR; rw [k2.be]; exact hb0 r R0 e1 (by rw [<- e2]; exact hbx)) (hr2 _ _ hr.2) hq;exact ⟨g',fun n b=>(n=i/\F1 b)∨F n b,1 + n,m1,t1.trans m2,⟨cO.frame _ _ _ _ _ (fun b hb=> .inl ⟨rfl,hb⟩) (fun _ _ _=>rfl) k3,dz.mono (fun i b hb=> .inr hb) _ _ _ _ m3⟩,m4.trans k2.tm⟩
       . simp at ht
     . simp at ht
   | _=>simp [St.fm] at ht
 | .pt _ :: _,_ :: _,_,st,g,st',x,i,h,hb0,hr,ht=>by simp [St.fm] at ht
 | .nil :: _,_ :: _,_,st,g,st',x,i,h,hb0,hr,ht=>by simp [St.fm] at ht
 | .nil :: _,[],_,st,g,st',x,i,h,hb0,hr,ht=>by simp [St.fm] at ht
 | .pt _ :: _,[],_,st,g,st',x,i,h,hb0,hr,ht=>by simp [St.fm] at ht
 | .io _ _ :: _,_ :: _,_,st,g,st',x,i,h,hb0,hr,ht=>by simp [St.fm] at ht
 | [],_ :: _,_,st,g,st',x,i,h,hb0,hr,ht=>by simp [St.fm] at ht
 | .c _ _ :: _,[],_,st,g,st',x,i,h,hb0,hr,ht=>by simp [St.fm] at ht
 | .fn _ _ :: _,[],_,st,g,st',x,i,h,hb0,hr,ht=>by simp [St.fm] at ht
 | .io _ _ :: _,[],_,st,g,st',x,i,h,hb0,hr,ht=>by simp [St.fm] at ht
 | .mv _ :: _,[],_,st,g,st',x,i,h,hb0,hr,ht=>by simp [St.fm] at ht
theorem xw {st:St} {dst:Nat} {tvs:List TV}:∀ {l:List Su} {st':St},(st.uk dst l tvs).run=some st'->∃ s st1 x z y p,s∈l/\s.fresh=true/\st.fm s.ps tvs=some (st1,x)/\s.uA x=some (z,y)/\fW dst s y=some p/\st1.free dst=true/\st'=st1.aE dst p
 | [],st',h=>by simp [St.uk,Tr.run] at h
 | s :: r,st',h=>by
   have again:(st.uk dst r tvs).run=some st'->∃ s' st1 x z y p,s'∈s :: r/\s'.fresh=true/\st.fm s'.ps tvs=some (st1,x)/\s'.uA x=some (z,y)/\fW dst s' y=some p/\st1.free dst=true/\st'=st1.aE dst p:=fun h=>by obtain ⟨s',st1,x,z,y,p,h1,h2⟩:=xw h;exact ⟨s',st1,x,z,y,p,adt _ h1,h2⟩
   have fin:∀ (st1:St) (p:TV×Option Rt),(bif st1.free dst then Tr.ret (st1.aE dst p) else .fail).run=some st'->st1.free dst=true/\st'=st1.aE dst p:=fun st1 p hh=>by
    cases hf:st1.free dst with
    | false=>rw [hf] at hh; simp [Tr.run] at hh
    | true=>rw [hf] at hh; simp only [ac6,Tr.run,ac3] at hh; exact ⟨rfl,hh.symm⟩
   unfold St.uk at h;cases hq:gN s.ps || !s.fresh with
   | true=>rw [hq] at h; exact again h
   | false =>
     rw [hq] at h;simp only [adm] at h;simp only [aeL,afq] at hq;split at h
     . rename_i st1 x hx;split at h
       . rename_i f hf;simp only [Tr.run,aeM] at h;obtain ⟨⟨z,y⟩,h0,h⟩:=h;obtain ⟨p,h1,h2⟩:=Tr.af h;obtain ⟨h3,h4⟩:=fin st1 p h2;exact ⟨s,st1,x,z,y,p,adu ..,hq.2,hx,by simp [Su.uA,hf,h0],h1,h3,h4⟩
       . rename_i gg hg;obtain ⟨p,h1,h2⟩:=Tr.af h;obtain ⟨h3,h4⟩:=fin st1 p h2;exact ⟨s,st1,x,Pu s.ps,gg x,p,adu ..,hq.2,hx,by simp [Su.uA,hg],h1,h3,h4⟩
     . exact again h
theorem Sa (hga:df P E) {g:Gh} {st:St} (h:Rel cx Z g st a w) (hn:bt st) (hsz:Fit cx E a) {o:Oper} {d:Nat} (hd:o.dst=some d) (hdn:jG cx a d) {c:Call} {f:Operand} {gid:Nat} {caps:List (Bool×List AV)} {l:List TV}
 (ho:o.op= .call c) (hcal:c.callee= .value f) (hg:st.get f=some (.fn gid caps)) (hl:st.getAll c.args.toList=some l) {st':St}
 (hrun:(st.uk d (E.ga gid) (l ++ caps.map fun p=>bif p.1 then .agg p.2 else (match p.2 with | [a]=> .v a | _=> .agg p.2))).run=some st'):rC P cx E st' a w o:=by
 have hc:=hn.cons.cons;obtain ⟨s,st1,x,z,y,p,hs,hfr,hx,hy,hp,hfree,rfl⟩:=xw hrun;obtain ⟨cv,ef,ec⟩:=aM h hc hg;have hrel:=gb.app (kD h hc _ _ hl) (lD _ _ ec);have hvs:c.args.toList.map a.eval ++ cv.toList=(c.args.map a.eval ++ cv).toList:=by simp
 rw [hvs] at hrel;obtain ⟨g1,F,n,k1,k2,k3,k4⟩:=nH (Z':=Zb Z g st) (fun _ h _=> .inl h) s.ps _ _ st g st1 x 0 h (fun r R hR hb=> .inr ⟨r,R,hR,hb,rfl⟩) hrel hx;have hsu:=hga gid s hs w (Zb Z g st) F _ x (z,y) (h.gl.mono (ac7 _) fun b hb _=>⟨.inl hb,rfl⟩) k3 (PY h) (fun i b hb=>⟨(k2.free i).lt b hb,by obtain ⟨r,j,hh⟩:=k2.sub i b hb; exact PG h hh⟩) (fun i j b=>k2.disj i j b) hy;have hp':¬ p.1.iq:=by
  unfold fW at hp;split at hp
  . rename_i tv hw;simp only [ac3] at hp;subst hp;exact mI hw
  . simp at hp
 refine ⟨fun t tv ht => ?_,fun next Q hk => ?_⟩
 . rw [bd] at ht;split at ht
   . simp only [ac3] at ht; subst ht; exact hp'
   . exact hn t tv (by rw [<- k4]; exact ht)
 unfold Oper.wp;rw [wU ho hcal ef];refine Bt hsu ?_;rintro v w' ⟨Z',H,vs,rfl,ha,_,hr⟩;rw [hd];have hFree:gK cx Z g1 st1 w (fun b=>∃ i,F i b):=⟨fun b ⟨i,hb⟩=>(k2.free i).lt b hb,fun b ⟨i,hb⟩=>(k2.free i).own b hb,fun b ⟨i,hb⟩=>(k2.free i).z b hb,fun b ⟨i,hb⟩=>(k2.free i).fp b hb,fun b ⟨i,hb⟩=>(k2.free i).box b hb⟩;have hw':Rel cx Z g1 st1 a w':=k1.wr hFree ha.os ha.tape ha.output ha.size fun b hb hf=>ha.block b hb fun i hi=>hf ⟨i,hi⟩
 unfold fW at hp;split at hp
 . rename_i tv hw;simp only [ac3] at hp;rw [hfr,afn] at hp;rw [hfr] at hr hw;cases hb:mo s.rs with
   | false => rw [hb] at hp;subst hp;exact hk _ _ _ _ (hw'.fA hdn (gS (kY _ _ _ _ hr (fun hh=>by simp at hh) (fun _=>hb)) hw)) (hsz.put _ _)
   | true =>
     rw [hb] at hp;subst hp;have hHb:∀ n b,H n b->b < w'.heap.size/\(cx.F0 b∨cx.w0.heap.size<=b)/\¬ Z b/\(∀ r j,¬ g1.fp r j b)/\(∀ r' R',look st1.rt r'=some R'->R'.box=true->g1.be r'≠b):=fun n b hb=>by
      obtain ⟨h1,h2,h3⟩:=ha.fp n b hb;have hz:¬ Z b:=fun hz=>h2 (ha.z b (.inl hz))
      rcases h3 with hf | hnew
      . exact ⟨h1,hFree.own b hf,hz,hFree.fp b hf,hFree.box b hf⟩
      . refine ⟨h1,.inr (ady k1.size hnew),hz,fun r j hh=>by have:=(k1.fp r j b hh).1; omega,fun r' R' hR' hb' he => ?_⟩;obtain ⟨_,_,_,_,cs1,el1,fr1,b5,_⟩:=k1.box r' R' hR' hb';rw [he,adr hnew] at b5;simp at b5
     have h6:=Rel.qL hw' (r:=d) (be:=0) (R:=⟨false,cU s.rs y⟩) (cv:=fun j=>(ua s.rs vs).getD j undef) (fp:=fun j b=>j < (cU s.rs y).length/\H (2 * j + 1) b) (lE hfree)
      (fun j b hb=>by obtain ⟨t1,t2,t3,t4,t5⟩:=hHb _ b hb.2;obtain ⟨e,ks',x',v',g1',g2',g3'⟩:=nf _ _ _ _ hr j _ (adi hb.1);exact ⟨t1,t2,t3,t4,t5,_,_,x',adi hb.1,by rw [g1']⟩)
      (fun j j' b h1 h2=>by have:=ha.disj _ _ b h1.2 h2.2; omega) (fun hb=>by simp at hb)
      (fun j c hj=>by
        obtain ⟨e,ks',x',v',g1',g2',g3'⟩:=nf _ _ _ _ hr j c hj;subst g1';have hjl:j < (cU s.rs y).length:=by
         rcases adj j (cU s.rs y).length with hh | hh
         . exact hh
         . simp [adp hh] at hj
        show cO w' (.sl e ks') x' _ _;simp only [List.getD,g2',aeB];rw [adA] at g3';exact cO.frame _ _ _ _ _ (fun b hb=>⟨hjl,hb⟩) (fun _ _ _=>rfl) g3')
     refine hk _ _ _ _ (h6.fA hdn (tv:=tv) (gS (wR _ _ _ _ hr (fun i c hi => ?_) fun i v hi => ?_) hw)) (hsz.put _ _)
     . show (match look ((d,(⟨false,cU s.rs y⟩:Rt)) :: st1.rt) d with | some R=>R.cells[0 + i]? | none=>none)=_;rw [ba,if_pos rfl,adA];exact hi
     . simp [Gh.at,List.getD,hi]
 . simp at hp
theorem Bf (hT:bK P E) (hga:df P E):sZ P E:=by
 intro cx Z g st a w o st' h hn hsz hdo hrun;have hdn:∀ d,o.dst=some d->jG cx a d:=fun d hd=>by rw [hd] at hdo;exact hsz.dst hdo
 have key:rC P cx E st' a w o:=by
  generalize hop:o.op=op at hrun;generalize hdst:o.dst=dst at hrun;unfold PF at hrun;split at hrun
  . obtain ⟨ti,h1,hrun⟩:=Tr.af hrun;obtain ⟨ta,h2,hrun⟩:=Tr.af hrun;obtain ⟨av,h3,hrun⟩:=Tr.af hrun;obtain ⟨tx,h4,hrun⟩:=Tr.af hrun;obtain ⟨p,h5,hrun⟩:=Tr.af hrun;cases hb:p.2.all st.live && Nat.beq p.2.length ti.ks.length with
    | false=>rw [hb] at hrun; simp [Tr.run] at hrun
    | true => rw [hb] at hrun;simp only [ac6] at hrun;simp only [ac5] at hb;obtain ⟨hself,hrun⟩:=Tr.bo hrun;obtain ⟨s1,h6,hrun⟩:=Tr.af hrun;simp only [Tr.run,ac3] at hrun;subst hrun;exact Pj hT h hn hsz hdst hop h1 h2 h3 h4 h5 hb.1 (beq_eq hb.2) hself h6
  . obtain ⟨tv,h1,hrun⟩:=Tr.af hrun;simp only [Tr.run,ac3] at hrun;subst hrun;exact jP h hn hsz hdst (hdn _ hdst) (.inr hop) h1
  . obtain ⟨tv,h1,hrun⟩:=Tr.af hrun;simp only [Tr.run,ac3] at hrun;subst hrun;exact jP h hn hsz hdst (hdn _ hdst) (.inl hop) h1
  . rename_i t x d;obtain ⟨ti,h1,hrun⟩:=Tr.af hrun;obtain ⟨tv,h2,hrun⟩:=Tr.af hrun;obtain ⟨p,h3,hrun⟩:=Tr.af hrun;cases hb:st.free d && p.2.all st.live && Nat.beq p.2.length ti.ks.length with
    | false=>rw [hb] at hrun; simp [Tr.run] at hrun
    | true => rw [hb] at hrun;simp only [ac6] at hrun;simp only [ac5] at hb;obtain ⟨s1,h6,hrun⟩:=Tr.af hrun;simp only [Tr.run,ac3] at hrun;subst hrun;exact UY h hn hsz hdst (hdn _ hdst) hop h2 h3 hb.1.1 hb.1.2 (beq_eq hb.2) h6
  . rename_i c;split at hrun
    . rename_i x y hcal hargs;split at hrun
      . rename_i d t t2 ts hts;obtain ⟨ti,h1,hrun⟩:=Tr.af hrun;obtain ⟨te,h2,hrun⟩:=Tr.af hrun;obtain ⟨tx,h3,hrun⟩:=Tr.af hrun;obtain ⟨ty,h4,hrun⟩:=Tr.af hrun;cases hb:E.str t2 || (E.sl t2).isSome with
        | false =>
          rw [hb] at hrun;simp only [adm] at hrun;cases hb2:E.i64 t2 && eG tx with
          | false=>rw [hb2] at hrun; simp [Tr.run] at hrun
          | true => rw [hb2] at hrun;simp only [ac6] at hrun;simp only [ac5] at hb2;obtain ⟨p,h5,hrun⟩:=Tr.af hrun;exact HJ hT h hn hsz hdst (hdn _ hdst) hop hcal hargs hts h1 h2 h3 h4 hb2.1 hb2.2 h5 hrun
        | true =>
          rw [hb] at hrun;simp only [ac6] at hrun;refine Dv hT h hn hsz hdst (hdn _ hdst) hop hcal hargs hts h1 h2 h3 h4 ?_ hrun;simp only [ad8] at hb;rcases hb with hb | hb
          . exact .inl hb
          . cases he:E.sl t2 with
            | none=>rw [he] at hb; simp at hb
            | some te2=>exact .inr ⟨te2,rfl⟩
      . simp [Tr.run] at hrun
    . rename_i f hcal;obtain ⟨tf,h1,hrun⟩:=Tr.af hrun;split at hrun
      . rename_i gid caps;obtain ⟨l,h2,hrun⟩:=Tr.af hrun;cases hio:KB (E.ga gid) with
        | true => rw [hio] at hrun;exact KY hga h hn hsz (fun d hd=>hdn d (hdst.trans hd)) hdst hop hcal h1 h2 hrun
        | false =>
          rw [hio] at hrun;simp only [adm] at hrun;split at hrun
          . exact Sa hga h hn hsz hdst (hdn _ hdst) hop hcal h1 h2 hrun
          . simp [Tr.run] at hrun
      . simp [Tr.run] at hrun
    . simp [Tr.run] at hrun
  . simp [Tr.run] at hrun
 exact key
end
end Go.Av
namespace Go.Av
def Ex:Value->K->Bool
 | .int k n,.int k'=>k == k' && n == 0
 | .bool b,.bool=> !b
 | .string s,.str=>Nat.beq s.size 0
 | .slice none 0 0,.sl _ _=>true
 | _,_=>false
def kZ:List Value->List K->Bool
 | [],[]=>true
 | v :: vs,k :: ks=>Ex v k && kZ vs ks
 | _,_=>false
theorem HF {v:Value} {k:K} (h:Ex v k=true):v=zV k:=by
 unfold Ex at h;split at h
 . simp only [ac5,beq_iff_eq] at h;rw [h.1,h.2]; rfl
 . rename_i b;cases b with
   | false=>rfl
   | true=>simp at h
 . rename_i s;have hs:s.size=0:=beq_eq h;show Value.string s= .string (et []);congr 1;apply afX;apply Array.ext';have:s.data.toList=[]:=by
    apply adl.1;rw [adW];exact hs
   rw [this];rfl
 . rfl
 . simp at h
theorem uF:∀ {vs:List Value} {ks:List K},kZ vs ks=true->vs=ks.map zV
 | [],[],_=>rfl
 | v :: vs,k :: ks,h=>by simp only [kZ,ac5] at h;rw [HF h.1,uF h.2];rfl
 | [],_ :: _,h=>by simp [kZ] at h
 | _ :: _,[],h=>by simp [kZ] at h
def sJ:List (Nat×Nat)->List Field->Bool
 | [],_=>true
 | (o,t) :: r,f :: fs=>Nat.beq f.offset o && Nat.beq f.type t && sJ r fs
 | _ :: _,[]=>false
theorem yq:∀ {l:List (Nat×Nat)} {fs:List Field},sJ l fs=true->∀ i o t,FL l i=some (o,t)->∃ fi,fs[i]? = some fi/\fi.offset=o/\fi.type=t
 | [],fs,h,i,o,t,hf=>by simp [FL] at hf
 | (o0,t0) :: r,f :: fs,h,0,o,t,hf=>by simp only [sJ,ac5] at h;simp only [FL,ac3,adF] at hf;exact ⟨f,rfl,(beq_eq h.1.1).trans hf.1,(beq_eq h.1.2).trans hf.2⟩
 | (o0,t0) :: r,f :: fs,h,i + 1,o,t,hf=>by simp only [sJ,ac5] at h;exact yq h.2 i o t hf
 | _ :: _,[],h,_,_,_,_=>by simp [sJ] at h
def LV (P:Program) (f:Field):Bool:=match P.info? f.type with | some i=>Nat.blt 0 i.size | none=>false
def nb (P:Program) (ti:TI):TypeDesc->Bool
 | .struct fs=>ti.agg && sJ ti.flds fs.toList && fs.toList.all (LV P)
 | .slice e=> !ti.agg && (match ti.ks with | [.sl e' _]=>Nat.beq e' e && Nat.beq ti.elem e | _=>false)
 | .int k=> !ti.agg && (match ti.ks with | [.int k']=>k' == k | _=>false)
 | .bool=> !ti.agg && (match ti.ks with | [.bool]=>true | _=>false)
 | .string=> !ti.agg && (match ti.ks with | [.str]=>true | _=>false)
 | _=>false
def T4 (P:Program) (t:Nat) (ti:TI):Bool:=match P.info? t,P.underlying t with
 | some i,some d=>Nat.beq i.size ti.ks.length && Nat.beq i.bytes ti.bytes && (match i.zero with | some z=>kZ z.cells.toList ti.ks | none=>false) && nb P ti d
 | _,_=>false
theorem G3 {P:Program} {ti:TI} {d:TypeDesc} (h:nb P ti d=true):gM P ti d:=by
 cases d with
 | struct fs =>
   simp only [nb,ac5] at h;refine ⟨h.1.1,fun f o u hf => ?_,fun fi hfi => ?_⟩
   . obtain ⟨fi,h1,h2⟩:=yq h.1.2 f o u hf;exact ⟨fi,by rw [<- ac8]; exact h1,h2⟩
   . have:=adx.1 h.2 fi hfi;unfold LV at this;cases hi:P.info? fi.type with
     | none=>rw [hi] at this; simp at this
     | some i=>rw [hi] at this; exact ⟨i,rfl,Nat.ne_of_gt (aen (adC this))⟩
 | slice e =>
   simp only [nb,ac5,adK] at h;obtain ⟨h1,h2⟩:=h;split at h2
   . rename_i e' ks hk;simp only [ac5] at h2;have e1:=beq_eq h2.1;subst e1;exact ⟨h1,ks,hk,beq_eq h2.2⟩
   . simp at h2
 | int k =>
   simp only [nb,ac5,adK] at h;obtain ⟨h1,h2⟩:=h;split at h2
   . rename_i k' hk;have:k'=k:=by simpa using h2
     subst this;exact ⟨h1,hk⟩
   . simp at h2
 | bool =>
   simp only [nb,ac5,adK] at h;obtain ⟨h1,h2⟩:=h;split at h2
   . rename_i hk; exact ⟨h1,hk⟩
   . simp at h2
 | string =>
   simp only [nb,ac5,adK] at h;obtain ⟨h1,h2⟩:=h;split at h2
   . rename_i hk; exact ⟨h1,hk⟩
   . simp at h2
 | _=>simp [nb] at h
theorem Pz {P:Program} {t:Nat} {ti:TI} (h:T4 P t ti=true):qx P t ti:=by
 unfold T4 at h;split at h
 . rename_i i d hi hd;simp only [ac5] at h;obtain ⟨⟨⟨h1,h2⟩,h3⟩,h4⟩:=h;refine ⟨⟨i,hi,beq_eq h1,beq_eq h2,?_⟩,d,hd,G3 h4⟩;split at h3
   . rename_i z hz;exact ⟨z,hz,uF h3⟩
   . simp at h3
 . simp at h
def OB (P:Program):List (Nat×TI)->Bool
 | []=>true
 | (t,ti) :: r=>T4 P t ti && OB P r
theorem BX {P:Program}:∀ {l:List (Nat×TI)},OB P l=true->∀ t ti,(t,ti)∈l->qx P t ti
 | [],_,_,_,h=>by simp at h
 | (t0,ti0) :: r,h,t,ti,hm=>by
   simp only [OB,ac5] at h;rcases adg.1 hm with hm | hm
   . cases hm; exact Pz h.1
   . exact BX h.2 t ti hm
theorem M3 {P:Program} {E:En} (h:OB P E.tt=true):bK P E:=fun t ti ht=>BX h t ti (gU _ _ _ ht)
end Go.Av
namespace Go.Av
def kL (lo:Nat->Bool):Code->Bool
 | .seq a b=>kL lo a && kL lo b
 | .cond _ a b=>kL lo a && kL lo b
 | .block id c=> !lo id && kL lo c
 | .loop c=>kL lo c
 | _=>true
theorem bG {P:Program} {E:En} (hrg:∀ id,E.rg id=none:=by intro _; rfl):∀ (c:Code),kL (fun id=>(E.lo id).isSome) c=true->du P E c
 | .seq a b,h=>by simp only [kL,ac5] at h;exact ⟨bG hrg a h.1,bG hrg b h.2⟩
 | .cond _ a b,h=>by simp only [kL,ac5] at h;exact ⟨bG hrg a h.1,bG hrg b h.2⟩
 | .block id c,h=>by simp only [kL,ac5,adK] at h;refine ⟨fun L hL => ?_,fun _=>bG hrg c h.2⟩;rw [hL] at h;simp at h
 | .skip,_=>trivial
 | .region id _ _,_=>fun F hF=>by rw [hrg id] at hF; simp at hF
 | .loop c,h=>bG (E:=E) hrg c h
 | .rangeFunc _ _ _ _,_=>trivial
 | .exit _,_=>trivial
 | .scope _,_=>trivial
 | .label _,_=>trivial
 | .goto _,_=>trivial
 | .ret,_=>trivial
 | .refuse _,_=>trivial
def kX (rg:Nat->Bool) (lo:Nat->Bool):Code->List (Nat×Code)
 | .seq a b=>kX rg lo a ++ kX rg lo b
 | .cond _ a b=>kX rg lo a ++ kX rg lo b
 | .block id c=>bif lo id then [] else kX rg lo c
 | .region id ops dr=>bif rg id then [(id,.region id ops dr)] else []
 | .loop c=>kX rg lo c
 | _=>[]
def dM (lo:Nat->Bool):Code->List (Nat×Code)
 | .seq a b=>dM lo a ++ dM lo b
 | .cond _ a b=>dM lo a ++ dM lo b
 | .block id c=>bif lo id then [(id,c)] else dM lo c
 | .loop c=>dM lo c
 | _=>[]
theorem fH {P:Program} {E:En}:∀ (c:Code),(∀ id b F,(id,b)∈kX (fun id=>(E.rg id).isSome) (fun id=>(E.lo id).isSome) c->E.rg id=some F->cH P E b F)->(∀ id b L,(id,b)∈dM (fun id=>(E.lo id).isSome) c->E.lo id=some L->cl P E id b L)->du P E c
 | .seq a b,hr,h=>⟨fH a (fun id b F hm=>hr id b F (ae3 _ hm)) fun id b L hm=>h id b L (ae3 _ hm),fH b (fun id b F hm=>hr id b F (afd _ hm)) fun id b L hm=>h id b L (afd _ hm)⟩
 | .cond _ a b,hr,h=>⟨fH a (fun id b F hm=>hr id b F (ae3 _ hm)) fun id b L hm=>h id b L (ae3 _ hm),fH b (fun id b F hm=>hr id b F (afd _ hm)) fun id b L hm=>h id b L (afd _ hm)⟩
 | .block id c,hr,h=>by
   refine ⟨fun L hL=>h id c L ?_ hL,fun hn=>fH c (fun id' b F hm hF=>hr id' b F (by simp only [kX,hn,aed,adm]; exact hm) hF) fun id' b L hm hL=>h id' b L ?_ hL⟩
   . simp [dM,hL]
   . simp only [dM,hn,aed,adm];exact hm
 | .skip,_,_=>trivial
 | .region id ops dr,hr,_=>fun F hF=>hr id _ F (by simp [kX,hF]) hF
 | .loop c,hr,h=>fH (E:=E) c hr h
 | .rangeFunc _ _ _ _,_,_=>trivial
 | .exit _,_,_=>trivial
 | .scope _,_,_=>trivial
 | .label _,_,_=>trivial
 | .goto _,_,_=>trivial
 | .ret,_,_=>trivial
 | .refuse _,_,_=>trivial
end Go.Av
namespace Go.Av
section
variable {X Y:Type} (step:X->Option (Sum X Y))
theorem zx {n m:Nat} {x:X} {y:Y} (h:iter step n x=some y) (hm:n<=m):iter step m x=some y:=by
 induction n generalizing m x with
 | zero=>simp [iter] at h
 | succ n ih =>
   obtain ⟨k,rfl⟩:∃ k,m=k + 1:=⟨m - 1,by omega⟩;unfold iter at h ⊢;split at h
   . rename_i x' hx;exact ih h (by omega)
   . rename_i z hx;exact h
   . simp at h
noncomputable def ah (x:X):Option Y:=open Classical in if h:∃ n y,iter step n x=some y then some (Classical.choose (ad7 h)) else none
theorem yb {x:X} {y:Y} (h:ah step x=some y):∃ n,iter step n x=some y:=by
 unfold ah at h;split at h
 . rename_i hh;simp only [ac3] at h;subst h;exact ⟨_,ad7 (ad7 hh)⟩
 . simp at h
theorem CJ {n:Nat} {x:X} {y:Y} (h:iter step n x=some y):ah step x=some y:=by have hh:∃ n y,iter step n x=some y:=⟨n,y,h⟩;unfold ah;rw [dif_pos hh];have h1:=ad7 (ad7 hh);have e1:=zx step h (Nat.le_max_left n (Classical.choose hh));have e2:=zx step h1 (Nat.le_max_right n (Classical.choose hh));rw [e1] at e2;exact e2.symm
theorem aV {x x':X} {y:Y} (h:step x=some (.inl x')) (h':ah step x'=some y):ah step x=some y:=by obtain ⟨n,hn⟩:=yb step h';refine CJ step (n:=n + 1) ?_;unfold iter;rw [h];exact hn
theorem aN {x:X} {y:Y} (h:step x=some (.inr y)):ah step x=some y:=by refine CJ step (n:=1) ?_;unfold iter;rw [h]
end
abbrev Rd (A Q:Type):=Option (Sum A (Sum A Q))
abbrev wB {A B Z:Type} (r:A->B->Z) (x:A×B×Unit):Z:=r x.1 x.2.1
abbrev Q2 {A B Z:Type} (φ:A×B×Unit->Z) (a:A) (b:B):Z:=φ (a,b,())
abbrev dq {A B C Z:Type} (r:A->B->C->Z) (x:A×B×C×Unit):Z:=r x.1 x.2.1 x.2.2.1
abbrev kz {A B C Z:Type} (φ:A×B×C×Unit->Z) (a:A) (b:B) (c:C):Z:=φ (a,b,c,())
abbrev cV {A B C D Z:Type} (r:A->B->C->D->Z) (x:A×B×C×D×Unit):Z:=r x.1 x.2.1 x.2.2.1 x.2.2.2.1
abbrev mm {A B C D Z:Type} (φ:A×B×C×D×Unit->Z) (a:A) (b:B) (c:C) (d:D):Z:=φ (a,b,c,d,())
abbrev dQ {A B C D E Z:Type} (r:A->B->C->D->E->Z) (x:A×B×C×D×E×Unit):Z:=r x.1 x.2.1 x.2.2.1 x.2.2.2.1 x.2.2.2.2.1
abbrev tV {A B C D E Z:Type} (φ:A×B×C×D×E×Unit->Z) (a:A) (b:B) (c:C) (d:D) (e:E):Z:=φ (a,b,c,d,e,())
abbrev FO {A B C D E F Z:Type} (r:A->B->C->D->E->F->Z) (x:A×B×C×D×E×F×Unit):Z:=r x.1 x.2.1 x.2.2.1 x.2.2.2.1 x.2.2.2.2.1 x.2.2.2.2.2.1
abbrev X4 {A B C D E F Z:Type} (φ:A×B×C×D×E×F×Unit->Z) (a:A) (b:B) (c:C) (d:D) (e:E) (f:F):Z:=φ (a,b,c,d,e,f,())
abbrev LC {A B C D E F G Z:Type} (r:A->B->C->D->E->F->G->Z) (x:A×B×C×D×E×F×G×Unit):Z:=r x.1 x.2.1 x.2.2.1 x.2.2.2.1 x.2.2.2.2.1 x.2.2.2.2.2.1 x.2.2.2.2.2.2.1
abbrev Za {A B C D E F G Z:Type} (φ:A×B×C×D×E×F×G×Unit->Z) (a:A) (b:B) (c:C) (d:D) (e:E) (f:F) (g:G):Z:=φ (a,b,c,d,e,f,g,())
abbrev xx {A B C D E F G H Z:Type} (r:A->B->C->D->E->F->G->H->Z) (x:A×B×C×D×E×F×G×H×Unit):Z:=r x.1 x.2.1 x.2.2.1 x.2.2.2.1 x.2.2.2.2.1 x.2.2.2.2.2.1 x.2.2.2.2.2.2.1 x.2.2.2.2.2.2.2.1
abbrev Tj {A B C D E F G H Z:Type} (φ:A×B×C×D×E×F×G×H×Unit->Z) (a:A) (b:B) (c:C) (d:D) (e:E) (f:F) (g:G) (h:H):Z:=φ (a,b,c,d,e,f,g,h,())
abbrev DD {A B C D E F G H I Z:Type} (r:A->B->C->D->E->F->G->H->I->Z) (x:A×B×C×D×E×F×G×H×I×Unit):Z:=r x.1 x.2.1 x.2.2.1 x.2.2.2.1 x.2.2.2.2.1 x.2.2.2.2.2.1 x.2.2.2.2.2.2.1 x.2.2.2.2.2.2.2.1 x.2.2.2.2.2.2.2.2.1
abbrev UK {A B C D E F G H I Z:Type} (φ:A×B×C×D×E×F×G×H×I×Unit->Z) (a:A) (b:B) (c:C) (d:D) (e:E) (f:F) (g:G) (h:H) (i:I):Z:=φ (a,b,c,d,e,f,g,h,i,())
abbrev C4 {A B C D E F G H I J Z:Type} (r:A->B->C->D->E->F->G->H->I->J->Z) (x:A×B×C×D×E×F×G×H×I×J×Unit):Z:=r x.1 x.2.1 x.2.2.1 x.2.2.2.1 x.2.2.2.2.1 x.2.2.2.2.2.1 x.2.2.2.2.2.2.1 x.2.2.2.2.2.2.2.1 x.2.2.2.2.2.2.2.2.1 x.2.2.2.2.2.2.2.2.2.1
abbrev Vd {A B C D E F G H I J Z:Type} (φ:A×B×C×D×E×F×G×H×I×J×Unit->Z) (a:A) (b:B) (c:C) (d:D) (e:E) (f:F) (g:G) (h:H) (i:I) (j:J):Z:=φ (a,b,c,d,e,f,g,h,i,j,())
end Go.Av
namespace Go.Av
open Go.RowKit (Below)
def aj (k:IntKind) (a b:Int):Int:=k.wrap (a + b)
def aO (k:IntKind) (a b:Int):Int:=k.wrap (a - b)
def kl (k:IntKind) (a b:Int):Int:=k.wrap (a * b)
def mA (k:IntKind) (a b:Int):Int:=k.wrap (a.tdiv b)
def fX (a b:Int):Int:=a.tmod b
def Bu (k:IntKind) (a b:Int):Int:=k.wrap ((BitVec.ofInt k.bits a &&& BitVec.ofInt k.bits b).toNat:Int)
def CQ (k:IntKind) (a b:Int):Int:=k.wrap ((BitVec.ofInt k.bits a ^^^ BitVec.ofInt k.bits b).toNat:Int)
def iT (k:IntKind) (a b:Int):Int:=a.fdiv (2 ^ min b.toNat k.bits)
def bI (k:IntKind) (a:Int):Int:=k.wrap a
def ae {α:Type} (xs:List α):Int:=(xs.length:Int)
def aR {α:Type} (i:Int) (xs:List α):Bool:=ko i xs.length
def dW {α:Type} (lo hi:Int) (xs:List α):Bool:=gp lo hi xs.length
def UO (lo hi:Int):Bool:=gp lo hi 0
def gt {α:Type} (d:α) (xs:List α) (i:Int):α:=xs.getD i.toNat d
def jh {α:Type} (xs:List α) (i:Int) (x:α):List α:=List.set xs i.toNat x
def P2 {α:Type} (xs:List α) (n:Int):List α:=List.take n.toNat xs
def jn {α:Type} (xs ys:List α):List α:=xs ++ ys
def QY (s t:List UInt8):List UInt8:=s ++ t
def bT {α:Type} (bytes:Nat) (xs ys:List α):Bool:=Nat.ble ((xs.length + ys.length) * bytes) aT
def GM (s t:List UInt8):Bool:=Nat.ble (s.length + t.length) aT
def kB (s t:List UInt8):Bool:=Op.bytesLess s t
def Tp (s t:List UInt8):Bool:=Op.bytesLess s t || cC s t
def dE (s:List UInt8) (i:Int):Int:=B8 s i.toNat
def xa {α:Type} (d:α) (n:Int):List α:=List.replicate n.toNat d
def N6 (bytes:Nat) (n:Int):Bool:=bL 0 n && (bL (n * bytes) aT && Nat.blt 0 bytes)
def ak (f:Func):Code:=match f.body with | some c=>c | none=> .skip
def SW:Code->Code
 | .loop b=>b
 | _=> .skip
def lQ (id:Nat):Code->Option Code
 | .seq a b=>match lQ id a with | some c=>some c | none=>lQ id b
 | .cond _ a b=>match lQ id a with | some c=>some c | none=>lQ id b
 | .block i c=>bif Nat.beq i id then some (SW c) else lQ id c
 | .loop b=>lQ id b
 | _=>none
def aX (id:Nat) (c:Code):Code:=(lQ id c).getD .skip
abbrev SS:=Su
abbrev iS (s:Su):SS:=s
def D1:List (Nat×SS)->Nat->List Su
 | [],_=>[]
 | (g,s) :: r,f=>bif Nat.beq g f then s :: D1 r f else D1 r f
def yK (n:Nat) (tt:List (Nat×TI)) (l:List (Nat×SS)) (ρ:List SE) (lo:Nat->Option (Lo ρ)) (pins:List Nat) (rg:Nat->Option (St->Tr St)):En:=⟨n,tt,D1 l,ρ,lo,pins,rg⟩
def qG (P:Program):List (Nat×SS)->Prop
 | []=>True
 | (g,s) :: r=>ar P g s/\qG P r
theorem xV {P:Program}:∀ (l:List (Nat×Su)) (f:Nat) (s:Su),qG P l->s∈D1 l f->ar P f s
 | [],_,_,_,h=>by simp [D1] at h
 | (g,s0) :: r,f,s,hl,h=>by
   unfold D1 at h;cases hb:Nat.beq g f with
   | false=>rw [hb] at h; exact xV r f s hl.2 h
   | true =>
     rw [hb] at h;have:=beq_eq hb;subst this;rcases adg.1 h with h | h
     . subst h; exact hl.1
     . exact xV r g s hl.2 h
theorem cR {P:Program} {E:En} {l:List (Nat×Su)} (hl:qG P l) (h:E.ga=D1 l:=by rfl):df P E:=fun f s hs=>by rw [h] at hs;exact xV l f s hl hs
theorem kM {P:Program} {E E':En} (h:bK P E) (e:E'.tt=E.tt:=by rfl):bK P E':=fun t ti ht=>h t ti (by unfold En.ti at ht ⊢;rw [<- e]; exact ht)
def v8 (P:Program) (E:En):List (Nat×Code)->Prop
 | []=>True
 | (id,b) :: r=>(∀ L,E.lo id=some L->cl P E id b L)/\v8 P E r
theorem oN {P:Program} {E:En}:∀ (l:List (Nat×Code)) (id:Nat) (b:Code) (L:Lo E.ρ),v8 P E l->(id,b)∈l->E.lo id=some L->cl P E id b L
 | [],_,_,_,_,h,_=>by simp at h
 | (i,c) :: r,id,b,L,hl,h,hL=>by
   rcases adg.1 h with h | h
   . cases h; exact hl.1 L hL
   . exact oN r id b L hl.2 h hL
def D7 (P:Program) (E:En):List (Nat×Code)->Prop
 | []=>True
 | (id,b) :: r=>(∀ F,E.rg id=some F->cH P E b F)/\D7 P E r
theorem vE {P:Program} {E:En}:∀ (l:List (Nat×Code)) (id:Nat) (b:Code) (F:St->Tr St),D7 P E l->(id,b)∈l->E.rg id=some F->cH P E b F
 | [],_,_,_,_,h,_=>by simp at h
 | (i,c) :: r,id,b,F,hl,h,hF=>by
   rcases adg.1 h with h | h
   . cases h; exact hl.1 F hF
   . exact vE r id b F hl.2 h hF
theorem xH {P:Program} {E:En} {id:Nat} {b:Code} {F0:St->Tr St} (h:E.rg id=some F0) (hs:cH P E b F0):∀ F,E.rg id=some F->cH P E b F:=fun F hF=>by rw [h] at hF;cases hF;exact hs
theorem tT {P:Program} {E:En} {c:Code} (bs:List (Nat×Code)) (h:dM (fun id=>(E.lo id).isSome) c=bs) (hs:v8 P E bs) (hrg:∀ id,E.rg id=none:=by intro _; rfl):du P E c :=
 fH c (fun id b F hm hF=>by rw [hrg id] at hF; simp at hF) fun id b L hm hL=>oN bs id b L hs (h ▸ hm) hL
theorem aW {P:Program} {E:En} {c:Code} (bs:List (Nat×Code)) (h:dM (fun id=>(E.lo id).isSome) c=bs) (hs:v8 P E bs) (rs:List (Nat×Code)) (hr:kX (fun id=>(E.rg id).isSome) (fun id=>(E.lo id).isSome) c=rs) (hrs:D7 P E rs):du P E c :=
 fH c (fun id b F hm hF=>vE rs id b F hrs (hr ▸ hm) hF) fun id b L hm hL=>oN bs id b L hs (h ▸ hm) hL
theorem lC {P:Program} {E:En} {id:Nat} {b:Code} {L0:Lo E.ρ} (h:E.lo id=some L0) (hs:cl P E id b L0):∀ L,E.lo id=some L->cl P E id b L:=fun L hL=>by rw [h] at hL;cases hL;exact hs
theorem er {P:Program} {E:En} (hT:bK P E) (hga:df P E) (hm:P.follows .mixedOrders=true) {id:Nat} {σ:List SE} {body:Code} {step:bJ σ->Option (Sum (bJ σ) (Sum (bJ σ) (bJ E.ρ)))}
 (ht:∀ x,(cZ E id σ body x).run=step x) (hl:du P E body):cl P E id (.loop body) ⟨σ,fun x=>ah step x⟩ :=
 ES hT hga (Bf hT hga) hm (Dg E) hl fun x r h=>by obtain ⟨n,hn⟩:=yb step h;have e:(fun x=>(cZ E id σ body x).run)=step:=funext ht;exact ⟨n,by rw [e]; exact hn⟩
theorem oh {P : Program} {E : En} (hT : bK P E) (hga : df P E) (hm : P.follows .mixedOrders = true) {f : Nat} {fn : Func} {c : Code} (hf : P.funcs[f]? = some fn) (hname : (fn.name == "runtime.NumGoroutine") = false) (hb : fn.body = some c) (hnt : E.nt = fn.ntmps) (hl : du P E c)
 {s:Su} (hs:∀ x y,s.uA x=some y->∃ z,(lL s.ps=true->z=y.1)/\(FK E c fn.results.toList s.ps s.rs s.fresh x).run=some (z,y.2)):ar P f s :=
 Jv hT hga (Bf hT hga) hm hf hname hb hnt hl hs
end Go.Av
namespace Go.Av
def en:Code->Code | .seq a _=>a | c=>c
def dp:Code->Code | .seq _ b=>b | c=>c
def Lb:Code->Nat | .region i _ _=>i | _=>0
def gn (c:Code) (i:Nat):Oper:=match c with | .region _ ops _=>ops.getD i default | _=>default
end Go.Av
namespace Go.Av
def pP (id:Nat):Code->Option Code
 | .seq a b=>match pP id a with | some c=>some c | none=>pP id b
 | .cond _ a b=>match pP id a with | some c=>some c | none=>pP id b
 | .block _ c=>pP id c
 | .loop b=>pP id b
 | .region i ops dr=>bif Nat.beq i id then some (.region i ops dr) else none
 | _=>none
def bg (id:Nat) (c:Code):Code:=(pP id c).getD .skip
def Bk (o:Oper):Call:=match o.op with | .call c=>c | _=>⟨.builtin .len,#[],#[]⟩
def mzB (bytes:Nat) (n:Int):Bool:=bL 0 n && bL (n * bytes) aT
end Go.Av
namespace Go.Av
def Xi {ρ:List SE}:List (Nat×Lo ρ)->Nat->Option (Lo ρ)
 | [],_=>none
 | (k,L) :: r,i=>bif Nat.beq k i then some L else Xi r i
def Iz (n:Nat) (tt:List (Nat×TI)) (l:List (Nat×SS)) (ρ:List SE) (los:List (Nat×Lo ρ)) (pins:List Nat):En:=yK n tt l ρ (Xi los) pins fun _=>none
theorem ac {P:Program} {f:Nat} {s:Su} {l:List (Nat×SS)} (h:ar P f s) (r:qG P l):qG P ((f,iS s) :: l):=⟨h,r⟩
theorem an {P:Program}:qG P []:=trivial
def VN (P:Program) (E:En) (C c:Code):Prop:=bK P E->df P E->P.follows .mixedOrders=true->du P E c
def OU (P:Program) (E:En) (C:Code) (ks:List Nat):Prop:=bK P E->df P E->P.follows .mixedOrders=true->v8 P E (ks.map fun k=>(k,.loop (aX k C)))
theorem sn {P:Program} {E:En} {C:Code}:OU P E C []:=fun _ _ _=>trivial
theorem cN {P:Program} {n:Nat} {tt:List (Nat×TI)} {l:List (Nat×SS)} {ρ:List SE} {los:List (Nat×Lo ρ)} {pins:List Nat} {C c:Code}
 (h:dM (fun id=>((Iz n tt l ρ los pins).lo id).isSome) c=[]:=by kernel_rfl):VN P (Iz n tt l ρ los pins) C c:=fun _ _ _ =>
 tT [] h trivial
theorem sc {P:Program} {E:En} {C:Code} {k:Nat} {ks:List Nat} {σ:List SE} {step:bJ σ->Option (Sum (bJ σ) (Sum (bJ σ) (bJ E.ρ)))} (hl:VN P E C (aX k C)) (r:OU P E C ks) (h:E.lo k=some ⟨σ,fun x=>ah step x⟩:=by exact rfl)
 (ht:∀ x,(cZ E k σ (aX k C) x).run=step x:=by intro x; kernel_rfl):OU P E C (k :: ks):=fun hT hga hm =>
 ⟨lC h (er hT hga hm ht (hl hT hga hm)),r hT hga hm⟩
theorem lp {P:Program} {n:Nat} {tt:List (Nat×TI)} {l:List (Nat×SS)} {ρ:List SE} {los:List (Nat×Lo ρ)} {pins:List Nat} {C c:Code} (ks:List Nat) (hs:OU P (Iz n tt l ρ los pins) C ks)
 (h:dM (fun id=>((Iz n tt l ρ los pins).lo id).isSome) c=ks.map fun k=>(k,.loop (aX k C)):=by kernel_rfl):VN P (Iz n tt l ρ los pins) C c:=fun hT hga hm =>
 tT _ h (hs hT hga hm)
theorem flq {P:Program} {tt:List (Nat×TI)} {E0:En} (hT:bK P E0) (hm:P.follows .mixedOrders=true) {f:Nat} {s:Su} {n:Nat} {l:List (Nat×SS)} (hl:qG P l) {ρ:List SE} {los:List (Nat×Lo ρ)} {pins:List Nat} {fn:Func}
 (h : (P.funcs[f]?, (fn.name == "runtime.NumGoroutine"), fn.body.isSome, fn.ntmps) = (some fn, false, true, n)) (hlo : VN P (Iz n tt l ρ los pins) (ak fn) (ak fn))
 (ht:∀ x,(FK (Iz n tt l ρ los pins) (ak fn) fn.results.toList s.ps s.rs s.fresh x).run=s.uA x) (e:tt=E0.tt:=by rfl):ar P f s:=by
 simp only [adF] at h;have hb:fn.body=some (ak fn):=by
  have h:=h.2.2.1;unfold ak;cases hb:fn.body with
  | none=>rw [hb] at h; simp at h
  | some c=>rfl
 have hT':bK P (Iz n tt l ρ los pins):=kM hT e;have hga:df P (Iz n tt l ρ los pins):=cR (l:=l) hl;exact oh hT' hga hm h.1 h.2.1 hb h.2.2.2.symm (hlo hT' hga hm) fun x y hy=>⟨y.1,fun _=>rfl,(ht x).trans hy⟩
end Go.Av
namespace Go.Av
open Go.RowKit (Below)
section
variable {P:Program} {E:En} {cx:Cx P}
theorem D3 (hT:bK P E) {st:St} {a:Act} {w:World} (h:Good cx E st a w) {id t0 t3 t4 ty ty':Nat} {e e' by':Nat} {fl:List (Nat×Nat)} {ks:List K} {xs:T (.sl e ks)} {o1 o2:Oper}
 (d1:o1.dst=some t3) (p1:o1.op= .move (.tmp t0)) (g1:o1.guard=none) (d2:o2.dst=some t4) (p2:o2.op= .binOp .eql ty (.tmp t3) (.const (.slice none 0 0)) ty') (g2:o2.guard=none)
 (b3:E.dB t3=true) (b4:E.dB t4=true) (hti:E.ti ty=some ⟨false,[.sl e ks],e',by',fl⟩) (h0:st.tv t0=some (.v (.d (.sl e ks) xs))) :
 (Code.region id #[o1,o2] false).wp P (fun ex a' w'=>ex= .normal/\∃ b:Bool,(b=true->aG xs=[])/\Good cx E ((st.aE t3 (.v (.d (.sl e ks) xs),none)).aE t4 (.v (.d .bool b),none)) a' w') a w:=by
 obtain ⟨hn,hsz,Z,g,hr⟩:=h;refine wp_region ?_;show wpOps P #[o1,o2] _ [0,1] a w;rw [wpOps_cons];refine bz (i:=0) rfl g1 ?_;obtain ⟨hn1,hw1⟩:=jP hr hn hsz d1 (hsz.dst b3) (.inl p1) (tv:= .v (.d (.sl e ks) xs)) h0;refine hw1 _ _ fun Z1 g1' a1 w1 hr1 hsz1 => ?_
 rw [wpOps_cons];refine bz (i:=1) rfl g2 ?_;have ht3:look (st.aE t3 (.v (.d (.sl e ks) xs),none)).tm t3=some (.v (.d (.sl e ks) xs)):=by rw [bd,if_pos rfl]
 have hv:=(hr1.tm t3 _ ht3).2;obtain ⟨a0,c0,e1,e2,e3,e4,_⟩:=(show RO Z1 w1 (.sl e ks) xs (a1.tmps.getD t3 undef) from hv);obtain ⟨dd,hu,hdd⟩:=(hT ty _ hti).desc;have hu':∃ q,P.underlying ty=some (.slice q):=by cases dd <;> simp [gM] at hdd;exact ⟨_,hu⟩
 obtain ⟨q,hu'⟩:=hu';have hrun:(execOp a1.eval o2).run P w1= .ok (.value (.bool a0.isNone)) w1:=by
  have hev:a1.eval (.tmp t3)= .slice a0 (aG xs).length c0:=e1;have hg:(eqGuard .eql ty (.tmp t3) (.const (.slice none 0 0)) (.slice a0 (aG xs).length c0) (.slice none 0 0)).run P w1= .ok () w1:=by unfold eqGuard; simp
  have he:(Op.equal ty (.slice a0 (aG xs).length c0) (.slice none 0 0)).run P w1= .ok a0.isNone w1:=by show (Op.equalIn (9999 + 1) ty _ _).run P w1=_;unfold Op.equalIn;cases a0 <;> simp [adH hu']
  obtain ⟨v,e1',e2'⟩:∃ v,((do eqGuard .eql ty (.tmp t3) (.const (.slice none 0 0)) (a1.eval (.tmp t3)) (a1.eval (.const (.slice none 0 0))); binOp .eql ty (a1.eval (.tmp t3)) (a1.eval (.const (.slice none 0 0)))):Sem Value).run P w1= .ok v w1/\v= .bool a0.isNone:=by have hev2:a1.eval (.const (.slice none 0 0))= .slice none 0 0:=rfl;rw [hev,hev2];exact ⟨.bool a0.isNone,by simp [hg,binOp,he],rfl⟩
  subst e2';simp only [execOp,p2,adv,e1',adh];rfl
 have hq:=cq (o:=o2) hr1 d2 (hsz1.dst b4) hrun (tv:= .v (.d .bool a0.isNone)) (show RO Z1 w1 .bool _ _ from rfl);refine hq _ _ fun Z2 g2' v2 w2 hr2 => ?_
 refine ⟨rfl,a0.isNone,fun hb => ?_,fun t tv ht => ?_,hsz1.put _ _,Z2,g2',hr2⟩
 . have:a0=none:=by cases a0 <;> simp_all
   have:=e4 this;exact adl.1 (by omega)
 . rw [bd] at ht;split at ht
   . simp only [ac3] at ht; subst ht; exact fun h=>h
   . exact hn1 t tv ht
theorem Es (hT : bK P E) (hga : df P E) (hm : P.follows .mixedOrders = true) {f : Nat} {fn : Func} {c0 cc c3 : Code} {id : Nat} {o1 o2 : Oper} (hf : P.funcs[f]? = some fn) (hname : (fn.name == "runtime.NumGoroutine") = false) (hb : fn.body = some (.seq c0 (.seq (.seq (.region id #[o1, o2] false) cc) c3))) (hnt : E.nt = fn.ntmps)
 (hl0:du P E c0) (hlc:du P E cc) (hl3:du P E c3) {t0 t3 t4 ty ty' e e' by':Nat} {fl:List (Nat×Nat)} {ks:List K}
 (d1:o1.dst=some t3) (p1:o1.op= .move (.tmp t0)) (g1:o1.guard=none) (d2:o2.dst=some t4) (p2:o2.op= .binOp .eql ty (.tmp t3) (.const (.slice none 0 0)) ty') (g2:o2.guard=none)
 (b3:E.dB t3=true) (b4:E.dB t4=true) (hti:E.ti ty=some ⟨false,[.sl e ks],e',by',fl⟩)
 {s:Su} (st1:PT s.ps->St) (xs:PT s.ps->T (.sl e ks)) (h0:∀ x,(cQ E c0 (start s.ps x)).run=some (.nrm (st1 x))) (h1:∀ x,(st1 x).tv t0=some (.v (.d (.sl e ks) (xs x))))
 (hs:∀ x y,s.uA x=some y->∀ b,(b=true->aG (xs x)=[])->∃ z,(lL s.ps=true->z=y.1)/\((cQ E (.seq cc c3) (((st1 x).aE t3 (.v (.d (.sl e ks) (xs x)),none)).aE t4 (.v (.d .bool b),none))).bind (Cf E fn.results.toList s.ps s.rs s.fresh)).run=some (z,y.2)):ar P f s:=by
 have hW:=Bf hT hga;refine zB hT hf hname hb hnt fun x y hy => ?_
 refine ⟨y.1,fun _=>rfl,fun cx a w hg => ?_⟩;refine wp_seq (wp_mono (cw hT hga hW hm (Dg E) c0 _ _ _ _ hl0 hg (h0 x)) fun ex a1 w1 hq => ?_);cases ex <;> first | exact hq.elim | skip
 refine wp_seq (wp_seq (wp_mono (D3 hT hq d1 p1 g1 d2 p2 g2 b3 b4 hti (h1 x)) fun ex a2 w2 hq2 => ?_));obtain ⟨rfl,b,hb1,hg2⟩:=hq2;obtain ⟨z,hz,hrun⟩:=hs x y hy b hb1;rw [Tr.run_bind] at hrun;cases ho:(cQ E (.seq cc c3) (((st1 x).aE t3 (.v (.d (.sl e ks) (xs x)),none)).aE t4 (.v (.d .bool b),none))).run with
 | none=>rw [ho] at hrun; simp at hrun
 | some ou =>
   rw [ho] at hrun;simp only [adq] at hrun;have hfin:(Cf E fn.results.toList s.ps s.rs s.fresh ou).run=some (y.1,y.2):=by
    cases hh:lL s.ps with
    | true=>rw [<- hz hh]; exact hrun
    | false=>rw [vp _ hh y.1 z]; exact hrun
   simp only [cQ] at ho;rw [Tr.run_bind] at ho;cases hc:(cQ E cc (((st1 x).aE t3 (.v (.d (.sl e ks) (xs x)),none)).aE t4 (.v (.d .bool b),none))).run with
   | none=>rw [hc] at ho; simp at ho
   | some oc =>
     rw [hc] at ho;simp only [adq] at ho;refine wp_mono (cw hT hga hW hm (Dg E) cc _ _ _ _ hlc hg2 hc) fun ex a3 w3 hq3 => ?_
     cases oc with
     | nrm st' =>
       cases ex <;> first | exact hq3.elim | skip
       exact wp_mono (cw hT hga hW hm (Dg E) c3 _ _ _ _ hl3 hq3 ho) fun ex a4 w4 hq4=>⟨ou,hq4,hfin⟩
     | ext id' st' => simp only [Tr.run,ac3] at ho;subst ho;cases ex <;> first | exact hq3.elim | exact ⟨_,hq3,hfin⟩
     | ret st' => simp only [Tr.run,ac3] at ho;subst ho;cases ex <;> first | exact hq3.elim | exact ⟨_,hq3,hfin⟩
end
end Go.Av
namespace Go.Av
open Go.RowKit (Below)
def QH {α:Type} (d:α) (xs:List α) (n:Nat):List α:=xs.take n ++ List.replicate (xs.length - n) d
theorem Gg {α:Type} (d:α) (xs:List α) (n:Nat) (h:n<=xs.length):(QH d xs n).length=xs.length:=by simp [QH]; omega
theorem NL {α:Type} (d:α) (xs:List α) (n:Nat) (h:n<=xs.length) (i:Nat) (x:α) (hx:(QH d xs n)[i]? = some x):(i < n/\xs[i]? = some x)∨(n<=i/\i < xs.length/\x=d):=by
 unfold QH at hx;rw [List.getElem?_append] at hx;simp only [adJ,afb h] at hx;split at hx
 . rename_i hi;rw [ad6] at hx;rw [if_pos hi] at hx;exact .inl ⟨hi,hx⟩
 . rename_i hi;rw [afF] at hx;split at hx
   . rename_i h2;simp only [ac3] at hx;exact .inr ⟨by omega,by omega,hx.symm⟩
   . simp at hx
theorem ie:∀ (vs:List Value) (b o:Nat) (w:World) (i:Nat),(w.setCells b o vs).heap[i]? = if b=i then (w.heap[i]?).map (fun | .cells c el fr=> .cells (setFrom c o vs) el fr | x=>x) else w.heap[i]?
 | [],b,o,w,i=>by
   show w.heap[i]? = _;split
   . cases h:w.heap[i]? with
     | none=>rfl
     | some x=>cases x <;> rfl
   . rfl
 | v :: r,b,o,w,i=>by
   show ((w.setCell ⟨b,o,none⟩ v).setCells b (o + 1) r).heap[i]? = _;rw [ie r b (o + 1) _ i];simp only [cY];by_cases e:b=i
   . rw [if_pos e,if_pos e,if_pos e];cases h:w.heap[i]? with
     | none=>rfl
     | some x=>cases x <;> rfl
   . rw [if_neg e,if_neg e,if_neg e]
theorem uG:∀ (vs:List Value) (b o:Nat) (w:World),(w.setCells b o vs).os=w.os/\(w.setCells b o vs).tape=w.tape/\(w.setCells b o vs).output=w.output/\(w.setCells b o vs).heap.size=w.heap.size
 | [],_,_,_=>⟨rfl,rfl,rfl,rfl⟩
 | v :: r,b,o,w=>by obtain ⟨h1,h2,h3,h4⟩:=uG r b (o + 1) (w.setCell ⟨b,o,none⟩ v);exact ⟨h1,h2,h3,h4.trans (by simp [World.setCell])⟩
theorem rS {z:Array Value} {ks:List K} (hz:z.toList=ks.map zV) (n:Nat) (j:Nat) (hj:j < n * ks.length):(Builtin.zeroCells z n).toList[j]? = (ks.map zV)[j % ks.length]? := by
 have hl:z.size=ks.length:=by rw [<- adW,hz]; simp
 have hpos:0 < ks.length:=by
  rcases aeU ks.length with h | h
  . rw [h] at hj; simp at hj
  . exact h
 unfold Builtin.zeroCells;rw [ac8];simp only [Array.getElem?_map,hl];have:(Array.range (n * ks.length))[j]? = some j:=by simp [hj]
 rw [this];have hm:j % ks.length < ks.length:=afQ _ hpos;simp only [adG];rw [<- hz,ac8];rw [Array.getElem!_eq_getD];simp [adb,hl,hm]
section
variable {P:Program} {E:En} {cx:Cx P} {w w':World}
theorem Hp {e:TypeId} {ks:List K} {xs:T (.sl e ks)} {b o l cap:Nat} {F:Nat->Prop} (h:cO w (.sl e ks) xs (.slice (some ⟨b,o,none⟩) l cap) F) {n:Nat} (hn:n<=(aG xs).length) {zs:List Value} (hz:∀ j,j < ((aG xs).length - n) * ks.length->zs[j]? = (ks.map zV)[j % ks.length]?) (hzl:zs.length=((aG xs).length - n) * ks.length) (hF:∀ q,F q->q < w.heap.size) :
 F b/\(∃ cs el fr,w.heap[b]? = some (.cells cs el fr)/\(∀ q,q < cs.size->¬ (fr.1<=q/\q < fr.2))/\o + n * ks.length + zs.length<=cs.size)/\cO (w.setCells b (o + n * ks.length) zs) (.sl e ks) (QH (dZ ks) (aG xs) n) (.slice (some ⟨b,o,none⟩) l cap) F:=by
 obtain ⟨a',c0,h1,h2,h3,h4,h5⟩:=h;simp only [adX] at h1;obtain ⟨rfl,rfl,rfl⟩:=h1;obtain ⟨b',o',cs,el,fr,g1,g2,g3,g4,g5,G,g6,g7,g8⟩:=h5 _ rfl;simp only [aei,aej] at g1;obtain ⟨rfl,rfl⟩:=g1;have hlen:(aG (e:=e) (ks:=ks) (QH (dZ ks) (aG xs) n)).length=(aG xs).length:=Gg _ _ _ hn;have hfit:o + n * ks.length + zs.length<=cs.size:=by rw [hzl,Nat.sub_mul];have h2':(aG xs).length * ks.length<=cap * ks.length:=adz _ h2;have h3':n * ks.length<=(aG xs).length * ks.length:=adz _ hn;omega
 refine ⟨g2,⟨cs,el,fr,g3,fun q hq=>g4 q (afL _ hq),hfit⟩,_,cap,by rw [hlen],by rw [hlen]; exact h2,by rw [hlen]; exact h3,h4,fun a'' ha'' => ?_⟩;simp only [ac3] at ha'';subst ha'';refine ⟨b,o,setFrom cs (o + n * ks.length) zs,el,fr,rfl,g2,?_,?_,?_,fun i j q=>i < n/\G i j q,fun i j q hq=>g6 i j q hq.2,fun i j i' j' q hq hq'=>g7 i j i' j' q hq.2 hq'.2,fun i x hx => ?_⟩
 . rw [ie,if_pos rfl,g3]; rfl
 . intro q hq; rw [cf] at hq; exact g4 q hq
 . rw [cf]; exact g5
 . rcases NL _ _ _ hn i x hx with ⟨hi,hx'⟩ | ⟨hi,hil,rfl⟩
   ·
    have hrow:=g8 i x hx';have hlt:o + i * ks.length + ks.length<=o + n * ks.length:=by have:(i + 1) * ks.length<=n * ks.length:=adz _ hi;rw [adR] at this;omega
    have key:∀ (ks':List K) (y:Tl ks') (j p:Nat),p + ks'.length<=o + n * ks.length->eP w ks' y j (G i) cs p->eP (w.setCells b (o + n * ks.length) zs) ks' y j (fun j q=>i < n/\G i j q) (setFrom cs (o + n * ks.length) zs) p:=by
     intro ks';induction ks' with
     | nil=>intro y j p _ _; trivial
     | cons k ks' ih =>
       intro y j p hp ⟨⟨v,q1,q2⟩,q3⟩;simp only [ac9] at hp;refine ⟨⟨v,?_,cO.frame k _ v (G i j) _ (fun q hq=>⟨hi,hq⟩) (fun q hq hqlt => ?_) q2⟩,ih y.2 (j + 1) (p + 1) (by omega) q3⟩
       . rw [cz _ _ _ _ hfit,if_neg (by omega)]; exact q1
       . rw [ie,if_neg (fun e=>(g6 i j q hq).2 e.symm)]
    exact key ks x 0 _ (by omega) hrow
   . refine nB ks 0 _ _ fun c v hc => ?_
     have hcl:c < ks.length:=by
      rcases adj c ks.length with hh | hh
      . exact hh
      . rw [adp (by simpa using hh)] at hc; simp at hc
     have hidx:(i - n) * ks.length + c < ((aG xs).length - n) * ks.length:=by have:(i - n + 1) * ks.length<=((aG xs).length - n) * ks.length:=adz _ (by omega);rw [adR] at this;omega
     have hoff:o + i * ks.length + c=o + n * ks.length + ((i - n) * ks.length + c):=by
      have:i * ks.length=n * ks.length + (i - n) * ks.length:=by rw [<- adR]; congr 1; omega
      omega
     rw [cz _ _ _ _ hfit,if_pos (by rw [hzl]; omega),hoff,aeo,hz _ hidx,afS,Nat.mul_add_mod,aex hcl];exact hc
end
end Go.Av
namespace Go.Av
open Go.RowKit (Below)
def AA {α:Type} (d:α) (xs:List α) (n:Int):List α:=QH d xs n.toNat
def sP (ta tb tc t0 tI:Nat) (tks:List K) (st:St):Tr St:=match st.tv t0,st.tv tI with
 | some (.v (.ref r j s)),some (.v (.d (.int k) n))=>(match st.cell r j with
   | some ⟨s',m,.own (.sl e ks) xs⟩=>bif Nat.beq s' s && K.jW ks tks then .need (gp n (aG xs).length (aG xs).length)
      (.ret ((((st.aE ta (.v (.ref r j s),none)).aE tb (.v (.d (.int k) n),none)).aE tc (.v .dead,none)).setCell r j ⟨s',m + 1,.own (.sl e ks) (AA (dZ ks) (aG xs) n)⟩)) else .fail
   | _=> .fail)
 | _,_=> .fail
section
variable {P:Program} {E:En} {cx:Cx P}
theorem zr (hT:bK P E) {rid ta tb tc t0 tI ty:Nat} {te:TI} {o1 o2 o3 o4:Oper} {c:Call} (hty:E.sl ty=some te)
 (d1:o1.dst=some ta) (p1:o1.op= .move (.tmp t0)) (g1:o1.guard=none) (d2:o2.dst=some tb) (p2:o2.op= .move (.tmp tI)) (g2:o2.guard=none)
 (d3:o3.dst=some tc) (p3:o3.op= .slice ty (.tmp ta) (some (.tmp tb)) none none) (g3:o3.guard=none)
 (d4:o4.dst=none) (p4:o4.op= .call c) (g4:o4.guard=none) (hcal:c.callee= .builtin .clear) (hargs:c.args.toList=[.tmp tc]) (hts:c.argTypes.toList=[ty])
 (b1:E.dB ta=true) (b2:E.dB tb=true) (b3:E.dB tc=true) (n1:Nat.beq ta tI=false) (n2:Nat.beq ta tb=false) :
 cH P E (.region rid #[o1,o2,o3,o4] false) (sP ta tb tc t0 tI te.ks):=by
 intro cx a w st st' h hrun;unfold sP at hrun;split at hrun
 . rename_i r j s k n hst0 hstI;split at hrun
   . rename_i s' m e ks xs hcell;cases hb:Nat.beq s' s && K.jW ks te.ks with
     | false=>rw [hb] at hrun; simp [Tr.run] at hrun
     | true =>
       rw [hb] at hrun;simp only [ac6] at hrun;simp only [ac5] at hb;obtain ⟨hk,hrun⟩:=Tr.bo hrun;simp only [Tr.run,ac3] at hrun;subst hrun;have es:=beq_eq hb.1;subst es;have hsz2:=K.iU _ _ hb.2;subst hsz2;obtain ⟨hn,hsz,Z,g,hr⟩:=h;obtain ⟨k0,k1,k2⟩:=fP hk;refine wp_region ?_;show wpOps P #[o1,o2,o3,o4] _ [0,1,2,3] a w;rw [wpOps_cons];refine bz (i:=0) rfl g1 ?_;obtain ⟨hn1,hw1⟩:=jP hr hn hsz d1 (hsz.dst b1) (.inl p1) (tv:= .v (.ref r j s')) hst0;refine hw1 _ _ fun Z1 gg1 a1 w1 hr1 hsz1 => ?_
       rw [wpOps_cons];refine bz (i:=1) rfl g2 ?_;have htI:(st.aE ta (.v (.ref r j s'),none)).get (.tmp tI)=some (.v (.d (.int k) n)):=by
        show (st.aE ta (.v (.ref r j s'),none)).tv tI=_;unfold St.tv at hstI ⊢;rw [bd,if_neg (aew n1)];split at hstI
        . rename_i q want y gg l hq;cases hq2:look st.tm q with
          | none=>rw [hq2] at hstI; simp at hstI
          | some tq=>exact absurd trivial (hn tI _ hq)
        . exact hstI
       obtain ⟨hn2,hw2⟩:=jP hr1 hn1 hsz1 d2 (hsz1.dst b2) (.inl p2) htI;refine hw2 _ _ fun Z2 gg2 a2 w2 hr2 hsz2' => ?_
       rw [wpOps_cons];refine bz (i:=2) rfl g3 ?_;have hc2:((st.aE ta (.v (.ref r j s'),none)).aE tb (.v (.d (.int k) n),none)).cell r j=some ⟨s',m,.own (.sl e te.ks) xs⟩:=hcell;have hta:look ((st.aE ta (.v (.ref r j s'),none)).aE tb (.v (.d (.int k) n),none)).tm ta=some (.v (.ref r j s')):=by rw [bd,if_neg (fun e=>(aew n2) e.symm),bd,if_pos rfl]
       have htb:look ((st.aE ta (.v (.ref r j s'),none)).aE tb (.v (.d (.int k) n),none)).tm tb=some (.v (.d (.int k) n)):=by rw [bd,if_pos rfl]
       have va:a2.eval (.tmp ta)=gg2.cv r j:=by obtain ⟨c1,q1,_,q3⟩:=(hr2.tm ta _ hta).2;rw [hc2] at q1;cases q1;exact q3 rfl
       have hown:cO w2 (.sl e te.ks) xs (gg2.cv r j) (gg2.fp r j):=hr2.cell r j _ hc2;have hown2:=hown;obtain ⟨aa,cap,v1,v2,v3,v4,v5⟩:=hown2;obtain ⟨tt,kss,t1,t2,t3,t4,hu⟩:=dx hT hty;have hs:=fun w=>bM (hT _ te t4) (P:=P) w
       have hlh:jY ((st.aE ta (.v (.ref r j s'),none)).aE tb (.v (.d (.int k) n),none)) (some (.tmp tb)) none (aG xs).length=some (n,((aG xs).length:Int)):=by
        have:((st.aE ta (.v (.ref r j s'),none)).aE tb (.v (.d (.int k) n),none)).get (.tmp tb)=some (.v (.d (.int k) n)):=by show St.tv _ tb=_;unfold St.tv;rw [htb]
        simp only [jY,this,TV.int?,AV.int?];rfl
       have hslice:(execOp a2.eval o3).run P w2= .ok (.value (.slice (if cap=n.toNat then aa else aa.map (·.add (n.toNat * te.ks.length))) ((aG xs).length - n.toNat) (cap - n.toNat))) w2:=by have:=nO hu hs (aa:=aa) (jS (P:=P) hr2 hn2.cons.cons true hlh hk v2);simp only [aez] at this;simp only [execOp,p3,va,v1,aez,adv,this,adh];rfl
       unfold Oper.wp;rw [hslice,adI,d3];generalize hv38:(Value.slice (if cap=n.toNat then aa else aa.map (·.add (n.toNat * te.ks.length))) ((aG xs).length - n.toNat) (cap - n.toNat))=v38;have hr3:=hr2.fA (d:=tc) (tv:= .v .dead) (v:=v38) (hsz2'.dst b3) trivial;have hsz3:Fit cx E (a2.put (some tc) v38):=hsz2'.put _ _;rw [wpOps_cons];refine bz (i:=3) rfl g4 ?_;have htc:(a2.put (some tc) v38).eval (.tmp tc)=v38:=by have:=(hsz2'.dst b3).1;simp [Act.put,Act.eval,adb,this]
       have hgF:∀ q,gg2.fp r j q->q < w2.heap.size:=fun q hq=>(hr2.fp r j q hq).1
       have hclear:∃ w4,(execOp (a2.put (some tc) v38).eval o4).run P w2= .ok (.value (.tuple #[])) w4/\w4.os=w2.os/\w4.tape=w2.tape/\w4.output=w2.output/\w4.heap.size=w2.heap.size/\(∀ b,¬ gg2.fp r j b->w4.heap[b]? = w2.heap[b]?)/\cO w4 (.sl e te.ks) (AA (dZ te.ks) (aG xs) n) (gg2.cv r j) (gg2.fp r j):=by
        have hargs':c.args = #[.tmp tc]:=by rw [<- aec (xs:=c.args),hargs]
        have hts0:c.argTypes[0]? = some ty:=by rw [<- ac8,hts]; rfl
        have fin:∀ w4,(Builtin.clear_ c.argTypes o4.type #[v38]).run P w2= .ok (.tuple #[]) w4->(execOp (a2.put (some tc) v38).eval o4).run P w2= .ok (.value (.tuple #[])) w4:=fun w4 hh=>by simp only [execOp,p4,resolve,hcal,hargs',aeC,ad4,ae1,adv,adN,adh,invoke,builtin,htc,hh]
        rcases aeU ((aG xs).length - n.toNat) with hz | hpos
        . refine ⟨w2,fin w2 ?_,rfl,rfl,rfl,rfl,fun _ _=>rfl,?_⟩
          . rw [<- hv38,hz];simp only [Builtin.clear_,hts0,adS,adf,adv,adH hu,adh];cases hq:(if cap=n.toNat then aa else aa.map (·.add (n.toNat * te.ks.length))) <;> simp
          . have he:AA (dZ te.ks) (aG xs) n=aG xs:=by
             unfold AA QH;rw [hz,List.take_of_length_le (by omega)];simp
            rw [he];exact hown
        . have haa:∃ b o,aa=some ⟨b,o,none⟩:=by
           cases aa with
           | none=>have:=v4 rfl; omega
           | some a' => obtain ⟨b,o,_,_,_,e1,_⟩:=v5 a' rfl;exact ⟨b,o,by rw [e1]⟩
          obtain ⟨b,o,rfl⟩:=haa;obtain ⟨z,hz1,hz2⟩:=rO (hT _ te t4) (P:=P) w2;have hown':=hown;rw [v1] at hown';have hzl:(Builtin.zeroCells z.cells ((aG xs).length - n.toNat)).toList.length=((aG xs).length - n.toNat) * te.ks.length:=by rw [adW,size_zeroCells,<- adW (xs:=z.cells),hz2]; simp
          obtain ⟨c1,⟨cs,el,fr,c2,c3,c4⟩,c5⟩:=Hp hown' (n:=n.toNat) (by omega) (zs:=(Builtin.zeroCells z.cells ((aG xs).length - n.toNat)).toList) (fun j hj=>rS hz2 _ j hj) hzl hgF;have hone:∀ v∈(Builtin.zeroCells z.cells ((aG xs).length - n.toNat)).toList,v.oneCell'=true:=fun v hv=>by
           obtain ⟨i,hi,hv⟩:=afy hv;rw [hzl] at hi;have h1:=rS hz2 _ i hi;rw [adi (by rw [hzl]; exact hi),hv,adY] at h1;cases hk0:te.ks[i % te.ks.length]? with
           | none=>rw [hk0] at h1; simp at h1
           | some k0 => rw [hk0] at h1;simp only [adG,ac3] at h1;rw [h1];cases k0 <;> rfl
          have hstore:=run_storeCells_cells (P:=P) b (o + n.toNat * te.ks.length) (Builtin.zeroCells z.cells ((aG xs).length - n.toNat)).toList 0 w2 (fun j hj=>by
           simp only [World.cell?,adO,c2];simp;omega) (fun j hj=>by
           simp only [World.frozen?,adO,c2];simp only [afN,afk];have:=c3 (o + n.toNat * te.ks.length + j) (by omega);by_cases h:fr.1<=o + n.toNat * te.ks.length + j
           . exact .inr fun h'=>this ⟨h,h'⟩
           . exact .inl h) hone
          rw [adO] at hstore;obtain ⟨w1',w2',w3',w4'⟩:=uG (Builtin.zeroCells z.cells ((aG xs).length - n.toNat)).toList b (o + n.toNat * te.ks.length) w2;refine ⟨_,fin _ ?_,w1',w2',w3',w4',fun b' hb' => ?_,by rw [v1]; exact c5⟩
          . rw [<- hv38];have hne:cap≠n.toNat:=by omega
            obtain ⟨q,hq⟩:∃ q,(aG xs).length - n.toNat=q + 1:=⟨(aG xs).length - n.toNat - 1,by omega⟩;simp only [if_neg hne,adG,gI,Builtin.clear_,hts0,adS,adf,adv,adH hu,adh,hq];rw [hq] at hstore;simp only [hz1,adv,adh,hstore,adN]
          . rw [ie,if_neg];intro e;subst e;exact hb' c1
       obtain ⟨w4,q1,q2,q3,q4,q5,q6,q7⟩:=hclear;unfold Oper.wp;rw [q1,adI,d4];have hlent:=gh (g:=gg2) (F:=fun _ _=>False) (G:=fun _ _=>False) (st:=((st.aE ta (.v (.ref r j s'),none)).aE tb (.v (.d (.int k) n),none)).aE tc (.v .dead,none)) [(r,j,(⟨s',m + 1,.own (.sl e te.ks) (AA (dZ te.ks) (aG xs) n)⟩:RC))] 0;have hcl:(AA (dZ te.ks) (aG xs) n).length=(aG xs).length:=Gg _ _ _ (by omega)
       obtain ⟨hR,_⟩:=hr3.qW hlent q2 q3 q4 (Nat.le_of_eq q5.symm)
        (fun r1 j1 p hp=>by
          obtain ⟨i,e1,e2⟩:=dP _ 0 r1 j1 p hp;cases i with
          | succ i=>simp at e1
          | zero => simp only [adf,ac3,adF] at e1;obtain ⟨rfl,rfl,e3⟩:=e1;rw [<- e3];refine ⟨_,hc2,rfl,ael _,e,te.ks,xs,_,rfl,rfl,hcl,?_⟩;rw [e2];exact cO.frame _ _ _ _ _ (fun b hb=> .inl ⟨hb,fun h=>h⟩) (fun _ _ _=>rfl) q7)
        (fun r1 j1 p hp b hb=>by
          obtain ⟨i,e1,e2⟩:=dP _ 0 r1 j1 p hp;rw [e2] at hb;rcases hb with ⟨hb,_⟩ | hb
          . exact ⟨by rw [q5]; exact (hr2.fp _ _ _ hb).1,.inl ⟨r1,j1,p,hp,hb⟩,(hr2.fp _ _ _ hb).2.2.1⟩
          . exact hb.elim)
        (fun r1 j1 p r2 j2 p' b hp hp' hb hb'=>by
          obtain ⟨i,e1,e2⟩:=dP _ 0 r1 j1 p hp;obtain ⟨i',e1',e2'⟩:=dP _ 0 r2 j2 p' hp';rw [e2] at hb;rw [e2'] at hb';rcases hb with ⟨hb,_⟩ | hb
          . rcases hb' with ⟨hb',_⟩ | hb'
            . exact hr2.disj _ _ _ _ b hb hb'
            . exact hb'.elim
          . exact hb.elim)
        (fun b hb hno=>q6 b fun hh=>by obtain ⟨p0,hp0⟩:=tH (g:=gg2) (F:=fun _ _=>False) (G:=fun _ _=>False) [(r,j,(⟨s',m + 1,.own (.sl e te.ks) (AA (dZ te.ks) (aG xs) n)⟩:RC))] 0 0 r j _ rfl;exact hno r j p0 hp0 hh)
       refine ⟨fun t tv ht => ?_,hsz3,Z2,_,hR⟩;have ht:look (((st.aE ta (.v (.ref r j s'),none)).aE tb (.v (.d (.int k) n),none)).aE tc (.v .dead,none)).tm t=some tv:=by rw [dm] at ht; exact ht
       rw [bd] at ht;split at ht
       . simp only [ac3] at ht; subst ht; exact fun h=>h
       . exact hn2 t tv ht
   . simp [Tr.run] at hrun
 . simp [Tr.run] at hrun
end
end Go.Av
namespace Go.Av
open Go.RowKit (Below)
section
variable {P:Program} {w w':World}
def cut (cs:Array Value) (o n:Nat):List Value:=(List.range n).map fun q=>cs.getD (o + q) undef
end
end Go.Av
namespace Go.Av
open Go.RowKit (Below)
structure Zp (P:Program) (f T ov k:Nat):Prop where
 zero:∀ (a:Option Addr) (n c i:Nat) (a2:Option Addr) (m c2:Nat) (w:World),i<=n->n<=c->(m:Int)=0 ->
  Calls P f #[.slice a n c,.int .i64 i,.slice a2 m c2] w fun e w'=>e= .returned (.slice a n c)/\w'=w
 last:∀ (a:Option Addr) (n c:Nat) (a2:Option Addr) (m c2:Nat) (w w':World) (v':Value),n<=c->¬ ((m:Int)=0) ->
  (Builtin.append_ #[T,T] T #[.slice a n c,.slice a2 m c2]).run P w= .ok v' w' ->
  Calls P f #[.slice a n c,.int .i64 n,.slice a2 m c2] w fun e w1=>e= .returned v'/\w1=w'
 room:∀ (b o n c i:Nat) (a2:Option Addr) (m c2:Nat) (w:World),i < n->n + m<=c->n + m<=140737488355328->0 < m->∀ (W1 W2:World),
  (∀ lb cb,(callFunc ov #[.slice a2 m c2,.slice (some ⟨b,o + (i + m) * k,none⟩) lb cb]).run P w= .ok (.value (.bool false)) w) ->
  (∀ ty dc sc,(Builtin.copy_ #[T,T] ty #[.slice (some ⟨b,o + (i + m) * k,none⟩) (n + m - (i + m)) dc,.slice (some ⟨b,o + i * k,none⟩) (n + m - i) sc]).run P w.drew= .ok (goInt (n - i:Nat)) W1) ->
  (∀ ty dc,(Builtin.copy_ #[T,T] ty #[.slice (some ⟨b,o + i * k,none⟩) (n + m - i) dc,.slice a2 m c2]).run P W1= .ok (goInt m) W2) ->
  Calls P f #[.slice (some ⟨b,o,none⟩) n c,.int .i64 i,.slice a2 m c2] w fun e w1=>e= .returned (.slice (some ⟨b,o,none⟩) (n + m) c)/\w1=W2
 grow:∀ (b o n c i:Nat) (a2:Option Addr) (m c2:Nat) (w:World),i < n->n<=c->c < n + m->n + m<=140737488355328->0 < m->∀ (W1 W2 W3:World) (N G:Nat),n + m<=G->G<=9223372036854775807 ->
  (∀ ty,(Builtin.append_ #[T,3] ty #[.slice (some ⟨b,o,none⟩) i c,.int .i64 ((n:Int) + (m:Int) - (i:Int))]).run P w= .ok (.slice (some ⟨N,0,none⟩) (n + m) G) W1) ->
  (∀ ty dc,(Builtin.copy_ #[T,T] ty #[.slice (some ⟨N,i * k,none⟩) (n + m - i) dc,.slice a2 m c2]).run P W1= .ok (goInt m) W2) ->
  (∀ ty dc sc,(Builtin.copy_ #[T,T] ty #[.slice (some ⟨N,(i + m) * k,none⟩) (n + m - (i + m)) dc,.slice (some ⟨b,o + i * k,none⟩) (n - i) sc]).run P W2.drew= .ok (goInt (n - i:Nat)) W3) ->
  Calls P f #[.slice (some ⟨b,o,none⟩) n c,.int .i64 i,.slice a2 m c2] w fun e w1=>e= .returned (.slice (some ⟨N,0,none⟩) (n + m) G)/\w1=W3
section
variable {P:Program} {w w':World}
end
end Go.Av
namespace Go.Av
open Go.RowKit (Below)
section
variable {P:Program} {E:En} {ops:Array Oper} {P:Program} {cx:Cx P} {Q:Exit->Act->World->Prop}
end
end Go.Av
namespace Go.Av
open Go.RowKit (Below)
section
variable {st:St} {tm:List (Nat×TV)}
end
end Go.Av
namespace Go.Av
section
variable {E:En} {base:St} {ops:List Oper} {ns:List Nat}
theorem zK (hnf:∀ i,gO ns i=false) (hg:bm ops=false):∀ (l:List Oper) (i:Nat) (bs:Bd) (v:St),(∀ o∈l,o.guard=none)->dw E.zf base bs->(∀ e∈bs,e.1 < i)->(dO E true ops ns l i base bs).run=some v ->
 ∃ bs',dw E.zf base bs'/\v=aD base bs'/\(∀ e∈bs,e∈bs')/\∀ k o,l[k]? = some o->∃ d p mask bs0,o.dst=some d/\(i + k,d,p)∈bs'/\(∀ e∈bs0,e∈bs')/\(yG E (view base mask bs0) d o.op).run=some p
 | [],i,bs,v,_,hb,_,h=>by simp only [dO,Tr.run,ac3,hg,jm,adm] at h;exact ⟨bs,hb,h.symm,fun e he=>he,fun k o hk=>by simp at hk⟩
 | o :: r,i,bs,v,hgd,hb,hi,h=>by
   have hgo:=hgd o (adu ..);unfold dO at h;simp only [hgo] at h;split at h
   . rename_i d hd;have key:∀ (t:Tr (TV×Option Rt)),t=xf E (ns.getD i cG) o d base bs (true && !gO ns i)->(t.bind fun p=>dO E true ops ns r (i + 1) base ((i,d,p) :: bs)).run=some v->∃ bs',dw E.zf base bs'/\v=aD base bs'/\(∀ e∈bs,e∈bs')/\∀ k o',(o :: r)[k]? = some o'->∃ d p mask bs0,o'.dst=some d/\(i + k,d,p)∈bs'/\(∀ e∈bs0,e∈bs')/\(yG E (view base mask bs0) d o'.op).run=some p:=by
      intro t ht h;rw [Tr.run_bind] at h;cases hp:t.run with
      | none=>rw [hp] at h; simp at h
      | some p =>
        rw [hp] at h;simp only [adq] at h;rw [ht] at hp;unfold xf at hp;cases ha:(mN o.op && !(true && !gO ns i)) with
        | true=>rw [ha] at hp; simp [Tr.run] at hp
        | false =>
          rw [ha] at hp;simp only [adm] at hp;cases hc:E.dB d && tX base d && base.free d && !jr d bs with
          | false=>rw [hc] at hp; simp [Tr.run] at hp
          | true =>
            rw [hc] at hp;simp only [ac6] at hp;have hb':dw E.zf base ((i,d,p) :: bs):=dw.uO (fun h=>h) hb hc fun e he=>Nat.ne_of_lt (hi e he)
            obtain ⟨bs',g1,g2,g3,g4⟩:=zK hnf hg r (i + 1) ((i,d,p) :: bs) v (fun o' ho'=>hgd o' (adt _ ho')) hb' (fun e he=>by
             rcases adg.1 he with he | he
             . subst he; exact ael _
             . exact afZ (hi e he)) h
            refine ⟨bs',g1,g2,fun e he=>g3 e (adt _ he),fun k o' hk => ?_⟩;cases k with
            | zero => simp only [adf,ac3] at hk;subst hk;exact ⟨d,p,_,bs,hd,g3 _ (adu ..),fun e he=>g3 e (adt _ he),hp⟩
            | succ k => obtain ⟨d',p',m',b0,q1,q2,q3,q4⟩:=g4 k o' (by simpa using hk);exact ⟨d',p',m',b0,q1,by rw [show i + (k + 1)=i + 1 + k by omega]; exact q2,q3,q4⟩
     split at h
     . simp [hnf,Tr.run] at h
     . exact key _ rfl h
   . simp [hnf,Tr.run] at h
end
theorem sU {base:St} {m:Nat}:∀ {bs:Bd} {t:Nat} {tv:TV},look (view base m bs).tm t=some tv->(∃ i p,(i,t,p)∈bs/\p.1=tv)∨look base.tm t=some tv
 | [],t,tv,h=> .inr h
 | (i0,t0,p0) :: r,t,tv,h=>by
   unfold view at h;cases hb:m.testBit i0 with
   | false =>
     rw [hb] at h;rcases sU (bs:=r) h with ⟨i,p,h1,h2⟩ | h1
     . exact .inl ⟨i,p,adt _ h1,h2⟩
     . exact .inr h1
   | true =>
     rw [hb] at h;simp only [ac6] at h;rw [bd] at h;split at h
     . rename_i he;subst he;simp only [ac3] at h;exact .inl ⟨i0,p0,adu ..,h⟩
     . rcases sU (bs:=r) h with ⟨i,p,h1,h2⟩ | h1
       . exact .inl ⟨i,p,adt _ h1,h2⟩
       . exact .inr h1
theorem IK {l:List Nat} (hl:0 < l.length) (i:Nat):gO (l ++ [0]) i=false:=by
 cases hf:gO (l ++ [0]) i with
 | false=>rfl
 | true =>
   exfalso;unfold gO at hf;simp only [ac5,adx,ad9] at hf;rcases adj i l.length with h | h
   . have:=hf.2 (l.length - i - 1) (by rw [ac4]; simp; omega);rw [show i + 1 + (l.length - i - 1)=l.length by omega] at this;simp [List.getD] at this
   . have:=hf.1 0 (by omega);have e:(l ++ [0]).getD i 0=0:=by
      rw [List.getD];rcases adj i (l ++ [0]).length with h2 | h2
      . have:i=l.length:=by rw [ac4] at h2; simp at h2; omega
        subst this;simp
      . rw [adp h2]; rfl
     rw [e] at this;simp at this
end Go.Av
namespace Go.Av
open Go.RowKit (Below)
theorem LS (E:En) (st:St) (d:Nat) (t:TypeId) (x:Operand):yG E st d (.load t x)=Tr.bu (E.ti t) fun ti=>Tr.bu (st.get x) fun tv=>Tr.bu tv.Cp fun a=>Tr.bu (st.load ti.ks.length a) fun l=>Tr.bu (ff ti.agg l) fun tv=> .ret (tv,none):=rfl
def F7 (v:St) (l:List Oper):Bool:=l.all fun o=>match o.dst with | some d=>v.free d | none=>true
def opsOf (c:Code):Array Oper:=match c with | .region _ ops _=>ops | _ => #[]
theorem xK {base:St} {S:Nat}:∀ {bs:Bd},(∀ i t p,(i,t,p)∈bs->p.2=none)->(view base S bs).rt=base.rt
 | [],_=>rfl
 | (i,t,p) :: r,h=>by
   have ih:=xK (base:=base) (S:=S) (bs:=r) fun i t p hm=>h i t p (adt _ hm)
   have hp:=h i t p (adu ..);unfold view;cases S.testBit i with
   | false=>exact ih
   | true => simp only [ac6];unfold St.aE;rw [hp];exact ih
theorem ub {base:St} {bs:Bd} (h:∀ i t p,(i,t,p)∈bs->p.2=none):(aD base bs).rt=base.rt:=by rw [gL base (bitsOf bs) bs (fun i t p h=>dT h)];exact xK h
theorem fk {st:St} (h:bt st) (t:Nat):st.tv t=look st.tm t:=by
 unfold St.tv;split
 . rename_i q want y gg l hq;exact absurd trivial (h t _ hq)
 . rfl
theorem Dk:∀ {l:List Nat} {n:Nat},kN l n=true->n∈l
 | [],n,h=>by simp [kN] at h
 | x :: r,n,h=>by
   simp only [kN,ad8] at h;rcases h with h | h
   . rw [beq_eq h]; exact adu ..
   . exact adt _ (Dk h)
theorem qT {l:List Oper} (h:bm l=false) {i:Nat} {o:Oper} (ho:l[i]? = some o):o.guard=none:=by
 unfold bm at h;rw [List.any_eq_false] at h;have:=h o (ade ho);cases hg:o.guard with
 | none=>rfl
 | some g=>rw [hg] at this; simp at this
section
variable {P:Program} {E:En}
theorem zQ {ops ops':Array Oper} {Q:Exit->Act->World->Prop} {j:Nat} {o:Oper} (h:ops[j]? = some o) (h':ops'[j]? = some o) (hg:o.guard=none) {K:Act->World->Prop} {a:Act} {w:World} (hw:wpOp P ops' Q j K a w):wpOp P ops Q j K a w:=by
 unfold wpOp at hw ⊢;have e:∀ (ops:Array Oper),Region.wanted o (yielded ops a.tmps)=true:=fun ops=>by simp [Region.wanted,hg]
 simp only [h,h',e] at hw ⊢;exact hw
theorem fV {E0:En} {c:Code} {F:St->Tr St} (hn:E.nt=E0.nt) (hp:E.pins=E0.pins) (h:cH P E0 c F):cH P E c F:=by
 have hf:∀ (cx:Cx P) (a:Act),Fit cx E a↔Fit cx E0 a:=fun cx a=>by unfold Fit; rw [hn,hp]
 have hg:∀ (cx:Cx P) (st:St) (a:Act) (w:World),Good cx E st a w↔Good cx E0 st a w:=fun cx st a w=>by unfold Good; rw [hf]
 intro cx a w st st' hgd hr;refine wp_mono (h cx a w st st' ((hg _ _ _ _).1 hgd) hr) fun e a' w' hq => ?_
 cases e <;> first | exact hq.elim | exact (hg _ _ _ _).2 hq
end
end Go.Av
namespace Go.Av
open Go.RowKit (Below)
def vS (o:Oper):Bool:=match o.op,o.guard,o.dst with | .extract (.tmp _) _,none,some _=>true | .move (.tmp _),none,some _=>true | _,_,_=>false
def yM (ex:List (Nat×Nat)) (i:Nat):List Edge:=(ex.filter fun p=>Nat.beq p.1 i).map fun p=>⟨p.2,.data⟩
def gW (ex:List (Nat×Nat)):List Oper->Nat->List Oper
 | [],_=>[]
 | o :: r,i=>{ o with after:=o.after ++ (yM ex i).toArray } :: gW ex r (i + 1)
theorem Dj (ex:List (Nat×Nat)):∀ (l:List Oper) (i k:Nat),(gW ex l i)[k]? = (l[k]?).map fun o=>{ o with after:=o.after ++ (yM ex (i + k)).toArray }
 | [],_,_=>by simp [gW]
 | o :: r,i,0=>by simp [gW]
 | o :: r,i,k + 1=>by rw [gW,ad2,Dj ex r (i + 1) k,ad2,show i + 1 + k=i + (k + 1) by omega]
theorem CF (ex:List (Nat×Nat)):∀ (l:List Oper) (i:Nat),(gW ex l i).length=l.length
 | [],_=>rfl
 | o :: r,i=>by simp [gW,CF ex r]
def iR (ex:List (Nat×Nat)) (ops:Array Oper):Array Oper:=(gW ex ops.toList 0).toArray
theorem qD (ex:List (Nat×Nat)) (ops:Array Oper) (k:Nat):(iR ex ops)[k]? = (ops[k]?).map fun o=>{ o with after:=o.after ++ (yM ex k).toArray }:=by rw [iR,adS,Dj,ac8,adA]
theorem sq (ex:List (Nat×Nat)) (ops:Array Oper):(iR ex ops).size=ops.size:=by simp [iR,CF]
def vj (ops:Array Oper) (ex:List (Nat×Nat)):Bool :=
 Region.noSelect ops && ex.all fun p=>(match ops[p.2]?,ops[p.1]? with
  | some oj,some oi=>vS oj && (yM ex p.2).isEmpty && (oj.after.toList.all fun e=> !bF e || oi.after.toList.any fun e'=>bF e' && Nat.beq e'.on e.on) &&
     (List.range ops.size).all fun k=>Nat.beq k p.2 || (match ops[k]? with | some ok=>(ok.after.toList.any fun e=>bF e && Nat.beq e.on p.2) || ((oj.after.toList.any fun e=>bF e && Nat.beq e.on k) || oj.apart ops ok) | none=>true)
  | _,_=>false)
section
variable {P:Program} {ops:Array Oper} {Q:Exit->Act->World->Prop}
theorem AM (ex:List (Nat×Nat)) (ops:Array Oper) (tmps:Array Value):yielded (iR ex ops) tmps=yielded ops tmps:=by funext g;unfold yielded;rw [qD];cases ops[g]? <;> rfl
theorem nQ {ex:List (Nat×Nat)} {k:Nat} {K:Act->World->Prop} {a:Act} {w:World} (h:wpOp P (iR ex ops) Q k K a w):wpOp P ops Q k K a w:=by
 unfold wpOp at h ⊢;rw [qD,AM] at h;cases ho:ops[k]? with
 | none=>rw [ho] at h; exact h
 | some o=>rw [ho] at h; exact h
theorem uc {o:Oper} (hp:vS o=true) (hL:¬ LetsOut Q) (hQ:∀ c a w,¬ Q (.panic c) a w) {k:Nat} (ho:ops[k]? = some o) {K:Act->World->Prop} {a:Act} {w:World} (h:wpOp P ops Q k K a w) :
 ∃ v,Yields P ops o v a/\K (a.put o.dst v) w:=by
 unfold vS at hp;split at hp
 . rename_i t i d h1 h2 h3;have hw:Region.wanted o (yielded ops a.tmps)=true:=by simp [Region.wanted,h2]
   unfold wpOp at h;rw [ho] at h;simp only [hw,if_true] at h;have h:=h.resolve_right fun h=>hL h.2
   unfold Oper.wp at h;have he:∀ w,(execOp a.eval o).run P w=(match a.eval (.tmp t) with | .tuple vs=>(match vs[i]? with | some v=>Result.ok (.value v) w | none=>(execOp a.eval o).run P w) | _=>(execOp a.eval o).run P w):=fun w=>by
    split
    . rename_i vs hv;split
      . rename_i v hi;simp [execOp,h1,hv,Instr.extract,hi]
      . rfl
    . rfl
   cases hv:a.eval (.tmp t) with
   | tuple vs =>
     cases hi:vs[i]? with
     | some v => refine ⟨v,.inl ⟨hw,fun w=>by rw [he w,hv]; simp only [hi]⟩,?_⟩;rw [he w,hv] at h;simp only [hi,Oper.upon] at h;exact h
     | none => exfalso;simp [execOp,h1,hv,Instr.extract,hi,Oper.upon] at h
   | _ => exfalso;simp [execOp,h1,hv,Instr.extract,Oper.upon] at h
 . rename_i t d h1 h2 h3;have hw:Region.wanted o (yielded ops a.tmps)=true:=by simp [Region.wanted,h2]
   unfold wpOp at h;rw [ho] at h;simp only [hw,if_true] at h;have h:=h.resolve_right fun h=>hL h.2
   have he:∀ w,(execOp a.eval o).run P w= .ok (.value (a.eval (.tmp t))) w:=fun w=>by simp [execOp,h1]
   refine ⟨a.eval (.tmp t),.inl ⟨hw,he⟩,?_⟩;unfold Oper.wp at h;rw [he w,adI] at h;exact h
 . simp at hp
theorem KW {ex:List (Nat×Nat)} {k:Nat} {e:Edge} (h:e∈yM ex k):∃ p,p∈ex/\p.1=k/\e.on=p.2:=by unfold yM at h;obtain ⟨p,hp,rfl⟩:=ae9.1 h;obtain ⟨h1,h2⟩:=ae2.1 hp;exact ⟨p,h1,beq_eq h2,rfl⟩
theorem nw {ex:List (Nat×Nat)} {p:Nat×Nat} (h:p∈ex):(⟨p.2,.data⟩:Edge)∈yM ex p.1 :=
 ae9.2 ⟨p,ae2.2 ⟨h,afj _⟩,rfl⟩
theorem dU {ex:List (Nat×Nat)} {listed:Array Bool} {k:Nat}:k∈Region.ready .any (iR ex ops) listed↔k∈Region.ready .any ops listed/\∀ p∈ex,p.1=k->listed.getD p.2 false=true:=by
 rw [mem_ready,mem_ready];constructor
 . rintro ⟨h0,o',ho',hall⟩;rw [qD] at ho';cases ho:ops[k]? with
   | none=>rw [ho] at ho'; simp at ho'
   | some o => rw [ho] at ho';simp only [adG,ac3] at ho';subst ho';refine ⟨⟨h0,o,rfl,fun e he hb=>hall e (by simp [he]) hb⟩,fun p hp hk => ?_⟩;subst hk;exact hall ⟨p.2,.data⟩ (by simp [nw hp]) rfl
 . rintro ⟨⟨h0,o,ho,hall⟩,hex⟩;refine ⟨h0,_,by rw [qD,ho]; rfl,fun e he hb => ?_⟩;simp only [Array.mem_append,List.mem_toArray] at he;rcases he with he | he
   . exact hall e he hb
   . obtain ⟨p,hp,h1,h2⟩:=KW he;rw [h2];exact hex p hp h1
theorem hoist {ex:List (Nat×Nat)} (hok:vj ops ex=true) (hL:¬ LetsOut Q) (hQ:∀ c a w,¬ Q (.panic c) a w) :
 ∀ (fuel:Nat) (listed:Array Bool) (a:Act) (w:World),listed.size=ops.size->wpAny P .any (iR ex ops) Q fuel listed a w->wpAny P .any ops Q fuel listed a w:=by
 unfold vj at hok;simp only [ac5] at hok;obtain ⟨hns,hok⟩:=hok;have hsel:=Region.noSelect_spec hns
 have facts:∀ p∈ex,∃ oj oi,ops[p.2]? = some oj/\ops[p.1]? = some oi/\vS oj=true/\yM ex p.2=[]/\(∀ e∈oj.after,bF e=true->∃ e'∈oi.after,bF e'=true/\e'.on=e.on) /\
  ∀ k ok,ops[k]? = some ok->k≠p.2->(∀ e∈ok.after,Region.binds .any e=true->e.on≠p.2)->(∃ e∈oj.after,bF e=true/\e.on=k)∨oj.apart ops ok=true:=by
  intro p hp;have h:=adx.1 hok p hp;cases h2:ops[p.2]? with
  | none=>rw [h2] at h; simp at h
  | some oj =>
    cases h1:ops[p.1]? with
    | none=>rw [h2,h1] at h; simp at h
    | some oi =>
      rw [h2,h1] at h;simp only [ac5] at h;obtain ⟨⟨⟨g1,g2⟩,g3⟩,g4⟩:=h;refine ⟨oj,oi,rfl,rfl,g1,List.isEmpty_iff.1 g2,fun e he hb => ?_,fun k ok hk hne hno => ?_⟩
      . have:=adx.1 g3 e (by simpa using he);rw [hb] at this;simp only [adL,afY] at this;obtain ⟨e',he',h'⟩:=aey.1 this;simp only [ac5] at h';exact ⟨e',by simpa using he',h'.1,beq_eq h'.2⟩
      . have hlt:k < ops.size:=(ado.1 hk).1;have:=adx.1 g4 k (ad9.2 hlt);rw [hk] at this;simp only [ad8] at this;rcases this with h | h | h | h
        . exact absurd (beq_eq h) hne
        . obtain ⟨e',he',h'⟩:=aey.1 h;simp only [ac5] at h';exact absurd (beq_eq h'.2) (hno e' (by simpa using he') h'.1)
        . obtain ⟨e',he',h'⟩:=aey.1 h;simp only [ac5] at h';exact .inl ⟨e',by simpa using he',h'.1,beq_eq h'.2⟩
        . exact .inr h
 have hR:∀ (listed:Array Bool),listed.size=ops.size->∀ k,k∈Region.ready .any ops listed->∀ p∈ex,p.1=k->listed.getD p.2 false≠true->p.2∈Region.ready .any (iR ex ops) listed/\p.2∈Region.ready .any ops listed:=by
  intro listed hls k hk p hp hpk hun;obtain ⟨oj,oi,h2,h1,g1,g2,g3,g4⟩:=facts p hp;obtain ⟨_,o,ho,hall⟩:=mem_ready.1 hk;rw [<- hpk,h1] at ho;cases ho;have hlt:p.2 < listed.size:=by rw [hls]; exact (ado.1 h2).1
  have hr:p.2∈Region.ready .any ops listed:=by
   refine mem_ready.2 ⟨?_,oj,h2,fun e he hb => ?_⟩
   . simp only [adb,aeG hlt,aeB] at hun ⊢;simpa using hun
   . obtain ⟨e',he',hb',h'⟩:=g3 e he hb;rw [<- h'];exact hall e' he' hb'
  refine ⟨dU.2 ⟨hr,fun q hq hqk => ?_⟩,hr⟩;have:=nw hq;rw [hqk,g2] at this;simp at this
 intro fuel;induction fuel with
 | zero =>
   intro listed a w hls H;refine ⟨aet.2 fun k hk => ?_,H.2⟩;by_cases hall:∀ p∈ex,p.1=k->listed.getD p.2 false=true
   . have:=dU.2 ⟨hk,hall⟩;rw [H.1] at this;simp at this
   . simp only [aff] at hall;obtain ⟨p,hp,hpk,hun⟩:=hall;have:=(hR listed hls k hk p hp hpk hun).1;rw [H.1] at this;simp at this
 | succ fuel ih =>
   intro listed a w hls H;by_cases hex:∃ p,p∈ex/\p.2∈Region.ready .any ops listed
   . obtain ⟨p,hp,hr⟩:=hex;obtain ⟨oj,oi,h2,h1,g1,g2,g3,g4⟩:=facts p hp;have hr2:p.2∈Region.ready .any (iR ex ops) listed:=dU.2 ⟨hr,fun q hq hqk=>by
      have:=nw hq;rw [hqk,g2] at this;simp at this⟩
     obtain ⟨v,hy,hK⟩:=uc g1 hL hQ h2 (nQ (H.2 p.2 hr2));refine wpAny_first h2 hsel (fun c a w h=>(hQ _ _ _ h).elim) fuel listed a w (fun k ok hk hne hun hno=>(g4 k ok hk hne hno).resolve_left fun ⟨e,he,hb,hek⟩ => ?_) hr hy (ih _ _ _ (by simpa using hls) hK);obtain ⟨_,o,ho,hall⟩:=mem_ready.1 hr;rw [h2] at ho;cases ho;have h5:=hall e he hb;rw [hek] at h5;have hlt:k < listed.size:=by rw [hls]; exact (ado.1 hk).1
     simp only [adb,aeG hlt,aeB] at hun h5;rw [h5] at hun;simp at hun
   . have hsub:∀ k,k∈Region.ready .any ops listed->k∈Region.ready .any (iR ex ops) listed:=fun k hk=>by
      refine dU.2 ⟨hk,fun p hp hpk => ?_⟩;by_cases hun:listed.getD p.2 false=true
      . exact hun
      . exact absurd ⟨p,hp,(hR listed hls k hk p hp hpk hun).2⟩ hex
     refine ⟨fun h0=>H.1 (aet.2 fun k hk => ?_),fun k hk => ?_⟩
     . have:=(dU.1 hk).1;rw [h0] at this;simp at this
     . exact wpOp_mono (fun a' w' h=>ih _ a' w' (by simpa using hls) h) (nQ (H.2 k (hsub k hk)))
end
section
variable {P:Program} {E:En}
end
end Go.Av
namespace Go.Av
open Go.RowKit (Below)
theorem Ge:∀ n i,DB n (2 ^ i - 1)=n - i
 | 0,i=>by simp [DB]
 | n + 1,i=>by
   rw [DB,Ge n i,fN];by_cases h:n < i
   . simp only [h,decide_true]; omega
   . simp only [h,decide_false]; omega
section
variable {P:Program} {E:En} {ops:Array Oper} {P:Program} {cx:Cx P} {Q:Exit->Act->World->Prop}
theorem Db (hed:gC ops.toList 0=true):∀ (n i:Nat) (listed:Array Bool) (fuel:Nat) (a:Act) (w:World),i + n=ops.size->listed.size=ops.size->(∀ k,k < ops.size->listed.getD k false=decide (k < i))->n<=fuel ->
 (∀ k,i < k->k < ops.size->∃ o e,ops[k]? = some o/\e∈o.after/\bF e=true/\e.on=k - 1)->wpOps P ops Q (List.range' i n) a w->wpAny P .any ops Q fuel listed a w
 | 0,i,listed,fuel,a,w,hi,hls,hl,hf,hch,h=>by
   have hr:Region.ready .any ops listed=[]:=aet.2 fun k hk=>by obtain ⟨h0,o,ho,_⟩:=mem_ready.1 hk;have hlt:k < ops.size:=(ado.1 ho).1;have:=hl k hlt;rw [ada (by omega)] at this;simp [adb,hls,hlt] at h0 this;rw [h0] at this;simp at this
   have h:Q .normal a w:=h;cases fuel with
   | zero=>exact ⟨hr,h⟩
   | succ fuel=>exact ⟨fun _=>h,fun k hk=>by rw [hr] at hk; simp at hk⟩
 | n + 1,i,listed,fuel,a,w,hi,hls,hl,hf,hch,h=>by
   obtain ⟨fuel,rfl⟩:∃ f,fuel=f + 1:=⟨fuel - 1,by omega⟩;rw [List.range'_succ,wpOps_cons] at h;have hil:i < ops.size:=by omega
   have hri:i∈Region.ready .any ops listed:=by
    refine mem_ready.2 ⟨?_,ops[i],by simp [hil],fun e he hb => ?_⟩
    . have:=hl i hil;rw [adD (by omega)] at this;simp [adb,hls,hil] at this ⊢;exact this
    . have:=ib ops.toList 0 hed i ops[i] (by rw [ac8]; simp [hil]) e (aeu.2 he) hb;rw [hl e.on (by omega)];exact ada (by omega)
   refine ⟨fun h0=>by rw [h0] at hri; simp at hri,fun k hk => ?_⟩;have hki:k=i:=by
    obtain ⟨h0,o,ho,hall⟩:=mem_ready.1 hk;have hlt:k < ops.size:=(ado.1 ho).1;have hge:i<=k:=by
     have:=hl k hlt;rcases adj k i with hh | hh
     . rw [ada hh] at this;simp [adb,hls,hlt] at h0 this;rw [h0] at this;simp at this
     . exact hh
    rcases adj i k with hh | hh
    . obtain ⟨o',e,ho',he,hb,hon⟩:=hch k hh hlt;rw [ho] at ho';cases ho';have:=hall e he hb;rw [hon,hl (k - 1) (by omega)] at this;have:=of_decide_eq_true this;omega
    . omega
   subst hki;refine wpOp_mono (fun a' w' h'=>Db hed n (k + 1) _ fuel a' w' (by omega) (by simpa using hls) (fun j hj => ?_) (by omega) (fun j hj hj2=>hch j (by omega) hj2) h') h;by_cases e:k=j
   . subst e;simp [adb,hls,hj]
   . rw [getD_set_ne false e,hl j hj];congr 1;exact propext ⟨fun h=>by omega,fun h=>by omega⟩
theorem Fj (hed:gC ops.toList 0=true) {i1:Nat} (hi1:i1 < ops.size) {base:St} {bsF:Bd} (hstep:∀ j,j < i1->pZ P E ops (bR ops.toList []) base bsF 0 j)
 (hneed:∀ j,j < i1->((bR ops.toList []).getD i1 0).testBit j=true) (hch:∀ k,i1 < k->k < ops.size->∃ o e,ops[k]? = some o/\e∈o.after/\bF e=true/\e.on=k - 1)
 (hend:∀ (a:Act) (w:World) (Z:Nat->Prop) (g:Gh),Rel cx Z g (view base (2 ^ i1 - 1) bsF) a w->Fit cx E a->wpOps P ops Q (List.range' i1 (ops.size - i1)) a w) :
 ∀ (fuel:Nat) (listed:Array Bool) (S:Nat) (a:Act) (w:World) (Z:Nat->Prop) (g:Gh),listed.size=ops.size->(∀ k,k < ops.size->listed.getD k false=S.testBit k)->(∀ k,i1<=k->S.testBit k=false)->DB ops.size S<=fuel ->
  (∀ k,S.testBit k=true->∀ b,((bR ops.toList []).getD k 0).testBit b=true->S.testBit b=true)->Rel cx Z g (view base S bsF) a w->Fit cx E a->wpAny P .any ops Q fuel listed a w:=by
 have hlen:(bR ops.toList []).length=ops.size:=by rw [lf]; simp
 have full:∀ (fuel:Nat) (listed:Array Bool) (S:Nat) (a:Act) (w:World) (Z:Nat->Prop) (g:Gh),listed.size=ops.size->(∀ k,k < ops.size->listed.getD k false=S.testBit k)->(∀ k,i1<=k->S.testBit k=false)->DB ops.size S<=fuel->(∀ k,k < i1->S.testBit k=true)->Rel cx Z g (view base S bsF) a w->Fit cx E a->wpAny P .any ops Q fuel listed a w:=by
  intro fuel listed S a w Z g hls hS hhi hfuel hlo h hsz;have e:S=2 ^ i1 - 1:=by
   apply Nat.eq_of_testBit_eq;intro k;rw [fN];by_cases hk:k < i1
   . simp [hk,hlo k hk]
   . simp [hk,hhi k (by omega)]
  subst e;rw [Ge] at hfuel;exact Db hed (ops.size - i1) i1 listed fuel a w (by omega) hls (fun k hk=>by rw [hS k hk,fN]) hfuel hch (hend a w Z g h hsz)
 intro fuel;induction fuel with
 | zero => intro listed S a w Z g hls hS hhi hfuel hcl h hsz;have:=AJ _ _ (Nat.le_zero.1 hfuel) i1 hi1;rw [hhi i1 (ac7 _)] at this;simp at this
 | succ fuel ih =>
   intro listed S a w Z g hls hS hhi hfuel hcl h hsz;by_cases hlo:∀ k,k < i1->S.testBit k=true
   . exact full (fuel + 1) listed S a w Z g hls hS hhi hfuel hlo h hsz
   have hmask:∀ j,j∈Region.ready .any ops listed->j < ops.size/\S.testBit j=false/\∀ b,((bR ops.toList []).getD j 0).testBit b=true->S.testBit b=true:=by
    intro j hj;obtain ⟨hj0,o,ho,he⟩:=mem_ready.1 hj;have hlt:j < ops.size:=(ado.1 ho).1;refine ⟨hlt,?_,fun b hbit => ?_⟩
    . rw [<- hS j hlt];simp [adb,hls,hlt] at hj0 ⊢;exact hj0
    . obtain ⟨e,h1,h2,h3⟩:=tL ops.toList [] j o b (by rw [ac8]; exact ho) (by simpa using hbit);have hl:=he e (aeu.1 h1) h2;have hon:e.on < ops.size:=by
       rcases adj e.on ops.size with hh | hh
       . exact hh
       . simp [adb,hls,hh] at hl
      rw [hS _ hon] at hl;rcases h3 with h3 | ⟨_,h3⟩
      . rw [<- h3]; exact hl
      . exact hcl _ hl b h3
   have hnext:∀ k,k < ops.size->S.testBit k=false->∃ j,j∈Region.ready .any ops listed:=by
    intro k;induction k using Nat.strongRecOn with
    | _ k ihk =>
      intro hk hkS;obtain ⟨o,ho⟩:∃ o,ops[k]? = some o:=⟨ops[k],by simp [hk]⟩;by_cases hall:∀ e∈o.after,Region.binds .any e=true->listed.getD e.on false=true
      . refine ⟨k,mem_ready.2 ⟨?_,o,ho,hall⟩⟩;have:=hS k hk;rw [hkS] at this;simp [adb,hls,hk] at this ⊢;exact this
      . simp only [aff] at hall;obtain ⟨e,he,hbe,hnl⟩:=hall;have hon:=ib ops.toList 0 hed k o (by rw [ac8]; exact ho) e (aeu.2 he) hbe;rw [adA] at hon;have hon':e.on < ops.size:=Nat.lt_trans hon hk;refine ihk e.on hon hon' ?_;rw [<- hS _ hon'];simpa using hnl
   have hlt1:∀ j,j∈Region.ready .any ops listed->j < i1:=fun j hj=>by
    obtain ⟨m1,m2,m3⟩:=hmask j hj;rcases adj j i1 with hh | hh
    . exact hh
    . exfalso;apply hlo;rcases adj i1 j with h2 | h2
      ·
       obtain ⟨o,e,ho,he,hb,hon⟩:=hch j h2 m1;obtain ⟨_,o',ho',hall⟩:=mem_ready.1 hj;rw [ho] at ho';cases ho';have:=hall e he hb;rw [hon,hS _ (by omega),hhi _ (by omega)] at this;simp at this
      . have:j=i1:=by omega
        subst this;exact fun k hk=>m3 k (hneed k hk)
   refine ⟨fun h0 => ?_,fun j hj => ?_⟩
   . obtain ⟨j,hj⟩:=hnext i1 hi1 (hhi i1 (ac7 _));rw [h0] at hj;simp at hj
   . obtain ⟨m1,m2,m3⟩:=hmask j hj;have hj1:=hlt1 j hj;refine hstep j hj1 cx S a w Z g _ _ (fun k _ hk hb => ?_) m2 h hsz fun Z' g' a' w' hr' hsz' => ?_
     . refine m3 k ?_;rw [List.getD_eq_getElem?_getD] at hb ⊢;rw [adi (by rw [hlen]; omega)] at hb ⊢;exact hb
     . refine ih (listed.setIfInBounds j true) (S ||| 2 ^ j) a' w' Z' g' (by simpa using hls) (fun k hk => ?_) (fun k hk => ?_) ?_ (fun k hk b hb => ?_) hr' hsz'
       . rw [bl];by_cases e:j=k
         . subst e;simp [adb,hls,hk]
         . rw [getD_set_ne false e,hS k hk];simp [e]
       . rw [bl,hhi k hk];simp; omega
       . have:=Ad ops.size j S m2;rw [if_pos m1] at this;omega
       . rw [bl] at hk ⊢;simp only [ad8,aeg] at hk ⊢;rcases hk with hk | rfl
         . exact .inl (hcl k hk b hb)
         . exact .inl (m3 b hb)
end
end Go.Av
namespace Go.Av
open Go.RowKit (Below)
section
variable {P:Program} {w w':World}
theorem zn {t t2 ty:TypeId} {e:TypeId} {te:TI} {ats:Array TypeId} {d2:TypeDesc} (hu:P.underlying t=some (.slice e)) (hTe:qx P e te) (hu2:P.underlying t2=some d2) (hd2:∀ k,d2≠ .int k) (hat:ats[0]? = some t) (hat2:ats[1]? = some t2) (hby:0 < te.bytes)
 {xs:T (.sl e te.ks)} {ys:List (Tl te.ks)} {v0 vy:Value} {F FH:Nat->Prop} {news:List Value} {H:Nat->Nat->Nat->Prop} (hx:cO w (.sl e te.ks) xs v0 F) (hr:vc w te.ks ys news H FH) (hl:(Builtin.lenOf vy).run P w= .ok ys.length w)
 (hcl:∀ w1:World,w1.heap=w.heap->(Builtin.firstCells te.ks.length ys.length vy).run P w1= .ok news.toArray w1) (hlt:∀ q,F q∨FH q->q < w.heap.size) (hdj:∀ q,FH q->¬ F q) (hbytes:((aG xs).length + ys.length) * te.bytes<=aT) :
 ∃ v' w' F',(Builtin.append_ ats ty #[v0,vy]).run P w= .ok v' w'/\w'.os=w.os/\w'.tape=w.tape/\w'.output=w.output/\w.heap.size<=w'.heap.size/\(∀ q,q < w.heap.size->¬ F q->w'.heap[q]? = w.heap[q]?)/\(∀ q,F' q->q < w'.heap.size/\(F q∨FH q∨w.heap.size<=q))/\v'.oneCell'=true /\
  cO w' (.sl e te.ks) (cat te.ks (aG xs) ys) v' F':=by
 have hbig:(aG xs).length + ys.length<=aT:=ady (aeN _ hby) hbytes;obtain ⟨base,cap,rfl,c1,c2,c3,c4⟩:=hx;have hnl:=hr.len;by_cases hfit:(aG xs).length + ys.length<=cap
 . cases base with
   | none =>
     have hcap:=c3 rfl;have hx0:aG xs=[]:=adl.1 (by omega);have hy0:ys=[]:=adl.1 (by omega);refine ⟨.slice none 0 0,w,fun _=>False,?_,rfl,rfl,rfl,ac7 _,fun _ _ _=>rfl,fun q hq=>hq.elim,rfl,?_⟩
     . rw [hx0,hcap];refine append_nil (news:=news) hu hTe hu2 hd2 hat hat2 ?_ ?_
       . rw [hy0] at hl; exact hl
       . have:=hcl w rfl; rw [hy0] at this; exact this
     . rw [hx0,hy0];exact jx _ _
   | some aa =>
     obtain ⟨b,of,cs,el,fr,rfl,n2,n3,n4,n5,G,n6,n7,n8⟩:=c4 _ rfl;obtain ⟨s1,s2,s3,s4,s5,s6⟩:=eM b news (of + (aG xs).length * te.ks.length) w cs el fr n3;have hroom:of + (aG xs).length * te.ks.length + news.length<=cs.size:=by have:=adz te.ks.length hfit;rw [adR] at this;omega
     refine ⟨.slice (some ⟨b,of,none⟩) ((aG xs).length + ys.length) cap,w.setCells b (of + (aG xs).length * te.ks.length) news,fun q=>F q∨FH q,ud hu hTe hu2 hd2 hat hat2 hl (hcl w rfl) hfit hr.one (fun j hj=>⟨cs,el,fr,n3,by omega,n4 _ (by omega)⟩),s4,s5,s6,by rw [s3]; exact ac7 _,fun q _ hq=>s2 q fun e=>hq (by rw [e]; exact n2),fun q hq => ?_,rfl,?_⟩
     . rw [s3];refine ⟨hlt q hq,?_⟩;rcases hq with hq | hq
       . exact .inl hq
       . exact .inr (.inl hq)
     . refine uY (w:=w) (b0:=b) (F:=F) n6 n7 n8 hr (fun q hq=>⟨hdj q hq,fun e=>hdj q hq (by rw [e]; exact n2)⟩) s1 (fun q hq=>n4 q (by rw [cf] at hq; exact hq)) (.inl n2) (fun q hq _=> .inl hq) (fun q hq=> .inr hq) (fun i j q hq=>(n6 i j q hq).2) (fun q hq e=>hdj q hq (by rw [e]; exact n2)) (fun q hq h1 _=>s2 q h1) (fun q hq => ?_) (fun q hq => ?_) hfit (by rw [cf]; exact n5) hbig
       . rw [cz _ _ _ _ hroom,if_neg (by omega)]
       . rw [cz _ _ _ _ hroom,if_pos (by omega)];congr 1;omega
 . have hgrow:cap < (aG xs).length + ys.length:=by omega
   have hge:=grownCap_ge w ((aG xs).length + ys.length) cap e;have hnot:∀ q,F q∨FH q->q≠w.heap.size:=fun q hq e=>by have:=hlt q hq;omega
   have olds:∃ (olds:List Value) (b0:Nat) (cs:Array Value) (of:Nat) (G:Nat->Nat->Nat->Prop),(Builtin.firstCells te.ks.length (aG xs).length (.slice base (aG xs).length cap)).run P w.drew= .ok olds.toArray w.drew/\olds.length=(aG xs).length * te.ks.length/\(∀ q,q < (aG xs).length * te.ks.length->olds[q]? = cs[of + q]?) /\
    (∀ i j b,G i j b->F b/\b≠b0)/\(∀ i j i' j' b,G i j b->G i' j' b->i=i'/\j=j')/\(∀ i x,(aG xs)[i]? = some x->eP w te.ks x 0 (G i) cs (of + i * te.ks.length))/\(∀ q,FH q->q≠b0):=by
    cases base with
    | none => have hcap:=c3 rfl;have hx0:aG xs=[]:=adl.1 (by omega);refine ⟨[],w.heap.size,#[],0,fun _ _ _=>False,?_,by rw [hx0]; simp,fun q hq=>by rw [hx0] at hq; simp at hq,fun _ _ _ h=>h.elim,fun _ _ _ _ _ h=>h.elim,fun i x hi=>by rw [hx0] at hi; simp at hi,fun q hq=>hnot q (.inr hq)⟩;exact run_firstCells_none (P:=P) w.drew _ _ _ _
    | some aa =>
      obtain ⟨b,of,cs,el,fr,rfl,n2,n3,n4,n5,G,n6,n7,n8⟩:=c4 _ rfl;have hbound:∀ q,q < (aG xs).length * te.ks.length->of + q < cs.size:=fun q hq=>by have:=adz te.ks.length c1;omega
      have hnl':∀ q,q < (aG xs).length * te.ks.length->((List.range ((aG xs).length * te.ks.length)).map fun q=>cs.getD (of + q) undef)[q]? = cs[of + q]? := fun q hq=>by have:=hbound q hq;simp [hq,this]
      refine ⟨(List.range ((aG xs).length * te.ks.length)).map fun q=>cs.getD (of + q) undef,b,cs,of,G,?_,by simp,hnl',n6,n7,n8,fun q hq e=>hdj q hq (by rw [e]; exact n2)⟩;refine run_firstCells_some (P:=P) w.drew _ _ ⟨b,of,none⟩ _ _ _ (by simp) fun j v hj => ?_
      have hjl:j < (aG xs).length * te.ks.length:=by
       rcases adj j ((aG xs).length * te.ks.length) with hh | hh
       . exact hh
       . rw [adp (by simpa using hh)] at hj; simp at hj
      rw [hnl' j hjl] at hj;rw [gI];have n3':w.drew.heap[b]? = some (.cells cs el fr):=n3;simp only [World.cell?,n3'];exact hj
   obtain ⟨olds,b0,cs,of,G,r1,r2,r3,r4,r5,r6,r7⟩:=olds;obtain ⟨zs,z1,z2⟩:=qY (P:=P) (ty:=ty) (vx:=vy) hu hTe hu2 hd2 hat hat2 hl r1 (hcl w.drew rfl) hgrow hby hbytes;have hheap:(w.drew.alloc (.cells (olds.toArray ++ news.toArray ++ zs) e (0,0))).heap=w.heap.push (.cells (olds.toArray ++ news.toArray ++ zs) e (0,0)):=rfl;have hsize:(w.drew.alloc (.cells (olds.toArray ++ news.toArray ++ zs) e (0,0))).heap.size=w.heap.size + 1:=by rw [hheap,aeP]
   have hold:∀ q,q < w.heap.size->(w.drew.alloc (.cells (olds.toArray ++ news.toArray ++ zs) e (0,0))).heap[q]? = w.heap[q]? := fun q hq=>by rw [hheap,ad0,if_neg (by omega)]
   refine ⟨.slice (some ⟨w.heap.size,0,none⟩) ((aG xs).length + ys.length) (grownCap w ((aG xs).length + ys.length) cap e),w.drew.alloc (.cells (olds.toArray ++ news.toArray ++ zs) e (0,0)),fun q=>(F q∨FH q)∨q=w.heap.size,z2,rfl,rfl,rfl,by rw [hsize]; omega,fun q hq _=>hold q hq,fun q hq => ?_,rfl,?_⟩
   . rw [hsize];rcases hq with hq | rfl
     . refine ⟨by have:=hlt q hq; omega,?_⟩;rcases hq with hq | hq
       . exact .inl hq
       . exact .inr (.inl hq)
     . exact ⟨by omega,.inr (.inr (ac7 _))⟩
   . refine uY (w:=w) (b0:=b0) (F:=F) r4 r5 r6 hr (fun q hq=>⟨hdj q hq,r7 q hq⟩) (el:=e) (fr:=(0,0)) (cs':=olds.toArray ++ news.toArray ++ zs) (by rw [hheap,ad0,if_pos rfl]) (by simp) (.inr rfl) (fun q hq _=> .inl (.inl hq)) (fun q hq=> .inl (.inr hq)) (fun i j q hq=>hnot q (.inl (r4 i j q hq).1)) (fun q hq=>hnot q (.inr hq)) (fun q hq _ _=>hold q hq) (fun q hq => ?_) (fun q hq => ?_) hge ?_ hbig
     . rw [<- r3 q hq,adA,afs,aeD (by simp; omega)];simp
     . rw [adA,afs,Array.getElem?_append_right (by simp; omega),aeD (by simp; omega)];simp only [List.size_toArray,r2,aeo,adS]
     . have e1:(olds.toArray ++ news.toArray ++ zs).size=olds.length + news.length + zs.size:=by simp
       rw [e1,r2,hnl,z1,adA,<- adR,<- adR];exact adz _ (by omega)
theorem H2 {e:TypeId} {ks:List K} {xs:T (.sl e ks)} {b o l cap:Nat} {F:Nat->Prop} (h:cO w (.sl e ks) xs (.slice (some ⟨b,o,none⟩) l cap) F) {i c:Nat} (hi:i < (aG xs).length) {k:K} {y:T k} (hc:cellAt ks (eC xs i) c=some ⟨k,y⟩) :
 ∃ v Fi cs el fr,w.cell? ⟨b,o + i * ks.length + c,none⟩=some v/\cO w k y v Fi/\(∀ q,Fi q->F q/\q≠b)/\F b/\l=(aG xs).length/\w.heap[b]? = some (.cells cs el fr)/\o + i * ks.length + c < cs.size/\(∀ q,q < cs.size->¬ (fr.1<=q/\q < fr.2)) /\
  ∀ (w':World) (v':Value) (y':T k) (z:Tl ks) (F':Nat->Prop) (cs':Array Value),setAt ks (eC xs i) c k y'=some z->cO w' k y' v' F'->(∀ q,F' q->F q->Fi q)->w'.heap[b]? = some (.cells cs' el fr)->cs'.size=cs.size->cs'[o + i * ks.length + c]? = some v'->(∀ q,q≠o + i * ks.length + c->cs'[q]? = cs[q]?) ->
   (∀ q,q < w.heap.size->q≠b->F q->¬ Fi q->w'.heap[q]? = w.heap[q]?)->(∀ q,F q->q < w.heap.size) ->
   cO w' (.sl e ks) (List.set (aG xs) i z) (.slice (some ⟨b,o,none⟩) l cap) (fun q=>(F q/\¬ Fi q)∨F' q):=by
 obtain ⟨a',c0,h1,h2,h3,h4,h5⟩:=h;simp only [adX] at h1;obtain ⟨rfl,rfl,rfl⟩:=h1;obtain ⟨b',o',cs,el,fr,g1,g2,g3,g4,g5,G,g6,g7,g8⟩:=h5 _ rfl;simp only [aei,aej] at g1;obtain ⟨rfl,rfl⟩:=g1;obtain ⟨v,hv1,hv2⟩:=tl ks _ 0 (G i) cs _ c k y (g8 i _ (ij xs hi)) hc;rw [adA] at hv2;have hin:o + i * ks.length + c < cs.size:=by
  rcases adj (o + i * ks.length + c) cs.size with hh | hh
  . exact hh
  . rw [adr hh] at hv1; simp at hv1
 refine ⟨v,G i c,cs,el,fr,?_,hv2,fun q hq=>g6 i c q hq,g2,rfl,g3,hin,fun q hq=>g4 q (afL _ hq),fun w' v' y' z F' cs' hz ho hF' hb' hs' hv' hcs' hw hlt => ?_⟩
 . simp only [World.cell?,g3,aed,adQ,aek];exact hv1
 . have hlen:(aG (e:=e) (ks:=ks) (List.set (aG xs) i z)).length=(aG xs).length:=afr ..
   have hbG:¬ G i c b:=fun hh=>(g6 i c b hh).2 rfl
   have hcl:=qS _ _ _ _ _ _ hz;refine ⟨_,cap,by rw [hlen],by rw [hlen]; exact h2,by rw [hlen]; exact h3,h4,fun a'' ha'' => ?_⟩;simp only [ac3] at ha'';subst ha'';refine ⟨b,o,cs',el,fr,rfl,.inl ⟨g2,hbG⟩,hb',by rw [hs']; exact g4,by rw [hs']; exact g5,fun i' j' q=>if i'=i/\j'=c then F' q else G i' j' q,fun i' j' q hq => ?_,fun i1 j1 i2 j2 q hq1 hq2 => ?_,fun i' x hx => ?_⟩
   . dsimp only at hq;split at hq
     . refine ⟨.inr hq,fun e => ?_⟩;subst e;exact hbG (hF' q hq g2)
     . rename_i hne;refine ⟨.inl ⟨(g6 i' j' q hq).1,fun hh=>hne ?_⟩,(g6 i' j' q hq).2⟩;exact g7 i' j' i c q hq hh
   . dsimp only at hq1 hq2;have cross:∀ i1 j1,¬ (i1=i/\j1=c)->G i1 j1 q->F' q->False:=fun i1 j1 hne hG hF=>by
      exact hne (g7 i1 j1 i c q hG (hF' q hF (g6 i1 j1 q hG).1))
     by_cases e1:i1=i/\j1=c
     . rw [if_pos e1] at hq1;by_cases e2:i2=i/\j2=c
       . exact ⟨e1.1.trans e2.1.symm,e1.2.trans e2.2.symm⟩
       . rw [if_neg e2] at hq2; exact (cross i2 j2 e2 hq2 hq1).elim
     . rw [if_neg e1] at hq1;by_cases e2:i2=i/\j2=c
       . rw [if_pos e2] at hq2; exact (cross i1 j1 e1 hq1 hq2).elim
       . rw [if_neg e2] at hq2; exact g7 _ _ _ _ q hq1 hq2
   . have hx':(List.set (aG xs) i z)[i']? = some x:=hx;rw [ae5] at hx';by_cases ei:i=i'
     . subst ei;rw [if_pos rfl,if_pos hi] at hx';simp only [ac3] at hx';subst hx';refine sd ks (eC xs i) c k y' z 0 (G i) _ F' cs cs' _ v' hz ho hv' (fun q hq hne=>hcs' _ (by omega)) (fun q p hne hp => ?_) (fun p hp => ?_) (fun q p hne hp _ => ?_) (g8 i _ (ij xs hi))
       . show (if i=i/\q=c then F' p else G i q p);rw [if_neg (fun e=>hne (by omega))]; exact hp
       . show (if i=i/\0 + c=c then F' p else G i (0 + c) p);rw [if_pos ⟨rfl,by omega⟩]; exact hp
       . exact hw p (hlt p (g6 i q p hp).1) (g6 i q p hp).2 (g6 i q p hp).1 fun hh=>hne (by have:=(g7 i q i c p hp hh).2; omega)
     . rw [if_neg ei] at hx';have hil':i' < (aG xs).length:=(afg.1 hx').1;refine iG ks x 0 (G i') _ cs cs' _ _ (fun q hq=>hcs' _ ?_) (fun j q hq => ?_) (fun j q hq _ => ?_) (g8 i' x hx')
       . intro he;have e1:i' * ks.length + q=i * ks.length + c:=by omega
         rcases adj i i' with hh | hh
         . have:=adz ks.length (show i + 1<=i' from hh);rw [adR,aeE] at this; omega
         . have:=adz ks.length (show i' + 1<=i by omega);rw [adR,aeE] at this; omega
       . show (if i'=i/\j=c then F' q else G i' j q);rw [if_neg (fun e=>ei e.1.symm)]; exact hq
       . exact hw q (hlt q (g6 i' j q hq).1) (g6 i' j q hq).2 (g6 i' j q hq).1 fun hh=>ei (g7 i' j i c q hq hh).1.symm
end
end Go.Av
namespace Go.Av
open Go.RowKit (Below)
def om (i:Int) (len n:Nat):Bool:=ko i len && Nat.beq i.toNat n
def yT {α:Type} (i:Int) (xs:List α) (n:Int):Bool:=om i xs.length n.toNat
def D2 (dA dI dF:Nat) (st:St):St:=((st.aE dA (.v .dead,none)).aE dI (.v .dead,none)).aE dF (.v .dead,none)
def EU (E:En) (v:St) (t t2:Nat) (x y:Operand) (tI:Nat) (b:Nat) (i:Operand) (tF f tS dA dI dF:Nat):Tr St :=
 Tr.bu (E.ti t) fun ti=>Tr.bu (E.sl t) fun te=>Tr.bu (E.sl tI) fun tn=>Tr.bu (E.ti tF) fun tf=>Tr.bu (FL tf.flds f) fun p=>Tr.bu (E.ti tS) fun ts =>
 Tr.bu (v.get y) fun ty=>Tr.bu (v.get i) fun tv=>Tr.bu tv.int? fun pi =>
 match v.get x,v.get (.tmp b) with
 | some (.v (.pref r j s m n q)),some (.v (.ref r' j' s')) =>
   Tr.bu (v.news ti.elem te.ks ty) fun w=>(match w.1.cell r j with
    | some ⟨s1,m1,.own (.sl e ks) xs⟩=>Tr.bu (cellAt ks (eC xs n) q) fun c=>Tr.bu (gV c.1 (.sl ti.elem te.ks) c.2) fun y0=>Tr.bu (setAt ks (eC xs n) q (.sl ti.elem te.ks) (cat te.ks (aG y0) w.2)) fun z =>
      bif (Nat.beq r r' && (Nat.beq j j' && (Nat.beq s s' && (Nat.beq s1 s && Nat.beq m1 m)))) && ((Nat.beq p.1 q && (tf.agg && (Nat.beq ks.length tn.ks.length && (Nat.beq ts.ks.length 1 && (Nat.blt 0 te.bytes && (E.str t2 || (E.sl t2).isSome)))))))
      then .need (Nat.ble (((aG y0).length + w.2.length) * te.bytes) aT) (.need (om pi.2 (aG xs).length n)
       (.ret (D2 dA dI dF (w.1.setCell r j ⟨s,m + 1,.own (.sl e ks) (List.set (aG xs) n z)⟩))))
      else .fail
    | _=> .fail)
 | _,_=> .fail
def fJ (d:Nat):Operand->Bool
 | .tmp t=> !Nat.beq t d
 | _=>true
theorem jT {d:Nat} {x:Operand} (h:fJ d x=true):∀ d',some d=some d'->x≠ .tmp d':=by rintro d' e rfl;cases e;simp only [fJ,adK] at h;exact aew h rfl
section
variable {P:Program} {E:En} {cx:Cx P} {Z:Nat->Prop} {g:Gh} {st v:St} {a:Act} {w:World}
theorem cI {a:Act} {d:Nat} {v:Value} (hd:d < a.tmps.size):(a.put (some d) v).eval (.tmp d)=v:=by simp [Act.put,Act.eval,adb,hd]
theorem Ae {st st':St} (h:st'.tm=st.tm) (o:Operand):st'.get o=st.get o:=by
 cases o with
 | tmp t => show st'.tv t=st.tv t;unfold St.tv;rw [h]
 | _=>rfl
theorem DG (hT:bK P E) (h:Rel cx Z g v a w) (hn:bt v) (hsz:Fit cx E a) {ops:Array Oper} {k0:Nat} {o0 o1 o2 o3:Oper} (h0:ops[k0]? = some o0) (h1:ops[k0 + 1]? = some o1) (h2:ops[k0 + 2]? = some o2) (h3:ops[k0 + 3]? = some o3)
 (g0:o0.guard=none) (g1:o1.guard=none) (g2:o2.guard=none) (g3:o3.guard=none) {dA dI dF:Nat} (d0:o0.dst=some dA) (d1:o1.dst=some dI) (d2:o2.dst=some dF) (d3:o3.dst=none) (b0:E.dB dA=true) (b1:E.dB dI=true) (b2:E.dB dF=true)
 {c:Call} (p0:o0.op= .call c) (hcal:c.callee= .builtin .append) {x y:Operand} (hargs:c.args.toList=[x,y]) {t t2:Nat} {tys:List Nat} (hts:c.argTypes.toList=t :: t2 :: tys)
 {tI b:Nat} {i:Operand} (p1:o1.op= .indexAddr tI (.tmp b) i) {tF f:Nat} (p2:o2.op= .fieldAddr tF (.tmp dI) f) {tS:Nat} (p3:o3.op= .store tS (.tmp dF) (.tmp dA))
 (n1:fJ dA (.tmp b)=true) (n2:fJ dA i=true) (n3:Nat.beq dA dI=false) (n4:Nat.beq dA dF=false)
 {st':St} (hrun:(EU E v t t2 x y tI b i tF f tS dA dI dF).run=some st') :
 wpOps P ops (QO cx E (.nrm st')) [k0,k0 + 1,k0 + 2,k0 + 3] a w:=by
 have hc:=hn.cons.cons;unfold EU at hrun;obtain ⟨ti,hti,hrun⟩:=Tr.af hrun;obtain ⟨te,hte,hrun⟩:=Tr.af hrun;obtain ⟨tn,htn,hrun⟩:=Tr.af hrun;obtain ⟨tf,htf,hrun⟩:=Tr.af hrun;obtain ⟨p,hp,hrun⟩:=Tr.af hrun;obtain ⟨ts,hts',hrun⟩:=Tr.af hrun;obtain ⟨ty,hy,hrun⟩:=Tr.af hrun;obtain ⟨tv,hi,hrun⟩:=Tr.af hrun;obtain ⟨pi,hpi,hrun⟩:=Tr.af hrun;split at hrun;rotate_left
 . simp [Tr.run] at hrun
 rename_i r j s m n q r' j' s' hx hb;obtain ⟨⟨st2,ys⟩,hnw,hrun⟩:=Tr.af hrun;simp only at hrun;split at hrun;rotate_left
 . simp [Tr.run] at hrun
 rename_i s1 m1 e ks xs hcell;obtain ⟨⟨ck,cy⟩,hca,hrun⟩:=Tr.af hrun;obtain ⟨y0,hy0,hrun⟩:=Tr.af hrun;obtain ⟨z,hz,hrun⟩:=Tr.af hrun;simp only at hy0 hz hrun;generalize hcond:((Nat.beq r r' && (Nat.beq j j' && (Nat.beq s s' && (Nat.beq s1 s && Nat.beq m1 m)))) && ((Nat.beq p.1 q && (tf.agg && (Nat.beq ks.length tn.ks.length && (Nat.beq ts.ks.length 1 && (Nat.blt 0 te.bytes && (E.str t2 || (E.sl t2).isSome))))))))=cond at hrun;cases cond with
 | false=>simp [Tr.run] at hrun
 | true =>
 simp only [ac6] at hrun;obtain ⟨hble,hrun⟩:=Tr.bo hrun;obtain ⟨hidx,hrun⟩:=Tr.bo hrun;simp only [Tr.run,ac3] at hrun;subst hrun;simp only [ac5] at hcond;obtain ⟨⟨c1,c2,c3,c4,c5⟩,c6,hag,c7,c8,hby,hstr⟩:=hcond;have c1:=beq_eq c1; have c2:=beq_eq c2; have c3:=beq_eq c3; have c4:=beq_eq c4; have c5:=beq_eq c5; have c6:=beq_eq c6; have c7:=beq_eq c7; have c8:=beq_eq c8;subst c1; subst c2; subst c3; subst c4; subst c5;have hby:0 < te.bytes:=aen (adC hby);have hbytes:((aG y0).length + ys.length) * te.bytes<=aT:=adC hble;obtain ⟨rfl,hy0'⟩:=cF hy0;simp only at hy0';subst hy0';obtain ⟨ks0,q1,q2,q3,q4⟩:=qX hT hte hti;have hTe:=hT _ _ q4;obtain ⟨tt,ks1,t1,_,_,_,hu⟩:=dx hT hte;rw [hti] at t1;simp only [ac3] at t1;subst t1;obtain ⟨dd2,hu2,hd2⟩:∃ d2,P.underlying t2=some d2/\∀ k,d2≠ .int k:=by
  rw [ad8] at hstr;rcases hstr with h2 | h2
  . exact ⟨_,lI hT h2,fun _ h=>by simp at h⟩
  . obtain ⟨te2,h2⟩:=aeZ.1 h2;obtain ⟨_,_,_,_,_,_,hu2⟩:=dx hT h2;exact ⟨_,hu2,fun _ h=>by simp at h⟩
 obtain ⟨tt2,ks2,u1,u2,u3,u4,huI⟩:=dx hT htn;have hsI:=fun w=>bM (hT _ tn u4) (P:=P) w
 obtain ⟨fs,fi,huF,f1,f2,f3,info,f4,f5⟩:=ny hT htf (o:=p.1) (u:=p.2) hp hag;obtain ⟨gg,news,H,FH,mm1,mm2⟩:=C5 (P:=P) h (aM h hc hy) hnw;have htm:st2.tm=v.tm:=mm2.tm;have hn2:bt st2:=fun t tv ht=>hn t tv (by rw [<- htm]; exact ht)
 have hc2:=hn2.cons.cons;have rx:=aM mm1 hc2 (show st2.get x=_ by rw [Ae htm]; exact hx);have rb:=aM mm1 hc2 (show st2.get (.tmp b)=_ by rw [Ae htm]; exact hb);have ei:a.eval i= .int pi.1 pi.2:=(cS (aM h hc hi) (show tv.int? = some (pi.1,pi.2) from hpi)).1;obtain ⟨cc,x1,x2,x3,x4⟩:=rx;rw [hcell] at x1;cases x1;obtain ⟨e',ks',xs',x5,x6,x7,B,O,L,C,x8,x9⟩:=x4 rfl rfl;simp only [RV.own.injEq,K.sl.injEq] at x5;obtain ⟨⟨rfl,rfl⟩,x5⟩:=x5;cases x5;obtain ⟨cc,y1,y2,y3⟩:=rb;rw [hcell] at y1;cases y1;have eb:a.eval (.tmp b)= .slice (some ⟨B,O,none⟩) L C:=by rw [y3 rfl,x8]
 have hown:cO w (.sl e ks) xs (gg.cv r j) (gg.fp r j):=mm1.cell r j _ hcell;rw [x8] at hown;obtain ⟨vv,Fi,cs,el,fr,z1,z2,z3,z4,z5,z6,z7,z8,z9⟩:=H2 hown x6 hca;rw [x9] at z1;cases z1;have hfpl:∀ b,gg.fp r j b->b < w.heap.size:=fun b hb=>(mm1.fp r j b hb).1
 obtain ⟨v',w1,F',r1,r2,r3,r4,r5,r6,r7,r8,r9⟩:=zn (P:=P) (ty:=o0.type) (ats:=c.argTypes) hu hTe hu2 hd2 (by rw [<- ac8,hts]; rfl) (by rw [<- ac8,hts]; rfl) hby z2 mm2.rows mm2.len mm2.cells
  (fun q hq=>by
    rcases hq with hq | hq
    . exact hfpl q (z3 q hq).1
    . exact mm2.free.lt q hq) (fun q hq hF=>mm2.free.fp q hq r j (z3 q hF).1) hbytes
 rw [wpOps_cons];refine bz h0 g0 ?_;have hargs':c.args = #[x,y]:=by rw [<- aec (xs:=c.args),hargs]
 have run0:(execOp a.eval o0).run P w= .ok (.value v') w1:=by simp only [execOp,p0,resolve,hcal,hargs',adv,adN,adh,invoke,builtin,aeC,ad4,ae1,r1]
 unfold Oper.wp;rw [run0,adI,d0];rw [wpOps_cons];refine bz h1 g1 ?_;simp only [om,ac5] at hidx;obtain ⟨i0,i1,i2⟩:=fD hidx.1;have i3:=beq_eq hidx.2;have run1:(execOp (a.put (some dA) v').eval o1).run P w1= .ok (.value (.pointer (some ⟨B,O + n * ks.length,none⟩))) w1:=by have:=kx (P:=P) (w:=w1) huI hsI (b:=B) (o:=O) (len:=L) (cap:=C) (k:=pi.1) (n:=pi.2) i0 (by rw [z5]; exact i1);rw [i3,<- c7] at this;simp only [execOp,p1,Act.eval_put (jT n1),Act.eval_put (jT n2),eb,ei];simp [this]
 unfold Oper.wp;rw [run1,adI,d1];rw [wpOps_cons];refine bz h2 g2 ?_;have hsz1:=hsz.put (some dA) v';have eI:((a.put (some dA) v').put (some dI) (.pointer (some ⟨B,O + n * ks.length,none⟩))).eval (.tmp dI)= .pointer (some ⟨B,O + n * ks.length,none⟩):=by exact cI (hsz1.dst b1).1
 have run2:(execOp ((a.put (some dA) v').put (some dI) (.pointer (some ⟨B,O + n * ks.length,none⟩))).eval o2).run P w1= .ok (.value (.pointer (some ⟨B,O + n * ks.length + q,none⟩))) w1:=by
  have g4':P.info? fi.type=some info:=by rw [f3]; exact f4
  have hsz:∀ w,(sizeOf fi.type).run P w= .ok info.size w:=fun w=>by simp [sizeOf,typeInfo,g4']
  simp [execOp,p2,Instr.fieldAt,adH huF,f1,eI,Instr.sureAddr,fieldPlace,hsz,f5,f2,gI,c6]
 unfold Oper.wp;rw [run2,adI,d2];rw [wpOps_cons];refine bz h3 g3 ?_;have hsz2:=hsz1.put (some dI) (.pointer (some ⟨B,O + n * ks.length,none⟩));generalize ha2:(a.put (some dA) v').put (some dI) (.pointer (some ⟨B,O + n * ks.length,none⟩))=a2 at eI run2 hsz2 ⊢;have eF:(a2.put (some dF) (.pointer (some ⟨B,O + n * ks.length + q,none⟩))).eval (.tmp dF)= .pointer (some ⟨B,O + n * ks.length + q,none⟩):=by exact cI (hsz2.dst b2).1
 have eA:(a2.put (some dF) (.pointer (some ⟨B,O + n * ks.length + q,none⟩))).eval (.tmp dA)=v':=by
  have hne:∀ d',some dF=some d'->(.tmp dA:Operand)≠ .tmp d':=fun d' e e2=>by cases e; cases e2;rw [afj] at n4; simp at n4
  have hne':∀ d',some dI=some d'->(.tmp dA:Operand)≠ .tmp d':=fun d' e e2=>by cases e; cases e2;rw [afj] at n3; simp at n3
  rw [Act.eval_put hne,<- ha2,Act.eval_put hne'];exact cI (hsz.dst b0).1
 have hBw:B < w.heap.size:=hfpl B z4;have hBi:¬ Fi B:=fun hh=>(z3 B hh).2 rfl
 have hB1:w1.heap[B]? = some (.cells cs el fr):=by rw [r6 B hBw hBi]; exact z6
 have hv1:=rJ r9;have hst:=kE (P:=P) (hT tS ts hts') (w:=w1) (b:=B) (o:=O + n * ks.length + q) (v:=v') (vs:=[v']) (by rw [hv1.1]) (by rw [c8]; rfl) (fun u hu=>by simp at hu; subst hu; exact hv1.2) (fun j hj=>by simp at hj;subst hj;exact ⟨cs,el,fr,hB1,by simpa using z7,z8 _ (by simpa using z7)⟩);have run3:(execOp (a2.put (some dF) (.pointer (some ⟨B,O + n * ks.length + q,none⟩))).eval o3).run P w1= .ok .skip (w1.setCells B (O + n * ks.length + q) [v']):=by simp only [execOp,p3,adv,eF,eA,hst,adh];rfl
 unfold Oper.wp;rw [run3,Oper.upon_skip,d3];obtain ⟨s1',s2',s3',s4',s5',s6'⟩:=eM B [v'] (O + n * ks.length + q) w1 cs el fr hB1;generalize hw2:w1.setCells B (O + n * ks.length + q) [v']=w2 at s1' s2' s3' s4' s5' s6';have hlen:(List.set (aG xs) n z).length=(aG xs).length:=afr ..
 have hFnew:∀ q,F' q->gg.fp r j q->Fi q:=fun q hq hf=>by
  rcases (r7 q hq).2 with hh | hh | hh
  . exact hh
  . exact absurd hf (mm2.free.fp q hh r j)
  . have:=hfpl q hf; omega
 have hFB:¬ F' B:=fun hh=>hBi (hFnew B hh z4)
 have hother:∀ q,q < w.heap.size->q≠B->¬ Fi q->w2.heap[q]? = w.heap[q]? := fun q hq hne hF=>(s2' q hne).trans (r6 q hq hF)
 have hch:=mm1.change hcell (c':=⟨s1,m1 + 1,.own (.sl e ks) (List.set (aG xs) n z)⟩) (w':=w2) (v':=gg.cv r j) (F':=fun q=>(gg.fp r j q/\¬ Fi q)∨F' q) (s4'.trans r2) (s5'.trans r3) (s6'.trans r4) (by rw [s3']; exact r5) (ac7 _) (ael _)
  (fun _=>rfl) (fun _ e' ks' xs' hx=>by simp only [RV.own.injEq,K.sl.injEq] at hx;obtain ⟨⟨rfl,rfl⟩,hx⟩:=hx;have hx:=ae8 hx;subst hx;exact ⟨_,rfl,hlen⟩)
  (fun q hq hf _=>hother q hq (fun e=>hf (by rw [e]; exact z4)) fun hF=>hf (z3 q hF).1)
  (fun q hq=>by
    have old:gg.fp r j q->q < w2.heap.size/\(cx.F0 q∨cx.w0.heap.size<=q)/\¬ Z q/\(∀ r' j',gg.fp r' j' q->r'=r/\j'=j)/\(∀ r' R,look st2.rt r'=some R->R.box=true->gg.be r'≠q)/\∃ (k:K) (x:T k),RV.own (.sl e ks) (List.set (aG xs) n z)= .own k x:=fun hq=>by obtain ⟨k1,k2,k3,_⟩:=mm1.fp r j q hq;exact ⟨by rw [s3']; exact adw k1 r5,k2,k3,fun r' j' hh=>mm1.disj _ _ _ _ _ hh hq,fun r' R' hR' hx he=>(mm1.box r' R' hR' hx).2.2.1 r j (by rw [he]; exact hq),_,_,rfl⟩
    rcases hq with ⟨hq,_⟩ | hq
    . exact old hq
    . obtain ⟨l1,l2⟩:=r7 q hq;rcases l2 with l2 | l2 | l2
      . exact old (z3 q l2).1
      . exact ⟨by rw [s3']; exact l1,mm2.free.own q l2,mm2.free.z q l2,fun r' j' hh=>absurd hh (mm2.free.fp q l2 r' j'),mm2.free.box q l2,_,_,rfl⟩
      . refine ⟨by rw [s3']; exact l1,.inr (ady mm1.size l2),fun hz=>by have:=(mm1.bS _ hz).1; omega,fun r' j' hh=>by have:=(mm1.fp r' j' _ hh).1; omega,fun r' R' hR' hb' he => ?_,_,_,rfl⟩;obtain ⟨_,_,_,_,cs1,el1,fr1,b5,_⟩:=mm1.box r' R' hR' hb';rw [he,adr l2] at b5;simp at b5)
  (fun R' hR' hx=>by
    obtain ⟨_,_,b3,_,cs1,el1,fr1,b5,_,_,b8⟩:=mm1.box r R' hR' hx;have hlt:gg.be r < w.heap.size:=by
     rcases adj (gg.be r) w.heap.size with hh | hh
     . exact hh
     . simp [adr hh] at b5
    refine ⟨cs1,el1,fr1,cs1,b5,?_,rfl,fun q hq => ?_⟩
    . rw [hother _ hlt (fun e=>b3 r j (by rw [e]; exact z4)) fun hF=>b3 r j (z3 _ hF).1]; exact b5
    . rw [b8 q hq];by_cases e:q=j
      . subst e; rw [if_pos rfl]
      . rw [if_neg e])
  (fun kp=>by
    show cO _ (.sl e ks) (List.set (aG xs) n z) (gg.cv r j) _;rw [x8];refine z9 w2 v' _ z F' _ hz (cO.frame _ _ _ _ _ (fun _ hb=>hb) (fun q hq _=>s2' q fun e=>hFB (by rw [<- e]; exact hq)) r9) hFnew s1' (cf _ _ _) ?_ (fun q hq => ?_) (fun q hq hne hf hF=>hother q hq hne hF) hfpl
    . rw [cz _ _ _ _ (by simpa using Nat.succ_le_of_lt z7),if_pos (by simp)];simp
    . rw [cz _ _ _ _ (by simpa using Nat.succ_le_of_lt z7),if_neg (by simp; omega)])
 obtain ⟨hR,_⟩:=hch;have hA:=hR.fA (d:=dA) (tv:= .v .dead) (v:=v') (hsz.dst b0) trivial;have hB:=hA.fA (d:=dI) (tv:= .v .dead) (v:= .pointer (some ⟨B,O + n * ks.length,none⟩)) (hsz1.dst b1) trivial;rw [ha2] at hB;have hC:=hB.fA (d:=dF) (tv:= .v .dead) (v:= .pointer (some ⟨B,O + n * ks.length + q,none⟩)) (hsz2.dst b2) trivial;refine ⟨fun t tv ht => ?_,(hsz2.put _ _).put _ _,Z,_,hC⟩;have ht:look (D2 dA dI dF (st2.setCell r j ⟨s1,m1 + 1,.own (.sl e ks) (List.set (aG xs) n z)⟩)).tm t=some tv:=ht;unfold D2 at ht;rw [bd] at ht;split at ht
 . simp only [ac3] at ht; subst ht; exact fun h=>h
 rw [bd] at ht;split at ht
 . simp only [ac3] at ht; subst ht; exact fun h=>h
 rw [bd] at ht;split at ht
 . simp only [ac3] at ht; subst ht; exact fun h=>h
 rw [dm] at ht;exact hn2 t tv ht
end
end Go.Av
namespace Go.Av
open Go.RowKit (Below)
def chained (l:List Oper) (n:Nat):Bool:=(List.range (l.length - n - 1)).all fun k=>match l[n + 1 + k]? with | some o=>o.after.toList.any fun e=>bF e && Nat.beq e.on (n + k) | none=>false
def Bh (E:En) (v:St):List Oper->Tr St
 | [o0,o1,o2,o3]=>(match o0.op,o1.op,o2.op,o3.op,o0.dst,o1.dst,o2.dst,o3.dst with
   | .call c,.indexAddr tI (.tmp b) i,.fieldAddr tF (.tmp d1) f,.store tS (.tmp d2) (.tmp d0),some dA,some dI,some dF,none=>(match c.callee,c.args.toList,c.argTypes.toList with
     | .builtin .append,[x,y],t :: t2 :: _ =>
       bif (Nat.beq d1 dI && (Nat.beq d2 dF && Nat.beq d0 dA)) && ((E.dB dA && (E.dB dI && E.dB dF)) && ((fJ dA (.tmp b) && fJ dA i) && (!Nat.beq dA dI && !Nat.beq dA dF))) then EU E v t t2 x y tI b i tF f tS dA dI dF else .fail
     | _,_,_=> .fail)
   | _,_,_,_,_,_,_,_=> .fail)
 | _=> .fail
def sM (ops:List Oper) (n:Nat):Bool:=gC ops 0 && (Nat.beq ops.length (n + 4) && (!bm ops && (!bm (ops.take n) && ((List.range n).all (fun j=>((bR ops []).getD n 0).testBit j) && chained ops n))))
def Ld (E:En) (ops:Array Oper) (ex:List (Nat×Nat)) (n:Nat) (st:St):Tr St :=
 bif vj ops ex && sM (gW ex ops.toList 0) n then
  (dO E true ((gW ex ops.toList 0).take n) (bR (gW ex ops.toList 0) [] ++ [0]) ((gW ex ops.toList 0).take n) 0 st []).bind fun v=>Bh E v ((gW ex ops.toList 0).drop n)
 else .fail
section
variable {P:Program} {E:En}
theorem As (hT:bK P E) {cx:Cx P} {Z:Nat->Prop} {g:Gh} {v:St} {a:Act} {w:World} (h:Rel cx Z g v a w) (hn:bt v) (hsz:Fit cx E a) {ops:Array Oper} {n:Nat} (hng:bm ops.toList=false) (hl:ops.size=n + 4)
 {st':St} (hrun:(Bh E v (ops.toList.drop n)).run=some st'):wpOps P ops (QO cx E (.nrm st')) [n,n + 1,n + 2,n + 3] a w:=by
 have hget:∀ k,(ops.toList.drop n)[k]? = ops[n + k]? := fun k=>by rw [aer,ac8]
 generalize hL:ops.toList.drop n=L at hrun hget;unfold Bh at hrun;split at hrun;rotate_left
 . simp [Tr.run] at hrun
 rename_i o0 o1 o2 o3;have e0:ops[n]? = some o0:=(hget 0).symm;have e1:ops[n + 1]? = some o1:=(hget 1).symm;have e2:ops[n + 2]? = some o2:=(hget 2).symm;have e3:ops[n + 3]? = some o3:=(hget 3).symm;have gd:∀ {k:Nat} {o:Oper},ops[k]? = some o->o.guard=none:=fun {k o} ho=>qT hng (by rw [ac8]; exact ho)
 split at hrun;rotate_left
 . simp [Tr.run] at hrun
 rename_i c tI b i tF d1 f tS d2 d0 dA dI dF p0 p1 p2 p3 q0 q1 q2 q3;split at hrun;rotate_left
 . simp [Tr.run] at hrun
 rename_i x y t t2 tys hcal hargs hts;generalize hc:((Nat.beq d1 dI && (Nat.beq d2 dF && Nat.beq d0 dA)) && ((E.dB dA && (E.dB dI && E.dB dF)) && ((fJ dA (.tmp b) && fJ dA i) && (!Nat.beq dA dI && !Nat.beq dA dF))))=cond at hrun;cases cond with
 | false=>simp [Tr.run] at hrun
 | true =>
 simp only [ac6] at hrun;simp only [ac5,adK] at hc;obtain ⟨⟨c1,c2,c3⟩,⟨b0,b1,b2⟩,⟨n1,n2⟩,n3,n4⟩:=hc;have c1:=beq_eq c1; have c2:=beq_eq c2; have c3:=beq_eq c3;subst c1; subst c2; subst c3;exact DG hT h hn hsz e0 e1 e2 e3 (gd e0) (gd e1) (gd e2) (gd e3) q0 q1 q2 q3 b0 b1 b2 p0 hcal hargs hts p1 p2 p3 n1 n2 n3 n4 hrun
theorem OH (hT:bK P E) (hga:df P E) (hm:P.follows .mixedOrders=true) {id:Nat} {ops:Array Oper} {ex:List (Nat×Nat)} {n:Nat}:cH P E (.region id ops true) (Ld E ops ex n):=by
 intro cx a w st st' h hrun;unfold Ld at hrun;cases hc:vj ops ex && sM (gW ex ops.toList 0) n with
 | false=>rw [hc] at hrun; simp [Tr.run] at hrun
 | true =>
 rw [hc] at hrun;simp only [ac6] at hrun;simp only [ac5] at hc;obtain ⟨hok,hpre⟩:=hc;obtain ⟨hn,hsz,Z,g,hr⟩:=h;refine wp_region_any hm ?_;refine hoist hok (fun ⟨a,w,hq⟩=>hq) (fun c a w hq=>hq) ops.size _ a _ (by simp) ?_;have e1:(iR ex ops).toList=gW ex ops.toList 0:=by simp [iR]
 have hs:=sq ex ops;rw [<- e1] at hrun hpre;rw [<- hs];generalize hops:iR ex ops=ops' at hrun hpre ⊢;rw [hops] at hs;simp only [sM,ac5,adK,adx,ad9] at hpre;obtain ⟨hed,hlen4,hng,hng',hneed,hchain⟩:=hpre;have hl4:ops'.size=n + 4:=by have:=beq_eq hlen4; simpa using this
 have hi:n < ops'.size:=by omega
 have hlen:(bR ops'.toList []).length=ops'.size:=by rw [lf]; simp
 rw [Tr.run_bind] at hrun;cases hv:(dO E true (ops'.toList.take n) (bR ops'.toList [] ++ [0]) (ops'.toList.take n) 0 st []).run with
 | none=>rw [hv] at hrun; simp at hrun
 | some v =>
 rw [hv] at hrun;simp only [adq] at hrun;have hopst:(ops'.toList.take n).toArray.toList=ops'.toList.take n:=by simp
 have hsize':(ops'.toList.take n).toArray.size=n:=by simp; omega
 have hops':∀ j,j < n->(ops'.toList.take n).toArray[j]? = ops'[j]? := fun j hj=>by rw [<- ac8,hopst,ad6,if_pos hj,ac8]
 have hseg:=jI (P:=P) (E:=E) (ops:=(ops'.toList.take n).toArray) (ns:=bR ops'.toList [] ++ [0]) (i0:=0) hT hga (dr:=true) hn (ops'.toList.take n) 0 (by simp) (adM _) (ac7 _) [] v ⟨trivial,hn.MB,fun e he=>by simp at he,fun _ _ _ _ he=>by simp at he⟩ (by rw [hopst]; exact hv);obtain ⟨i1,bsF,k1,k2,k3,k4,k5,k6,k7,k8⟩:=hseg;replace k5:=k5 (by rw [hopst]; exact hng');have hk8:i1=n/\v=aD st bsF:=by
  rcases k8 with ⟨e1,e2⟩ | ⟨o',st'',e1,_,e3,_⟩
  . rw [hopst,hng'] at e2;exact ⟨e1.trans hsize',e2⟩
  . exfalso;have hi1:i1 < n:=by
     have:=(ado.1 e1).1;rw [hsize'] at this;exact this
    have hf:=e3 rfl;unfold gO at hf;simp only [ac5,adx,ad9] at hf;have:=hf.2 (ops'.size - i1 - 1) (by rw [ac4,hlen]; simp; omega);rw [show i1 + 1 + (ops'.size - i1 - 1)=(bR ops'.toList []).length by rw [hlen]; omega] at this;simp [List.getD] at this
 obtain ⟨rfl,rfl⟩:=hk8;have hidx:∀ e∈bsF,e.1 < i1:=fun e he=>(k4 e he).2.1
 have hNA:bt (aD st bsF):=fun t tv ht=>by
  rw [bN k2] at ht;rcases ht with ⟨i',p,h1,rfl⟩ | h1
  . exact k5 i' t p h1
  . exact hn t tv h1
 refine Fj (P:=P) (E:=E) (cx:=cx) (Q:=QO cx E (.nrm st')) hed hi (base:=st) (bsF:=bsF) ?_ hneed ?_ ?_ ops'.size (Array.replicate ops'.size false) 0 a _ Z g (by simp) (fun k hk => ?_) (fun k _=>ad5 k) (by rw [mJ]; exact ac7 _) (fun k hk=>by rw [ad5] at hk; simp at hk) ?_ hsz
 . intro j hj cx S a w Z g next Q hS hSj hr hsz hnext;have ho':∃ o',ops'[j]? = some o':=⟨ops'[j]'(by omega),by simp⟩;obtain ⟨o',ho'⟩:=ho';refine zQ ho' (by rw [hops' j hj]; exact ho') (qT hng (by rw [ac8]; exact ho')) ?_;refine k7 j (adM _) hj cx S a w Z g next Q (fun k h1 h2 h3=>hS k h1 h2 ?_) hSj hr hsz hnext;have hjl:j < (bR ops'.toList []).length:=by rw [hlen]; omega
   rw [List.getD,ad3 hjl] at h3;exact h3
 . intro k hk1 hk2;unfold chained at hchain;have:=adx.1 hchain (k - i1 - 1) (ad9.2 (by simp; omega));rw [show i1 + 1 + (k - i1 - 1)=k by omega,ac8] at this;split at this
   . rename_i o ho;obtain ⟨e,he,h'⟩:=aey.1 this;simp only [ac5] at h';exact ⟨o,e,ho,by simpa using he,h'.1,by rw [beq_eq h'.2]; omega⟩
   . simp at this
 . intro a w Z g hr hsz;have hv':view st (2 ^ i1 - 1) bsF=aD st bsF:=(jJ fun e he=>by rw [fN]; simpa using hidx e he).symm;rw [hv'] at hr;have:List.range' i1 (ops'.size - i1)=[i1,i1 + 1,i1 + 2,i1 + 3]:=by
    rw [show ops'.size - i1=4 by omega];rfl
   rw [this];exact As hT hr hNA hsz hng hl4 hrun
 . rw [ad5];simp [adb,hk]
 . rw [iy fun e _=>ad5 _];exact hr.world rfl rfl rfl rfl
theorem Ss (hT:bK P E) (hga:df P E) (hm:P.follows .mixedOrders=true) {c:Code} {id:Nat} {ex:List (Nat×Nat)} {n:Nat} (h:c= .region id (opsOf c) true):cH P E c (Ld E (opsOf c) ex n):=by rw [h];exact OH hT hga hm
end
end Go.Av
