/- Part of a proof that the law FnExactRestripe answers true for every input: the framework, an evaluator over symbolic data and why it is right. No conditions beyond the statement. -/
import Derived.Test.YtbgoaopannojjaaGreatDoorFw3
import Derived.IntWalk
import Derived.ChangeArms
import Derived.SizedLaws
import Derived.Carry
import Derived.HandedShaped
import Derived.ProofKit
import Derived.Shelf.Strconv.Itoa3
import Derived.Shelf.Strings.Repeat
import Derived.Lib.ItoaLen
import Derived.Lib.AppendIntMem
import Derived.Shelf.Strconv.AtoiAll
import Derived.LaidMore
import Derived.SevenTiedAt
import Derived.MakeChecks
import Derived.Stop.LaidErr
import Derived.Shelf.Vars
namespace Go.Av
open Go.RowKit (Below)
def A3 (v:Value):Prop:=∃ k n,v= .int k n
def nW (ints:List Nat) (o:Oper) (d:Nat):Bool:=match o.op,o.guard,o.dst with | .move (.tmp b),none,some d'=>kN ints b && Nat.beq d' d | _,_,_=>false
def AZ (ops:Array Oper) (ints:List Nat) (o:Oper):Operand->Bool
 | .const (.int _ _)=>true
 | .tmp x=>o.after.toList.any fun e=>bF e && (match ops[e.on]? with | some o'=>nW ints o' x | none=>false)
 | _=>false
def IH:BinOp->Bool | .add=>true | .sub=>true | _=>false
def E5 (ops:Array Oper) (ints:List Nat) (o:Oper):Bool:=vS o || (match o.op,o.guard,o.dst with | .binOp op _ x y _,none,some _=>IH op && (AZ ops ints o x && AZ ops ints o y) | _,_,_=>false)
def uR (l:List Oper) (ints:List Nat):Bool:=(List.range l.length).all fun i=>match q8 l i with | some d=> !kN ints d && (List.range l.length).all fun k=>Nat.beq k i || (match q8 l k with | some d'=> !Nat.beq d' d | none=>true) | none=>true
def ln (ops:Array Oper) (ints:List Nat) (ex:List (Nat×Nat)):Bool :=
 Region.noSelect ops && (gC ops.toList 0 && (uR ops.toList ints && ex.all fun p=>(match ops[p.2]?,ops[p.1]? with
  | some oj,some oi=>E5 ops ints oj && (yM ex p.2).isEmpty && (oj.after.toList.all fun e=> !bF e || ((oi.after.toList.any fun e'=>bF e' && Nat.beq e'.on e.on) || ex.any fun p'=>Nat.beq p'.1 p.1 && Nat.beq p'.2 e.on)) &&
     (List.range ops.size).all fun k=>Nat.beq k p.2 || (match ops[k]? with | some ok=>(ok.after.toList.any fun e=>bF e && Nat.beq e.on p.2) || ((oj.after.toList.any fun e=>bF e && Nat.beq e.on k) || oj.apart ops ok) | none=>true)
  | _,_=>false)))
def gX (ops:Array Oper) (ints:List Nat) (listed:Array Bool) (a:Act):Prop :=
 (∀ (k:Nat) (o:Oper) (d:Nat),ops[k]? = some o->o.dst=some d->d < a.tmps.size)/\(∀ b∈ints,A3 (a.eval (.tmp b)))/\∀ (k:Nat) (o:Oper) (d:Nat),ops[k]? = some o->nW ints o d=true->listed.getD k false=true->A3 (a.eval (.tmp d))
theorem FA:∀ {l:List Nat} {n:Nat},n∈l->kN l n=true
 | x :: r,n,h=>by
   simp only [kN,ad8];rcases adg.1 h with h | h
   . subst h; exact .inl (afj _)
   . exact .inr (FA h)
section
variable {P:Program} {ops:Array Oper} {Q:Exit->Act->World->Prop} {ints:List Nat}
theorem Bq (h:uR ops.toList ints=true) {k:Nat} {o:Oper} {d:Nat} (ho:ops[k]? = some o) (hd:o.dst=some d):(∀ b∈ints,b≠d)/\∀ (k':Nat) (o':Oper),ops[k']? = some o'->o'.dst=some d->k'=k:=by
 have hk:k < ops.toList.length:=by rw [adW]; exact (ado.1 ho).1
 have h1:=adx.1 h k (ad9.2 hk);have e:q8 ops.toList k=some d:=by unfold q8; rw [ac8,ho]; exact hd
 rw [e] at h1;simp only [ac5,adK] at h1;refine ⟨fun b hb hbd => ?_,fun k' o' ho' hd' => ?_⟩
 . subst hbd;have:kN ints b=true:=FA hb;rw [h1.1] at this;simp at this
 . have hk':k' < ops.toList.length:=by rw [adW]; exact (ado.1 ho').1
   have h2:=adx.1 h1.2 k' (ad9.2 hk');have e':q8 ops.toList k'=some d:=by unfold q8; rw [ac8,ho']; exact hd'
   rw [e'] at h2;simp only [ad8,adK] at h2;rcases h2 with h2 | h2
   . exact beq_eq h2
   . exact absurd rfl (aew h2)
theorem jt {o:Oper} {d:Nat} (h:nW ints o d=true):∃ b,o.op= .move (.tmp b)/\o.guard=none/\o.dst=some d/\b∈ints:=by
 unfold nW at h;split at h
 . rename_i b d' h1 h2 h3;simp only [ac5] at h;have:=beq_eq h.2;subst this;exact ⟨b,h1,h2,h3,Dk h.1⟩
 . simp at h
theorem tR (a:Act) (l:List Deferred) (x:Operand):({ a with defers:=l }:Act).eval x=a.eval x:=by cases x <;> rfl
theorem gX.put (hnew:uR ops.toList ints=true) {k:Nat} {o:Oper} (ho:ops[k]? = some o) {listed:Array Bool} {a:Act} (hI:gX ops ints listed a) {v:Value} (hv:∀ d,nW ints o d=true->A3 v):gX ops ints (listed.setIfInBounds k true) (a.put o.dst v):=by
 cases hd:o.dst with
 | none =>
   refine ⟨hI.1,fun b hb=>hI.2.1 b hb,fun k' o' d' ho' hm hl => ?_⟩;have hne:k≠k':=fun e=>by subst e;rw [ho] at ho'; cases ho';obtain ⟨_,_,_,h3,_⟩:=jt hm;rw [hd] at h3; simp at h3
   rw [getD_set_ne false hne] at hl;exact hI.2.2 k' o' d' ho' hm hl
 | some d =>
   obtain ⟨n1,n2⟩:=Bq hnew ho hd;have hev:∀ t,t≠d->(a.put (some d) v).eval (.tmp t)=a.eval (.tmp t):=fun t ht=>Act.eval_put fun d' e e2=>by cases e; cases e2; exact ht rfl
   refine ⟨fun k' o' d' ho' hd'=>by rw [ru]; exact hI.1 k' o' d' ho' hd',fun b hb=>by rw [hev b (n1 b hb)]; exact hI.2.1 b hb,fun k' o' d' ho' hm hl => ?_⟩;obtain ⟨b',_,_,h3,_⟩:=jt hm;by_cases e:d'=d
   . subst e;have:=n2 k' o' ho' h3;subst this;rw [ho] at ho'; cases ho';rw [cI (hI.1 _ _ _ ho hd)];exact hv _ hm
   . rw [hev d' e];have hne:k≠k':=fun e2=>by
      subst e2;rw [ho] at ho'; cases ho';rw [hd] at h3; cases h3; exact e rfl
     rw [getD_set_ne false hne] at hl;exact hI.2.2 k' o' d' ho' hm hl
theorem gX.defers {listed:Array Bool} {a:Act} {l:List Deferred} (hI:gX ops ints listed a):gX ops ints listed { a with defers:=l } :=
 ⟨hI.1,fun b hb=>by rw [tR]; exact hI.2.1 b hb,fun k o d ho hm hl=>by rw [tR]; exact hI.2.2 k o d ho hm hl⟩
theorem zp (hnew:uR ops.toList ints=true) {k:Nat} {K:Act->World->Prop} {listed:Array Bool} {a:Act} {w:World} (hk:k < ops.size) (hI:gX ops ints listed a) (h:wpOp P ops Q k K a w) :
 wpOp P ops Q k (fun a' w'=>K a' w'/\gX ops ints (listed.setIfInBounds k true) a') a w:=by
 obtain ⟨o,ho⟩:∃ o,ops[k]? = some o:=⟨ops[k],by simp [hk]⟩;unfold wpOp at h ⊢;simp only [ho] at h ⊢;by_cases hw:Region.wanted o (yielded ops a.tmps)=true;rotate_left
 . rw [if_neg hw] at h ⊢;refine ⟨h,hI.put hnew ho fun d hm => ?_⟩;obtain ⟨_,_,h2,_,_⟩:=jt hm;exfalso; apply hw; simp [Region.wanted,h2]
 . rw [if_pos hw] at h ⊢;refine h.imp (fun h => ?_) id;unfold Oper.wp at h ⊢;by_cases hmv:∃ d,nW ints o d=true
   . obtain ⟨d,hm⟩:=hmv;obtain ⟨b,h1,h2,h3,h4⟩:=jt hm;have he:(execOp a.eval o).run P w= .ok (.value (a.eval (.tmp b))) w:=by simp [execOp,h1]
     rw [he,adI] at h ⊢;exact ⟨h,hI.put hnew ho fun _ _=>hI.2.1 b h4⟩
   . have hp:∀ (a:Act) (v:Value),gX ops ints listed a->gX ops ints (listed.setIfInBounds k true) (a.put o.dst v):=fun a v hI=>hI.put hnew ho fun d hm=>absurd ⟨d,hm⟩ hmv
     generalize (execOp a.eval o).run P w=r at h ⊢;cases r with
     | halt e w'=>cases e <;> exact h
     | ok n w' =>
       cases n with
       | value v=>exact ⟨h,hp _ _ hI⟩
       | skip=>exact ⟨h,hp _ _ hI⟩
       | defer d=>exact ⟨h,hp _ _ hI.defers⟩
       | enter f args =>
         refine Calls.mono h fun e w'' he => ?_
         cases e with
         | returned v=>exact ⟨he,hp _ _ hI⟩
         | panicked c=>exact he
         | outgrown=>exact he
       | row row args=>exact Rows.mono h fun v w'' he=>⟨he,hp _ _ hI⟩
       | _=>exact h
theorem Bm {o:Oper} {listed:Array Bool} {a:Act} (hI:gX ops ints listed a) (hready:∀ e∈o.after,Region.binds .any e=true->listed.getD e.on false=true) (hp:E5 ops ints o=true) (hL:¬ LetsOut Q) (hQ:∀ c a w,¬ Q (.panic c) a w) {k:Nat} (ho:ops[k]? = some o) {K:Act->World->Prop} {w:World} (h:wpOp P ops Q k K a w) :
 ∃ v,Yields P ops o v a/\K (a.put o.dst v) w:=by
 unfold E5 at hp;rw [ad8] at hp;rcases hp with hp | hp
 . exact uc hp hL hQ ho h
 . split at hp
   . rename_i op t x y t' d h1 h2 h3;simp only [ac5] at hp;obtain ⟨hop,hx,hy⟩:=hp;have arg:∀ x,AZ ops ints o x=true->A3 (a.eval x):=fun x hx=>by
      unfold AZ at hx;split at hx
      . exact ⟨_,_,rfl⟩
      . rename_i t;obtain ⟨e,he,h'⟩:=aey.1 hx;simp only [ac5] at h';obtain ⟨hb,h'⟩:=h';split at h'
        . rename_i o' ho';exact hI.2.2 _ _ _ ho' h' (hready e (by simpa using he) hb)
        . simp at h'
      . simp at hx
     obtain ⟨k1,n1,ex⟩:=arg x hx;obtain ⟨k2,n2,ey⟩:=arg y hy;have hw:Region.wanted o (yielded ops a.tmps)=true:=by simp [Region.wanted,h2]
     unfold wpOp at h;rw [ho] at h;simp only [hw,if_true] at h;have h:=h.resolve_right fun h=>hL h.2
     unfold Oper.wp at h;by_cases hk:k1=k2
     . subst hk;obtain ⟨v,hv⟩:∃ v,∀ w,(execOp a.eval o).run P w= .ok (.value v) w:=by
        cases op with
        | add=>exact ⟨_,fun w=>by simp [execOp,h1,ex,ey,eqGuard,binOp,Op.intArith]; rfl⟩
        | sub=>exact ⟨_,fun w=>by simp [execOp,h1,ex,ey,eqGuard,binOp,Op.intArith]; rfl⟩
        | _=>simp [IH] at hop
       refine ⟨v,.inl ⟨hw,hv⟩,?_⟩;rw [hv w,adI] at h;exact h
     . exfalso;cases op with
       | add=>simp [execOp,h1,ex,ey,eqGuard,binOp,hk,Oper.upon,stuck] at h
       | sub=>simp [execOp,h1,ex,ey,eqGuard,binOp,hk,Oper.upon,stuck] at h
       | _=>simp [IH] at hop
   . simp at hp
theorem IG {ex:List (Nat×Nat)} (hok:ln ops ints ex=true) (hL:¬ LetsOut Q) (hQ:∀ c a w,¬ Q (.panic c) a w) :
 ∀ (fuel:Nat) (listed:Array Bool) (a:Act) (w:World),listed.size=ops.size->gX ops ints listed a->wpAny P .any (iR ex ops) Q fuel listed a w->wpAny P .any ops Q fuel listed a w:=by
 unfold ln at hok;simp only [ac5] at hok;obtain ⟨hns,hed,hnew,hok⟩:=hok;have hsel:=Region.noSelect_spec hns
 have facts:∀ p∈ex,∃ oj oi,ops[p.2]? = some oj/\ops[p.1]? = some oi/\E5 ops ints oj=true/\yM ex p.2=[]/\(∀ e∈oj.after,bF e=true->(∃ e'∈oi.after,bF e'=true/\e'.on=e.on)∨∃ p'∈ex,p'.1=p.1/\p'.2=e.on) /\
  ∀ k ok,ops[k]? = some ok->k≠p.2->(∀ e∈ok.after,Region.binds .any e=true->e.on≠p.2)->(∃ e∈oj.after,bF e=true/\e.on=k)∨oj.apart ops ok=true:=by
  intro p hp;have h:=adx.1 hok p hp;cases h2:ops[p.2]? with
  | none=>rw [h2] at h; simp at h
  | some oj =>
    cases h1:ops[p.1]? with
    | none=>rw [h2,h1] at h; simp at h
    | some oi =>
      rw [h2,h1] at h;simp only [ac5] at h;obtain ⟨⟨⟨g1,g2⟩,g3⟩,g4⟩:=h;refine ⟨oj,oi,rfl,rfl,g1,List.isEmpty_iff.1 g2,fun e he hb => ?_,fun k ok hk hne hno => ?_⟩
      . have:=adx.1 g3 e (by simpa using he);rw [hb] at this;simp only [adL,afY,ad8] at this;rcases this with this | this
        . obtain ⟨e',he',h'⟩:=aey.1 this;simp only [ac5] at h';exact .inl ⟨e',by simpa using he',h'.1,beq_eq h'.2⟩
        . obtain ⟨p',hp',h'⟩:=aey.1 this;simp only [ac5] at h';exact .inr ⟨p',hp',beq_eq h'.1,beq_eq h'.2⟩
      . have hlt:k < ops.size:=(ado.1 hk).1;have:=adx.1 g4 k (ad9.2 hlt);rw [hk] at this;simp only [ad8] at this;rcases this with h | h | h | h
        . exact absurd (beq_eq h) hne
        . obtain ⟨e',he',h'⟩:=aey.1 h;simp only [ac5] at h';exact absurd (beq_eq h'.2) (hno e' (by simpa using he') h'.1)
        . obtain ⟨e',he',h'⟩:=aey.1 h;simp only [ac5] at h';exact .inl ⟨e',by simpa using he',h'.1,beq_eq h'.2⟩
        . exact .inr h
 have hR:∀ (listed:Array Bool),listed.size=ops.size->∀ k,k∈Region.ready .any ops listed->∀ (n:Nat),∀ p∈ex,p.2=n->p.1=k->listed.getD p.2 false≠true->∃ q∈ex,q.2∈Region.ready .any ops listed:=by
  intro listed hls k hk n;induction n using Nat.strongRecOn with
  | _ n ih =>
    intro p hp hpn hpk hun;obtain ⟨oj,oi,h2,h1,g1,g2,g3,g4⟩:=facts p hp;obtain ⟨_,o,ho,hall⟩:=mem_ready.1 hk;rw [<- hpk,h1] at ho;cases ho;have hlt:p.2 < listed.size:=by rw [hls]; exact (ado.1 h2).1
    by_cases hr:∀ e∈oj.after,Region.binds .any e=true->listed.getD e.on false=true
    . refine ⟨p,hp,mem_ready.2 ⟨?_,oj,h2,hr⟩⟩;simp only [adb,aeG hlt,aeB] at hun ⊢;simpa using hun
    . simp only [aff] at hr;obtain ⟨e,he,hb,hne⟩:=hr;rcases g3 e he hb with ⟨e',he',hb',h'⟩ | ⟨p',hp',h1',h2'⟩
      . exfalso;apply hne;rw [<- h'];exact hall e' he' hb'
      . have hon:=ib ops.toList 0 hed p.2 oj (by rw [ac8]; exact h2) e (aeu.2 he) hb;rw [adA] at hon;exact ih e.on (by omega) p' hp' h2' (by rw [h1',hpk]) (by rw [h2']; exact hne)
 intro fuel;induction fuel with
 | zero =>
   intro listed a w hls hI H;refine ⟨aet.2 fun k hk => ?_,H.2⟩;by_cases hall:∀ p∈ex,p.1=k->listed.getD p.2 false=true
   . have:=dU.2 ⟨hk,hall⟩;rw [H.1] at this;simp at this
   . simp only [aff] at hall;obtain ⟨p,hp,hpk,hun⟩:=hall;obtain ⟨q,hq,hr⟩:=hR listed hls k hk p.2 p hp rfl hpk hun;obtain ⟨_,_,_,_,_,g2,_,_⟩:=facts q hq;have hr2:q.2∈Region.ready .any (iR ex ops) listed:=dU.2 ⟨hr,fun q' hq' hqk=>by
      have:=nw hq';rw [hqk,g2] at this;simp at this⟩
     rw [H.1] at hr2;simp at hr2
 | succ fuel ih =>
   intro listed a w hls hI H;by_cases hex:∃ p,p∈ex/\p.2∈Region.ready .any ops listed
   . obtain ⟨p,hp,hr⟩:=hex;obtain ⟨oj,oi,h2,h1,g1,g2,g3,g4⟩:=facts p hp;have hr2:p.2∈Region.ready .any (iR ex ops) listed:=dU.2 ⟨hr,fun q hq hqk=>by
      have:=nw hq;rw [hqk,g2] at this;simp at this⟩
     have hrdy:∀ e∈oj.after,Region.binds .any e=true->listed.getD e.on false=true:=by obtain ⟨_,o,ho,hall⟩:=mem_ready.1 hr;rw [h2] at ho;cases ho;exact hall
     have hlt2:p.2 < ops.size:=(ado.1 h2).1;obtain ⟨v,hy,hK,hI'⟩:=Bm hI hrdy g1 hL hQ h2 (zp hnew hlt2 hI (nQ (H.2 p.2 hr2)));refine wpAny_first h2 hsel (fun c a w h=>(hQ _ _ _ h).elim) fuel listed a w (fun k ok hk hne hun hno=>(g4 k ok hk hne hno).resolve_left fun ⟨e,he,hb,hek⟩ => ?_) hr hy (ih _ _ _ (by simpa using hls) hI' hK);obtain ⟨_,o,ho,hall⟩:=mem_ready.1 hr;rw [h2] at ho;cases ho;have h5:=hall e he hb;rw [hek] at h5;have hlt:k < listed.size:=by rw [hls]; exact (ado.1 hk).1
     simp only [adb,aeG hlt,aeB] at hun h5;rw [h5] at hun;simp at hun
   . have hsub:∀ k,k∈Region.ready .any ops listed->k∈Region.ready .any (iR ex ops) listed:=fun k hk=>by
      refine dU.2 ⟨hk,fun p hp hpk => ?_⟩;by_cases hun:listed.getD p.2 false=true
      . exact hun
      . exact absurd (hR listed hls k hk p.2 p hp rfl hpk hun) fun ⟨q,hq,hr⟩=>hex ⟨q,hq,hr⟩
     refine ⟨fun h0=>H.1 (aet.2 fun k hk => ?_),fun k hk => ?_⟩
     . have:=(dU.1 hk).1;rw [h0] at this;simp at this
     . have hlt:k < ops.size:=by
        obtain ⟨_,o,ho,_⟩:=mem_ready.1 hk;exact (ado.1 ho).1
       exact wpOp_mono (fun a' w' h=>ih _ a' w' (by simpa using hls) h.2 h.1) (zp hnew hlt hI (nQ (H.2 k (hsub k hk))))
end
end Go.Av
namespace Go.Av
open Go.RowKit (Below)
def kO {α:Type} (d:α) (xs:List α) (i j:Nat):List α:=(xs.set i (xs.getD j d)).set j (xs.getD i d)
def IB {α:Type} (d:α) (xs:List α) (i j:Int):List α:=kO d xs i.toNat j.toNat
theorem CD {α:Type} (d:α) (xs:List α) (i j:Nat):(kO d xs i j).length=xs.length:=by simp [kO]
def MH (i j k:Nat):Nat:=if k=j then i else if k=i then j else k
theorem Fy (i j k:Nat):MH i j (MH i j k)=k:=by
 unfold MH;split
 . split
   . subst_vars; rfl
   . subst_vars; simp
 . split
   . subst_vars; simp
   . rename_i h1 h2; simp [h1,h2]
theorem Kn {α:Type} (d:α) {xs:List α} {i j k:Nat} (hi:i < xs.length) (hj:j < xs.length):(kO d xs i j)[k]? = xs[MH i j k]? := by
 unfold kO MH;rw [ae5];by_cases e:k=j
 . subst e;simp [hi,hj,List.getD]
 . rw [if_neg (fun h=>e h.symm),if_neg e,ae5];by_cases e2:k=i
   . subst e2;simp [hi,hj,List.getD]
   . rw [if_neg (fun h=>e2 h.symm),if_neg e2]
section
variable {w:World}
theorem yi:∀ (ks:List K) (x:Tl ks) (j:Nat) (G:Nat->Nat->Prop) (cs:Array Value) (o:Nat) (c:Nat),c < ks.length->eP w ks x j G cs o->∃ (k:K) (y:T k) (u:Value),cellAt ks x c=some ⟨k,y⟩/\cs[o + c]? = some u/\cO w k y u (G (j + c))
 | [],_,_,_,_,_,_,h,_=>by simp at h
 | k :: ks,x,j,G,cs,o,0,_,⟨⟨v,h1,h2⟩,_⟩=>⟨k,x.1,v,rfl,h1,h2⟩
 | k :: ks,x,j,G,cs,o,c + 1,h,⟨_,h3⟩=>by obtain ⟨k',y,u,a1,a2,a3⟩:=yi ks x.2 (j + 1) G cs (o + 1) c (by simpa using h) h3;exact ⟨k',y,u,a1,by rw [show o + (c + 1)=o + 1 + c by omega]; exact a2,by rw [show j + (c + 1)=j + 1 + c by omega]; exact a3⟩
theorem I3 {e:TypeId} {ks:List K} {xs:T (.sl e ks)} {b o l cap:Nat} {F:Nat->Prop} (h:cO w (.sl e ks) xs (.slice (some ⟨b,o,none⟩) l cap) F) {i j:Nat} (hi:i < (aG xs).length) (hj:j < (aG xs).length) :
 ∃ cs el fr,F b/\l=(aG xs).length/\w.heap[b]? = some (.cells cs el fr)/\(∀ q,q < cs.size->¬ (fr.1<=q/\q < fr.2))/\o + (aG xs).length * ks.length<=cs.size /\
  (∀ i c,i < (aG xs).length->c < ks.length->∃ (k:K) (y:T k) (u:Value) (H:Nat->Prop),cellAt ks (eC xs i) c=some ⟨k,y⟩/\cs[o + i * ks.length + c]? = some u/\cO w k y u H) /\
  ∀ (w':World) (cs':Array Value),w'.heap[b]? = some (.cells cs' el fr)->cs'.size=cs.size->(∀ q,q < ks.length->cs'[o + i * ks.length + q]? = cs[o + j * ks.length + q]?)->(∀ q,q < ks.length->cs'[o + j * ks.length + q]? = cs[o + i * ks.length + q]?) ->
   (∀ k q,k≠i->k≠j->q < ks.length->cs'[o + k * ks.length + q]? = cs[o + k * ks.length + q]?)->(∀ q,q < w.heap.size->q≠b->F q->w'.heap[q]? = w.heap[q]?)->(∀ q,F q->q < w.heap.size) ->
   cO w' (.sl e ks) (kO (dZ ks) (aG xs) i j) (.slice (some ⟨b,o,none⟩) l cap) F:=by
 obtain ⟨a',c0,h1,h2,h3,h4,h5⟩:=h;simp only [adX] at h1;obtain ⟨rfl,rfl,rfl⟩:=h1;obtain ⟨b',o',cs,el,fr,g1,g2,g3,g4,g5,G,g6,g7,g8⟩:=h5 _ rfl;simp only [aei,aej] at g1;obtain ⟨rfl,rfl⟩:=g1;refine ⟨cs,el,fr,g2,rfl,g3,fun q hq=>g4 q (afL _ hq),?_,fun i c hi hc => ?_,fun w' cs' hb hs hci hcj hck hw hlt => ?_⟩
 . have:=adz ks.length h2;omega
 . obtain ⟨k,y,u,a1,a2,a3⟩:=yi ks _ 0 (G i) cs _ c hc (g8 i _ (ij xs hi));exact ⟨k,y,u,_,a1,a2,a3⟩
 . have hlen:(kO (dZ ks) (aG xs) i j).length=(aG xs).length:=CD _ _ _ _;have hlen':(aG (e:=e) (ks:=ks) (kO (dZ ks) (aG xs) i j)).length=(aG xs).length:=hlen;refine ⟨_,cap,by rw [hlen'],by rw [hlen']; exact h2,by rw [hlen']; exact h3,h4,fun a'' ha'' => ?_⟩;simp only [ac3] at ha'';subst ha'';refine ⟨b,o,cs',el,fr,rfl,g2,hb,by rw [hs]; exact g4,by rw [hs]; exact g5,fun i'=>G (MH i j i'),fun i' j' q hq=>g6 _ j' q hq,fun i1 j1 i2 j2 q hq1 hq2 => ?_,fun i' x hx => ?_⟩
   . obtain ⟨e1,e2⟩:=g7 _ _ _ _ q hq1 hq2;have:=adU (MH i j) e1;rw [Fy,Fy] at this;exact ⟨this,e2⟩
   . have hx':(kO (dZ ks) (aG xs) i j)[i']? = some x:=hx;rw [Kn _ hi hj] at hx';refine iG ks x 0 (G (MH i j i')) _ cs cs' (o + MH i j i' * ks.length) _ (fun q hq => ?_) (fun _ _ h=>h) (fun j' q hq _=>hw q (hlt q (g6 _ j' q hq).1) (g6 _ j' q hq).2 (g6 _ j' q hq).1) (g8 _ x hx');unfold MH;by_cases e1:i'=j
     . subst e1;rw [if_pos rfl];exact hcj q hq
     . rw [if_neg e1];by_cases e2:i'=i
       . subst e2;rw [if_pos rfl];exact hci q hq
       . rw [if_neg e2];exact hck i' q e2 e1 hq
theorem Ij {Z:Nat->Prop} {k:K} {y:T k} {u v:Value} {H:Nat->Prop} (hk:lu k=false) (h1:cO w k y u H) (h2:RO Z w k y v):v=u:=by
 cases k with
 | int k=>exact (show v= .int k y/\_ from h2).1.trans (show u= .int k y/\_ from h1).1.symm
 | bool=>exact (show v= .bool y from h2).trans (show u= .bool y from h1).symm
 | str=>exact (show v= .string (et y)/\_ from h2).1.trans (show u= .string (et y)/\_ from h1).1.symm
 | sl e ks=>simp [lu] at hk
end
end Go.Av
namespace Go.Av
open Go.RowKit (Below)
theorem ui {ks:List K} {x:Tl ks} {sl:Nat->(k:K)->T k->AV}:∀ (n c:Nat) (l:List AV),eW ks x sl c n=some l->l.length=n/\∀ q,q < n->∃ a,vr ks x (c + q) (sl (c + q))=some a/\l[q]? = some a
 | 0,c,l,h=>by simp only [eW,ac3] at h;subst h;exact ⟨rfl,fun q hq=>by omega⟩
 | n + 1,c,l,h=>by
   simp only [eW] at h;split at h
   . rename_i a l' ha hl;simp only [ac3] at h;subst h;obtain ⟨h1,h2⟩:=ui n (c + 1) l' hl;refine ⟨by simp [h1],fun q hq => ?_⟩;cases q with
     | zero=>exact ⟨a,ha,rfl⟩
     | succ q => obtain ⟨a',g1,g2⟩:=h2 q (by omega);exact ⟨a',by rw [show c + (q + 1)=c + 1 + q by omega]; exact g1,by simpa using g2⟩
   . simp at h
theorem Az {O n i k q:Nat} (h:i≠k) (hq:q < n):¬ (O + k * n<=O + i * n + q/\O + i * n + q < O + k * n + n):=by
 rintro ⟨h1,h2⟩;rcases adj i k with hh | hh
 . have:=adz n (show i + 1<=k from hh);rw [adR,aeE] at this; omega
 . have:=adz n (show k + 1<=i by omega);rw [adR,aeE] at this; omega
section
variable {P:Program} {E:En} {cx:Cx P} {Z:Nat->Prop} {g:Gh} {st v:St} {a:Act} {w:World}
theorem Gp (h:Rel cx Z g v a w) {r j s m i:Nat} {e:TypeId} {ks:List K} {xs:T (.sl e ks)} (hcell:v.cell r j=some ⟨s,m,.own (.sl e ks) xs⟩) {B O L C:Nat} (hcv:g.cv r j= .slice (some ⟨B,O,none⟩) L C) {cs:Array Value} {el:TypeId} {fr:Nat×Nat} (hB:w.heap[B]? = some (.cells cs el fr))
 (hc:∀ c,c < ks.length->∃ (k:K) (y:T k) (u:Value) (H:Nat->Prop),cellAt ks (eC xs i) c=some ⟨k,y⟩/\cs[O + i * ks.length + c]? = some u/\cO w k y u H) {l:List AV} {vs:List Value} (hl:eW ks (eC xs i) (fun c' _ _=> .pref r j s m i c') 0 ks.length=some l) (hr:aP Z g v w l vs) :
 vs.length=ks.length/\(∀ c,c < ks.length->vs[c]? = cs[O + i * ks.length + c]?)/\∀ u∈vs,u.oneCell'=true:=by
 obtain ⟨h1,h2⟩:=ui _ _ _ hl;have hlen:vs.length=ks.length:=by rw [<- dk hr,h1]
 have key:∀ c,c < ks.length->∃ u,vs[c]? = some u/\cs[O + i * ks.length + c]? = some u/\u.oneCell'=true:=fun c hlt=>by
  obtain ⟨k,y,u,H,a1,a2,a3⟩:=hc c hlt;obtain ⟨av,b1,b2⟩:=h2 c hlt;rw [adA] at b1;have hv:vs[c]? = some (vs[c]'(by omega)):=by simp [hlen,hlt]
  generalize (vs[c]'(by omega))=vv at hv;have hrv:=lP hr _ _ _ b2 hv;refine ⟨vv,hv,?_⟩;have:vv=u:=by
   unfold vr at b1;rw [a1] at b1;cases hk:lu k with
   | true =>
     cases k with
     | sl e' ks' => simp only [ac3] at b1;subst b1;obtain ⟨cc,x1,x2,x3,x4⟩:=hrv;rw [hcell] at x1;cases x1;obtain ⟨e',ks',xs',x5,x6,x7,B',O',L',C',x8,x9⟩:=x4 rfl rfl;simp only [RV.own.injEq,K.sl.injEq] at x5;obtain ⟨⟨rfl,rfl⟩,x5⟩:=x5;rw [hcv] at x8;simp only [adX,ac3,aei,aej] at x8;obtain ⟨⟨rfl,rfl⟩,rfl,rfl⟩:=x8;simp only [World.cell?,hB,aed,adQ,aek] at x9;rw [a2] at x9;exact (aeb x9).symm
     | _=>simp [lu] at hk
   | false =>
     have:av= .d k y:=by
      cases k with
      | sl e' ks'=>simp [lu] at hk
      | _=>simp only [ac3] at b1; exact b1.symm
     subst this;exact Ij hk a3 hrv
  subst this;exact ⟨a2,(rJ a3).2⟩
 refine ⟨hlen,fun c hlt => ?_,fun u hu => ?_⟩
 . obtain ⟨u,k1,k2,_⟩:=key c hlt;rw [k1,k2]
 . obtain ⟨c,hlt,hc'⟩:=afy hu;obtain ⟨u',k1,_,k3⟩:=key c (by omega);rw [adi hlt,hc'] at k1;cases k1;exact k3
theorem H4 (hT:bK P E) (h:Rel cx Z g v a w) (hn:bt v) (hsz:Fit cx E a) {ops:Array Oper} {k0:Nat} {o0 o1 o2 o3:Oper} (h0:ops[k0]? = some o0) (h1:ops[k0 + 1]? = some o1) (h2:ops[k0 + 2]? = some o2) (h3:ops[k0 + 3]? = some o3)
 (g0:o0.guard=none) (g1:o1.guard=none) (g2:o2.guard=none) (g3:o3.guard=none) {dA dB:Nat} (d0:o0.dst=some dA) (d1:o1.dst=none) (d2:o2.dst=some dB) (d3:o3.dst=none) (b0:E.dB dA=true) (b2:E.dB dB=true)
 {tA tB tS1 tS2 bA bB x1 x2:Nat} {iA iB:Operand} (p0:o0.op= .indexAddr tA (.tmp bA) iA) (p1:o1.op= .store tS1 (.tmp dA) (.tmp x1)) (p2:o2.op= .indexAddr tB (.tmp bB) iB) (p3:o3.op= .store tS2 (.tmp dB) (.tmp x2))
 (n1:fJ dA (.tmp x1)=true) (n2:fJ dA (.tmp bB)=true) (n3:fJ dA iB=true) (n4:fJ dA (.tmp x2)=true) (n5:fJ dB (.tmp x2)=true)
 {r j s m e1 e2:Nat} {e:TypeId} {ks:List K} {xs:T (.sl e ks)} (hcell:v.cell r j=some ⟨s,m,.own (.sl e ks) xs⟩) {l1 l2:List AV} (hx1:v.get (.tmp x1)=some (.agg l1)) (hx2:v.get (.tmp x2)=some (.agg l2))
 (hl1:eW ks (eC xs e1) (fun c' _ _=> .pref r j s m e1 c') 0 ks.length=some l1) (hl2:eW ks (eC xs e2) (fun c' _ _=> .pref r j s m e2 c') 0 ks.length=some l2)
 (hbA:v.get (.tmp bA)=some (.v (.ref r j s))) (hbB:v.get (.tmp bB)=some (.v (.ref r j s))) {tvA tvB:TV} {pA pB:IntKind×Int} (hiA:v.get iA=some tvA) (hpA:tvA.int? = some pA) (hiB:v.get iB=some tvB) (hpB:tvB.int? = some pB)
 {tnA tnB ts1 ts2:TI} (hnA:E.sl tA=some tnA) (hnB:E.sl tB=some tnB) (ht1:E.ti tS1=some ts1) (ht2:E.ti tS2=some ts2) (cA:ks.length=tnA.ks.length) (cB:ks.length=tnB.ks.length) (c1:ks.length=ts1.ks.length) (c2:ks.length=ts2.ks.length)
 (idA:om pA.2 (aG xs).length e2=true) (idB:om pB.2 (aG xs).length e1=true) :
 wpOps P ops (QO cx E (.nrm (((v.setCell r j ⟨s,m + 1,.own (.sl e ks) (kO (dZ ks) (aG xs) e2 e1)⟩).aE dA (.v .dead,none)).aE dB (.v .dead,none)))) [k0,k0 + 1,k0 + 2,k0 + 3] a w:=by
 have hc:=hn.cons.cons;obtain ⟨_,_,_,_,_,u4,huA⟩:=dx hT hnA;obtain ⟨_,_,_,_,_,u4',huB⟩:=dx hT hnB;have hsA:=fun w=>bM (hT _ tnA u4) (P:=P) w
 have hsB:=fun w=>bM (hT _ tnB u4') (P:=P) w
 simp only [om,ac5] at idA idB;obtain ⟨iA0,iA1,iA2⟩:=fD idA.1;obtain ⟨iB0,iB1,iB2⟩:=fD idB.1;have eA:=beq_eq idA.2;have eB:=beq_eq idB.2;have hi2:e2 < (aG xs).length:=by rw [<- eA]; exact iA2
 have hi1:e1 < (aG xs).length:=by rw [<- eB]; exact iB2
 have viA:a.eval iA= .int pA.1 pA.2:=(cS (aM h hc hiA) (show tvA.int? = some (pA.1,pA.2) from hpA)).1;have viB:a.eval iB= .int pB.1 pB.2:=(cS (aM h hc hiB) (show tvB.int? = some (pB.1,pB.2) from hpB)).1;have vb:∀ b,v.get (.tmp b)=some (.v (.ref r j s))->a.eval (.tmp b)=g.cv r j:=fun b hb=>by obtain ⟨cc,y1,y2,y3⟩:=aM h hc hb;rw [hcell] at y1;cases y1;exact y3 rfl
 have hown:cO w (.sl e ks) xs (g.cv r j) (g.fp r j):=h.cell r j _ hcell;obtain ⟨B,O,L,C,hcv⟩:∃ B O L C,g.cv r j= .slice (some ⟨B,O,none⟩) L C:=by
  obtain ⟨aa,cap,v1,v2,v3,v4,v5⟩:=hown;cases aa with
  | none=>have:=v4 rfl; omega
  | some aa => obtain ⟨b,o,_,_,_,rfl,_⟩:=v5 aa rfl;exact ⟨b,o,_,_,v1⟩
 rw [hcv] at hown;obtain ⟨cs,el,fr,z1,z2,z3,z4,z5,z6,z7⟩:=I3 hown hi2 hi1;obtain ⟨vs1,q1,q2⟩:=aM h hc hx1;obtain ⟨vs2,q3,q4⟩:=aM h hc hx2;obtain ⟨r1,r2,r3⟩:=Gp h hcell hcv z3 (z6 e1 · hi1) hl1 q2;obtain ⟨r4,r5,r6⟩:=Gp h hcell hcv z3 (z6 e2 · hi2) hl2 q4;have hfpl:∀ b,g.fp r j b->b < w.heap.size:=fun b hb=>(h.fp r j b hb).1
 have hroom:∀ i,i < (aG xs).length->O + i * ks.length + ks.length<=cs.size:=fun i hi=>by have:=adz ks.length (show i + 1<=(aG xs).length from hi);rw [adR,aeE] at this;omega
 rw [wpOps_cons];refine bz h0 g0 ?_;have run0:(execOp a.eval o0).run P w= .ok (.value (.pointer (some ⟨B,O + e2 * ks.length,none⟩))) w:=by have:=kx (P:=P) (w:=w) huA hsA (b:=B) (o:=O) (len:=L) (cap:=C) (k:=pA.1) (n:=pA.2) iA0 (by rw [z2]; exact iA1);rw [eA,<- cA] at this;simp only [execOp,p0,vb bA hbA,hcv,viA];simp [this]
 unfold Oper.wp;rw [run0,adI,d0];generalize hvA:Value.pointer (some ⟨B,O + e2 * ks.length,none⟩)=vA;rw [wpOps_cons];refine bz h1 g1 ?_;have eA1:(a.put (some dA) vA).eval (.tmp dA)=vA:=cI (hsz.dst b0).1;have ex1:(a.put (some dA) vA).eval (.tmp x1)= .agg vs1:=by rw [Act.eval_put (jT n1),q1]
 have hst1:=kE (P:=P) (hT tS1 ts1 ht1) (w:=w) (b:=B) (o:=O + e2 * ks.length) (v:= .agg vs1) (vs:=vs1.toList) rfl (by rw [r1,c1]) r3 (fun q hq=>⟨cs,el,fr,z3,by have:=hroom e2 hi2; omega,z4 _ (by have:=hroom e2 hi2; omega)⟩);rw [hvA] at hst1;have run1:(execOp (a.put (some dA) vA).eval o1).run P w= .ok .skip (w.setCells B (O + e2 * ks.length) vs1.toList):=by simp only [execOp,p1,adv,eA1,ex1,hst1,adh];rfl
 unfold Oper.wp;rw [run1,Oper.upon_skip,d1];obtain ⟨s1,s2,s3,s4,s5,s6⟩:=eM B vs1.toList (O + e2 * ks.length) w cs el fr z3;generalize hw1:w.setCells B (O + e2 * ks.length) vs1.toList=w1 at s1 s2 s3 s4 s5 s6;show wpOps P ops _ [k0 + 2,k0 + 3] (a.put (some dA) vA) w1;rw [wpOps_cons];refine bz h2 g2 ?_;have run2:(execOp (a.put (some dA) vA).eval o2).run P w1= .ok (.value (.pointer (some ⟨B,O + e1 * ks.length,none⟩))) w1:=by have:=kx (P:=P) (w:=w1) huB hsB (b:=B) (o:=O) (len:=L) (cap:=C) (k:=pB.1) (n:=pB.2) iB0 (by rw [z2]; exact iB1);rw [eB,<- cB] at this;simp only [execOp,p2,Act.eval_put (jT n2),Act.eval_put (jT n3),vb bB hbB,hcv,viB];simp [this]
 unfold Oper.wp;rw [run2,adI,d2];generalize hvB:Value.pointer (some ⟨B,O + e1 * ks.length,none⟩)=vB;have hsz1:=hsz.put (some dA) vA;rw [wpOps_cons];refine bz h3 g3 ?_;have eB1:((a.put (some dA) vA).put (some dB) vB).eval (.tmp dB)=vB:=cI (hsz1.dst b2).1;have ex2:((a.put (some dA) vA).put (some dB) vB).eval (.tmp x2)= .agg vs2:=by rw [Act.eval_put (jT n5),Act.eval_put (jT n4),q3]
 have hst2:=kE (P:=P) (hT tS2 ts2 ht2) (w:=w1) (b:=B) (o:=O + e1 * ks.length) (v:= .agg vs2) (vs:=vs2.toList) rfl (by rw [r4,c2]) r6 (fun q hq=>⟨_,el,fr,s1,by rw [cf]; have:=hroom e1 hi1; omega,z4 _ (by have:=hroom e1 hi1; omega)⟩);rw [hvB] at hst2;have run3:(execOp ((a.put (some dA) vA).put (some dB) vB).eval o3).run P w1= .ok .skip (w1.setCells B (O + e1 * ks.length) vs2.toList):=by simp only [execOp,p3,adv,eB1,ex2,hst2,adh];rfl
 unfold Oper.wp;rw [run3,Oper.upon_skip,d3];obtain ⟨s1',s2',s3',s4',s5',s6'⟩:=eM B vs2.toList (O + e1 * ks.length) w1 _ el fr s1;generalize hw2:w1.setCells B (O + e1 * ks.length) vs2.toList=w2 at s1' s2' s3' s4' s5' s6';have hother:∀ q,q≠B->w2.heap[q]? = w.heap[q]? := fun q hq=>(s2' q hq).trans (s2 q hq)
 have hsize:w2.heap.size=w.heap.size:=s3'.trans s3;have hlen:(kO (dZ ks) (aG xs) e2 e1).length=(aG xs).length:=CD _ _ _ _;have get1:∀ i q,i < (aG xs).length->q < ks.length->(setFrom cs (O + e2 * ks.length) vs1.toList)[O + i * ks.length + q]? = if i=e2 then cs[O + e1 * ks.length + q]? else cs[O + i * ks.length + q]? := fun i q hi hq=>by
  rw [cz _ _ _ _ (by rw [r1]; exact hroom e2 hi2),r1];by_cases ei:i=e2
  . subst ei;rw [if_pos ⟨by omega,by omega⟩,if_pos rfl,show O + i * ks.length + q - (O + i * ks.length)=q by omega,r2 q hq]
  . rw [if_neg (Az ei hq),if_neg ei]
 have get2:∀ i q,i < (aG xs).length->q < ks.length->(setFrom (setFrom cs (O + e2 * ks.length) vs1.toList) (O + e1 * ks.length) vs2.toList)[O + i * ks.length + q]? = if i=e1 then cs[O + e2 * ks.length + q]? else if i=e2 then cs[O + e1 * ks.length + q]? else cs[O + i * ks.length + q]? := fun i q hi hq=>by
  rw [cz _ _ _ _ (by rw [r4,cf]; exact hroom e1 hi1),r4];by_cases ei:i=e1
  . subst ei;rw [if_pos ⟨by omega,by omega⟩,if_pos rfl,show O + i * ks.length + q - (O + i * ks.length)=q by omega,r5 q hq]
  . rw [if_neg (Az ei hq),if_neg ei,get1 i q hi hq]
 have hown2:cO w2 (.sl e ks) (kO (dZ ks) (aG xs) e2 e1) (.slice (some ⟨B,O,none⟩) L C) (g.fp r j):=by
  refine z7 w2 _ s1' (by rw [cf,cf]) (fun q hq => ?_) (fun q hq => ?_) (fun k q hk1 hk2 hq => ?_) (fun q _ hne _=>hother q hne) hfpl
  . rw [get2 e2 q hi2 hq];by_cases ee:e2=e1
    . rw [if_pos ee,ee]
    . rw [if_neg ee,if_pos rfl]
  . rw [get2 e1 q hi1 hq,if_pos rfl]
  . rw [cz _ _ _ _ (by rw [r4,cf]; exact hroom e1 hi1),r4,if_neg (Az hk2 hq),cz _ _ _ _ (by rw [r1]; exact hroom e2 hi2),r1,if_neg (Az hk1 hq)]
 have hch:=h.change hcell (c':=⟨s,m + 1,.own (.sl e ks) (kO (dZ ks) (aG xs) e2 e1)⟩) (w':=w2) (v':=g.cv r j) (F':=g.fp r j) (s4'.trans s4) (s5'.trans s5) (s6'.trans s6) (by rw [hsize]; exact ac7 _) (ac7 _) (ael _)
  (fun _=>rfl) (fun _ e' ks' xs' hx=>by simp only [RV.own.injEq,K.sl.injEq] at hx;obtain ⟨⟨rfl,rfl⟩,hx⟩:=hx;have hx:=ae8 hx;subst hx;exact ⟨_,rfl,hlen⟩)
  (fun q hq hf _=>hother q fun e=>hf (by rw [e]; exact z1))
  (fun q hq=>by obtain ⟨k1,k2,k3,_⟩:=h.fp r j q hq;exact ⟨by rw [hsize]; exact k1,k2,k3,fun r' j' hh=>h.disj _ _ _ _ _ hh hq,fun r' R' hR' hx he=>(h.box r' R' hR' hx).2.2.1 r j (by rw [he]; exact hq),_,_,rfl⟩)
  (fun R' hR' hx=>by
    obtain ⟨_,_,b3,_,cs1,el1,fr1,b5,_,_,b8⟩:=h.box r R' hR' hx;refine ⟨cs1,el1,fr1,cs1,b5,?_,rfl,fun q hq => ?_⟩
    . rw [hother _ fun e=>b3 r j (by rw [e]; exact z1)]; exact b5
    . rw [b8 q hq];by_cases e:q=j
      . subst e; rw [if_pos rfl]
      . rw [if_neg e])
  (fun kp=>by show cO _ (.sl e ks) (kO (dZ ks) (aG xs) e2 e1) (g.cv r j) _;rw [hcv];exact hown2)
 obtain ⟨hR,_⟩:=hch;have hA:=hR.fA (d:=dA) (tv:= .v .dead) (v:=vA) (hsz.dst b0) trivial;have hB:=hA.fA (d:=dB) (tv:= .v .dead) (v:=vB) (hsz1.dst b2) trivial;refine ⟨fun t tv ht => ?_,(hsz1.put _ _).put _ _,Z,_,hB⟩;rw [bd] at ht;split at ht
 . simp only [ac3] at ht; subst ht; exact fun h=>h
 rw [bd] at ht;split at ht
 . simp only [ac3] at ht; subst ht; exact fun h=>h
 rw [dm] at ht;exact hn t tv ht
end
end Go.Av
namespace Go.Av
open Go.RowKit (Below)
def pN (l:List Oper) (n k x:Nat):Option (Nat×Nat):=match l[k]? with
 | some o=>(match o.op,o.dst with
   | .load t (.tmp p),some x'=>bif Nat.blt k n && Nat.beq x' x then some (t,p) else none
   | _,_=>none)
 | none=>none
def CI (E:En) (l:List Oper) (n k1 k2:Nat) (v:St):Tr St:=match l.drop n with
 | [o0,o1,o2,o3]=>(match o0.op,o1.op,o2.op,o3.op,o0.dst,o1.dst,o2.dst,o3.dst with
   | .indexAddr tA (.tmp bA) iA,.store tS1 (.tmp d1) (.tmp x1),.indexAddr tB (.tmp bB) iB,.store tS2 (.tmp d2) (.tmp x2),some dA,none,some dB,none =>
     Tr.bu (pN l n k1 x1) fun L1=>Tr.bu (pN l n k2 x2) fun L2=>Tr.bu (E.sl tA) fun tnA=>Tr.bu (E.sl tB) fun tnB=>Tr.bu (E.ti tS1) fun ts1=>Tr.bu (E.ti tS2) fun ts2=>Tr.bu (E.ti L1.1) fun tl1=>Tr.bu (E.ti L2.1) fun tl2 =>
     Tr.bu (v.get iA) fun tvA=>Tr.bu tvA.int? fun pA=>Tr.bu (v.get iB) fun tvB=>Tr.bu tvB.int? fun pB =>
     (match look v.tm L1.2,look v.tm L2.2,v.get (.tmp bA),v.get (.tmp bB) with
     | some (.v (.pel r j s e1 q1)),some (.v (.pel r2 j2 s2 e2 q2)),some (.v (.ref rA jA sA)),some (.v (.ref rB jB sB))=>(match v.cell r j with
       | some ⟨s',m,.own (.sl e ks) xs⟩ =>
         bif ((Nat.beq d1 dA && Nat.beq d2 dB) && ((E.dB dA && E.dB dB) && ((fJ dA (.tmp x1) && (fJ dA (.tmp bB) && (fJ dA iB && (fJ dA (.tmp x2) && fJ dB (.tmp x2))))) &&
          (tl1.agg && tl2.agg)))) && (((Nat.beq q1 0 && Nat.beq q2 0) && ((Nat.beq r2 r && (Nat.beq j2 j && Nat.beq s2 s)) && ((Nat.beq rA r && (Nat.beq jA j && Nat.beq sA s)) && ((Nat.beq rB r && (Nat.beq jB j && Nat.beq sB s)) && Nat.beq s' s)))) &&
          (Nat.beq ks.length tnA.ks.length && (Nat.beq ks.length tnB.ks.length && (Nat.beq ks.length ts1.ks.length && (Nat.beq ks.length ts2.ks.length && (Nat.beq tl1.ks.length ks.length && Nat.beq tl2.ks.length ks.length))))))
         then .need (om pA.2 (aG xs).length e2) (.need (om pB.2 (aG xs).length e1)
          (.ret (((v.setCell r j ⟨s,m + 1,.own (.sl e ks) (kO (dZ ks) (aG xs) e2 e1)⟩).aE dA (.v .dead,none)).aE dB (.v .dead,none))))
         else .fail
       | _=> .fail)
     | _,_,_,_=> .fail)
   | _,_,_,_,_,_,_,_=> .fail)
 | _=> .fail
def lJ (st:St) (ints:List Nat):Bool:=ints.all fun t=>match st.get (.tmp t) with | some tv=>tv.int?.isSome | none=>false
def B4 (E:En) (l:List Oper):Bool:=l.all fun o=>match o.dst with | some d=>E.dB d | none=>true
def swapT (E:En) (ops:Array Oper) (ints:List Nat) (ex:List (Nat×Nat)) (n k1 k2:Nat) (st:St):Tr St :=
 bif ln ops ints ex && (sM (gW ex ops.toList 0) n && (lJ st ints && B4 E ops.toList)) then
  (dO E true ((gW ex ops.toList 0).take n) (bR (gW ex ops.toList 0) [] ++ [0]) ((gW ex ops.toList 0).take n) 0 st []).bind fun v=>bif F7 v ((gW ex ops.toList 0).take n) then CI E (gW ex ops.toList 0) n k1 k2 v else .fail
 else .fail
section
variable {P:Program} {E:En}
theorem yY {st v:St} {l:List Oper} {ns:List Nat} (hl0:0 < ns.length) (hng:bm l=false) (hv:(dO E true l (ns ++ [0]) l 0 st []).run=some v) (hvrt:v.rt=st.rt) {k t p x:Nat} (hld:pN l l.length k x=some (t,p)) {ti:TI} (hti:E.ti t=some ti) (hag:ti.agg=true)
 (hNo:bt v) {r j s e1:Nat} (hp:look v.tm p=some (.v (.pel r j s e1 0))) {s' m:Nat} {e:TypeId} {ks:List K} {xs:T (.sl e ks)} (hcell:v.cell r j=some ⟨s',m,.own (.sl e ks) xs⟩) (hs:s'=s) (hk:ti.ks.length=ks.length) :
 ∃ l1,look v.tm x=some (.agg l1)/\eW ks (eC xs e1) (fun c' _ _=> .pref r j s m e1 c') 0 ks.length=some l1:=by
 subst hs;unfold pN at hld;split at hld;rotate_left
 . simp at hld
 rename_i o ho;split at hld;rotate_left
 . simp at hld
 rename_i t' p' x' hop hdst;cases hb:Nat.blt k l.length && Nat.beq x' x with
 | false=>rw [hb] at hld; simp at hld
 | true =>
 rw [hb] at hld;simp only [ac6,ac3,adF] at hld;obtain ⟨rfl,rfl⟩:=hld;simp only [ac5] at hb;have hx:=beq_eq hb.2;subst hx;obtain ⟨bs',g1,g2,_,g4⟩:=zK (E:=E) (base:=st) (IK hl0) hng l 0 [] _ (fun o ho=>by obtain ⟨k,hk⟩:=afT ho;exact qT hng hk) trivial (fun e he=>by simp at he) hv;subst g2;obtain ⟨d2,p2,mask,bs0,w1,w2,w3,w4⟩:=g4 k o ho;rw [hdst] at w1;cases w1;have hroot2:∀ i' t p,(i',t,p)∈bs'->p.2=none:=fun i' t'' p hp=>by
  cases hp2:p.2 with
  | none=>rfl
  | some R =>
    exfalso;have hlr:look (aD st bs').rt t''=some R:=by rw [gL st (bitsOf bs') bs' (fun i t p h=>dT h),gy _ g1];exact .inl ⟨i',p,hp,dT hp,hp2⟩
    have:=(g1.mem hp).2.2;rw [hvrt] at hlr;rw [hlr] at this;simp at this
 have hrt:(aD st bs').rt=st.rt:=ub hroot2;have hwrt:(view st mask bs0).rt=st.rt:=xK fun i' t p hp=>hroot2 i' t p (w3 _ hp)
 have hent2:∀ t' tv',look (view st mask bs0).tm t'=some tv'->look (aD st bs').tm t'=some tv':=fun t' tv' h=>by
  rw [bN g1];rcases sU h with ⟨i',p,h1,h2⟩ | h1
  . exact .inl ⟨i',p,w3 _ h1,h2⟩
  . exact .inr h1
 have hnw:bt (view st mask bs0):=fun t' tv' h=>hNo t' tv' (hent2 t' tv' h)
 rw [hop,LS,hti] at w4;obtain ⟨ti2,r1,w4⟩:=Tr.af w4;cases r1;obtain ⟨tvB,r2,w5⟩:=Tr.af w4;obtain ⟨aB,r3,w6⟩:=Tr.af w5;obtain ⟨lB,r4,w7⟩:=Tr.af w6;obtain ⟨tvR,r5,w8⟩:=Tr.af w7;simp only [Tr.run,ac3] at w8;have r2:(view st mask bs0).tv p'=some tvB:=r2;rw [fk hnw] at r2;have:=hent2 _ _ r2;rw [hp] at this;cases this;simp only [TV.Cp,ac3] at r3;subst r3;have hcell2:(view st mask bs0).cell r j=some ⟨s',m,.own (.sl e ks) xs⟩:=by
  have:(aD st bs').cell r j=(view st mask bs0).cell r j:=by unfold St.cell; rw [hrt,hwrt]
  rw [<- this]; exact hcell
 simp only [St.load,hcell2,afj,ac6] at r4;rw [hk] at r4;unfold ff at r5;rw [hag] at r5;simp only [ac3] at r5;refine ⟨lB,?_,r4⟩;rw [bN g1];refine .inl ⟨_,_,w2,?_⟩;rw [<- w8,<- r5]
theorem wv {cx:Cx P} {st:St} {a:Act} {w:World} {ops:Array Oper} {ints:List Nat} (h:Good cx E st a w) (hints:lJ st ints=true) (hdB:B4 E ops.toList=true):gX ops ints (Array.replicate ops.size false) a:=by
 obtain ⟨hn,hsz,Z,g,hr⟩:=h;refine ⟨fun k o d ho hd => ?_,fun b hb => ?_,fun k o d ho hm hl => ?_⟩
 . have h1:=adx.1 hdB o (by rw [aeu]; exact afO ho);rw [hd] at h1;exact (hsz.dst h1).1
 . have h1:=adx.1 hints b hb;split at h1
   . rename_i tv htv;obtain ⟨p,hp⟩:=aeZ.1 h1;obtain ⟨k,n'⟩:=p;exact ⟨k,n',(cS (aM hr hn.cons.cons htv) hp).1⟩
   . simp at h1
 . have hlt:k < ops.size:=(ado.1 ho).1;simp [adb,hlt] at hl
theorem Km (hT:bK P E) (hga:df P E) (hm:P.follows .mixedOrders=true) {id:Nat} {ops:Array Oper} {ints:List Nat} {ex:List (Nat×Nat)} {n k1' k2':Nat}:cH P E (.region id ops true) (swapT E ops ints ex n k1' k2'):=by
 intro cx a w st st' h hrun;unfold swapT at hrun;cases hc:ln ops ints ex && (sM (gW ex ops.toList 0) n && (lJ st ints && B4 E ops.toList)) with
 | false=>rw [hc] at hrun; simp [Tr.run] at hrun
 | true =>
 rw [hc] at hrun;simp only [ac6] at hrun;simp only [ac5] at hc;obtain ⟨hok,hpre,hints,hdB⟩:=hc;obtain ⟨hn,hsz,Z,g,hr⟩:=h;have hI:gX ops ints (Array.replicate ops.size false) a:=wv ⟨hn,hsz,Z,g,hr⟩ hints hdB;refine wp_region_any hm ?_;refine IG hok (fun ⟨a,w,hq⟩=>hq) (fun c a w hq=>hq) ops.size _ a _ (by simp) hI ?_;have e1:(iR ex ops).toList=gW ex ops.toList 0:=by simp [iR]
 have hs:=sq ex ops;rw [<- e1] at hrun hpre;rw [<- hs];generalize hops:iR ex ops=ops' at hrun hpre ⊢;rw [hops] at hs;simp only [sM,ac5,adK,adx,ad9] at hpre;obtain ⟨hed,hlen4,hng,hng',hneed,hchain⟩:=hpre;have hl4:ops'.size=n + 4:=by have:=beq_eq hlen4; simpa using this
 have hi:n < ops'.size:=by omega
 have hlen:(bR ops'.toList []).length=ops'.size:=by rw [lf]; simp
 rw [Tr.run_bind] at hrun;cases hv:(dO E true (ops'.toList.take n) (bR ops'.toList [] ++ [0]) (ops'.toList.take n) 0 st []).run with
 | none=>rw [hv] at hrun; simp at hrun
 | some v =>
 rw [hv] at hrun;simp only [adq] at hrun;cases hnr:F7 v (ops'.toList.take n) with
 | false=>rw [hnr] at hrun; simp [Tr.run] at hrun
 | true =>
 rw [hnr] at hrun;simp only [ac6] at hrun;have hopst:(ops'.toList.take n).toArray.toList=ops'.toList.take n:=by simp
 have hsize':(ops'.toList.take n).toArray.size=n:=by simp; omega
 have hops':∀ j,j < n->(ops'.toList.take n).toArray[j]? = ops'[j]? := fun j hj=>by rw [<- ac8,hopst,ad6,if_pos hj,ac8]
 have hseg:=jI (P:=P) (E:=E) (ops:=(ops'.toList.take n).toArray) (ns:=bR ops'.toList [] ++ [0]) (i0:=0) hT hga (dr:=true) hn (ops'.toList.take n) 0 (by simp) (adM _) (ac7 _) [] v ⟨trivial,hn.MB,fun e he=>by simp at he,fun _ _ _ _ he=>by simp at he⟩ (by rw [hopst]; exact hv);obtain ⟨i1,bsF,k1,k2,k3,k4,k5,k6,k7,k8⟩:=hseg;replace k5:=k5 (by rw [hopst]; exact hng');have hk8:i1=n/\v=aD st bsF:=by
  rcases k8 with ⟨e1,e2⟩ | ⟨o',st'',e1,_,e3,_⟩
  . rw [hopst,hng'] at e2;exact ⟨e1.trans hsize',e2⟩
  . exfalso;have hi1:i1 < n:=by
     have:=(ado.1 e1).1;rw [hsize'] at this;exact this
    have hf:=e3 rfl;unfold gO at hf;simp only [ac5,adx,ad9] at hf;have:=hf.2 (ops'.size - i1 - 1) (by rw [ac4,hlen]; simp; omega);rw [show i1 + 1 + (ops'.size - i1 - 1)=(bR ops'.toList []).length by rw [hlen]; omega] at this;simp [List.getD] at this
 obtain ⟨rfl,rfl⟩:=hk8;have hidx:∀ e∈bsF,e.1 < i1:=fun e he=>(k4 e he).2.1
 have hNA:bt (aD st bsF):=fun t tv ht=>by
  rw [bN k2] at ht;rcases ht with ⟨i',p,h1,rfl⟩ | h1
  . exact k5 i' t p h1
  . exact hn t tv h1
 have hroot:∀ i' t p,(i',t,p)∈bsF->p.2=none:=fun i' t' p hp=>by
  cases hp2:p.2 with
  | none=>rfl
  | some R =>
    exfalso;obtain ⟨_,h2,o',h3,h4⟩:=k4 _ hp;have hmem:o'∈ops'.toList.take i1:=by rw [<- hopst,aeu];exact afO h3
    have:=adx.1 hnr o' hmem;rw [h4] at this;simp only [St.free] at this;have hl:look (aD st bsF).rt t'=some R:=by rw [gL st (bitsOf bsF) bsF (fun i t p h=>dT h),gy _ k2];exact .inl ⟨i',p,hp,dT hp,hp2⟩
    rw [hl] at this;simp at this
 have hvrt:(aD st bsF).rt=st.rt:=ub hroot;refine Fj (P:=P) (E:=E) (cx:=cx) (Q:=QO cx E (.nrm st')) hed hi (base:=st) (bsF:=bsF) ?_ hneed ?_ ?_ ops'.size (Array.replicate ops'.size false) 0 a _ Z g (by simp) (fun k hk => ?_) (fun k _=>ad5 k) (by rw [mJ]; exact ac7 _) (fun k hk=>by rw [ad5] at hk; simp at hk) ?_ hsz
 . intro j hj cx S a w Z g next Q hS hSj hr hsz hnext;have ho':∃ o',ops'[j]? = some o':=⟨ops'[j]'(by omega),by simp⟩;obtain ⟨o',ho'⟩:=ho';refine zQ ho' (by rw [hops' j hj]; exact ho') (qT hng (by rw [ac8]; exact ho')) ?_;refine k7 j (adM _) hj cx S a w Z g next Q (fun k h1 h2 h3=>hS k h1 h2 ?_) hSj hr hsz hnext;have hjl:j < (bR ops'.toList []).length:=by rw [hlen]; omega
   rw [List.getD,ad3 hjl] at h3;exact h3
 . intro k hk1 hk2;unfold chained at hchain;have:=adx.1 hchain (k - i1 - 1) (ad9.2 (by simp; omega));rw [show i1 + 1 + (k - i1 - 1)=k by omega,ac8] at this;split at this
   . rename_i o ho;obtain ⟨e,he,h'⟩:=aey.1 this;simp only [ac5] at h';exact ⟨o,e,ho,by simpa using he,h'.1,by rw [beq_eq h'.2]; omega⟩
   . simp at this
 . intro a w Z g hr hsz;have hv':view st (2 ^ i1 - 1) bsF=aD st bsF:=(jJ fun e he=>by rw [fN]; simpa using hidx e he).symm;rw [hv'] at hr;have:List.range' i1 (ops'.size - i1)=[i1,i1 + 1,i1 + 2,i1 + 3]:=by
    rw [show ops'.size - i1=4 by omega];rfl
   rw [this];have hget:∀ k,(ops'.toList.drop i1)[k]? = ops'[i1 + k]? := fun k=>by rw [aer,ac8]
   unfold CI at hrun;split at hrun;rotate_left
   . simp [Tr.run] at hrun
   rename_i o0 o1 o2 o3 hL;rw [hL] at hget;have e0:ops'[i1]? = some o0:=(hget 0).symm;have e1:ops'[i1 + 1]? = some o1:=(hget 1).symm;have e2:ops'[i1 + 2]? = some o2:=(hget 2).symm;have e3:ops'[i1 + 3]? = some o3:=(hget 3).symm;have gd:∀ {k:Nat} {o:Oper},ops'[k]? = some o->o.guard=none:=fun {k o} ho=>qT hng (by rw [ac8]; exact ho)
   split at hrun;rotate_left
   . simp [Tr.run] at hrun
   rename_i tA bA iA tS1 d1 x1 tB bB iB tS2 d2 x2 dA dB p0 p1 p2 p3 q0 q1 q2 q3;obtain ⟨L1,hL1,hrun⟩:=Tr.af hrun;obtain ⟨L2,hL2,hrun⟩:=Tr.af hrun;obtain ⟨tnA,hnA,hrun⟩:=Tr.af hrun;obtain ⟨tnB,hnB,hrun⟩:=Tr.af hrun;obtain ⟨ts1,ht1,hrun⟩:=Tr.af hrun;obtain ⟨ts2,ht2,hrun⟩:=Tr.af hrun;obtain ⟨tl1,hl1,hrun⟩:=Tr.af hrun;obtain ⟨tl2,hl2,hrun⟩:=Tr.af hrun;obtain ⟨tvA,hiA,hrun⟩:=Tr.af hrun;obtain ⟨pA,hpA,hrun⟩:=Tr.af hrun;obtain ⟨tvB,hiB,hrun⟩:=Tr.af hrun;obtain ⟨pB,hpB,hrun⟩:=Tr.af hrun;split at hrun;rotate_left
   . simp [Tr.run] at hrun
   rename_i r j s ee1 qq1 r2 j2 s2 ee2 qq2 rA jA sA rB jB sB hp1 hp2 hbA hbB;split at hrun;rotate_left
   . simp [Tr.run] at hrun
   rename_i s' m e ks xs hcell
   generalize hc:(((Nat.beq d1 dA && Nat.beq d2 dB) && ((E.dB dA && E.dB dB) && ((fJ dA (.tmp x1) && (fJ dA (.tmp bB) && (fJ dA iB && (fJ dA (.tmp x2) && fJ dB (.tmp x2))))) &&
    (tl1.agg && tl2.agg)))) && (((Nat.beq qq1 0 && Nat.beq qq2 0) && ((Nat.beq r2 r && (Nat.beq j2 j && Nat.beq s2 s)) && ((Nat.beq rA r && (Nat.beq jA j && Nat.beq sA s)) && ((Nat.beq rB r && (Nat.beq jB j && Nat.beq sB s)) && Nat.beq s' s)))) &&
    (Nat.beq ks.length tnA.ks.length && (Nat.beq ks.length tnB.ks.length && (Nat.beq ks.length ts1.ks.length && (Nat.beq ks.length ts2.ks.length && (Nat.beq tl1.ks.length ks.length && Nat.beq tl2.ks.length ks.length)))))))=cond at hrun
   cases cond with
   | false=>simp [Tr.run] at hrun
   | true =>
   simp only [ac6] at hrun;obtain ⟨idA,hrun⟩:=Tr.bo hrun;obtain ⟨idB,hrun⟩:=Tr.bo hrun;simp only [Tr.run,ac3] at hrun;subst hrun;simp only [ac5] at hc;obtain ⟨⟨⟨c1,c2⟩,⟨b0,b2⟩,⟨n1,n2,n3,n4,n5⟩,ag1,ag2⟩,⟨⟨z1,z2⟩,⟨y1,y2,y3⟩,⟨y4,y5,y6⟩,⟨y7,y8,y9⟩,y10⟩,w1,w2,w3,w4,w5,w6⟩:=hc;have c1:=beq_eq c1; have c2:=beq_eq c2; have z1:=beq_eq z1; have z2:=beq_eq z2;have y1:=beq_eq y1; have y2:=beq_eq y2; have y3:=beq_eq y3; have y4:=beq_eq y4; have y5:=beq_eq y5; have y6:=beq_eq y6; have y7:=beq_eq y7; have y8:=beq_eq y8; have y9:=beq_eq y9; have y10:=beq_eq y10;subst c1; subst c2; subst z1; subst z2; subst y1; subst y2; subst y3; subst y4; subst y5; subst y6; subst y7; subst y8; subst y9; subst y10;have hlt:(ops'.toList.take i1).length=i1:=by simp; omega
   have ldT:∀ {k x:Nat} {L:Nat×Nat},pN ops'.toList i1 k x=some L->pN (ops'.toList.take i1) (ops'.toList.take i1).length k x=some L:=fun {k x L} h=>by
    rw [hlt];unfold pN at h ⊢;split at h;rotate_left
    . simp at h
    rename_i o ho;split at h;rotate_left
    . simp at h
    rename_i t' p' x' hop hdst;have hk:k < i1:=by
     cases hb:Nat.blt k i1 with
     | true=>exact aen (adC hb)
     | false=>rw [hb] at h; simp at h
    rw [ad6,if_pos hk,ho];simp only [hop,hdst];exact h
   have hn0:0 < (bR ops'.toList []).length:=by rw [hlen]; omega
   obtain ⟨l1,u1,u2⟩:=yY hn0 hng' hv hvrt (ldT hL1) hl1 ag1 hNA hp1 hcell rfl (beq_eq w5);obtain ⟨l2,u3,u4⟩:=yY hn0 hng' hv hvrt (ldT hL2) hl2 ag2 hNA hp2 hcell rfl (beq_eq w6);have gx:∀ {x:Nat} {l:List AV},look (aD st bsF).tm x=some (.agg l)->(aD st bsF).get (.tmp x)=some (.agg l):=fun {x l} h=>by show (aD st bsF).tv x=_;rw [fk hNA]; exact h
   exact H4 hT hr hNA hsz e0 e1 e2 e3 (gd e0) (gd e1) (gd e2) (gd e3) q0 q1 q2 q3 b0 b2 p0 p1 p2 p3 n1 n2 n3 n4 n5 hcell (gx u1) (gx u3) u2 u4 hbA hbB hiA hpA hiB hpB hnA hnB ht1 ht2 (beq_eq w1) (beq_eq w2) (beq_eq w3) (beq_eq w4) idA idB
 . rw [ad5];simp [adb,hk]
 . rw [iy fun e _=>ad5 _];exact hr.world rfl rfl rfl rfl
theorem u0 (hT:bK P E) (hga:df P E) (hm:P.follows .mixedOrders=true) {c:Code} {id:Nat} {ints:List Nat} {ex:List (Nat×Nat)} {n k1 k2:Nat} (h:c= .region id (opsOf c) true):cH P E c (swapT E (opsOf c) ints ex n k1 k2):=by rw [h];exact Km hT hga hm
end
end Go.Av
namespace Go.Av
section
variable {P:Program} {E:En}
def lY (E:En) (ops:Array Oper) (ints:List Nat) (ex:List (Nat×Nat)) (st:St):Tr St :=
 bif ln ops ints ex && (gC (gW ex ops.toList 0) 0 && (lJ st ints && B4 E ops.toList)) then dO E true (gW ex ops.toList 0) (bR (gW ex ops.toList 0) []) (gW ex ops.toList 0) 0 st [] else .fail
theorem Er (hT:bK P E) (hga:df P E) (hm:P.follows .mixedOrders=true) {id:Nat} {ops:Array Oper} {ints:List Nat} {ex:List (Nat×Nat)}:cH P E (.region id ops true) (lY E ops ints ex):=by
 intro cx a w st st' h hrun;unfold lY at hrun;cases hc:ln ops ints ex && (gC (gW ex ops.toList 0) 0 && (lJ st ints && B4 E ops.toList)) with
 | false=>rw [hc] at hrun; simp [Tr.run] at hrun
 | true =>
   rw [hc] at hrun;simp only [ac6] at hrun;simp only [ac5] at hc;obtain ⟨hok,hed,hints,hdB⟩:=hc;have hI:=wv h hints hdB;have hW:=Bf hT hga;obtain ⟨h1,h2,Z,g,h3⟩:=h;refine wp_region_any hm ?_;refine IG hok (fun ⟨a,w,hq⟩=>hq) (fun c a w hq=>hq) ops.size _ a _ (by simp) hI ?_;have e1:(iR ex ops).toList=gW ex ops.toList 0:=by simp [iR]
   have hs:=sq ex ops;rw [<- e1] at hrun hed;obtain ⟨i1,bsF,k1,k2,k3,k4,k5,k6,k7,k8⟩:=jI (ops:=iR ex ops) (ns:=bR (iR ex ops).toList []) (i0:=0) hT hga h1 _ 0 rfl (adM _) (ac7 _) [] st' ⟨trivial,h1.MB,fun e he=>by simp at he,fun _ _ _ _ he=>by simp at he⟩ hrun;refine Gf (ops:=iR ex ops) (cx:=cx) (Q:=QO cx E (.nrm st')) hT hga hW hed (stF:=st') (fun Z g a w hr hn hs=>⟨hn,hs,Z,g,hr⟩) ops.size (Array.replicate ops.size false) 0 0 i1 st bsF a _ Z g (by simp [hs]) (fun k hk => ?_) (by rw [hs,mJ]; exact ac7 _) (fun k hk=>by omega) (fun k _=>ad5 k) (fun k hk=>by rw [ad5] at hk; simp at hk) k1 h1 k2 (fun e he=>⟨(k4 e he).1,(k4 e he).2.1⟩) k5 k7 k8 ?_ h2
   . rw [ad5];rw [hs] at hk;simp [adb,hk]
   . rw [iy fun e _=>ad5 _];exact h3.world rfl rfl rfl rfl
theorem zg (hT:bK P E) (hga:df P E) (hm:P.follows .mixedOrders=true) {c:Code} {id:Nat} {ints:List Nat} {ex:List (Nat×Nat)} (h:c= .region id (opsOf c) true):cH P E c (lY E (opsOf c) ints ex):=by rw [h];exact Er hT hga hm
end
end Go.Av
namespace Go.Av
noncomputable def Ei {β:Type} (G:Nat->Option β):Option β :=
 open Classical in if h:∃ (y:β) (n:Nat),∀ m,n<=m->G m=some y then some (Classical.choose h) else none
theorem Is {β:Type} {G:Nat->Option β} {y:β} (h:Ei G=some y):∃ n,G n=some y:=by
 unfold Ei at h;split at h
 . rename_i hh;obtain ⟨n,hn⟩:=ad7 hh;rw [aeb h] at hn;exact ⟨n,hn n (ac7 _)⟩
 . simp at h
theorem Pm {β:Type} {G:Nat->Option β} {y:β} {n:Nat} (h:∀ m,n<=m->G m=some y):Ei G=some y:=by unfold Ei;have hh:∃ (y:β) (n:Nat),∀ m,n<=m->G m=some y:=⟨y,n,h⟩;rw [dif_pos hh];obtain ⟨n',hn'⟩:=ad7 hh;have h1:=h (n + n') (by omega);have h2:=hn' (n + n') (by omega);rw [h1] at h2;rw [h2]
theorem ar.zero {P:Program} {f:Nat} {s:Su} (h:∀ x,s.uA x=none):ar P f s:=fun w Z F args x y _ _ _ _ _ hy=>by rw [h x] at hy;simp at hy
theorem ar.fix {P:Program} {f:Nat} {ps:List PK} {rs:List (Bool×List K)} {fr:Bool} {G:Nat->PT ps->Option (uw ps×CT rs)} (h:∀ n,ar P f ⟨ps,rs,fr,.inl (G n)⟩):ar P f ⟨ps,rs,fr,.inl fun x=>Ei fun n=>G n x⟩:=by intro w Z F args x y h0 h1 h2 h3 h4 hy;obtain ⟨n,hn⟩:=Is (show Ei (fun n=>G n x)=some y from hy);exact h n w Z F args x y h0 h1 h2 h3 h4 hn
def Su.ro (s:Su):Su:=⟨s.ps,s.rs,false,s.f⟩
theorem iV {Z:Nat->Prop} {w:World} {F G:Nat->Nat->Prop}:∀ (ps:List PK) (x:PT ps) (vs:List Value) (n m:Nat),gN ps=true->dz Z w F ps x vs n->dz Z w G ps x vs m
 | [],_,[],_,_,_,_=>trivial
 | [],_,_ :: _,_,_,_,h=>h.elim
 | .c _ _ :: ps,x,v :: vs,n,m,hq,h=>⟨h.1,iV ps x.2 vs n m hq h.2⟩
 | .pt _ :: ps,x,v :: vs,n,m,hq,h=>⟨h.1,iV ps x.2 vs n m hq h.2⟩
 | .nil :: ps,x,v :: vs,n,m,hq,h=>⟨h.1,iV ps x vs n m hq h.2⟩
 | .fn _ _ :: ps,x,v :: vs,n,m,hq,h=>⟨h.1,iV ps x.2 vs n m hq h.2⟩
 | .io _ _ :: _,_,_,_,_,hq,_=>by simp [gN] at hq
 | .mv _ :: _,_,_,_,_,hq,_=>by simp [gN] at hq
 | .c _ _ :: _,_,[],_,_,_,h=>h.elim
 | .pt _ :: _,_,[],_,_,_,h=>h.elim
 | .nil :: _,_,[],_,_,_,h=>h.elim
 | .fn _ _ :: _,_,[],_,_,_,h=>h.elim
theorem ld {Z Z':Nat->Prop} {w w':World} {G:Nat->Nat->Prop} {F:Nat->Nat->Prop}:∀ (ps:List PK) (x:PT ps) (y:uw ps) (vs:List Value) (n m:Nat),gN ps=true->dz Z w F ps x vs n->vF Z' w' G ps y vs m
 | [],_,_,[],_,_,_,_=>trivial
 | [],_,_,_ :: _,_,_,_,h=>h.elim
 | .c _ _ :: ps,x,y,v :: vs,n,m,hq,h=>ld ps x.2 y vs n m hq h.2
 | .pt _ :: ps,x,y,v :: vs,n,m,hq,h=>ld ps x.2 y vs n m hq h.2
 | .nil :: ps,x,y,v :: vs,n,m,hq,h=>ld ps x y vs n m hq h.2
 | .fn _ _ :: ps,x,y,v :: vs,n,m,hq,h=>ld ps x.2 y vs n m hq h.2
 | .io _ _ :: _,_,_,_,_,_,hq,_=>by simp [gN] at hq
 | .mv _ :: _,_,_,_,_,_,hq,_=>by simp [gN] at hq
 | .c _ _ :: _,_,_,[],_,_,_,h=>h.elim
 | .pt _ :: _,_,_,[],_,_,_,h=>h.elim
 | .nil :: _,_,_,[],_,_,_,h=>h.elim
 | .fn _ _ :: _,_,_,[],_,_,_,h=>h.elim
theorem fz {Z Z':Nat->Prop} {w:World} {H H':Nat->Nat->Prop} (hz:∀ n b,H n b->Z' b):∀ (ks:List K) (x:Tl ks) (cs:List Value) (j j':Nat),aQ true Z w H ks x cs j->aQ false Z' w H' ks x cs j'
 | [],_,[],_,_,_=>trivial
 | [],_,_ :: _,_,_,h=>h.elim
 | .sl e ks' :: ks,x,v :: vs,j,j',h=>⟨cO.ro (.sl e ks') x.1 v (H j) (fun b hb=>hz j b hb) h.1,fz hz ks x.2 vs (j + 1) j' h.2⟩
 | .int k :: ks,x,v :: vs,j,j',h=>⟨eN (k:= .int k) rfl h.1,fz hz ks x.2 vs j j' h.2⟩
 | .bool :: ks,x,v :: vs,j,j',h=>⟨eN (k:= .bool) rfl h.1,fz hz ks x.2 vs j j' h.2⟩
 | .str :: ks,x,v :: vs,j,j',h=>⟨eN (k:= .str) rfl h.1,fz hz ks x.2 vs j j' h.2⟩
 | .sl _ _ :: _,_,[],_,_,h=>h.elim
 | .int _ :: _,_,[],_,_,h=>h.elim
 | .bool :: _,_,[],_,_,h=>h.elim
 | .str :: _,_,[],_,_,h=>h.elim
theorem wY {Z Z':Nat->Prop} {w:World} {H H':Nat->Nat->Prop} (hz:∀ n b,H n b->Z' b):∀ (rs:List (Bool×List K)) (y:CT rs) (vs:List Value) (j j':Nat),lk true Z w H rs y vs j->lk false Z' w H' rs y vs j'
 | [],_,[],_,_,_=>trivial
 | [],_,_ :: _,_,_,h=>h.elim
 | (gg,ks) :: rs,y,v :: vs,j,j',h=>by obtain ⟨⟨cs,e1,e2⟩,h2⟩:=h;exact ⟨⟨cs,e1,fz hz ks y.1 cs j j' e2⟩,wY hz rs y.2 vs _ _ h2⟩
 | _ :: _,_,[],_,_,h=>h.elim
theorem Su.Tn (s:Su) (x:PT s.ps):s.ro.uA x=s.uA x:=by obtain ⟨ps,rs,fr,f⟩:=s;cases f <;> rfl
theorem ar.ro {P:Program} {f:Nat} {s:Su} (hq:gN s.ps=true) (hf:s.fresh=true) (h:ar P f s):ar P f s.ro:=by
 intro w Z F args x y hgl hargs hZ hF hd hy;have hy:s.uA x=some y:=(s.Tn x).symm.trans hy;have h1:=h w Z (fun _ _=>False) args x y hgl (iV s.ps x args.toList 0 0 hq hargs) hZ (fun _ _ h=>h.elim) (fun _ _ _ h=>h.elim) hy;rw [hf] at h1;refine CW.mono h1 fun v w' ⟨Z',H,vs,e,ha,_,hr⟩ => ?_
 have hnew:∀ n b,H n b->b < w'.heap.size/\w.heap.size<=b:=fun n b hb=>by
  obtain ⟨q1,_,q3⟩:=ha.fp n b hb;rcases q3 with ⟨_,q3⟩ | q3
  . exact q3.elim
  . exact ⟨q1,q3⟩
 refine ⟨fun b=>Z' b∨∃ n,H n b,fun _ _=>False,vs,e,?_,ld s.ps x y.1 args.toList 0 0 hq hargs,wY (fun n b hb=> .inr ⟨_,hb⟩) _ _ _ _ _ hr⟩
 exact { os:=ha.os,tape:=ha.tape,output:=ha.output,size:=ha.size
         block:=fun b hb _=>ha.block b hb fun _ h=>h
         z:=fun b hb=> .inl (ha.z b hb)
         bS:=fun b hb=>by
          rcases hb with hb | ⟨n,hb⟩
          . exact ha.bS b hb
          . exact ⟨(hnew n b hb).1,.inr (hnew n b hb).2⟩
         fp:=fun n b h=>h.elim
         disj:=fun n m b h=>h.elim }
end Go.Av
namespace Go.Av
open Go.RowKit (Below)
section
variable {P:Program} {w:World} {E:En}
theorem GH {e:TypeId} {ks:List K} {xs:T (.sl e ks)} {aa:Option Addr} {l cap n:Nat} {F:Nat->Prop} (h:cO w (.sl e ks) xs (.slice aa l cap) F) (hn:n<=l) :
 ∃ (FH FR:Nat->Prop) (news:List Value) (H:Nat->Nat->Nat->Prop),vc w ks (List.take n (aG xs)) news H FH/\(Builtin.lenOf (.slice aa n cap)).run P w= .ok (List.take n (aG xs)).length w /\
  (∀ w1:World,w1.heap=w.heap->(Builtin.firstCells ks.length (List.take n (aG xs)).length (.slice aa n cap)).run P w1= .ok news.toArray w1) /\
  cO w (.sl e ks) (List.drop n (aG xs)) (.slice (if cap=n then aa else aa.map (·.add (n * ks.length))) (l - n) (cap - n)) FR/\(∀ q,FH q->F q/\¬ FR q)/\(∀ q,FR q->F q)/\l=(aG xs).length/\l<=cap:=by
 obtain ⟨a',c',h1,h2,h3,h4,h5⟩:=h;simp only [adX] at h1;obtain ⟨rfl,rfl,rfl⟩:=h1;have hlt:(List.take n (aG xs)).length=n:=(adJ (l:=aG xs) (i:=n)).trans (afb hn);have hld:(aG (e:=e) (ks:=ks) (List.drop n (aG xs))).length=(aG xs).length - n:=adZ ..
 cases aa with
 | none =>
   have hc:=h4 rfl;have hn0:n=0:=by omega
   have hx0:aG xs=[]:=adl.1 (by omega);subst hn0;refine ⟨fun _=>False,fun _=>False,[],fun _ _ _=>False,⟨by simp,by simp,fun _ _ _ h=>h.elim,fun _ _ _ _ _ h=>h.elim,fun i y hi=>by simp at hi⟩,by rw [hlt]; rfl,fun w1 _=>by rw [hlt]; exact run_firstCells_none (P:=P) w1 _ _ _ _,?_,fun _ h=>h.elim,fun _ h=>h.elim,rfl,h2⟩;rw [hc,hx0];exact jx e ks
 | some aa =>
   obtain ⟨b,o,cs,el,fr,rfl,k2,k3,k4,k5,G,k6,k7,k8⟩:=h5 _ rfl;have hcn:n * ks.length<=cap * ks.length:=adz _ (by omega);have hbound:∀ q,q < n * ks.length->o + q < cs.size:=fun q hq=>by omega
   have hnl:∀ q,q < n * ks.length->((List.range (n * ks.length)).map fun q=>cs.getD (o + q) undef)[q]? = cs[o + q]? := fun q hq=>by have:=hbound q hq;simp [hq,this]
   have hrow:∀ i x,(List.take n (aG xs))[i]? = some x->i < n/\(aG xs)[i]? = some x:=fun i x hx=>by
    rw [ad6] at hx;split at hx
    . rename_i hi; exact ⟨hi,hx⟩
    . simp at hx
   refine ⟨fun q=>∃ i j,i < n/\G i j q,fun q=>q=b∨∃ i j,n<=i/\G i j q,(List.range (n * ks.length)).map fun q=>cs.getD (o + q) undef,fun i j q=>i < n/\G i j q,⟨by rw [hlt]; simp,fun u hu => ?_,fun i j b' hb'=>⟨i,j,hb'⟩,fun i j i' j' q h1 h2=>k7 _ _ _ _ q h1.2 h2.2,fun i y hi => ?_⟩,by rw [hlt]; rfl,fun w1 hw1 => ?_,?_,fun q ⟨i,j,hi,hq⟩=>⟨(k6 i j q hq).1,?_⟩,fun q hq => ?_,rfl,h2⟩
   . obtain ⟨q,hq,rfl⟩:=ae9.1 hu;obtain ⟨q1,q2,q3⟩:=sS (ad9.1 hq);obtain ⟨v,f1,f2⟩:=xr ks _ 0 _ (q % ks.length) (k8 _ _ (adi (show q / ks.length < (aG xs).length by omega))) q2;rw [aeK,<- q3] at f1;rw [adb,f1];exact f2
   . obtain ⟨hil,hi'⟩:=hrow i y hi;refine iG ks y 0 (G i) _ cs _ _ _ (fun q hq => ?_) (fun _ _ h=>⟨hil,h⟩) (fun _ _ _ _=>rfl) (k8 i y hi');rw [adS,hnl _ (yD hil hq),aeK]
   . rw [hlt];refine run_firstCells_some (P:=P) w1 _ _ ⟨b,o,none⟩ _ _ _ (by simp) fun j v hj => ?_
     have hjl:j < n * ks.length:=by
      rcases adj j (n * ks.length) with hh | hh
      . exact hh
      . rw [adp (by simpa using hh)] at hj; simp at hj
     rw [hnl j hjl] at hj;rw [gI];simp only [World.cell?,hw1,k3];exact hj
   . have hsub:n * ks.length + (cap - n) * ks.length=cap * ks.length:=by
      rw [<- adR]; congr 1; omega
     have hget:∀ i x,(List.drop n (aG xs))[i]? = some x->eP w ks x 0 (G (n + i)) cs (o + (n + i) * ks.length):=fun i x hx=>by rw [aer] at hx;exact k8 _ _ hx
     refine ⟨_,cap - n,by rw [hld],by rw [hld]; omega,by rw [hld]; omega,fun h0 => ?_,fun a'' ha'' => ?_⟩
     . split at h0
       . simp at h0
       . simp at h0
     . split at ha''
       . rename_i hcap;simp only [ac3] at ha'';subst ha'';refine ⟨b,o,cs,el,fr,rfl,.inl rfl,k3,k4,by rw [hcap]; simp; omega,fun i j q=>G (n + i) j q,fun i j q hq=>⟨.inr ⟨n + i,j,by omega,hq⟩,(k6 _ _ q hq).2⟩,fun i j i' j' q h1 h2 => ?_,fun i x hx => ?_⟩
         . obtain ⟨e1,e2⟩:=k7 _ _ _ _ q h1 h2;exact ⟨by omega,e2⟩
         . exfalso;have hx':(List.drop n (aG xs))[i]? = some x:=hx;rw [adp (by rw [adZ]; omega)] at hx';simp at hx'
       . rename_i hcap;simp only [adG,ac3,gI] at ha'';subst ha'';refine ⟨b,o + n * ks.length,cs,el,fr,rfl,.inl rfl,k3,k4,by omega,fun i j q=>G (n + i) j q,fun i j q hq=>⟨.inr ⟨n + i,j,by omega,hq⟩,(k6 _ _ q hq).2⟩,fun i j i' j' q h1 h2 => ?_,fun i x hx => ?_⟩
         . obtain ⟨e1,e2⟩:=k7 _ _ _ _ q h1 h2;exact ⟨by omega,e2⟩
         . have:=hget i x hx;rw [adR,<- aeK] at this;exact this
   . rintro (e | ⟨i',j',hi',hq'⟩)
     . exact (k6 i j q hq).2 e
     . have:=(k7 _ _ _ _ q hq hq').1;omega
   . rcases hq with rfl | ⟨i,j,_,hq⟩
     . exact k2
     . exact (k6 i j q hq).1
end
end Go.Av
namespace Go.Av
open Go.RowKit (Below)
def JY (st5:St) (r j s tO d2 d3 d4 d5 d6:Nat) (k:IntKind) (n:Int) (kk:K) (z:T kk):St :=
 (((((st5.aE d2 (.v .dead,none)).aE d3 (.v (.d (.int k) n),none)).aE d4 (.v .dead,none)).aE tO (.v (.pre r j (s + 1) n.toNat),none)).aE d5 (.v (.ref d5 0 0),some ⟨false,[⟨0,0,.own kk z⟩]⟩)).aE d6 (.v (.ref d5 0 0),none)
def mD (a b:Nat):Bool:= !Nat.beq a b
theorem fB {a b:Nat} (h:mD a b=true):a≠b:=by simp only [mD,adK] at h;exact aew h
def DE (st:St) (r:Nat):Bool:=match look st.rt r with | some R=> !R.box | none=>false
def xo (E:En) (op1:Op) (tS tA tA2 tO tK d1 d2 d3 d4 d5 d6:Nat) (st:St):Tr St :=
 (yG E st d1 op1).bind fun p=>Tr.bu (E.ti tA) fun ti=>Tr.bu (E.sl tA) fun te=>Tr.bu (E.sl tS) fun tn=>Tr.bu p.1.Cp fun av1=>Tr.bu ((st.aE d1 p).dS (.sl ti.elem te.ks) av1) fun q =>
 (match st.tv tO,st.tv tK with
 | some (.v (.ref r j s)),some (.v (.d (.int k) n))=>(match q.1.cell r j with
   | some ⟨s',m,.own k0 x0⟩=>Tr.bu (gV k0 (.sl ti.elem te.ks) x0) fun xs =>
     bif (Nat.beq s' s && (Nat.beq tn.ks.length te.ks.length && (E.str tA2 || (E.sl tA2).isSome))) && ((q.1.free d5 && (Nat.blt 0 te.bytes && (st.free d1 && DE q.1 r))) && ((E.dB d1 && (E.dB d2 && (E.dB d3 && (E.dB d4 && (E.dB d5 && (E.dB d6 && E.dB tO)))))) &&
      ((mD tO d1 && (mD tO d2 && (mD tO d3 && (mD tO d4)))) && ((mD tK d1 && mD tK d2) && (mD d1 d2 && (mD d1 d3 && (mD d1 d4 && mD d2 d3)))))))
     then .need (gp 0 n (aG xs).length) (.need (Nat.ble (((aG q.2).length + n.toNat) * te.bytes) aT)
      (.ret (JY (q.1.setCell r j ⟨s + 1,m + 1,.own (.sl ti.elem te.ks) (List.drop n.toNat (aG xs))⟩) r j s tO d2 d3 d4 d5 d6 k n (.sl ti.elem te.ks) (cat te.ks (aG q.2) (List.take n.toNat (aG xs))))))
     else .fail
   | _=> .fail)
 | _,_=> .fail)
section
variable {P:Program} {E:En} {cx:Cx P} {Z:Nat->Prop} {g:Gh} {st v:St} {a:Act} {w:World}
theorem bt.bind {st:St} (h:bt st) {d:Nat} {b:AV} {R:Option Rt}:bt (st.aE d (.v b,R)):=fun t tv ht=>by
 rw [bd] at ht;split at ht
 . simp only [ac3] at ht; subst ht; exact fun h=>h
 . exact h t tv ht
theorem zl {st:St} (h:bt st) {d t:Nat} (hne:t≠d) {b:AV} {R:Option Rt}:(st.aE d (.v b,R)).tv t=st.tv t:=by rw [fk (bt.bind h),fk h,bd,if_neg (fun e=>hne e.symm)]
theorem IU {a:Act} {d:Nat} {v:Value} (h:a.eval (.tmp d)=v) (hd:d < a.tmps.size):a.put (some d) v=a:=by
 have h:a.tmps.getD d undef=v:=h;have:a.tmps.setIfInBounds d v=a.tmps:=by
  apply aeH;intro i;rw [ad1];by_cases e:d=i
  . subst e;rw [if_pos rfl,if_pos hd,<- h];simp [adb,hd]
  . rw [if_neg e]
 cases a;simp only [Act.put] at this ⊢;congr 1
theorem HI (hT:bK P E) (hga:df P E) {rid tS tA tA2 tO tK d1 d2 d3 d4 d5 d6:Nat} {o1 o2 o3 o4 o5 o6:Oper} {c:Call} {tys:List Nat}
 (e1:o1.dst=some d1) (g1:o1.guard=none) (e2:o2.dst=some d2) (p2:o2.op= .move (.tmp tO)) (g2:o2.guard=none) (e3:o3.dst=some d3) (p3:o3.op= .move (.tmp tK)) (g3:o3.guard=none)
 (e4:o4.dst=some d4) (p4:o4.op= .slice tS (.tmp d2) none (some (.tmp d3)) none) (g4:o4.guard=none) (e5:o5.dst=some d5) (p5:o5.op= .call c) (g5:o5.guard=none) (hcal:c.callee= .builtin .append) (hargs:c.args.toList=[.tmp d1,.tmp d4]) (hts:c.argTypes.toList=tA :: tA2 :: tys)
 (e6:o6.dst=some d6) (p6:o6.op= .assign (.tmp d5)) (g6:o6.guard=none) :
 cH P E (.region rid #[o1,o2,o3,o4,o5,o6] false) (xo E o1.op tS tA tA2 tO tK d1 d2 d3 d4 d5 d6):=by
 intro cx a w st st' h hrun;unfold xo at hrun;rw [Tr.run_bind] at hrun;cases hq1:(yG E st d1 o1.op).run with
 | none=>rw [hq1] at hrun; simp at hrun
 | some p =>
 rw [hq1] at hrun;simp only [adq] at hrun;obtain ⟨ti,hti,hrun⟩:=Tr.af hrun;obtain ⟨te,hte,hrun⟩:=Tr.af hrun;obtain ⟨tn,htn,hrun⟩:=Tr.af hrun;obtain ⟨av1,hav1,hrun⟩:=Tr.af hrun;obtain ⟨⟨st2,y0⟩,htk,hrun⟩:=Tr.af hrun;simp only at hrun;split at hrun;rotate_left
 . simp [Tr.run] at hrun
 rename_i r j s k n hO hK;split at hrun;rotate_left
 . simp [Tr.run] at hrun
 rename_i s' m k0 x0 hcell;obtain ⟨xs,hxs,hrun'⟩:=Tr.af hrun;clear hrun;have hrun:=hrun'; clear hrun';obtain ⟨rfl,hxs⟩:=cF hxs;simp only at hxs;obtain rfl:=hxs.symm
 generalize hc:((Nat.beq s' s && (Nat.beq tn.ks.length te.ks.length && (E.str tA2 || (E.sl tA2).isSome))) && ((st2.free d5 && (Nat.blt 0 te.bytes && (st.free d1 && DE st2 r))) && ((E.dB d1 && (E.dB d2 && (E.dB d3 && (E.dB d4 && (E.dB d5 && (E.dB d6 && E.dB tO)))))) &&
  ((mD tO d1 && (mD tO d2 && (mD tO d3 && (mD tO d4)))) && ((mD tK d1 && mD tK d2) && (mD d1 d2 && (mD d1 d3 && (mD d1 d4 && mD d2 d3))))))))=cond at hrun
 cases cond with
 | false=>simp [Tr.run] at hrun
 | true =>
 simp only [ac6] at hrun;obtain ⟨hcut,hrun⟩:=Tr.bo hrun;obtain ⟨hble,hrun⟩:=Tr.bo hrun;simp only [Tr.run,ac3] at hrun;subst hrun;simp only [ac5] at hc;obtain ⟨⟨cs1,cs2,hstr⟩,⟨hfree5,hby,hfree1,hnb⟩,⟨b1,b2,b3,b4,b5,b6,bO⟩,⟨nO1,nO2,nO3,nO4⟩,⟨nK1,nK2⟩,n12,n13,n14,n23⟩:=hc;have cs1:=beq_eq cs1;subst cs1;have cs2:=beq_eq cs2;have hby:0 < te.bytes:=aen (adC hby);have nO1:=fB nO1; have nO2:=fB nO2; have nO3:=fB nO3; have nO4:=fB nO4; have nK1:=fB nK1; have nK2:=fB nK2;have n12:=fB n12; have n13:=fB n13; have n14:=fB n14; have n23:=fB n23;obtain ⟨q0,q1,q2⟩:=fP hcut;obtain ⟨ks0,_,_,_,q4⟩:=qX hT hte hti;have hTe:=hT _ _ q4;obtain ⟨tt,ks1,t1,_,_,_,hu⟩:=dx hT hte;rw [hti] at t1;simp only [ac3] at t1;subst t1;obtain ⟨dd2,hu2,hd2⟩:∃ d2,P.underlying tA2=some d2/\∀ k,d2≠ .int k:=by
  rw [ad8] at hstr;rcases hstr with h2 | h2
  . exact ⟨_,lI hT h2,fun _ h=>by simp at h⟩
  . obtain ⟨te2,h2⟩:=aeZ.1 h2;obtain ⟨_,_,_,_,_,_,hu2⟩:=dx hT h2;exact ⟨_,hu2,fun _ h=>by simp at h⟩
 obtain ⟨_,_,_,_,_,u4,huS⟩:=dx hT htn;have hsS:=fun w=>bM (hT _ tn u4) (P:=P) w
 obtain ⟨hn,hsz,Z,g,hr⟩:=h;refine wp_region ?_;show wpOps P #[o1,o2,o3,o4,o5,o6] _ [0,1,2,3,4,5] a w;rw [wpOps_cons];refine bz (i:=0) rfl g1 ?_;refine zi hT hga ⟨fun _ _ h=>h,fun _ _ h=>h⟩ hr hn.cons e1 (hsz.dst b1) hfree1 hq1 _ _ fun Z1 gg1 v1 w1 hr1 => ?_
 have hp1:p=(.v av1,p.2):=by
  obtain ⟨pa,pb⟩:=p;cases pa with
  | v av=>simp only [TV.Cp,ac3] at hav1; subst hav1; rfl
  | _=>simp [TV.Cp] at hav1
 have hsz1:Fit cx E (a.put (some d1) v1):=hsz.put _ _;generalize ha1:a.put (some d1) v1=a1 at hr1 hsz1 ⊢;have hn1:bt (st.aE d1 p):=by rw [hp1]; exact hn.bind
 have hx1:(st.aE d1 p).get (.tmp d1)=some (.v av1):=by show St.tv _ d1=_;rw [fk hn1,bd,if_pos rfl,hp1]
 obtain ⟨gg2,F1,k1,k2,k3,k4,k5,k6,k7⟩:=fw hr1 (aM hr1 hn1.cons.cons hx1) htk;have hn2:bt st2:=fun t tv ht=>hn1 t tv (by rw [<- k2.tm]; exact ht)
 have hO2:st2.get (.tmp tO)=some (.v (.ref r j s')):=by rw [Ae k2.tm];show St.tv _ tO=_;rw [hp1,zl hn nO1];exact hO
 have hK2:st2.get (.tmp tK)=some (.v (.d (.int k) n)):=by rw [Ae k2.tm];show St.tv _ tK=_;rw [hp1,zl hn nK1];exact hK
 have vO:a1.eval (.tmp tO)=gg2.cv r j:=by obtain ⟨cc,y1,y2,y3⟩:=aM k1 hn2.cons.cons hO2;rw [hcell] at y1;cases y1;exact y3 rfl
 have hown:cO w1 (.sl ti.elem te.ks) xs (gg2.cv r j) (gg2.fp r j):=k1.cell r j _ hcell;obtain ⟨aa,cap,v0,v2,v3,v4,v5⟩:=hown;have hown:cO w1 (.sl ti.elem te.ks) xs (gg2.cv r j) (gg2.fp r j):=k1.cell r j _ hcell;rw [v0] at hown;obtain ⟨FH,FR,news,H,w0,wl,wc,wr,wfh,wfr,wlen,wcap⟩:=GH (P:=P) hown (n:=n.toNat) (by omega);generalize htail:Value.slice (if cap=n.toNat then aa else aa.map (·.add (n.toNat * te.ks.length))) ((aG xs).length - n.toNat) (cap - n.toNat)=vt at wr;have hld:(List.drop n.toNat (aG xs)).length=(aG xs).length - n.toNat:=adZ ..
 have hlt:(List.take n.toNat (aG xs)).length=n.toNat:=(adJ (l:=aG xs) (i:=n.toNat)).trans (afb (by omega))
 have hch:=k1.change hcell (c':=⟨s' + 1,m + 1,.own (.sl ti.elem te.ks) (List.drop n.toNat (aG xs))⟩) (w':=w1) (v':=vt) (F':=FR) rfl rfl rfl (ac7 _) (afi _) (ael _)
  (fun e=>absurd e (ae6 _)) (fun e=>absurd e (ae6 _)) (fun _ _ _ _=>rfl)
  (fun q hq=>by have hq':=wfr q hq;obtain ⟨z1,z2,z3,_⟩:=k1.fp r j q hq';exact ⟨z1,z2,z3,fun r' j' hh=>k1.disj _ _ _ _ _ hh hq',fun r' R' hR' hx he=>(k1.box r' R' hR' hx).2.2.1 r j (by rw [he]; exact hq'),_,_,rfl⟩)
  (fun R' hR' hx=>by unfold DE at hnb;rw [hR'] at hnb;simp [hx] at hnb)
  (fun kp=>wr)
 obtain ⟨h3,m3⟩:=hch;generalize hst3:st2.setCell r j ⟨s' + 1,m + 1,.own (.sl ti.elem te.ks) (List.drop n.toNat (aG xs))⟩=st3 at h3 m3;generalize hgg3:gg2.jv r j vt FR=gg3 at h3 m3;have hn3:bt st3:=fun t tv ht=>hn2 t tv (by rw [<- m3.tm]; exact ht)
 have hcell3:st3.cell r j=some ⟨s' + 1,m + 1,.own (.sl ti.elem te.ks) (List.drop n.toNat (aG xs))⟩:=by rw [<- hst3,cJ,if_pos ⟨rfl,rfl⟩,hcell];rfl
 have hcv3:gg3.cv r j=vt:=by rw [<- hgg3]; simp [Gh.jv]
 have hfp3:∀ r' j' b,gg3.fp r' j' b->(r'=r/\j'=j/\FR b)∨(¬ (r'=r/\j'=j)/\gg2.fp r' j' b):=fun r' j' b hb=>by
  rw [<- hgg3] at hb;simp only [Gh.jv] at hb;split at hb
  . rename_i e; exact .inl ⟨e.1,e.2,hb⟩
  . rename_i e; exact .inr ⟨e,hb⟩
 have hfp32:∀ r' j' b,gg3.fp r' j' b->gg2.fp r' j' b:=fun r' j' b hb=>by
  rcases hfp3 r' j' b hb with ⟨rfl,rfl,hb⟩ | ⟨_,hb⟩
  . exact wfr b hb
  . exact hb
 have hFree1:gK cx Z1 gg3 st3 w1 F1:=k4.mono hfp32 m3.be m3.box;rw [wpOps_cons];refine bz (i:=1) rfl g2 ?_;have run2:(execOp a1.eval o2).run P w1= .ok (.value (a1.eval (.tmp tO))) w1:=by simp [execOp,p2]
 unfold Oper.wp;rw [run2,adI,e2,vO];have h4:=h3.fA (d:=d2) (tv:= .v .dead) (v:=gg2.cv r j) (hsz1.dst b2) trivial;have hsz2:=hsz1.put (some d2) (gg2.cv r j);have hv2:(a1.put (some d2) (gg2.cv r j)).eval (.tmp d2)=gg2.cv r j:=cI (hsz1.dst b2).1;have ev2:∀ t,t≠d2->(a1.put (some d2) (gg2.cv r j)).eval (.tmp t)=a1.eval (.tmp t):=fun t ht=>Act.eval_put fun d e e'=>by cases e; cases e'; exact ht rfl
 generalize ha2:a1.put (some d2) (gg2.cv r j)=a2 at h4 hsz2 hv2 ev2 ⊢;rw [wpOps_cons];refine bz (i:=2) rfl g3 ?_;have vK:a2.eval (.tmp tK)= .int k n:=by rw [ev2 tK nK2];exact (cS (aM k1 hn2.cons.cons hK2) (show TV.int? (.v (.d (.int k) n))=some (k,n) from rfl)).1
 have hKr:mq k n:=(cS (aM k1 hn2.cons.cons hK2) (show TV.int? (.v (.d (.int k) n))=some (k,n) from rfl)).2;have run3:(execOp a2.eval o3).run P w1= .ok (.value (.int k n)) w1:=by simp [execOp,p3,vK]
 unfold Oper.wp;rw [run3,adI,e3];have h5:=h4.fA (d:=d3) (tv:= .v (.d (.int k) n)) (v:= .int k n) (hsz2.dst b3) ⟨rfl,hKr⟩;have hsz3:=hsz2.put (some d3) (.int k n);have hv3:(a2.put (some d3) (.int k n)).eval (.tmp d3)= .int k n:=cI (hsz2.dst b3).1;have ev3:∀ t,t≠d3->(a2.put (some d3) (.int k n)).eval (.tmp t)=a2.eval (.tmp t):=fun t ht=>Act.eval_put fun d e e'=>by cases e; cases e'; exact ht rfl
 generalize ha3:a2.put (some d3) (.int k n)=a3 at h5 hsz3 hv3 ev3 ⊢;have hn5:bt ((st3.aE d2 (.v .dead,none)).aE d3 (.v (.d (.int k) n),none)):=hn3.bind.bind;rw [wpOps_cons];refine bz (i:=3) rfl g4 ?_;have hlh:jY ((st3.aE d2 (.v .dead,none)).aE d3 (.v (.d (.int k) n),none)) none (some (.tmp d3)) (aG xs).length=some ((0:Int),n):=by
  have:((st3.aE d2 (.v .dead,none)).aE d3 (.v (.d (.int k) n),none)).get (.tmp d3)=some (.v (.d (.int k) n)):=by show St.tv _ d3=_;rw [fk hn5,bd,if_pos rfl]
  simp only [jY,this,TV.int?,AV.int?];rfl
 have hslice:(execOp a3.eval o4).run P w1= .ok (.value (.slice aa n.toNat cap)) w1:=by
  have hs:=nO huS hsS (aa:=aa) (jS (P:=P) h5 hn5.cons.cons true hlh hcut wcap);have hv:a3.eval (.tmp d2)= .slice aa (aG xs).length cap:=by rw [ev3 d2 n23,hv2,v0]
  have haa:(if cap=(0:Int).toNat then aa else aa.map (·.add ((0:Int).toNat * tn.ks.length)))=aa:=by
   cases aa with
   | none=>simp
   | some ad => obtain ⟨b,o,_,_,_,rfl,_⟩:=v5 ad rfl;simp [gI]
  rw [haa] at hs;simp only [aez,Int.toNat_zero,Nat.sub_zero] at hs;simp only [execOp,p4,hv,aez,adv,hs,adh];rfl
 unfold Oper.wp;rw [hslice,adI,e4];have h6:=h5.fA (d:=d4) (tv:= .v .dead) (v:= .slice aa n.toNat cap) (hsz3.dst b4) trivial;have hsz4:=hsz3.put (some d4) (.slice aa n.toNat cap);have hv4:(a3.put (some d4) (.slice aa n.toNat cap)).eval (.tmp d4)= .slice aa n.toNat cap:=cI (hsz3.dst b4).1;have ev4:∀ t,t≠d4->(a3.put (some d4) (.slice aa n.toNat cap)).eval (.tmp t)=a3.eval (.tmp t):=fun t ht=>Act.eval_put fun d e e'=>by cases e; cases e'; exact ht rfl
 generalize ha4:a3.put (some d4) (.slice aa n.toNat cap)=a4 at h6 hsz4 hv4 ev4 ⊢;have hn6:bt (((st3.aE d2 (.v .dead,none)).aE d3 (.v (.d (.int k) n),none)).aE d4 (.v .dead,none)):=hn5.bind;have vO4:a4.eval (.tmp tO)=gg2.cv r j:=by rw [ev4 tO nO4,ev3 tO nO3,ev2 tO nO2,vO]
 have vX4:a4.eval (.tmp d1)=a1.eval (.tmp d1):=by rw [ev4 d1 n14,ev3 d1 n13,ev2 d1 n12]
 have h7:=h6.fA (d:=tO) (tv:= .v (.pre r j (s' + 1) n.toNat)) (v:=gg2.cv r j) (hsz4.dst bO) (by
  refine ⟨_,hcell3,ac7 _,fun _=>⟨_,_,_,rfl,aa,(aG xs).length,cap,v0,by omega,wcap,?_,?_⟩⟩
  . show (aG xs).length=n.toNat + (List.drop n.toNat (aG xs)).length;rw [hld]; omega
  . show gg3.cv r j=_;rw [hcv3,<- htail])
 rw [IU vO4 (hsz4.dst bO).1] at h7;rw [wpOps_cons];refine bz (i:=4) rfl g5 ?_;have hbytes:((aG y0).length + (List.take n.toNat (aG xs)).length) * te.bytes<=aT:=by rw [hlt]; exact adC hble
 obtain ⟨v',w2,F',r1,r2,r3,r4,r5,r6,r7,r8,r9⟩:=zn (P:=P) (ty:=o5.type) (ats:=c.argTypes) hu hTe hu2 hd2 (by rw [<- ac8,hts]; rfl) (by rw [<- ac8,hts]; rfl) hby k3 w0 wl wc
  (fun q hq=>by
    rcases hq with hq | hq
    . exact k4.lt q hq
    . exact (k1.fp r j q (wfh q hq).1).1) (fun q hq hF=>k4.fp q hF r j (wfh q hq).1) hbytes
 have hargs':c.args = #[.tmp d1,.tmp d4]:=by rw [<- aec (xs:=c.args),hargs]
 have run5:(execOp a4.eval o5).run P w1= .ok (.value v') w2:=by simp only [execOp,p5,resolve,hcal,hargs',adv,adN,adh,invoke,builtin,aeC,ad4,ae1,vX4,hv4,r1]
 unfold Oper.wp;rw [run5,adI,e5];have h8:=h7.wr (w':=w2) (F:=F1) ⟨hFree1.lt,hFree1.own,hFree1.z,hFree1.fp,hFree1.box⟩ r2 r3 r4 r5 r6;have hFb:∀ b,F' b->b < w2.heap.size/\(cx.F0 b∨cx.w0.heap.size<=b)/\¬ Z1 b/\(∀ r j,¬ gg3.fp r j b)/\(∀ r' R',look st3.rt r'=some R'->R'.box=true->gg3.be r'≠b):=fun b hb=>by
  obtain ⟨l1,l2⟩:=r7 b hb;rcases l2 with l2 | l2 | l2
  . exact ⟨l1,hFree1.own b l2,hFree1.z b l2,hFree1.fp b l2,hFree1.box b l2⟩
  . obtain ⟨x1,x2⟩:=wfh b l2;obtain ⟨z1,z2,z3,_⟩:=k1.fp r j b x1;refine ⟨l1,z2,z3,fun r' j' hh => ?_,fun r' R' hR' hb' he=>(h3.box r' R' hR' hb').2.2.1 r' j ?_⟩
    . rcases hfp3 r' j' b hh with ⟨_,_,hh⟩ | ⟨hne,hh⟩
      . exact x2 hh
      . exact hne (k1.disj _ _ _ _ _ hh x1)
    . exfalso;obtain ⟨R2,hR2,hb2⟩:=m3.box r' R' hR';refine (k1.box r' R2 hR2 (by rw [<- hb2]; exact hb')).2.2.1 r j ?_;rw [<- m3.be,he];exact x1
  . refine ⟨l1,.inr (ady k1.size l2),fun hz=>by have:=(k1.bS _ hz).1; omega,fun r' j' hh=>by have:=(h3.fp r' j' _ hh).1; omega,fun r' R' hR' hb' he => ?_⟩;obtain ⟨_,_,_,_,cs1,el1,fr1,b5,_⟩:=h3.box r' R' hR' hb';rw [he,adr l2] at b5;simp at b5
 have hfree5':st3.free d5=true:=by
  have:(look st3.rt d5).isSome=(look st2.rt d5).isSome:=by
   rw [<- hst3,fo];split
   . rename_i e; subst e; cases look st2.rt r <;> rfl
   . rfl
  unfold St.free at hfree5 ⊢;revert this hfree5;cases look st3.rt d5 <;> cases look st2.rt d5 <;> simp
 obtain ⟨gg9,h9⟩:=h8.AQ (d:=d5) (hsz4.dst b5) hfree5' hFb r9;have hsz5:=hsz4.put (some d5) v';have hn9:bt ((((((st3.aE d2 (.v .dead,none)).aE d3 (.v (.d (.int k) n),none)).aE d4 (.v .dead,none)).aE tO (.v (.pre r j (s' + 1) n.toNat),none))).aE d5 (.v (.ref d5 0 0),some ⟨false,[⟨0,0,.own (.sl ti.elem te.ks) (cat te.ks (aG y0) (List.take n.toNat (aG xs)))⟩]⟩)):=hn6.bind.bind;rw [wpOps_cons];refine bz (i:=5) rfl g6 ?_;obtain ⟨hn10,hw10⟩:=jP h9 hn9 hsz5 e6 (hsz5.dst b6) (.inr p6) (tv:= .v (.ref d5 0 0)) (by show St.tv _ d5=_;rw [fk hn9,bd,if_pos rfl]);refine hw10 _ _ fun Z' g' a' w' hr' hsz' => ?_
 exact ⟨hn10,hsz',Z',g',hr'⟩
end
end Go.Av
namespace Go.Av
open Go.RowKit (Below)
def preB (n:Int) (m:Nat):Bool:=bL 0 n && Nat.beq n.toNat m
def CR (E:En) (tS tA tA2 tN tO tK d1 d2 d3 d4 d5:Nat) (st:St):Tr St :=
 Tr.bu (E.ti tA) fun ti=>Tr.bu (E.sl tA) fun te=>Tr.bu (E.sl tS) fun tn =>
 (match st.tv tN,st.tv tO,st.tv tK with
 | some (.v avN),some (.v (.pre r j s m0)),some (.v (.d (.int k) n))=>(match st.cell r j with
   | some ⟨s',m,.own (.sl e ks) xs⟩ =>
     bif (Nat.beq s' s && (Nat.beq ks.length tn.ks.length && (E.str tA2 || (E.sl tA2).isSome))) && ((E.dB d1 && (E.dB d2 && (E.dB d3 && (E.dB d4 && (E.dB d5 && E.dB tO))))) && ((mD tO d1 && (mD tK d1 && mD tK d2)) && ((mD d1 d2 && (mD d1 d3 && mD d1 d4)) && mD d2 d3)))
     then .need (preB n m0) (((((((st.aE d1 (.v avN,none)).aE d2 (.v .dead,none)).aE d3 (.v (.d (.int k) n),none)).aE d4 (.v (.ref r j s),none)).append d5 ti.elem te (.v avN) (.v (.ref r j s)))).bind fun st'=> .ret (st'.aE tO (.v (.ref d5 0 0),none)))
     else .fail
   | _=> .fail)
 | _,_,_=> .fail)
section
variable {P:Program} {E:En} {cx:Cx P} {Z:Nat->Prop} {g:Gh} {st v:St} {a:Act} {w:World}
theorem Lv (hT:bK P E) (hga:df P E) {rid tS tA tA2 tN tO tK d1 d2 d3 d4 d5:Nat} {o1 o2 o3 o4 o5 o6:Oper} {c:Call} {tys:List Nat}
 (e1:o1.dst=some d1) (p1:o1.op= .move (.tmp tN)) (g1:o1.guard=none) (e2:o2.dst=some d2) (p2:o2.op= .move (.tmp tO)) (g2:o2.guard=none) (e3:o3.dst=some d3) (p3:o3.op= .move (.tmp tK)) (g3:o3.guard=none)
 (e4:o4.dst=some d4) (p4:o4.op= .slice tS (.tmp d2) (some (.tmp d3)) none none) (g4:o4.guard=none) (e5:o5.dst=some d5) (p5:o5.op= .call c) (g5:o5.guard=none) (hcal:c.callee= .builtin .append) (hargs:c.args.toList=[.tmp d1,.tmp d4]) (hts:c.argTypes.toList=tA :: tA2 :: tys)
 (e6:o6.dst=some tO) (p6:o6.op= .assign (.tmp d5)) (g6:o6.guard=none) :
 cH P E (.region rid #[o1,o2,o3,o4,o5,o6] false) (CR E tS tA tA2 tN tO tK d1 d2 d3 d4 d5):=by
 intro cx a w st st' h hrun;unfold CR at hrun;obtain ⟨ti,hti,hrun⟩:=Tr.af hrun;obtain ⟨te,hte,hrun⟩:=Tr.af hrun;obtain ⟨tn,htn,hrun⟩:=Tr.af hrun;split at hrun;rotate_left
 . simp [Tr.run] at hrun
 rename_i avN r j s m0 k n hN hO hK;split at hrun;rotate_left
 . simp [Tr.run] at hrun
 rename_i s' m e ks xs hcell;generalize hc:((Nat.beq s' s && (Nat.beq ks.length tn.ks.length && (E.str tA2 || (E.sl tA2).isSome))) && ((E.dB d1 && (E.dB d2 && (E.dB d3 && (E.dB d4 && (E.dB d5 && E.dB tO))))) && ((mD tO d1 && (mD tK d1 && mD tK d2)) && ((mD d1 d2 && (mD d1 d3 && mD d1 d4)) && mD d2 d3))))=cond at hrun;cases cond with
 | false=>simp [Tr.run] at hrun
 | true =>
 simp only [ac6] at hrun;obtain ⟨hpre,hrun⟩:=Tr.bo hrun;rw [Tr.run_bind] at hrun;generalize hst4:(((st.aE d1 (.v avN,none)).aE d2 (.v .dead,none)).aE d3 (.v (.d (.int k) n),none)).aE d4 (.v (.ref r j s),none)=st4 at hrun;cases hap:(st4.append d5 ti.elem te (.v avN) (.v (.ref r j s))).run with
 | none=>rw [hap] at hrun; simp at hrun
 | some st5 =>
 rw [hap] at hrun;simp only [adq,Tr.run,ac3] at hrun;subst hrun;simp only [ac5] at hc;obtain ⟨⟨cs1,cs2,hstr⟩,⟨b1,b2,b3,b4,b5,bO⟩,⟨nO1,nK1,nK2⟩,⟨n12,n13,n14⟩,n23⟩:=hc;have cs1:=beq_eq cs1;subst cs1;have cs2:=beq_eq cs2;have nO1:=fB nO1; have nK1:=fB nK1; have nK2:=fB nK2;have n12:=fB n12; have n13:=fB n13; have n14:=fB n14; have n23:=fB n23;unfold preB bL at hpre;simp only [ac5,aeg] at hpre;obtain ⟨hn0,hm0⟩:=hpre;have hm0:=beq_eq hm0;obtain ⟨_,_,_,_,_,u4,huS⟩:=dx hT htn;have hsS:=fun w=>bM (hT _ tn u4) (P:=P) w
 obtain ⟨hn,hsz,Z,g,hr⟩:=h;refine wp_region ?_;show wpOps P #[o1,o2,o3,o4,o5,o6] _ [0,1,2,3,4,5] a w;rw [wpOps_cons];refine bz (i:=0) rfl g1 ?_;have vN:a.eval (.tmp tN)=a.eval (.tmp tN):=rfl;have run1:(execOp a.eval o1).run P w= .ok (.value (a.eval (.tmp tN))) w:=by simp [execOp,p1]
 unfold Oper.wp;rw [run1,adI,e1];have h1:=hr.fA (d:=d1) (tv:= .v avN) (v:=a.eval (.tmp tN)) (hsz.dst b1) (aM hr hn.cons.cons hN);have hsz1:=hsz.put (some d1) (a.eval (.tmp tN));have ev1:∀ t,t≠d1->(a.put (some d1) (a.eval (.tmp tN))).eval (.tmp t)=a.eval (.tmp t):=fun t ht=>Act.eval_put fun d e e'=>by cases e; cases e'; exact ht rfl
 generalize ha1:a.put (some d1) (a.eval (.tmp tN))=a1 at h1 hsz1 ev1 ⊢;rw [wpOps_cons];refine bz (i:=1) rfl g2 ?_;have run2:(execOp a1.eval o2).run P w= .ok (.value (a.eval (.tmp tO))) w:=by simp [execOp,p2,ev1 tO nO1]
 unfold Oper.wp;rw [run2,adI,e2];have h2:=h1.fA (d:=d2) (tv:= .v .dead) (v:=a.eval (.tmp tO)) (hsz1.dst b2) trivial;have hsz2:=hsz1.put (some d2) (a.eval (.tmp tO));have hv2:(a1.put (some d2) (a.eval (.tmp tO))).eval (.tmp d2)=a.eval (.tmp tO):=cI (hsz1.dst b2).1;have ev2:∀ t,t≠d2->(a1.put (some d2) (a.eval (.tmp tO))).eval (.tmp t)=a1.eval (.tmp t):=fun t ht=>Act.eval_put fun d e e'=>by cases e; cases e'; exact ht rfl
 generalize ha2:a1.put (some d2) (a.eval (.tmp tO))=a2 at h2 hsz2 hv2 ev2 ⊢;rw [wpOps_cons];refine bz (i:=2) rfl g3 ?_;have vK0:=cS (aM hr hn.cons.cons (show st.get (.tmp tK)=_ from hK)) (show TV.int? (.v (.d (.int k) n))=some (k,n) from rfl);have run3:(execOp a2.eval o3).run P w= .ok (.value (.int k n)) w:=by simp [execOp,p3,ev2 tK nK2,ev1 tK nK1,vK0.1]
 unfold Oper.wp;rw [run3,adI,e3];have h3:=h2.fA (d:=d3) (tv:= .v (.d (.int k) n)) (v:= .int k n) (hsz2.dst b3) ⟨rfl,vK0.2⟩;have hsz3:=hsz2.put (some d3) (.int k n);have ev3:∀ t,t≠d3->(a2.put (some d3) (.int k n)).eval (.tmp t)=a2.eval (.tmp t):=fun t ht=>Act.eval_put fun d e e'=>by cases e; cases e'; exact ht rfl
 generalize ha3:a2.put (some d3) (.int k n)=a3 at h3 hsz3 ev3 ⊢;have hn3:bt (((st.aE d1 (.v avN,none)).aE d2 (.v .dead,none)).aE d3 (.v (.d (.int k) n),none)):=hn.bind.bind.bind;rw [wpOps_cons];refine bz (i:=3) rfl g4 ?_;obtain ⟨cc,y1,y2,y3⟩:=aM hr hn.cons.cons (show st.get (.tmp tO)=_ from hO);rw [hcell] at y1;cases y1;obtain ⟨e',ks',xs',y4,aa,l,cap,y5,y6,y7,y8,y9⟩:=y3 rfl;simp only [RV.own.injEq,K.sl.injEq] at y4;obtain ⟨⟨rfl,rfl⟩,y4⟩:=y4;cases y4;have hlh:jY (((st.aE d1 (.v avN,none)).aE d2 (.v .dead,none)).aE d3 (.v (.d (.int k) n),none)) (some (.tmp d3)) none l=some (n,(l:Int)):=by
  have:(((st.aE d1 (.v avN,none)).aE d2 (.v .dead,none)).aE d3 (.v (.d (.int k) n),none)).get (.tmp d3)=some (.v (.d (.int k) n)):=by show St.tv _ d3=_;rw [fk hn3,bd,if_pos rfl]
  simp only [jY,this,TV.int?,AV.int?];rfl
 have hcut:gp n (l:Int) l=true:=by simp only [gp,bL,ac5,aeg];omega
 have hslice:(execOp a3.eval o4).run P w= .ok (.value (g.cv r j)) w:=by
  have hs:=nO huS hsS (aa:=aa) (jS (P:=P) h3 hn3.cons.cons true hlh hcut y7);have hv:a3.eval (.tmp d2)= .slice aa l cap:=by rw [ev3 d2 n23,hv2,y5]
  rw [hm0,adP,<- cs2,<- y9] at hs;simp only [aez] at hs;simp only [execOp,p4,hv,aez,adv,hs,adh];rfl
 unfold Oper.wp;rw [hslice,adI,e4];have h4:=h3.fA (d:=d4) (tv:= .v (.ref r j s')) (v:=g.cv r j) (hsz3.dst b4) ⟨_,hcell,ac7 _,fun _=>rfl⟩;have hsz4:=hsz3.put (some d4) (g.cv r j);have hn4:bt st4:=by rw [<- hst4]; exact hn3.bind
 rw [hst4] at h4;have hx4:st4.get (.tmp d1)=some (.v avN):=by show St.tv _ d1=_;rw [fk hn4,<- hst4,bd,if_neg (fun e=>n14 e.symm),bd,if_neg (fun e=>n13 e.symm),bd,if_neg (fun e=>n12 e.symm),bd,if_pos rfl]
 have hy4:st4.get (.tmp d4)=some (.v (.ref r j s')):=by show St.tv _ d4=_;rw [fk hn4,<- hst4,bd,if_pos rfl]
 rw [wpOps_cons];refine bz (i:=4) rfl g5 ?_;obtain ⟨hn5,hw5⟩:=Dv hT h4 hn4 hsz4 e5 (hsz4.dst b5) p5 hcal hargs hts hti hte hx4 hy4 (by
  rw [ad8] at hstr;rcases hstr with h2 | h2
  . exact .inl h2
  . exact .inr (aeZ.1 h2)) hap
 refine hw5 _ _ fun Z5 gg5 a5 w5 hr5 hsz5 => ?_
 rw [wpOps_cons];refine bz (i:=5) rfl g6 ?_;have h55:st5.get (.tmp d5)=some (.v (.ref d5 0 0)):=by
  show St.tv _ d5=_;rw [fk hn5];unfold St.append at hap;obtain ⟨_,_,hap⟩:=Tr.af hap;obtain ⟨_,_,hap⟩:=Tr.af hap;obtain ⟨q,_,hap⟩:=Tr.af hap;cases hcond:q.1.free d5 && Nat.blt 0 te.bytes with
  | false=>rw [hcond] at hap; simp [Tr.run] at hap
  | true => rw [hcond] at hap;simp only [ac6] at hap;obtain ⟨_,hap⟩:=Tr.bo hap;simp only [Tr.run,ac3] at hap;rw [<- hap,bd,if_pos rfl]
 obtain ⟨hn6,hw6⟩:=jP hr5 hn5 hsz5 e6 (hsz5.dst bO) (.inr p6) h55;exact hw6 _ _ fun Z' g' a' w' hr' hsz'=>⟨hn6,hsz',Z',g',hr'⟩
theorem MA (hT:bK P E) (hga:df P E) {cd:Code} {rid tS tA tA2 tO tK d1 d2 d3 d4 d5 d6:Nat} {o1 o2 o3 o4 o5 o6:Oper} {c:Call} {tys:List Nat} (hcd:cd= .region rid #[o1,o2,o3,o4,o5,o6] false)
 (e1:o1.dst=some d1) (g1:o1.guard=none) (e2:o2.dst=some d2) (p2:o2.op= .move (.tmp tO)) (g2:o2.guard=none) (e3:o3.dst=some d3) (p3:o3.op= .move (.tmp tK)) (g3:o3.guard=none)
 (e4:o4.dst=some d4) (p4:o4.op= .slice tS (.tmp d2) none (some (.tmp d3)) none) (g4:o4.guard=none) (e5:o5.dst=some d5) (p5:o5.op= .call c) (g5:o5.guard=none) (hcal:c.callee= .builtin .append) (hargs:c.args.toList=[.tmp d1,.tmp d4]) (hts:c.argTypes.toList=tA :: tA2 :: tys)
 (e6:o6.dst=some d6) (p6:o6.op= .assign (.tmp d5)) (g6:o6.guard=none):cH P E cd (xo E o1.op tS tA tA2 tO tK d1 d2 d3 d4 d5 d6):=by
 rw [hcd];exact HI hT hga e1 g1 e2 p2 g2 e3 p3 g3 e4 p4 g4 e5 p5 g5 hcal hargs hts e6 p6 g6
theorem O5 (hT:bK P E) (hga:df P E) {cd:Code} {rid tS tA tA2 tN tO tK d1 d2 d3 d4 d5:Nat} {o1 o2 o3 o4 o5 o6:Oper} {c:Call} {tys:List Nat} (hcd:cd= .region rid #[o1,o2,o3,o4,o5,o6] false)
 (e1:o1.dst=some d1) (p1:o1.op= .move (.tmp tN)) (g1:o1.guard=none) (e2:o2.dst=some d2) (p2:o2.op= .move (.tmp tO)) (g2:o2.guard=none) (e3:o3.dst=some d3) (p3:o3.op= .move (.tmp tK)) (g3:o3.guard=none)
 (e4:o4.dst=some d4) (p4:o4.op= .slice tS (.tmp d2) (some (.tmp d3)) none none) (g4:o4.guard=none) (e5:o5.dst=some d5) (p5:o5.op= .call c) (g5:o5.guard=none) (hcal:c.callee= .builtin .append) (hargs:c.args.toList=[.tmp d1,.tmp d4]) (hts:c.argTypes.toList=tA :: tA2 :: tys)
 (e6:o6.dst=some tO) (p6:o6.op= .assign (.tmp d5)) (g6:o6.guard=none):cH P E cd (CR E tS tA tA2 tN tO tK d1 d2 d3 d4 d5):=by
 rw [hcd];exact Lv hT hga e1 p1 g1 e2 p2 g2 e3 p3 g3 e4 p4 g4 e5 p5 g5 hcal hargs hts e6 p6 g6
def drI {α:Type} (xs:List α) (n:Int):List α:=List.drop n.toNat xs
def Vs {α:Type} (bytes:Nat) (xs _ys:List α) (n:Int):Bool:=Nat.ble ((xs.length + n.toNat) * bytes) aT
def SM (n m:Int):Bool:=preB n m.toNat
end
end Go.Av
namespace Go.Av
section
variable {α A X Y:Type}
def iv (f:Nat->α->A->Sum A Y) (z:A->Y):Nat->List α->A->Y
 | _,[],a=>z a
 | i,x :: r,a=>match f i x a with
   | .inl a'=>iv f z (i + 1) r a'
   | .inr y=>y
theorem mK {step:X->Option (Sum X Y)} (xs:List α) (S:Nat->A->X) (f:Nat->α->A->Sum A Y) (z:A->Y) (I:Nat->A->Prop)
 (hs:∀ i x a,xs[i]? = some x->I i a->step (S i a)=some (match f i x a with | .inl a'=> .inl (S (i + 1) a') | .inr y=> .inr y))
 (hI:∀ i x a a',xs[i]? = some x->I i a->f i x a= .inl a'->I (i + 1) a')
 (he:∀ a,I xs.length a->step (S xs.length a)=some (.inr (z a))) :
 ∀ (ys:List α) (i:Nat) (a:A),i + ys.length=xs.length->ys=xs.drop i->I i a->ah step (S i a)=some (iv f z i ys a)
 | [],i,a,hl,hy,h=>by
   have:i=xs.length:=by simpa using hl
   subst this;exact aN step (he a h)
 | x :: r,i,a,hl,hy,h=>by
   have hx:xs[i]? = some x:=by have:=adU (·[0]?) hy;simp only [adf,aer,adO] at this;exact this.symm
   have hr:r=xs.drop (i + 1):=by have:=adU List.tail hy;simpa using this
   have hst:=hs i x a hx h;cases hf:f i x a with
   | inl a' => rw [hf] at hst;refine aV step hst ?_;rw [iv,hf];exact mK xs S f z I hs hI he r (i + 1) a' (by simp only [ac9] at hl; omega) hr (hI i x a a' hx h hf)
   | inr y => rw [hf] at hst;rw [iv,hf];exact aN step hst
theorem aF {step:X->Option (Sum X Y)} (xs:List α) (S:Nat->A->X) (f:Nat->α->A->Sum A Y) (z:A->Y) (I:Nat->A->Prop) {a0:A} (h0:I 0 a0)
 (hs:∀ i x a,xs[i]? = some x->I i a->step (S i a)=some (match f i x a with | .inl a'=> .inl (S (i + 1) a') | .inr y=> .inr y))
 (hI:∀ i x a a',xs[i]? = some x->I i a->f i x a= .inl a'->I (i + 1) a')
 (he:∀ a,I xs.length a->step (S xs.length a)=some (.inr (z a))):ah step (S 0 a0)=some (iv f z 0 xs a0) :=
 mK xs S f z I hs hI he xs 0 a0 (by simp) (by simp) h0
theorem aI {step:X->Option (Sum X Y)} (xs:List α) (S:Nat->A->X) (f:Nat->α->A->Sum A Y) (z:A->Y) {a0:A}
 (hs:∀ i x a,xs[i]? = some x->step (S i a)=some (match f i x a with | .inl a'=> .inl (S (i + 1) a') | .inr y=> .inr y))
 (he:∀ a,step (S xs.length a)=some (.inr (z a))):ah step (S 0 a0)=some (iv f z 0 xs a0) :=
 aF xs S f z (fun _ _=>True) trivial (fun i x a h _=>hs i x a h) (fun _ _ _ _ _ _ _=>trivial) fun a _=>he a
theorem nM {step:X->Option (Sum X Y)} (xs:List α) (S:Nat->A->X) (z:A->Y) (I:Nat->A->Prop)
 (hs:∀ i x a,xs[i]? = some x->I i a->∃ a',step (S i a)=some (.inl (S (i + 1) a'))/\I (i + 1) a')
 (he:∀ a,I xs.length a->step (S xs.length a)=some (.inr (z a))):∀ (n k:Nat) (a:A),k + n=xs.length->I k a->∃ a',I xs.length a'/\ah step (S k a)=some (z a')
 | 0,k,a,hk,h=>by rw [adO] at hk;subst hk;exact ⟨a,h,aN step (he a h)⟩
 | n + 1,k,a,hk,h=>by have hx:xs[k]? = some (xs[k]'(by omega)):=adi (by omega);obtain ⟨a1,h1,h2⟩:=hs k _ a hx h;obtain ⟨a',h3,h4⟩:=nM xs S z I hs he n (k + 1) a1 (by omega) h2;exact ⟨a',h3,aV step h1 h4⟩
theorem fS (p:α->Bool) (y:Y) (z:Unit->Y):∀ (xs:List α) (i:Nat),iv (fun _ x _=>bif p x then .inl () else .inr y) z i xs ()=bif xs.all p then z () else y
 | [],_=>rfl
 | x :: r,i=>by
   rw [iv,aef];cases hp:p x with
   | true=>simp only [ac6,afn]; exact fS p y z r (i + 1)
   | false=>rfl
def allI (p:Nat->α->Bool):Nat->List α->Bool
 | _,[]=>true
 | i,x :: r=>p i x && allI p (i + 1) r
theorem cT (p:Nat->α->Bool) (y:Y) (z:Unit->Y):∀ (xs:List α) (i:Nat),iv (fun i x _=>bif p i x then .inl () else .inr y) z i xs ()=bif allI p i xs then z () else y
 | [],_=>rfl
 | x :: r,i=>by
   rw [iv,allI];cases hp:p i x with
   | true=>simp only [ac6,afn]; exact cT p y z r (i + 1)
   | false=>rfl
theorem Di (p:Nat->α->Bool):∀ {xs:List α} {k:Nat},allI p k xs=true->∀ {i:Nat} {x:α},xs[i]? = some x->p (k + i) x=true
 | [],k,_,i,x,hx=>by simp at hx
 | y :: r,k,h,i,x,hx=>by
   simp only [allI,ac5] at h;cases i with
   | zero=>simp only [adf,ac3] at hx; subst hx; exact h.1
   | succ i => have:=Di p h.2 (i:=i) (x:=x) (by simpa using hx);rwa [show k + 1 + i=k + (i + 1) by omega] at this
theorem cr (f:α->A->A) (z:A->Y):∀ (xs:List α) (i:Nat) (a:A),iv (fun _ x a=> .inl (f x a)) z i xs a=z (xs.foldl (fun a x=>f x a) a)
 | [],_,_=>rfl
 | x :: r,i,a=>by rw [iv,aes]; exact cr f z r (i + 1) _
end
theorem bn {α β:Type} {a b:Option α} {f:α->Option β} (h:a=b):Option.bind a f=Option.bind b f:=h ▸ rfl
section
variable {α:Type}
theorem aK {i:Nat} (h:i<=aT):aj .i64 (i:Int) 1=((i + 1:Nat):Int):=by unfold aj;rw [IntWalk.i64_in _ (by have:aT=140737488355328:=rfl; omega)];omega
theorem aA {a b:Int} (h1 : -4611686018427387904<=a + b) (h2:a + b<=4611686018427387904):aj .i64 a b=a + b:=by unfold aj; rw [IntWalk.i64_in _ (by omega)]
theorem aU {a b:Int} (h1 : -4611686018427387904<=a - b) (h2:a - b<=4611686018427387904):aO .i64 a b=a - b:=by unfold aO; rw [IntWalk.i64_in _ (by omega)]
theorem ai {xs:List α} {i:Nat} {x:α} (h:xs[i]? = some x):i < xs.length:=(afg.1 h).1
theorem aC {xs:List α} {i:Nat} {x:α} (h:xs[i]? = some x):aw (i:Int) (ae xs)=true:=by have:=ai h;unfold aw ae; exact ada (by omega)
theorem au {xs:List α} {n:Nat} (h:xs.length=n):aw (n:Int) (ae xs)=false:=by unfold aw ae; exact adD (by omega)
theorem ay {a b:Int} (h:¬ a < b):aw a b=false:=adD h
theorem aJ {a b:Int} (h:a < b):aw a b=true:=ada h
theorem az {xs:List α} {i:Nat} {x:α} (h:xs[i]? = some x):aR (i:Int) xs=true:=by have:=ai h;unfold aR ko bL aw; rw [ada (by omega),ada (by omega)]; rfl
theorem lT {xs:List α} {i:Nat} (h:i < xs.length):aR (i:Int) xs=true:=by unfold aR ko bL aw; rw [ada (by omega),ada (by omega)]; rfl
theorem aS {xs:List α} {i:Nat} {x:α} (d:α) (h:xs[i]? = some x):gt d xs (i:Int)=x:=by simp [gt,List.getD,h]
theorem e9 {xs:List UInt8} {i:Nat} {x:UInt8} (h:xs[i]? = some x):dE xs (i:Int)=(x.toNat:Int):=by simp [dE,B8,List.getD,h]
theorem bk (n:Int):aq n n=true:=by simp [aq]
theorem da (s:List UInt8):cC s s=true:=by simp [cC]
theorem qf {xs:List α} {b:Nat} (hb:0 < b) (h:xs.length * b<=aT):N6 b (ae xs)=true:=by
 have h1:((xs.length:Int) * (b:Int))<=(aT:Int):=by exact_mod_cast h
 unfold N6 ae bL;rw [ada (Int.natCast_nonneg _),ada h1];exact adn hb
theorem ke {β:Type} {xs:List α} (d:β):xa d (ae xs)=List.replicate xs.length d:=by simp [xa,ae]
theorem kT (d:α) {done:List α} {y:α} {r:List α} {i:Nat} (h:done.length=i):gt d (done ++ y :: r) (i:Int)=y:=by subst h; simp [gt,List.getD]
theorem eR {done:List α} {x y:α} {r:List α} {i:Nat} (h:done.length=i):jh (done ++ x :: r) (i:Int) y=done ++ y :: r:=by subst h; simp [jh,ae4]
theorem eV {done:List α} {y:α} {r:List α} {i:Nat} (h:done.length=i):aR (i:Int) (done ++ y :: r)=true:=by apply lT; simp; omega
theorem lZ {done:List α} {y:α} {r:List α} {i:Nat} (h:done.length=i):aw (i:Int) (ae (done ++ y :: r))=true:=by unfold aw ae; exact ada (by simp only [ac4,ac9]; omega)
theorem iW {xs:List α} {i:Nat} {x:α} (h:xs[i]? = some x):xs.drop i=x :: xs.drop (i + 1):=by have hl:=ai h;rw [afA hl];congr 1;rw [adi hl] at h;exact aeb h
end
def Dy (left:Int) (n:Nat):Int:=if (n:Int)<=left then left - n else -1
theorem bE {left:Int} {n:Nat} (h:(n:Int)<=left):Dy left n=left - n:=if_pos h
theorem bb {left:Int} {n:Nat} (h:¬ (n:Int)<=left):Dy left n = -1:=if_neg h
theorem dJ {α:Type} {left:Int} {s:List α} (h0:0<=left) (h1:left<=1048576) (hs:s.length<=aT):aO .i64 left (ae s)=left - (s.length:Int):=by have:aT=140737488355328:=rfl;exact aU (by unfold ae; omega) (by unfold ae; omega)
def wL {α:Type} (w:α->Nat) (xs:List α):Nat:=xs.length + (xs.map w).sum
def cL {α:Type} (c:α->Nat) (xs:List α):Nat:=(xs.map c).sum
theorem sT {α Y:Type} (w:α->Nat) (y:Y) (z:Int->Y):∀ (xs:List α) (i:Nat) (a:Int),0<=a->iv (fun _ x (a:Int)=>bif decide ((w x:Int)<=a) then Sum.inl (a - w x) else .inr y) z i xs a=if ((cL w xs:Nat):Int)<=a then z (a - (cL w xs:Nat)) else y
 | [],_,a,h=>by simp [iv,cL,h]
 | x :: r,i,a,h=>by
   rw [iv];by_cases hx:(w x:Int)<=a
   . simp only [hx,decide_true,ac6];rw [sT w y z r (i + 1) (a - w x) (by omega)];have e:((cL w (x :: r):Nat):Int)=w x + (cL w r:Nat):=by simp [cL]
     rw [e];by_cases h2:((cL w r:Nat):Int)<=a - w x
     . rw [if_pos h2,if_pos (by omega)]; congr 1; omega
     . rw [if_neg h2,if_neg (by omega)]
   . simp only [hx,decide_false,adm];rw [if_neg];have e:((cL w (x :: r):Nat):Int)=w x + (cL w r:Nat):=by simp [cL]
     rw [e]; omega
theorem cX {α:Type} (c:α->Nat) {xs:List α} {i:Nat} {x:α} (h:xs[i]? = some x):cL c (xs.drop i)=c x + cL c (xs.drop (i + 1)):=by rw [iW h]; simp [cL]
theorem dD {α:Type} (c:α->Nat):∀ {xs:List α} {i:Nat} {x:α},xs[i]? = some x->c x<=cL c xs
 | [],i,x,h=>by simp at h
 | y :: r,0,x,h=>by simp at h; subst h; simp [cL]
 | y :: r,i + 1,x,h=>by have:=dD c (xs:=r) (i:=i) (x:=x) (by simpa using h);simp only [cL,ad4,afo] at this ⊢;omega
theorem zb {α:Type} {c w:α->Nat} (h:∀ x,c x<=100 * (w x + 1)):∀ (xs:List α),cL c xs<=100 * wL w xs
 | []=>by simp [cL]
 | x :: r=>by have h1:=h x;have h2:=zb h r;simp only [cL,wL,ad4,afo,ac9] at h2 ⊢;omega
theorem zE {α:Type} (c:α->Nat) (p:α->Bool):∀ (xs:List α),cL c (xs.filter p)<=cL c xs
 | []=>ac7 _
 | x :: r=>by
   have ih:=zE c p r;rw [aeS];simp only [cL,ad4,afo] at ih ⊢;split
   . simp only [ad4,afo]; omega
   . omega
theorem GQ {α:Type} (w:α->Nat) (p:α->Bool) (xs:List α):wL w (xs.filter p)<=wL w xs :=
 Nat.add_le_add (aeW _ _) (zE w p xs)
theorem nJ {α:Type} (w:α->Nat) (xs:List α):xs.length<=wL w xs:=Nat.le_add_right _ _
theorem lx {α:Type} (w:α->Nat) {xs:List α} {y:α} (h:y∈xs):w y<=wL w xs:=by obtain ⟨i,hi⟩:=afT h;exact ady (dD w hi) (Nat.le_add_left _ _)
def fQ {α:Type} (m:α->Int->α) (c:α->Nat):List α->Int->List α
 | [],_=>[]
 | x :: r,k=>m x k :: fQ m c r (k + c x)
theorem mR {α Y:Type} (m:α->Int->α) (c:α->Nat) (z:List α×Int->Y):∀ (xs:List α) (i:Nat) (d:List α) (k:Int),iv (fun _ x (a:List α×Int)=>Sum.inl (a.1 ++ [m x a.2],a.2 + c x)) z i xs (d,k)=z (d ++ fQ m c xs k,k + (cL c xs:Nat))
 | [],_,d,k=>by simp [iv,fQ,cL]
 | x :: r,i,d,k=>by
   rw [iv];simp only;rw [mR m c z r (i + 1)];congr 1;have e:((cL c (x :: r):Nat):Int)=c x + (cL c r:Nat):=by simp [cL]
   rw [e];simp only [fQ,adB,aeX,adF,true_and];omega
theorem ky {α:Type} (m:α->Int->α) (c:α->Nat):∀ (xs:List α) (k:Int),(fQ m c xs k).length=xs.length
 | [],_=>rfl
 | x :: r,k=>by simp [fQ,ky m c r]
theorem iQ {α:Type} (m:α->Int->α) (c:α->Nat):∀ (xs:List α) (k:Int) (i:Nat) (x:α),xs[i]? = some x->(fQ m c xs k)[i]? = some (m x (k + (cL c (xs.take i):Nat)))
 | [],k,i,x,h=>by simp at h
 | y :: r,k,0,x,h=>by simp only [adf,ac3] at h;subst h;simp [fQ,cL]
 | y :: r,k,i + 1,x,h=>by simp only [ad2] at h;have:=iQ m c r (k + c y) i x h;simp only [fQ,ad2,this,ac3];congr 1;simp [cL]; omega
theorem kn {α Y:Type} (c:α->Nat) (z:Int->Y):∀ (xs:List α) (i:Nat) (k:Int),iv (fun _ x (a:Int)=>Sum.inl (a + (c x:Nat))) z i xs k=z (k + (cL c xs:Nat))
 | [],_,k=>by simp [iv,cL]
 | x :: r,i,k=>by rw [iv];simp only;rw [kn c z r (i + 1)];congr 1;simp [cL]; omega
theorem lS {α:Type} (c:α->Nat) {xs:List α} {i:Nat} {x:α} (h:xs[i]? = some x):cL c (xs.take (i + 1))=cL c (xs.take i) + c x:=by rw [afv,h]; simp [cL]
theorem jO {α:Type} (c:α->Nat) (xs:List α) (i:Nat):cL c xs=cL c (xs.take i) + cL c (xs.drop i):=by
 have:xs=xs.take i ++ xs.drop i:=(adT i xs).symm
 conv=>lhs; rw [this]
 simp only [cL,afU,List.sum_append]
theorem kJ {α:Type} (xs:List α):cL (fun _=>1) xs=xs.length:=by
 induction xs with
 | nil=>rfl
 | cons x r ih=>simp only [cL,ad4,afo,ac9] at ih ⊢; omega
theorem gf {α Y:Type} (z:List α->Y):∀ (xs:List α) (i:Nat) (d:List α),iv (fun _ x (a:List α)=>Sum.inl (a ++ [x])) z i xs d=z (d ++ xs)
 | [],_,d=>by simp [iv]
 | x :: r,i,d=>by rw [iv]; simp only; rw [gf z r (i + 1)]; simp
end Go.Av
namespace Go.Av
open Go.RowKit (Below)
mutual
def BgK:(k:K)->T k->Prop
 | .int k,x=>mq k x
 | .bool,_=>True
 | .str,s=>List.length (α:=UInt8) s<=aT
 | .sl e ks,xs=>(aG (e:=e) (ks:=ks) xs).length<=aT/\∀ y∈aG (e:=e) (ks:=ks) xs,uX ks y
def uX:(ks:List K)->Tl ks->Prop
 | [],_=>True
 | k :: ks,x=>BgK k x.1/\uX ks x.2
end
def XI (E:En) (rd:Nat->Bool):List (Nat×Nat)->List K->Nat->Bool
 | [],[],_=>true
 | (o,u) :: r,ks,off=>Nat.beq o off && (rd u && match E.ti u with
   | some tu=>K.jW (ks.take tu.ks.length) tu.ks && (Nat.ble tu.ks.length ks.length && XI E rd r (ks.drop tu.ks.length) (off + tu.ks.length))
   | none=>false)
 | _,_,_=>false
def MJ (E:En):Nat->Nat->Bool
 | 0,_=>false
 | n + 1,t=>match E.ti t with
   | some ti=>(match ti.agg with
     | true=>XI E (MJ E n) ti.flds ti.ks 0
     | false=>(match ti.ks with
       | [.sl e ks]=>(match E.ti e with | some te=>K.jW ks te.ks && (Nat.blt 0 te.bytes && (Nat.blt 0 te.ks.length && MJ E n e)) | none=>false)
       | _=>true))
   | none=>false
section
variable {H:Type} {enc:TypeId×Value->H} {P:Program} {w:World} {spare:Nat->Bool} {held:Bool} {E:En}
theorem zH (w:World):∀ (ks:List K) (x:Tl ks) (cs:List Value) (b o:Nat),ur (fZ w) w ks x cs->(∀ j v,cs[j]? = some v->w.cell? ⟨b,o + j,none⟩=some v)->wP (fZ w) w ks x b o
 | [],_,_,_,_,_,_=>trivial
 | k :: ks,x,[],b,o,h,_=>h.elim
 | k :: ks,x,v :: vs,b,o,h,hc=>⟨⟨v,hc 0 v rfl,h.1⟩,zH w ks x.2 vs b (o + 1) h.2 fun j u hu=>by have:=hc (j + 1) u (by simpa using hu); rwa [show o + 1 + j=o + (j + 1) by omega]⟩
theorem FY (w:World) {Z:Nat->Prop}:∀ (a b:List K) (cs cs':List Value) (x:Tl a) (y:Tl b),ur Z w a x cs->uX a x->ur Z w b y cs'->uX b y->∃ z:Tl (a ++ b),ur Z w (a ++ b) z (cs ++ cs')/\uX (a ++ b) z
 | [],b,[],cs',_,y,_,_,h,hb=>⟨y,h,hb⟩
 | [],b,_ :: _,cs',_,y,h,_,_,_=>h.elim
 | k :: a,b,[],cs',x,y,h,_,_,_=>h.elim
 | k :: a,b,v :: vs,cs',x,y,h,hx,h',hb=>by obtain ⟨z,h1,h2⟩:=FY w a b vs cs' x.2 y h.2 hx.2 h' hb;exact ⟨(x.1,z),⟨h.1,h1⟩,⟨hx.1,h2⟩⟩
theorem uE {α:Type} (p:Nat->α->Prop):∀ (n:Nat),(∀ i,i < n->∃ x,p i x)->∃ xs:List α,xs.length=n/\∀ i x,xs[i]? = some x->p i x
 | 0,_=>⟨[],rfl,fun i x h=>by simp at h⟩
 | n + 1,h=>by
   obtain ⟨xs,h1,h2⟩:=uE p n fun i hi=>h i (by omega)
   obtain ⟨x,hx⟩:=h n (by omega);refine ⟨xs ++ [x],by simp [h1],fun i y hy => ?_⟩;by_cases hi:i < n
   . rw [ad3 (by omega)] at hy;exact h2 i y hy
   . rw [adV (by omega),h1] at hy;cases hk:i - n with
     | zero => rw [hk] at hy;simp only [adf,ac3] at hy;subst hy;rwa [show i=n by omega]
     | succ k=>rw [hk] at hy; simp at hy
theorem tG {base:Nat} {a:Addr} {n:Nat} {cs:List Value} (h:w.cells? base a n=some cs):cs.length=n/\∀ j v,cs[j]? = some v->w.cell? (a.add j)=some v:=by
 unfold World.cells? at h;split at h
 . refine ⟨by simpa using mapM_some_length h,fun j v hj => ?_⟩;have hjl:j < n:=by
    have:=(afg.1 hj).1;have h2:cs.length=n:=by simpa using mapM_some_length h
    omega
   have:=mapM_some_get h j j (by simp [hjl]);rw [this,hj]
 . simp at h
theorem zq {a:Addr} {v:Value} (h:w.cell? a=some v):a.spot=none/\a.block < w.heap.size:=by
 unfold World.cell? at h;split at h
 . rename_i c _ _ hb;split at h
   . simp at h
   . rename_i hs;refine ⟨by simpa using hs,?_⟩;rcases adj a.block w.heap.size with hh | hh
     . exact hh
     . rw [adr hh] at hb; simp at hb
 . simp at h
theorem mU {e:TypeId}:∀ (l:List (DataW H)) {d:DataW H},d∈l->∀ n∈d.weights P e,n∈DataW.weightsAll P e l
 | [],_,h,_,_=>by simp at h
 | x :: r,d,h,n,hn=>by
   simp only [DataW.weightsAll,aeA];rcases adg.1 h with h | h
   . subst h; exact .inl hn
   . exact .inr (mU r h n hn)
theorem EE {ks a:List K} {cs:List Value} {m o:Nat} (hk:ks.take m=a) (hm:a.length=m) {x:Tl a} {y:Tl (ks.drop m)} (x1:ur (fZ w) w a x ((cs.drop o).take m)) (x2:uX a x) (y1:ur (fZ w) w (ks.drop m) y (cs.drop (o + m))) (y2:uX (ks.drop m) y):∃ z:Tl ks,ur (fZ w) w ks z (cs.drop o)/\uX ks z:=by
 have h:=FY w _ _ _ _ x y x1 x2 y1 y2;have e1:a ++ ks.drop m=ks:=by rw [<- hk]; exact adT m ks
 have e2:(cs.drop o).take m ++ cs.drop (o + m)=cs.drop o:=by rw [<- List.drop_drop,adT]
 rw [e1,e2] at h;exact h
theorem MN (hT:bK P E):∀ (n t:Nat) (ti:TI),MJ E n t=true->E.ti t=some ti->∀ (fuel:Nat) (cs:List Value) (d:DataW H) (ps:List MemPlace),DataW.trod enc P w 0 spare held fuel t cs=some (d,ps)->(∀ m∈d.weights P t,m<=aT)->∃ x:Tl ti.ks,ur (fZ w) w ti.ks x cs/\uX ti.ks x:=by
 intro n;induction n with
 | zero=>intro t ti h; simp [MJ] at h
 | succ n ih =>
   intro t ti hrd hti fuel cs d ps htr hw;have hTi:=hT t ti hti;obtain ⟨dd,hu,hdd⟩:=hTi.desc;unfold MJ at hrd;rw [hti] at hrd;simp only at hrd;obtain ⟨inf,hinf,hsz,_⟩:=hTi.info;have hcell:P.cellsOf t=ti.ks.length:=by simp [Program.cellsOf,hinf,hsz]
   cases dd with
   | bool => obtain ⟨hag,hks⟩:=hdd;obtain ⟨b,rfl,_⟩:=DataW.trod_bool hu htr;rw [hks];exact ⟨(b,()),⟨rfl,trivial⟩,⟨trivial,trivial⟩⟩
   | int k =>
     obtain ⟨hag,hks⟩:=hdd;obtain ⟨v,rfl,_,hwf⟩:=DataW.trod_int hu htr;rw [hks];have hin:mq k v:=by simpa [Lit.wf,mq] using hwf
     exact ⟨(v,()),⟨⟨rfl,hin⟩,trivial⟩,⟨hin,trivial⟩⟩
   | string => obtain ⟨hag,hks⟩:=hdd;obtain ⟨v,rfl,hx,_⟩:=DataW.trod_string hu htr;simp only [adF] at hx;obtain ⟨rfl,_⟩:=hx;rw [hks];have hl:=hw v.data.toList.length (by simp [DataW.weights]);exact ⟨(v.data.toList,()),⟨⟨by simp [et],hl⟩,trivial⟩,⟨hl,trivial⟩⟩
   | slice e =>
     obtain ⟨hag,ks,hks,hel⟩:=hdd;obtain ⟨ag,kk,el,by',fl⟩:=ti;simp only at hks hel hag;subst hks;subst hel;subst hag;simp only at hrd;cases hte:E.ti el with
     | none=>rw [hte] at hrd; simp at hrd
     | some te =>
     rw [hte] at hrd;simp only [ac5] at hrd;obtain ⟨r1,r2,r3,r4⟩:=hrd;have hkk:=K.iU _ _ r1;subst hkk;have hby:0 < te.bytes:=aen (adC r2);have hkl:0 < te.ks.length:=aen (adC r3);obtain ⟨inf2,hinf2,hsz2,hby2,_⟩:=(hT el te hte).info;have hce:P.cellsOf el=te.ks.length:=by simp [Program.cellsOf,hinf2,hsz2]
     have hbe:P.bytesOf el=te.bytes:=by simp [Program.bytesOf,hinf2,hby2]
     rcases DataW.trod_slice hu htr with ⟨rfl,_⟩ | ⟨a,len,cap,elems,rest,m,_,rfl,hx,_,hlc,hcm,hlen,hel,_⟩
     . exact ⟨(([]:List (Tl te.ks)),()),⟨⟨none,0,rfl,ac7 _,adM _,fun _=>rfl,fun h=>absurd rfl h⟩,trivial⟩,⟨⟨adM _,fun y hy=>by simp [aG] at hy⟩,trivial⟩⟩
     . simp only [adF] at hx;obtain ⟨rfl,_⟩:=hx;have hwl:(elems.length + rest.length) * te.bytes<=aT:=by
        have:=hw ((elems.length + rest.length) * P.bytesOf el) (by simp [DataW.weights,hu]);rwa [hbe] at this
       have hlb:len<=aT:=by have:=aeN (elems.length + rest.length) hby;omega
       rw [hce] at hel;have hone:∀ i,i < len->∃ x:Tl te.ks,(a.spot=none∨0 < i)/\(∃ cells,w.cells? 0 (a.add (i * te.ks.length)) te.ks.length=some cells/\ur (fZ w) w te.ks x cells)/\uX te.ks x:=fun i hi=>by
        have h1:=hel i hi;have hei:elems[i]? = some (elems[i]'(by omega)):=adi (by omega);rw [hei] at h1;obtain ⟨cells,hc1,hc2⟩:=aeM.1 h1;obtain ⟨x,hx1,hx2⟩:=ih el te r4 hte m cells _ _ hc2 fun q hq=>hw q (by simp only [DataW.weights,hu,adg,aeA];right; left;exact mU (elems.map (·.1)) (ae9.2 ⟨_,List.getElem_mem (by omega:i < elems.length),rfl⟩) q hq)
        refine ⟨x,?_,⟨cells,hc1,hx1⟩,hx2⟩;rcases aeU i with h0 | h0
        . left;subst h0;obtain ⟨g1,g2⟩:=tG hc1;obtain ⟨v,hv⟩:∃ v,cells[0]? = some v:=⟨cells[0]'(by omega),adi (by omega)⟩;have:=g2 0 v hv;simp [Addr.add] at this;exact (zq this).1
        . exact .inr h0
       obtain ⟨xs,hxl,hxs⟩:=uE _ len hone;refine ⟨((xs:List (Tl te.ks)),()),⟨⟨some a,cap,by show Value.slice (some a) len cap= .slice (some a) xs.length cap; rw [hxl],by show xs.length<=cap; omega,by show xs.length<=aT; omega,fun h=>by simp at h,fun hne => ?_⟩,trivial⟩,⟨⟨by show xs.length<=aT; omega,fun y hy => ?_⟩,trivial⟩⟩
       . have hpos:0 < xs.length:=List.length_pos_iff.2 hne;have hx0:=hxs 0 _ (adi hpos);have hsp:a.spot=none:=by
          rcases hx0.1 with h | h
          . exact h
          . omega
         obtain ⟨ab,ao,asp⟩:=a;simp only at hsp;subst hsp;have hadd:∀ o k,(⟨ab,o,none⟩:Addr).add k=⟨ab,o + k,none⟩:=fun o k=>by
          unfold Addr.add;split
          . rename_i h; subst h; rfl
          . rfl
         have hblk:ab < w.heap.size:=by obtain ⟨_,⟨cells,hc1,hc2⟩,_⟩:=hx0;obtain ⟨g1,g2⟩:=tG hc1;obtain ⟨v,hv⟩:∃ v,cells[0]? = some v:=⟨cells[0]'(by omega),adi (by omega)⟩;have:=g2 0 v hv;rw [hadd,hadd] at this;exact (zq this).2
         refine ⟨ab,ao,rfl,hblk,hblk,fun i x hi => ?_⟩;obtain ⟨_,⟨cells,hc1,hc2⟩,_⟩:=hxs i x hi;obtain ⟨g1,g2⟩:=tG hc1;refine zH w te.ks x cells ab (ao + i * te.ks.length) hc2 fun j v hj => ?_
         have:=g2 j v hj;rw [hadd,hadd] at this;exact this
       . obtain ⟨i,hi⟩:=afT hy;exact (hxs i y hi).2.2
   | struct fs =>
     obtain ⟨hag,hfl,_⟩:=hdd;rw [hag] at hrd;simp only at hrd;obtain ⟨xs,m,_,hx,hlen,hxl,hget⟩:=DataW.trod_struct hu htr;simp only [adF] at hx;obtain ⟨rfl,_⟩:=hx;rw [hcell] at hlen;have key:∀ (l:List (Nat×Nat)) (ks:List K) (off i:Nat),(∀ j,FL l j=FL ti.flds (i + j))->off + ks.length=ti.ks.length->XI E (MJ E n) l ks off=true->∃ x:Tl ks,ur (fZ w) w ks x (cs.drop off)/\uX ks x:=by
      intro l;induction l with
      | nil =>
        intro ks off i hf ho hb;cases ks with
        | nil => rw [List.drop_of_length_le (by simp at ho; omega)];exact ⟨(),trivial,trivial⟩
        | cons k ks=>simp [XI] at hb
      | cons p r ihl =>
        intro ks off i hf ho hb;obtain ⟨o,u⟩:=p
        have hb':(Nat.beq o off && (MJ E n u && match E.ti u with
         | some tu=>K.jW (ks.take tu.ks.length) tu.ks && (Nat.ble tu.ks.length ks.length && XI E (MJ E n) r (ks.drop tu.ks.length) (off + tu.ks.length))
         | none=>false))=true:=by
         cases ks <;> exact hb
        simp only [ac5] at hb';obtain ⟨b1,b2,b3⟩:=hb';cases htu:E.ti u with
        | none=>rw [htu] at b3; simp at b3
        | some tu =>
        rw [htu] at b3;simp only [ac5] at b3;obtain ⟨b3,b4,b5⟩:=b3;have ho':=beq_eq b1;subst ho';have hks:=K.iU _ _ b3;have hkl:tu.ks.length<=ks.length:=adC b4;have h0:=hf 0;rw [adO] at h0;obtain ⟨fi,f1,f2,f3⟩:=hfl i o u h0.symm;have hg:=hget i fi f1;rw [f2,f3] at hg;obtain ⟨inu,hinu,hsu,_⟩:=(hT u tu htu).info;have hcu:P.cellsOf u=tu.ks.length:=by simp [Program.cellsOf,hinu,hsu]
        rw [hcu] at hg;have hil:i < xs.length:=by rw [hxl]; exact (ado.1 f1).1
        rw [adi hil] at hg;obtain ⟨x,x1,x2⟩:=ih u tu b2 htu m _ _ _ hg fun q hq=>hw q (by
         simp only [DataW.weights,hu];refine DataW.weights_mem_each (j:=i) (t:=u) (d:=xs[i].1) ?_ ?_ q hq
         . rw [adY,ac8,f1,adG,f3]
         . rw [adY,adi hil]; rfl)
        obtain ⟨y,y1,y2⟩:=ihl (ks.drop tu.ks.length) (o + tu.ks.length) (i + 1) (fun j=>by rw [show i + 1 + j=i + (j + 1) by omega,<- hf (j + 1)]; rfl) (by rw [adZ]; omega) b5;exact EE hks rfl x1 x2 y1 y2
     obtain ⟨x,x1,x2⟩:=key ti.flds ti.ks 0 0 (fun j=>by rw [adA]) (by omega) hrd;exact ⟨x,x1,x2⟩
   | _=>exact hdd.elim
end
end Go.Av
namespace Go.Av
open Go.RowKit (Below)
def Ef (E:En):List Nat->List PK->Bool
 | [],[]=>true
 | t :: ts,.c g ks :: ps=>(match E.ti t with | some ti=>bU g ti.agg && (K.jW ks ti.ks && MJ E 30 t) | none=>false) && Ef E ts ps
 | _,_=>false
def TW:(ps:List PK)->PT ps->Prop
 | [],_=>True
 | .c _ ks :: ps,x=>uX ks x.1/\TW ps x.2
 | .pt _ :: ps,x=>TW ps x.2
 | .nil :: ps,x=>TW ps x
 | .fn _ _ :: ps,x=>TW ps x.2
 | .io _ _ :: ps,x=>TW ps x.2
 | .mv _ :: ps,x=>TW ps x.2
section
variable {H:Type} {enc:TypeId×Value->H} {P:Program} {w:World} {spare:Nat->Bool} {held:Bool} {E:En}
theorem Ry (hT:bK P E) {t:Nat} {ti:TI} (hr:MJ E 30 t=true) (hti:E.ti t=some ti) {base:Nat} {v:Value} (hv:Value.okWide P w .any base t v) {d:DataW H} {p:List MemPlace} (h:DataW.Trod enc P w 0 spare held t v d p) (hw:∀ m∈d.weights P t,m<=aT) :
 ∃ x:Tl ti.ks,Uo (fZ w) w ti.agg ti.ks x v/\uX ti.ks x:=by
 obtain ⟨fuel,h⟩:=h;obtain ⟨x,h1,h2⟩:=MN hT 30 t ti hr hti fuel _ d p h hw;refine ⟨x,⟨v.cells.toList,?_,h1⟩,h2⟩;obtain ⟨dd,hu,hdd⟩:=(hT t ti hti).desc;unfold Value.okWide at hv;rw [hu] at hv;cases dd with
 | struct fs => obtain ⟨cs,rfl,_⟩:=hv;rw [hdd.1];show Value.agg cs= .agg cs.toList.toArray;simp
 | bool => rw [hdd.1];unfold Cell.okWide at hv;rw [hu] at hv;cases v <;> first | rfl | exact (by simp [Cell.ok,hu] at hv)
 | int k => rw [hdd.1];unfold Cell.okWide at hv;rw [hu] at hv;cases v <;> first | rfl | exact (by simp [Cell.ok,hu] at hv)
 | string => rw [hdd.1];unfold Cell.okWide at hv;rw [hu] at hv;cases v <;> first | rfl | exact (by simp [Cell.ok,hu] at hv)
 | slice e => rw [hdd.1];unfold Cell.okWide at hv;rw [hu] at hv;cases v <;> first | rfl | exact (by simp [Cell.ok,hu] at hv)
 | _=>exact hdd.elim
theorem BE {base:Nat} {spare:Nat->Bool} {held:Bool}:∀ (ts:List Nat) (vs:List Value) (ds:List (DataW H)) (pl:List MemPlace),DataW.TrodAll enc P w base spare held ts vs ds pl->ds.length=ts.length
 | [],[],[],_,_=>rfl
 | t :: ts,v :: vs,d :: ds,_,h=>by obtain ⟨p,q,_,h2,_⟩:=h;simp [BE ts vs ds q h2]
 | [],_ :: _,_,_,h=>h.elim
 | [],[],_ :: _,_,h=>h.elim
 | _ :: _,[],_,_,h=>h.elim
 | _ :: _,_ :: _,[],_,h=>h.elim
theorem Ck (hT:bK P E) {base:Nat}:∀ (ts:List Nat) (ps:List PK),Ef E ts ps=true->∀ (vs:List Value) (ds:List (DataW H)) (pl:List MemPlace) (n:Nat),DataW.TrodAll enc P w 0 spare held ts vs ds pl->(∀ (j:Nat) t v,ts[j]? = some t->vs[j]? = some v->Value.okWide P w .any base t v) ->
 (∀ m∈DataW.weightsEach P ts ds,m<=aT)->∃ x:PT ps,dz (fZ w) w (fun _ _=>False) ps x vs n/\TW ps x
 | [],[],_,[],[],pl,n,h,hv,hw=>⟨(),trivial,trivial⟩
 | [],[],_,_ :: _,_,pl,n,h,hv,hw=>h.elim
 | [],[],_,[],_ :: _,pl,n,h,hv,hw=>h.elim
 | t :: ts,.c g ks :: ps,hp,[],ds,pl,n,h,hv,hw=>h.elim
 | t :: ts,.c g ks :: ps,hp,_ :: _,[],pl,n,h,hv,hw=>h.elim
 | t :: ts,.c g ks :: ps,hp,v :: vs,d :: ds,pl,n,h,hv,hw=>by
   obtain ⟨p,q,h1,h2,_⟩:=h;unfold Ef at hp;simp only [ac5] at hp;obtain ⟨hp1,hp2⟩:=hp;cases hti:E.ti t with
   | none=>rw [hti] at hp1; simp at hp1
   | some ti => rw [hti] at hp1;simp only [ac5] at hp1;obtain ⟨b1,b2,b3⟩:=hp1;have e1:=eo b1;have e2:=K.iU _ _ b2;subst e1;subst e2;obtain ⟨x,x1,x2⟩:=Ry hT b3 hti (hv 0 t v rfl rfl) h1 (fun m hm=>hw m (by simp only [DataW.weightsEach,aeA]; exact .inl hm));obtain ⟨y,y1,y2⟩:=Ck hT ts ps hp2 vs ds q n h2 (fun j t' v' ht hv'=>hv (j + 1) t' v' (by simpa using ht) (by simpa using hv')) (fun m hm=>hw m (by simp only [DataW.weightsEach,aeA]; exact .inr hm));exact ⟨(x,y),⟨x1,y1⟩,⟨x2,y2⟩⟩
 | [],.c _ _ :: _,hp,_,_,_,_,_,_,_=>by simp [Ef] at hp
 | [],.pt _ :: _,hp,_,_,_,_,_,_,_=>by simp [Ef] at hp
 | [],.nil :: _,hp,_,_,_,_,_,_,_=>by simp [Ef] at hp
 | [],.fn _ _ :: _,hp,_,_,_,_,_,_,_=>by simp [Ef] at hp
 | [],.io _ _ :: _,hp,_,_,_,_,_,_,_=>by simp [Ef] at hp
 | [],.mv _ :: _,hp,_,_,_,_,_,_,_=>by simp [Ef] at hp
 | _ :: _,[],hp,_,_,_,_,_,_,_=>by simp [Ef] at hp
 | _ :: _,.pt _ :: _,hp,_,_,_,_,_,_,_=>by simp [Ef] at hp
 | _ :: _,.nil :: _,hp,_,_,_,_,_,_,_=>by simp [Ef] at hp
 | _ :: _,.fn _ _ :: _,hp,_,_,_,_,_,_,_=>by simp [Ef] at hp
 | _ :: _,.io _ _ :: _,hp,_,_,_,_,_,_,_=>by simp [Ef] at hp
 | _ :: _,.mv _ :: _,hp,_,_,_,_,_,_,_=>by simp [Ef] at hp
theorem Iq {fresh:Bool} {Z:Nat->Prop} {w:World} {H:Nat->Nat->Prop} {b:Bool}:∀ {vs:List Value},lk fresh Z w H [(false,[.bool])] ((b,()),()) vs 0->vs=[.bool b]
 | [],h=>h.elim
 | [v],h=>by obtain ⟨⟨cs,hc,hcells⟩,_⟩:=h;have hc:cs=[v]:=hc;subst hc;have hv:v= .bool b:=hcells.1;rw [hv]
 | _ :: _ :: _,h=>h.2.elim
theorem H6 {f : Nat} {fn : Func} {c : Code} {s : Su} (hsu : ar P f s) (hf : P.funcs[f]? = some fn) (hname : (fn.name == "runtime.NumGoroutine") = false) (hb : fn.body = some c)
 (hgl:Gl P w (fZ w)) {args:Array Value} {x:PT s.ps} (hargs:dz (fZ w) w (fun _ _=>False) s.ps x args.toList 0)
 (hlaw:∃ y,s.uA x=some y/\∀ (Z:Nat->Prop) (w':World) (H:Nat->Nat->Prop) (vs:List Value),lk s.fresh Z w' H s.rs y.2 vs 0->vs=[.bool true]) :
 Calls P f args w fun e w'=>e= .returned (.bool true)/\Below w.heap.size w w':=by
 obtain ⟨y,hy,hres⟩:=hlaw;have h:=hsu w (fZ w) (fun _ _=>False) args x y hgl hargs (fun b hb=>hb) (fun i b hb=>hb.elim) (fun i j b hb=>hb.elim) hy;rw [MuLone.run_callFunc_enter hf hname hb] at h;have h:Calls P f args w _:=h;refine h.mono fun e w' he => ?_
 cases e with
 | returned v => obtain ⟨Z',H',vs,rfl,ha,_,hr⟩:=he;have hvs:=hres Z' w' _ vs hr;subst hvs;exact ⟨rfl,ha.os,ha.tape,ha.output,ha.size,fun k hk=>ha.block k hk fun i hi=>hi⟩
 | _=>exact he.elim
theorem Below.trodAll (hl:laidOutB P=true) {W W':World} (hb:Below W.heap.size W W'):∀ (ts:List TypeId) (vs:List Value) (ds:List (DataW H)) (ps:List MemPlace),(∀ t∈ts,P.readableRec t=true/\t < P.types.size)->DataW.TrodAll enc P W 0 (fun _=>true) true ts vs ds ps->(∀ x∈ps,x.block < W.heap.size)->DataW.TrodAll enc P W' 0 (fun b=>decide (b < W.heap.size)) true ts vs ds ps
 | [],[],[],ps,_,h,_=>h
 | t :: ts,v :: vs,d :: ds,ps,ht,h,hlt=>by obtain ⟨p,q,h1,h2,rfl⟩:=h;exact ⟨p,q,Below.trod hl (ht t (adu ..)).1 (ht t (adu ..)).2 h1 hb (fun x hx=>hlt x (ae3 _ hx)),Below.trodAll hl hb ts vs ds q (fun t ht'=>ht t (adt _ ht')) h2 (fun x hx=>hlt x (afd _ hx)),rfl⟩
 | [],_ :: _,_,_,_,h,_=>h.elim
 | [],[],_ :: _,_,_,h,_=>h.elim
 | _ :: _,[],_,_,_,h,_=>h.elim
 | _ :: _,_ :: _,[],_,_,h,_=>h.elim
theorem LF {fn:Func} {s:ChangeSpec} (hl:laidOutB P=true) (hvars:s.vars=[]) {rt:TypeId} (hrt:fn.resultTypes = #[rt]) (hru:P.underlying rt=some .bool) (hpar:∀ t∈fn.params.toList,P.readableRec t=true/\t < P.types.size)
 {W W':World} {args:Array Value} {ds gs:List (DataW H)} {before:List MemPlace} (hW:DataW.Whole enc P fn.params.toList s.vars false W args.toList ds gs before) (hb:Below W.heap.size W W')
 (hs:s.fn H (ds ++ gs)={ results:=[.lit (.bool true)],args:=ds }):s.post enc P fn false true false false W args (.bool true) W':=by
 have hlt:=hW.lt;have hW0:=hW;obtain ⟨p,q,hA,hV,rfl,_,_⟩:=hW;rw [hvars] at hV;obtain ⟨rfl,rfl⟩:gs=[]/\q=[]:=by
  cases gs with
  | nil=>exact ⟨rfl,hV⟩
  | cons _ _=>exact hV.elim
 refine ⟨ds,[],_,[],p,[],hW0,?_,?_,?_,hb.frame _,fun h=>by simp at h⟩
 . rw [hs,hrt];exact ⟨[],[],Go.RowKit.shut_bool hru true,rfl,rfl⟩
 . rw [hs];exact Below.trodAll hl hb _ _ _ _ hpar hA fun x hx=>by have:=hlt x (ae3 _ hx); simpa using this
 . rw [hs,hvars];rfl
end
end Go.Av
namespace Go.Av
structure K8 {α:Type} (lt:α->α->Bool):Prop where
 irr:∀ a,lt a a=false
 trans:∀ a b c,lt a b=true->lt b c=true->lt a c=true
 neg:∀ a b c,lt a c=true->lt a b=true∨lt b c=true
def eqv {α:Type} (lt:α->α->Bool) (a b:α):Bool:= !lt a b && !lt b a
def eL {α:Type} (lt:α->α->Bool) (xs ys:List α):Prop:=xs.length=ys.length/\∀ z,xs.filter (eqv lt z)=ys.filter (eqv lt z)
def l7 {α:Type} (lt:α->α->Bool) (xs:List α):Prop:=xs.Pairwise fun a b=>lt b a=false
section
variable {α:Type} {lt:α->α->Bool}
theorem xD (h:K8 lt) (a:α):eqv lt a a=true:=by simp [eqv,h.irr]
theorem uZ {a b:α}:eqv lt a b=true↔lt a b=false/\lt b a=false:=by simp [eqv]
theorem K8.le_trans (h:K8 lt) {a b c:α} (h1:lt b a=false) (h2:lt c b=false):lt c a=false:=by
 cases hc:lt c a with
 | false=>rfl
 | true=>rcases h.neg c b a hc with h3 | h3 <;> simp_all
theorem yV (h:K8 lt) {a b c:α} (h1:eqv lt a b=true) (h2:eqv lt b c=true):eqv lt a c=true:=by
 rw [uZ] at *
 exact ⟨h.le_trans h2.1 h1.1,h.le_trans h1.2 h2.2⟩
theorem BJ {a b:α} (h:eqv lt a b=true):eqv lt b a=true:=by rw [uZ] at *; exact ⟨h.2,h.1⟩
theorem eL.refl (xs:List α):eL lt xs xs:=⟨rfl,fun _=>rfl⟩
theorem eL.symm {xs ys:List α} (h:eL lt xs ys):eL lt ys xs:=⟨h.1.symm,fun z=>(h.2 z).symm⟩
theorem eL.trans {xs ys zs:List α} (h1:eL lt xs ys) (h2:eL lt ys zs):eL lt xs zs:=⟨h1.1.trans h2.1,fun z=>(h1.2 z).trans (h2.2 z)⟩
theorem eL.append {a b c d:List α} (h1:eL lt a b) (h2:eL lt c d):eL lt (a ++ c) (b ++ d):=⟨by simp [h1.1,h2.1],fun z=>by simp [h1.2 z,h2.2 z]⟩
theorem eL.mem (h:K8 lt) {xs ys:List α} (hs:eL lt xs ys) {x:α}:x∈xs↔x∈ys:=by
 have key:∀ {xs ys:List α},eL lt xs ys->x∈xs->x∈ys:=fun {xs ys} hs hx=>by have:x∈xs.filter (eqv lt x):=ae2.2 ⟨hx,xD h x⟩;rw [hs.2 x] at this;exact (ae2.1 this).1
 exact ⟨key hs,key hs.symm⟩
theorem eL.swap (h:K8 lt) {a b:List α} (hab:∀ x∈a,∀ y∈b,lt y x=true):eL lt (a ++ b) (b ++ a):=by
 refine ⟨by simp [Nat.add_comm],fun z => ?_⟩;rw [afD,afD];by_cases ha:a.filter (eqv lt z)=[]
 . rw [ha]; simp
 . by_cases hb:b.filter (eqv lt z)=[]
   . rw [hb]; simp
   . exfalso;obtain ⟨x,hx⟩:=List.exists_mem_of_ne_nil _ ha;obtain ⟨y,hy⟩:=List.exists_mem_of_ne_nil _ hb;have hx:=ae2.1 hx;have hy:=ae2.1 hy;have:=yV h (BJ hx.2) hy.2;rw [uZ] at this;rw [hab x hx.1 y hy.1] at this;simp at this
theorem cM {a b:List α}:l7 lt (a ++ b)↔l7 lt a/\l7 lt b/\∀ x∈a,∀ y∈b,lt y x=false:=List.pairwise_append
theorem Gj:l7 lt ([]:List α):=List.Pairwise.nil
theorem M8 (x:α):l7 lt [x]:=List.pairwise_singleton _ _
theorem rR (h:K8 lt):∀ {xs ys:List α},l7 lt xs->l7 lt ys->eL lt xs ys->xs=ys
 | [],ys,_,_,hs=>(adl.1 hs.1.symm).symm
 | x :: xs,[],_,_,hs=>by have:=hs.1; simp at this
 | x :: xs,y :: ys,hx,hy,hs=>by
   have hx':=afa.1 hx;have hy':=afa.1 hy;have e:eqv lt x y=true:=by
    rw [uZ];constructor
    . have:x∈y :: ys:=(hs.mem h).1 (adu ..);rcases adg.1 this with rfl | hm
      . exact h.irr _
      . exact hy'.1 x hm
    . have:y∈x :: xs:=(hs.mem h).2 (adu ..);rcases adg.1 this with rfl | hm
      . exact h.irr _
      . exact hx'.1 y hm
   have h0:=hs.2 x;rw [aep (xD h x),aep e] at h0;have hxy:x=y:=(afI h0).1;subst hxy;congr 1;refine rR h hx'.2 hy'.2 ⟨by have:=hs.1; simpa using this,fun z => ?_⟩;have hz:=hs.2 z;by_cases hzx:eqv lt z x=true
   . rw [aep hzx,aep hzx] at hz;exact (afI hz).2
   . rw [afm hzx,afm hzx] at hz;exact hz
theorem rr (a b:UInt8) (s t:List UInt8):kB (a :: s) (b :: t)=(decide (a < b) || (a == b && kB s t)):=rfl
theorem Ap:∀ s:List UInt8,kB s s=false
 | []=>rfl
 | a :: s=>by
   rw [rr,Ap s];have:¬ a < a:=fun h=>by have:=aea.1 h; omega
   simp [this]
theorem tQ:∀ (s t u:List UInt8),kB s t=true->kB t u=true->kB s u=true
 | [],[],_,h,_=>by simp [kB,Op.bytesLess] at h
 | [],_ :: _,[],_,h=>by simp [kB,Op.bytesLess] at h
 | [],_ :: _,_ :: _,_,_=>rfl
 | _ :: _,[],_,h,_=>by simp [kB,Op.bytesLess] at h
 | _ :: _,_ :: _,[],_,h=>by simp [kB,Op.bytesLess] at h
 | a :: s,b :: t,c :: u,h1,h2=>by
   rw [rr] at *
   simp only [ad8,aeg,ac5,beq_iff_eq] at *
   rcases h1 with h1 | ⟨rfl,h1⟩
   . rcases h2 with h2 | ⟨rfl,h2⟩
     . left;have:=aea.1 h1;have:=aea.1 h2;exact aea.2 (by omega)
     . exact .inl h1
   . rcases h2 with h2 | ⟨rfl,h2⟩
     . exact .inl h2
     . exact .inr ⟨rfl,tQ s t u h1 h2⟩
theorem Fq:∀ (s t:List UInt8),kB s t=true∨s=t∨kB t s=true
 | [],[]=> .inr (.inl rfl)
 | [],_ :: _=> .inl rfl
 | _ :: _,[]=> .inr (.inr rfl)
 | a :: s,b :: t=>by
   rw [rr,rr];simp only [ad8,aeg,ac5,beq_iff_eq];rcases afu a.toNat b.toNat with h | h | h
   . exact .inl (.inl (aea.2 h))
   . have e:a=b:=afV.1 h;subst e;rcases Fq s t with h1 | h1 | h1
     . exact .inl (.inr ⟨rfl,h1⟩)
     . exact .inr (.inl (by rw [h1]))
     . exact .inr (.inr (.inr ⟨rfl,h1⟩))
   . exact .inr (.inr (.inl (aea.2 h)))
theorem OV {β:Type} (k:β->List UInt8):K8 fun a b=>kB (k a) (k b) :=
 ⟨fun a=>Ap _,fun a b c=>tQ _ _ _,fun a b c h=>by
   rcases Fq (k a) (k b) with h1 | h1 | h1
   . exact .inl h1
   . right; rw [<- h1]; exact h
   . exact .inr (tQ _ _ _ h1 h)⟩
theorem yW (d:α) (u:List α) (p q:α) (v:List α):kO d (u ++ p :: q :: v) (u.length + 1) u.length=u ++ q :: p :: v:=by
 unfold kO;have h1:(u ++ p :: q :: v).getD u.length d=p:=by simp [List.getD]
 have h2:(u ++ p :: q :: v).getD (u.length + 1) d=q:=by simp [List.getD]
 rw [h1,h2,ae4,if_neg (by omega),show u.length + 1 - u.length=1 by omega,ae4,if_neg (by omega),aeh];rfl
theorem Ej (d:α) (u:List α) (p q:α) (v:List α):kO d (u ++ p :: q :: v) u.length (u.length + 1)=u ++ q :: p :: v:=by
 unfold kO;have h1:(u ++ p :: q :: v).getD u.length d=p:=by simp [List.getD]
 have h2:(u ++ p :: q :: v).getD (u.length + 1) d=q:=by simp [List.getD]
 rw [h1,h2,ae4,if_neg (by omega),aeh,ae4,if_neg (by omega),show u.length + 1 - u.length=1 by omega];rfl
theorem xi (d:α) (u:List α) (p:α) (v:List α) {i:Int} (hi:i=(u.length:Int)):gt d (u ++ p :: v) i=p:=by subst hi; simp [gt,List.getD]
theorem iL (u:List α) (p:α) (v:List α) {i:Int} (hi:i=(u.length:Int)):aR i (u ++ p :: v)=true:=by subst hi; exact lT (by simp)
theorem kA (u:List α) (p:α) (v:List α) {i:Int} (hi:i=(u.length:Int)):yT i (u ++ p :: v) i=true:=by have h:=iL u p v hi;unfold yT om;rw [show ko i (u ++ p :: v).length=true from h,afj];rfl
theorem AT (d:α) (xs:List α) (n:Nat):gt d xs (n:Int)=xs.getD n d:=by simp [gt]
theorem qU (d:α) (u r s:List α) {q:Nat} (h:q < r.length):(u ++ r ++ s).getD (u.length + q) d=r.getD q d:=by rw [List.getD,List.getD,adB,adV (by omega),aeo,ad3 h]
theorem nD {xs:List α} {n:Nat} (h:n < xs.length):aR (n:Int) xs=true:=lT h
theorem jc (hw:K8 lt) (d:α) {r:List α} (hs:l7 lt r) {q' q:Nat} (h1:q'<=q) (h2:q < r.length):lt (r.getD q d) (r.getD q' d)=false:=by
 rcases adj q' q with h | h
 . have:=List.pairwise_iff_getElem.1 hs q' q (by omega) h2 h;rw [List.getD,List.getD,adi h2,adi (by omega)];exact this
 . have:q'=q:=by omega
   subst this;exact hw.irr _
theorem nN (d:α) {r:List α} {n:Nat} {y:α} (h:y∈r.take n):∃ q,q < n/\q < r.length/\y=r.getD q d:=by obtain ⟨q,hq,e⟩:=afy h;rw [adJ] at hq;refine ⟨q,by omega,by omega,?_⟩;rw [<- e,List.getElem_take,List.getD,adi (by omega)];rfl
theorem nz (d:α) {r:List α} {n:Nat} {y:α} (h:y∈r.drop n):∃ q,n<=q/\q < r.length/\y=r.getD q d:=by obtain ⟨q,hq,e⟩:=afy h;rw [adZ] at hq;refine ⟨n + q,by omega,by omega,?_⟩;rw [<- e,List.getElem_drop,List.getD,adi (by omega)];rfl
theorem vk {a:List α} (h:a≠[]):∃ b x,a=b ++ [x]:=⟨a.dropLast,a.getLast h,(List.dropLast_concat_getLast h).symm⟩
end
end Go.Av
namespace Go.Av
theorem vh {i j:Nat} (h:i + j<=4398046511104):bI .i64 (iT .u64 (bI .u64 (aj .i64 (i:Int) (j:Int))) 1)=(((i + j) / 2:Nat):Int):=by
 have e1:aj .i64 (i:Int) (j:Int)=((i + j:Nat):Int):=by rw [aA (by omega) (by omega)]; omega
 have e2:bI .u64 ((i + j:Nat):Int)=((i + j:Nat):Int):=IntWalk.u64_in _ (by omega);rw [e1,e2];have e3:iT .u64 ((i + j:Nat):Int) 1=(((i + j) / 2:Nat):Int):=by
  unfold iT;have h2:(2:Int) ^ min (1:Int).toNat IntKind.u64.bits=2:=by decide
  rw [h2,Int.fdiv_eq_ediv_of_nonneg _ (by decide)];omega
 rw [e3];exact IntWalk.i64_in _ (by omega)
theorem bsearch {X Y:Type} (step:X->Option (Sum X Y)) (S:Nat->Nat->X) (z:Nat->Y) (f:Nat->Bool) (lo0 hi0:Nat) (mono:∀ h h',lo0<=h'->h'<=h->h < hi0->f h=true->f h'=true)
 (hs:∀ lo hi,lo0<=lo->lo < hi->hi<=hi0->step (S lo hi)=some (.inl (bif f ((lo + hi) / 2) then S ((lo + hi) / 2 + 1) hi else S lo ((lo + hi) / 2)))) (he:∀ k,lo0<=k->k<=hi0->step (S k k)=some (.inr (z k))) :
 ∀ (n lo hi:Nat),hi - lo=n->lo0<=lo->lo<=hi->hi<=hi0->(∀ h,lo0<=h->h < lo->f h=true)->(∀ h,hi<=h->h < hi0->f h=false) ->
  ∃ k,lo0<=k/\k<=hi0/\(∀ h,lo0<=h->h < k->f h=true)/\(∀ h,k<=h->h < hi0->f h=false)/\ah step (S lo hi)=some (z k):=by
 intro n;induction n using Nat.strongRecOn with
 | _ n ih =>
 intro lo hi hn h1 h2 h3 h4 h5;by_cases h:lo=hi
 . subst h;exact ⟨lo,h1,h3,h4,h5,aN _ (he lo h1 h3)⟩
 . have hlt:lo < hi:=by omega
   have hst:=hs lo hi h1 hlt h3;cases hf:f ((lo + hi) / 2) with
   | true => rw [hf] at hst;obtain ⟨k,k1,k2,k3,k4,k5⟩:=ih (hi - ((lo + hi) / 2 + 1)) (by omega) ((lo + hi) / 2 + 1) hi rfl (by omega) (by omega) h3 (fun q q1 q2=>mono _ q q1 (by omega) (by omega) hf) h5;exact ⟨k,k1,k2,k3,k4,aV _ hst k5⟩
   | false =>
     rw [hf] at hst;obtain ⟨k,k1,k2,k3,k4,k5⟩:=ih ((lo + hi) / 2 - lo) (by omega) lo ((lo + hi) / 2) rfl h1 (by omega) (by omega) h4 (fun q q1 q2=>by
      cases hq:f q with
      | false=>rfl
      | true => have:=mono q ((lo + hi) / 2) (by omega) q1 q2 hq;rw [hf] at this;simp at this)
     exact ⟨k,k1,k2,k3,k4,aV _ hst k5⟩
end Go.Av
namespace Go.Av
open Go.RowKit (Below)
open Go.Shelf Go.Proofs Go.Lib
section
variable {P:Program} {w w':World} {Z Z':Nat->Prop} {F G:Nat->Nat->Prop}
theorem lF:∀ (ps:List PK) (x:PT ps) (y:uw ps) (vs:List Value) (n m:Nat),dz Z w F ps x vs n->lL ps=false->vF Z' w' G ps y vs m
 | [],_,_,[],_,_,_,_=>trivial
 | [],_,_,_ :: _,_,_,h,_=>h.elim
 | .c _ _ :: ps,x,y,v :: vs,n,m,h,hi=>lF ps x.2 y vs n m h.2 hi
 | .pt _ :: ps,x,y,v :: vs,n,m,h,hi=>lF ps x.2 y vs n m h.2 hi
 | .nil :: ps,x,y,v :: vs,n,m,h,hi=>lF ps x y vs n m h.2 hi
 | .fn _ _ :: ps,x,y,v :: vs,n,m,h,hi=>lF ps x.2 y vs n m h.2 hi
 | .mv _ :: ps,x,y,v :: vs,n,m,h,hi=>lF ps x.2 y vs (n + 1) (m + 1) h.2 hi
 | .io _ _ :: ps,_,_,_,_,_,_,hi=>by simp [lL] at hi
 | .c _ _ :: _,_,_,[],_,_,h,_=>h.elim
 | .pt _ :: _,_,_,[],_,_,h,_=>h.elim
 | .nil :: _,_,_,[],_,_,h,_=>h.elim
 | .fn _ _ :: _,_,_,[],_,_,h,_=>h.elim
 | .mv _ :: _,_,_,[],_,_,h,_=>h.elim
def N1 (w:World) (Z:Nat->Prop) (s:Su) (y:CT s.rs) (e:Ending) (w':World):Prop :=
 ∃ (vs:List Value) (H:Nat->Nat->Prop),e= .returned (zN vs)/\Below w.heap.size w w'/\(∀ n b,H n b->w.heap.size<=b/\b < w'.heap.size)/\(∀ n m b,H n b->H m b->n=m)/\lk s.fresh Z w' H s.rs y vs 0
theorem T7 {f : Nat} {fn : Func} {c : Code} {s : Su} (hf : P.funcs[f]? = some fn) (hname : (fn.name == "runtime.NumGoroutine") = false) (hb : fn.body = some c) (hio : lL s.ps = false)
 (h:∀ (w:World) (Z:Nat->Prop) (F:Nat->Nat->Prop) (args:Array Value) (x:PT s.ps) (y:uw s.ps×CT s.rs),Gl P w Z->(∀ b,Z b->b < w.heap.size)->dz Z w F s.ps x args.toList 0->s.uA x=some y->Calls P f args w (N1 w Z s y.2)):ar P f s:=by
 intro w Z F args x y hgl hargs hZ hF hd hy;rw [MuLone.run_callFunc_enter hf hname hb];show Calls P f args w _;refine (h w Z F args x y hgl hZ hargs hy).mono fun e w' ⟨vs,H,he,hb,h1,h2,hr⟩ => ?_
 subst he;refine ⟨Z,fun n b=>∃ j,n=2 * j + 1/\H j b,vs,rfl,?_,lF _ x _ _ 0 0 hargs hio,lk.mono (fun n b hb=>⟨n,rfl,hb⟩) _ _ _ _ hr⟩
 exact { os:=hb.os,tape:=hb.tape,output:=hb.output,size:=hb.size
         block:=fun b hlt _=>hb.block b hlt
         z:=fun b hb=>hb
         bS:=fun b hz=>⟨adw (hZ b hz) hb.size,.inl hz⟩
         fp:=fun n b ⟨j,_,hh⟩=>⟨(h1 j b hh).2,fun hz=>by have:=hZ b hz; have:=(h1 j b hh).1; omega,.inr (h1 j b hh).1⟩
         disj:=fun n m b ⟨j,e1,h3⟩ ⟨j',e2,h4⟩=>by have:=h2 j j' b h3 h4; omega }
theorem arg_str {x:Tl [K.str]} {v:Value} (h:Uo Z w false [.str] x v):v= .string (et x.1)/\x.1.length<=aT:=by obtain ⟨cs,e,h⟩:=h;have e:cs=[v]:=e;subst e;exact h.1
end
end Go.Av
namespace Go.Av
open Go.RowKit (Below)
open Go.Shelf Go.Proofs Go.Lib
section
variable {P:Program}
def ve (gd:List UInt8->Option (Unit×((Bool×Unit)×Unit))) (s:List UInt8):Option (Unit×((Int×Unit)×(Bool×Unit)×Unit)) :=
 Option.bind (gd s) fun y=>cond (y.2.1.1 && Nat.ble s.length 18) (match Lib.atoiAll s with | .ok v=>some ((),((v,()),(true,()),())) | _=>none) (some ((),((0,()),(false,()),())))
def FD (P:Program) (f fd fa:Nat):Prop:=∀ (s:ByteArray) (b:Bool) (v:Int) (w:World) (R R2:World->Prop),Calls P fd #[.string s] w (fun e w1=>e= .returned (.bool b)/\R w1) ->
 (b=true->s.size<=18->∀ w1,R w1->Calls P fa #[.string s] w1 fun e w2=>e= .returned (.tuple #[.int .i64 v,.nilIface])/\R2 w2) ->
 Calls P f #[.string s] w fun e w'=>(b=true/\s.size<=18/\e= .returned (.tuple #[.int .i64 v,.bool true])/\R2 w')∨(¬ (b=true/\s.size<=18)/\e= .returned (.tuple #[.int .i64 0,.bool false])/\R w')
theorem P8 {fr:Bool} {Z:Nat->Prop} {w:World} {v:Int} {b:Bool} (h:mq .i64 v):lk fr Z w (fun _ _=>False) [(false,[.int .i64]),(false,[.bool])] ((v,()),(b,()),()) [.int .i64 v,.bool b] 0 :=
 ⟨⟨[.int .i64 v],rfl,⟨rfl,h⟩,trivial⟩,⟨[.bool b],rfl,rfl,trivial⟩,trivial⟩
theorem Hq {ρ:Ren} (L:LaysC.n172 P ρ) {f fd fa:Nat} {gd:List UInt8->Option (Unit×((Bool×Unit)×Unit))} (hd:ar P fd ⟨[.c false [.str]],[(false,[.bool])],true,.inl fun x=>gd x.1.1⟩)
 {fnd : Func} {cd : Code} (d1 : P.funcs[fd]? = some fnd) (d2 : (fnd.name == "runtime.NumGoroutine") = false) (d3 : fnd.body = some cd) (hfa : fa = ρ.f 172) (W : FD P f fd fa)
 {fn : Func} {c : Code} (h1 : P.funcs[f]? = some fn) (hname : (fn.name == "runtime.NumGoroutine") = false) (hb : fn.body = some c) : ar P f ⟨[.c false [.str]], [(false, [.int .i64]), (false, [.bool])], true, .inl fun x => ve gd x.1.1⟩ := by
 subst hfa;refine T7 h1 hname hb rfl fun w Z F args x y hgl hZ hargs hy => ?_
 have hy:ve gd x.1.1=some y:=hy
 match hl:args.toList,hargs with
 | [u],⟨hv,_⟩ =>
   obtain ⟨rfl,hlen⟩:=arg_str hv;obtain rfl:args = #[.string (et x.1.1)]:=by rw [<- aec (xs:=args),hl]
   obtain ⟨⟨s,_⟩,_⟩:=x;change List UInt8 at s;have hlen:s.length<=aT:=hlen;obtain ⟨yd,hyd,hy⟩:=aeM.1 hy;have hC:=hd w Z (fun _ _=>False) #[.string (et s)] ((s,()),()) yd hgl ⟨hv,trivial⟩ hZ (fun _ _ h=>h.elim) (fun _ _ _ h=>h.elim) hyd;rw [MuLone.run_callFunc_enter d1 d2 d3] at hC;have hC:Calls P fd #[.string (et s)] w (fun e w1=>e= .returned (.bool yd.2.1.1)/\Below w.heap.size w w1):=by
    refine Calls.mono (show Calls P fd #[.string (et s)] w _ from hC) fun e w1 h => ?_
    cases e with
    | returned v =>
      obtain ⟨Z',H,vs,rfl,ha,_,hr⟩:=h
      match vs,hr with
      | [v1],⟨⟨cs,e,h⟩,_⟩ => have e:cs=[v1]:=e;subst e;have h:v1= .bool yd.2.1.1:=h.1;refine ⟨by rw [h]; rfl,ha.os,ha.tape,ha.output,ha.size,fun b hb=>ha.block b hb fun _ h=>h⟩
      | [],h=>exact h.elim
      | _ :: _ :: _,h=>exact h.2.elim
    | _=>exact h.elim
   have hs18:(et s).size=s.length:=by simp [et,ByteArray.size]
   have hdata:(et s).data.toList=s:=by simp [et]
   cases hc:yd.2.1.1 && Nat.ble s.length 18 with
   | false =>
     rw [hc] at hy;obtain rfl:=aeb hy;refine (W (et s) yd.2.1.1 0 w (Below w.heap.size w) (fun _=>False) hC (fun e1 e2 => ?_)).mono fun e w' h => ?_
     . rw [hs18] at e2;rw [e1,adn e2] at hc;simp at hc
     . rcases h with ⟨_,_,_,h⟩ | ⟨_,rfl,hb⟩
       . exact h.elim
       . exact ⟨[_,_],fun _ _=>False,rfl,hb,fun _ _ h=>h.elim,fun _ _ _ h=>h.elim,P8 ⟨by decide,by decide⟩⟩
   | true =>
     rw [hc] at hy;simp only [ac5] at hc;have h18:=adC hc.2;simp only [ac6] at hy;split at hy
     . rename_i v hv;obtain rfl:=aeb hy;refine (W (et s) yd.2.1.1 v w (Below w.heap.size w) (Below w.heap.size w) hC (fun e1 e2 w1 hb => ?_)).mono fun e w' h => ?_
       . refine (Any.strconv_Atoi_ok L (et s) (by rw [hs18]; omega) v (by rw [hdata]; exact hv) w1).mono fun e w2 ⟨he,hw⟩=>⟨he,?_⟩
         rcases hw with rfl | ⟨t,rfl⟩
         . exact hb
         . have h2:=bytesWorld_below w1 (ρ.t 5) t;exact hb.trans ⟨h2.os,h2.tape,h2.output,h2.size,fun k hk=>h2.block k (adw hk hb.size)⟩
       . rcases h with ⟨_,_,rfl,hb⟩ | ⟨h,_⟩
         . exact ⟨[_,_],fun _ _=>False,rfl,hb,fun _ _ h=>h.elim,fun _ _ _ h=>h.elim,P8 (by obtain ⟨h1,h2⟩:=Lib.atoiAll_bounds hv; exact ⟨h1,h2⟩)⟩
         . exact absurd ⟨hc.1,by rw [hs18]; exact h18⟩ h
     . simp at hy
 | [],h=>exact h.elim
 | _ :: _ :: _,h=>exact h.2.elim
end
end Go.Av
namespace Go.Av
open Go.RowKit (Below)
theorem NG {P:Program} {W:World} {nm:String} {k:IntKind} {zs:List Int} {g:Nat} (hg:P.globalNamed nm=some g) (h:Lib.TabIs P W nm k zs):V9 k zs W.heap[g]? /\ fZ W g/\g < W.heap.size:=by
 simp only [Lib.TabIs,World.var?,hg,adq] at h;cases ho:W.heap[g]? with
 | none=>rw [ho] at h; simp at h
 | some o =>
   rw [ho] at h;have hlt:g < W.heap.size:=by
    rcases adj g W.heap.size with h' | h'
    . exact h'
    . rw [adr h'] at ho; simp at ho
   cases o with
   | cells cs e fr=>simp only [ac3] at h; subst h; exact ⟨⟨e,fr,rfl⟩,hlt,hlt⟩
   | _=>simp at h
theorem PA {P:Program} {w:World} {g:Nat} {t:TypeId} {zero:Array Value} (h:w.ShapedOpen P) (hg:g < P.globals.size)
 (h0:((begin P (fun _ _=>0) default).world.heap[g]?).bind Obj.row? = some (zero,t)) (hz:zero.size=1)
 (hb:P.buildable t=true) (hc:P.cellTypes P.depth t=some [t]) (hu:P.underlying t=some (.int .i64)):U5 w.heap[g]? /\ fZ w g/\g < w.heap.size:=by
 obtain ⟨m,hm⟩:=Go.Proofs.cell_of_shapedOpen_int h hg h0 hz hb hc hu;have hlt:=BL hm;refine ⟨?_,hlt,hlt⟩;simp only [World.cell?,aed,adQ,aek] at hm;cases ho:w.heap[g]? with
 | none=>rw [ho] at hm; simp at hm
 | some o =>
   rw [ho] at hm;cases o with
   | cells cs e fr=>exact ⟨m,cs,e,fr,rfl,hm⟩
   | _=>simp at hm
theorem Ll {P:Program} {W:World} {nm:String} {g:Nat} {tp:TypeId} {X:Addr->Prop} (hg:P.globalNamed nm=some g) (h:∃ a,W.var? P nm=some #[.iface tp (.pointer (some a))]/\X a):ZA W.heap[g]? /\ fZ W g/\g < W.heap.size:=by
 obtain ⟨a,h,_⟩:=h;simp only [World.var?,hg,adq] at h;cases ho:W.heap[g]? with
 | none=>rw [ho] at h; simp at h
 | some o =>
   rw [ho] at h;have hlt:g < W.heap.size:=by
    rcases adj g W.heap.size with h' | h'
    . exact h'
    . rw [adr h'] at ho; simp at ho
   cases o with
   | cells cs e fr=>simp only [ac3] at h; subst h; exact ⟨⟨_,_,e,fr,rfl,rfl,.inr ⟨_,_,rfl⟩⟩,hlt,hlt⟩
   | _=>simp at h
def Qe (P:Program) (W:World):List (String×(Option Obj->Prop))->Prop
 | []=>True
 | (nm,p) :: r=>(P.globalNamed nm=none∨∃ g,P.globalNamed nm=some g/\p W.heap[g]? /\ fZ W g/\g < W.heap.size)/\Qe P W r
theorem PX {P:Program} {W:World}:∀ (l:List (String×(Option Obj->Prop))),Qe P W l->∀ t∈l,∀ g,P.globalNamed t.1=some g->t.2 W.heap[g]? /\ fZ W g/\g < W.heap.size
 | [],_,t,h,_,_=>by simp at h
 | (nm,p) :: r,⟨h1,h2⟩,t,h,g,hg=>by
   rcases adg.1 h with e | h
   . subst e;rcases h1 with h1 | ⟨g',h3,h4⟩
     . rw [h1] at hg; simp at hg
     . obtain rfl:=aeb (h3.symm.trans hg); exact h4
   . exact PX r h2 t h g hg
theorem B7 {H:Type} {enc:TypeId×Value->H} {a:Assume} {C:Checked} {os:Os} {f:FuncId} {fn:Func} {s:ChangeSpec} {conds:List PathCond} {apart fresh handsOn again:Bool} {X:World->Array Value->Prop}
 (hX:∀ (w w':World) (args:Array Value),w.heap=w'.heap->X w args->X w' args)
 (own:ownKnob C.prog.godebug=none) (started:os.Started) (noInit:C.prog.inits.idxOf? f=none) (hfn:C.prog.funcs[f]? = some fn)
 (witness:∃ (w:World) (tape:Tape) (i:Input),w.os=os/\(w.forCall tape i).Shaped C.prog/\i.vars=[]/\Input.okWide C.prog (w.forCall tape i) .any w.heap.size f i /\
   ((s.pre enc C.prog fn conds apart (w.forCall tape i).memory i.args/\X (w.forCall tape i).memory i.args)/\sizedMet enc C.prog fn (OpenSpec.ofChange s) apart (w.forCall tape i).memory i.args)/\a.holds C.prog (lone (Frame.enter C.prog f i.args .normal) [] (w.forCall tape i)))
 (contract:∀ (W:World) (base:Nat) (args:Array Value) (ds gs:List (DataW H)) (before:List MemPlace),
   (∀ (j:Nat) t v,fn.params[j]? = some t->args[j]? = some v->Value.okWide C.prog W .any base t v) ->
   DataW.Whole enc C.prog fn.params.toList s.vars apart W args.toList ds gs before ->
   (DataW.weightsEach C.prog (fn.params.toList ++ s.plain.varTypes C.prog) (ds ++ gs)).all (· <= reachBytes)=true->X W args ->
   W.ShapedOpen C.prog ->
   Calls C.prog f args W fun e W'=>∃ v,e= .returned v/\s.post enc C.prog fn apart fresh handsOn again W args v W') :
 ReturnsInHanded a C os f .any (fun w args=>(s.pre enc C.prog fn conds apart w args/\X w args)/\sizedMet enc C.prog fn (OpenSpec.ofChange s) apart w args) (s.post enc C.prog fn apart fresh handsOn again):=by
 refine returnsInHanded_of_calls own started noInit witness ?_;intro w tape i _ hsh _ hok hpre _;obtain ⟨_,_,_,fn',hfn',_,_,_,_,hval⟩:=hok;obtain rfl:fn'=fn:=aeb (hfn'.symm.trans hfn);obtain ⟨⟨⟨ds,gs,before,hw,_⟩,hx⟩,hz⟩:=hpre;refine (contract (w.forCall tape i) w.heap.size i.args ds gs before hval (DataW.Whole.of_heap (w':=w.forCall tape i) (by rfl) hw) (hz.weights hw) (hX _ _ _ (by rfl) hx) hsh).mono fun e W' ⟨v,he,hp⟩ => ?_
 subst he;exact ChangeSpec.post_blind hp
end Go.Av
