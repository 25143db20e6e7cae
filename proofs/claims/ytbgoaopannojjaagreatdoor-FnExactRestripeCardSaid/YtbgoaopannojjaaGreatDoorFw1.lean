/- Part of a proof that the law FnExactRestripe answers true for every input: the framework, an evaluator over symbolic data and why it is right. No conditions beyond the statement. -/
import Derived.Calls
import Derived.Below
import Derived.KernelRfl
import Derived.Lib.LaidTab
import Derived.Lib.ItoaNum
import Derived.Laws.Entries
import Derived.Laws.Cells
import Derived.Laws.IdiomCopy
import Derived.Laws.Strings
import Derived.Laws.Tables
import Derived.Lib.ConvBytes
import Derived.Laws.BytesArg
namespace Go.Av
abbrev ac3:=@Option.some.injEq
abbrev ac4:=@List.length_append
abbrev ac5:=@Bool.and_eq_true
abbrev ac6:=@cond_true
abbrev ac7:=@Nat.le_refl
abbrev ac8:=@Array.getElem?_toList
abbrev ac9:=@List.length_cons
abbrev ada:=@decide_eq_true
abbrev adb:=@Array.getD_eq_getD_getElem?
abbrev ade:=@List.mem_of_getElem?
abbrev adf:=@List.getElem?_cons_zero
abbrev adg:=@List.mem_cons
abbrev adh:=@Result.andThen_ok
abbrev adi:=@List.getElem?_eq_getElem
abbrev adj:=@Nat.lt_or_ge
abbrev adk:=@List.length_nil
abbrev adl:=@List.length_eq_zero_iff
abbrev adm:=@cond_false
abbrev adn:=@Nat.ble_eq_true_of_le
abbrev ado:=@Array.getElem?_eq_some_iff
abbrev adp:=@List.getElem?_eq_none
abbrev adq:=@Option.bind_some
abbrev adr:=@Array.getElem?_eq_none
abbrev ads:=@Sum.inl.injEq
abbrev adt:=@List.mem_cons_of_mem
abbrev adu:=@List.mem_cons_self
abbrev adv:=@Sem.run_bind
abbrev adw:=@Nat.lt_of_lt_of_le
abbrev adx:=@List.all_eq_true
abbrev ady:=@Nat.le_trans
abbrev adz:=@Nat.mul_le_mul_right
abbrev adA:=@Nat.zero_add
abbrev adB:=@List.append_assoc
abbrev adC:=@Nat.le_of_ble_eq_true
abbrev adD:=@decide_eq_false
abbrev adE:=@List.append_nil
abbrev adF:=@Prod.mk.injEq
abbrev adG:=@Option.map_some
abbrev adH:=@run_underlying
abbrev adI:=@Oper.upon_value
abbrev adJ:=@List.length_take
abbrev adK:=@Bool.not_eq_true'
abbrev adL:=@Bool.not_true
abbrev adM:=@Nat.zero_le
abbrev adN:=@Sem.run_pure
abbrev adO:=@Nat.add_zero
abbrev adP:=@Int.toNat_natCast
abbrev adQ:=@Bool.false_eq_true
abbrev adR:=@Nat.add_mul
abbrev adS:=@List.getElem?_toArray
abbrev adT:=@List.take_append_drop
abbrev adU:=@congrArg
abbrev adV:=@List.getElem?_append_right
abbrev adW:=@Array.length_toList
abbrev adX:=@Value.slice.injEq
abbrev adY:=@List.getElem?_map
abbrev adZ:=@List.length_drop
abbrev ad0:=@Array.getElem?_push
abbrev ad1:=@Array.getElem?_setIfInBounds
abbrev ad2:=@List.getElem?_cons_succ
abbrev ad3:=@List.getElem?_append_left
abbrev ad4:=@List.map_cons
abbrev ad5:=@Nat.zero_testBit
abbrev ad6:=@List.getElem?_take
abbrev ad7:=@Classical.choose_spec
abbrev ad8:=@Bool.or_eq_true
abbrev ad9:=@List.mem_range
abbrev aea:=@UInt8.lt_iff_toNat_lt
abbrev aeb:=@Option.some.inj
abbrev aec:=@Array.toArray_toList
abbrev aed:=@Option.isSome_none
abbrev aee:=@List.nil_append
abbrev aef:=@List.all_cons
abbrev aeg:=@decide_eq_true_eq
abbrev aeh:=@Nat.sub_self
abbrev aei:=@Addr.mk.injEq
abbrev aej:=@and_true
abbrev aek:=@if_false
abbrev ael:=@Nat.lt_succ_self
abbrev aem:=@Nat.eq_of_beq_eq_true
abbrev aen:=@Nat.lt_of_succ_le
abbrev aeo:=@Nat.add_sub_cancel_left
abbrev aep:=@List.filter_cons_of_pos
abbrev aeq:=@Int.tmod_eq_emod_of_nonneg
abbrev aer:=@List.getElem?_drop
abbrev aes:=@List.foldl_cons
abbrev aet:=@List.eq_nil_iff_forall_not_mem
abbrev aeu:=@Array.mem_toList_iff
abbrev aev:=@List.mem_singleton
abbrev aew:=@Nat.ne_of_beq_eq_false
abbrev aex:=@Nat.mod_eq_of_lt
abbrev aey:=@List.any_eq_true
abbrev aez:=@Option.map_none
abbrev aeA:=@List.mem_append
abbrev aeB:=@Option.getD_some
abbrev aeC:=@List.map_toArray
abbrev aeD:=@Array.getElem?_append_left
abbrev aeE:=@Nat.one_mul
abbrev aeF:=@Nat.le_antisymm
abbrev aeG:=@Array.getElem?_eq_getElem
abbrev aeH:=@Array.ext_getElem?
abbrev aeI:=@List.drop_length
abbrev aeJ:=@Eq.trans
abbrev aeK:=@Nat.add_assoc
abbrev aeL:=@Bool.or_eq_false_iff
abbrev aeM:=@Option.bind_eq_some_iff
abbrev aeN:=@Nat.le_mul_of_pos_right
abbrev aeO:=@Bool.eq_false_iff
abbrev aeP:=@Array.size_push
abbrev aeQ:=@List.replicate_succ
abbrev aeR:=@List.replicate_zero
abbrev aeS:=@List.filter_cons
abbrev aeT:=@List.take_length
abbrev aeU:=@Nat.eq_zero_or_pos
abbrev aeV:=@Bool.not_false
abbrev aeW:=@List.length_filter_le
abbrev aeX:=@List.singleton_append
abbrev aeY:=@Option.filter_some
abbrev aeZ:=@Option.isSome_iff_exists
abbrev ae0:=@List.length_map
abbrev ae1:=@List.map_nil
abbrev ae2:=@List.mem_filter
abbrev ae3:=@List.mem_append_left
abbrev ae4:=@List.set_append
abbrev ae5:=@List.getElem?_set
abbrev ae6:=@Nat.succ_ne_self
abbrev ae7:=@Option.map_eq_some_iff
abbrev ae8:=@eq_of_heq
abbrev ae9:=@List.mem_map
abbrev afa:=@List.pairwise_cons
abbrev afb:=@Nat.min_eq_left
abbrev afc:=@Int.mul_ediv_add_emod
abbrev afd:=@List.mem_append_right
abbrev afe:=@Int.tdiv_eq_ediv_of_nonneg
abbrev aff:=@Classical.not_forall
abbrev afg:=@List.getElem?_eq_some_iff
abbrev afh:=@Nat.pow_le_pow_right
abbrev afi:=@Nat.le_succ
abbrev afj:=@Nat.beq_refl
abbrev afk:=@decide_eq_false_iff_not
abbrev afl:=@Int.eq_ofNat_of_zero_le
abbrev afm:=@List.filter_cons_of_neg
abbrev afn:=@Bool.true_and
abbrev afo:=@List.sum_cons
abbrev afp:=@List.cons.injEq
abbrev afq:=@Bool.not_eq_false'
abbrev afr:=@List.length_set
abbrev afs:=@Array.append_assoc
abbrev aft:=@Int.mul_le_mul_of_nonneg_left
abbrev afu:=@Nat.lt_trichotomy
abbrev afv:=@List.take_add_one
abbrev afw:=@List.flatten_cons
abbrev afx:=@List.mem_of_mem_drop
abbrev afy:=@List.getElem_of_mem
abbrev afz:=@Int.ediv_nonneg
abbrev afA:=@List.drop_eq_getElem_cons
abbrev afB:=@Classical.byContradiction
abbrev afC:=@Nat.le_of_lt
abbrev afD:=@List.filter_append
abbrev afE:=@Int.mul_nonneg
abbrev afF:=@List.getElem?_replicate
abbrev afG:=@List.ext_getElem?
abbrev afH:=@List.length_range
abbrev afI:=@List.cons.inj
abbrev afJ:=@List.any_cons
abbrev afK:=@List.cons_append
abbrev afL:=@Nat.lt_add_right
abbrev afM:=@Nat.min_le_right
abbrev afN:=@Bool.and_eq_false_iff
abbrev afO:=@Array.mem_of_getElem?
abbrev afP:=@Array.getElem?_setIfInBounds_ne
abbrev afQ:=@Nat.mod_lt
abbrev afR:=@List.mem_of_mem_take
abbrev afS:=@Nat.mul_comm
abbrev afT:=@List.getElem?_of_mem
abbrev afU:=@List.map_append
abbrev afV:=@UInt8.toNat_inj
abbrev afW:=@List.getElem?_range
abbrev afX:=@ByteArray.ext
abbrev afY:=@Bool.false_or
abbrev afZ:=@Nat.lt_succ_of_lt
open Go.RowKit (Below)
inductive K where
 | int (k:IntKind)
 | bool
 | str
 | sl (e:TypeId) (ks:List K)
mutual
def T:K->Type
 | .int _=>Int
 | .bool=>Bool
 | .str=>List UInt8
 | .sl _ ks=>List (Tl ks)
def Tl:List K->Type
 | []=>Unit
 | k :: ks=>T k×Tl ks
end
def aG {e:TypeId} {ks:List K} (xs:T (.sl e ks)):List (Tl ks):=xs
mutual
def K.same:K->K->Bool
 | .int a,.int b=>a == b
 | .bool,.bool=>true
 | .str,.str=>true
 | .sl e ks,.sl e' ks'=>Nat.beq e e' && K.jW ks ks'
 | _,_=>false
def K.jW:List K->List K->Bool
 | [],[]=>true
 | k :: ks,k' :: ks'=>K.same k k' && K.jW ks ks'
 | _,_=>false
end
mutual
theorem K.Aw:∀ (a b:K),K.same a b=true->a=b
 | .int a,.int b,h=>by simp [K.same] at h; rw [h]
 | .bool,.bool,_=>rfl
 | .str,.str,_=>rfl
 | .sl e ks,.sl e' ks',h=>by simp only [K.same,ac5] at h;rw [aem h.1,K.iU ks ks' h.2]
 | .int _,.bool,h=>by simp [K.same] at h
 | .int _,.str,h=>by simp [K.same] at h
 | .int _,.sl _ _,h=>by simp [K.same] at h
 | .bool,.int _,h=>by simp [K.same] at h
 | .bool,.str,h=>by simp [K.same] at h
 | .bool,.sl _ _,h=>by simp [K.same] at h
 | .str,.int _,h=>by simp [K.same] at h
 | .str,.bool,h=>by simp [K.same] at h
 | .str,.sl _ _,h=>by simp [K.same] at h
 | .sl _ _,.int _,h=>by simp [K.same] at h
 | .sl _ _,.bool,h=>by simp [K.same] at h
 | .sl _ _,.str,h=>by simp [K.same] at h
theorem K.iU:∀ (a b:List K),K.jW a b=true->a=b
 | [],[],_=>rfl
 | k :: ks,k' :: ks',h=>by simp only [K.jW,ac5] at h;rw [K.Aw k k' h.1,K.iU ks ks' h.2]
 | [],_ :: _,h=>by simp [K.jW] at h
 | _ :: _,[],h=>by simp [K.jW] at h
end
def gV (k k':K) (x:T k):Option (T k') :=
 match h:K.same k k' with
 | true=>some (K.Aw k k' h ▸ x)
 | false=>none
theorem cF {k k':K} {x:T k} {y:T k'} (h:gV k k' x=some y):∃ e:k=k',e ▸ x=y:=by
 unfold gV at h;split at h
 . rename_i h1;exact ⟨K.Aw k k' h1,by simpa using h⟩
 . simp at h
def AR (ks ks':List K) (x:Tl ks):Option (Tl ks') :=
 match h:K.jW ks ks' with
 | true=>some (K.iU ks ks' h ▸ x)
 | false=>none
theorem uz {ks ks':List K} {x:Tl ks} {y:Tl ks'} (h:AR ks ks' x=some y):∃ e:ks=ks',e ▸ x=y:=by
 unfold AR at h;split at h
 . rename_i h1;exact ⟨K.iU ks ks' h1,by simpa using h⟩
 . simp at h
def mk1:List K->Nat
 | [.int .u8]=>0
 | _=>1
def et (l:List UInt8):ByteArray:=⟨l.toArray⟩
def aT:Nat:=140737488355328
def mq (k:IntKind) (n:Int):Prop:=k.min<=n/\n<=k.max
mutual
def RO (Z:Nat->Prop) (w:World):(k:K)->T k->Value->Prop
 | .int k,n,v=>v= .int k n/\mq k n
 | .bool,b,v=>v= .bool b
 | .str,s,v=>v= .string (et s)/\s.length<=aT
 | .sl _ ks,xs,v=>∃ a c,v= .slice a (aG xs).length c/\(aG xs).length<=c/\(aG xs).length<=aT/\(a=none->c=0) /\
    (aG xs≠[]->∃ b o,a=some ⟨b,o,none⟩/\Z b/\b < w.heap.size/\∀ i x,(aG xs)[i]? = some x->wP Z w ks x b (o + i * ks.length))
def wP (Z:Nat->Prop) (w:World):(ks:List K)->Tl ks->Nat->Nat->Prop
 | [],_,_,_=>True
 | k :: ks,x,b,o=>(∃ v,w.cell? ⟨b,o,none⟩=some v/\RO Z w k x.1 v)/\wP Z w ks x.2 b (o + 1)
end
mutual
def cO (w:World):(k:K)->T k->Value->(Nat->Prop)->Prop
 | .int k,n,v,_=>v= .int k n/\mq k n
 | .bool,b,v,_=>v= .bool b
 | .str,s,v,_=>v= .string (et s)/\s.length<=aT
 | .sl _ ks,xs,v,F=>∃ a c,v= .slice a (aG xs).length c/\(aG xs).length<=c/\(aG xs).length<=aT/\(a=none->c=0) /\
    ∀ a',a=some a'->∃ b o cs e fr,a'=⟨b,o,none⟩/\F b/\w.heap[b]? = some (.cells cs e fr)/\(∀ q,q < cs.size + mk1 ks->¬ (fr.1<=q/\q < fr.2))/\o + c * ks.length<=cs.size /\
     ∃ G:Nat->Nat->Nat->Prop,(∀ i j b',G i j b'->F b'/\b'≠b)/\(∀ i j i' j' b',G i j b'->G i' j' b'->i=i'/\j=j') /\
      ∀ i x,(aG xs)[i]? = some x->eP w ks x 0 (G i) cs (o + i * ks.length)
def eP (w:World):(ks:List K)->Tl ks->Nat->(Nat->Nat->Prop)->Array Value->Nat->Prop
 | [],_,_,_,_,_=>True
 | k :: ks,x,j,G,cs,o=>(∃ v,cs[o]? = some v/\cO w k x.1 v (G j))/\eP w ks x.2 (j + 1) G cs (o + 1)
end
mutual
theorem RO.mono {Z Z':Nat->Prop} {w w':World} (hs:w.heap.size<=w'.heap.size) (hZ:∀ b,Z b->b < w.heap.size->Z' b/\w'.heap[b]? = w.heap[b]?) :
 ∀ (k:K) (x:T k) (v:Value),RO Z w k x v->RO Z' w' k x v
 | .int _,_,_,h=>h
 | .bool,_,_,h=>h
 | .str,_,_,h=>h
 | .sl _ ks,xs,v,h=>by obtain ⟨a,c,h1,h2,h3,h4,h5⟩:=h;refine ⟨a,c,h1,h2,h3,h4,fun hne => ?_⟩;obtain ⟨b,o,e,hb,hlt,hr⟩:=h5 hne;exact ⟨b,o,e,(hZ b hb hlt).1,adw hlt hs,fun i x hx=>wP.mono hs hZ ks x b _ (hZ b hb hlt).2 (hr i x hx)⟩
theorem wP.mono {Z Z':Nat->Prop} {w w':World} (hs:w.heap.size<=w'.heap.size) (hZ:∀ b,Z b->b < w.heap.size->Z' b/\w'.heap[b]? = w.heap[b]?) :
 ∀ (ks:List K) (x:Tl ks) (b o:Nat),w'.heap[b]? = w.heap[b]? -> wP Z w ks x b o->wP Z' w' ks x b o
 | [],_,_,_,_,_=>trivial
 | k :: ks,x,b,o,hb,h=>by obtain ⟨⟨v,h1,h2⟩,h3⟩:=h;refine ⟨⟨v,?_,RO.mono hs hZ k _ v h2⟩,wP.mono hs hZ ks _ b _ hb h3⟩;rw [<- h1];simp only [World.cell?,hb]
end
mutual
theorem cO.frame {w w':World}:∀ (k:K) (x:T k) (v:Value) (F F':Nat->Prop),(∀ b,F b->F' b)->(∀ b,F b->b < w.heap.size->w'.heap[b]? = w.heap[b]?)->cO w k x v F->cO w' k x v F'
 | .int _,_,_,_,_,_,_,h=>h
 | .bool,_,_,_,_,_,_,h=>h
 | .str,_,_,_,_,_,_,h=>h
 | .sl _ ks,xs,v,F,F',hF,hw,h=>by
   obtain ⟨a,c,h1,h2,h3,h4,h5⟩:=h;refine ⟨a,c,h1,h2,h3,h4,fun a' ha => ?_⟩;obtain ⟨b,o,cs,e,fr,g1,g2,g3,g4,g5,G,g6,g7,g8⟩:=h5 a' ha;have hlt:b < w.heap.size:=by
    rcases adj b w.heap.size with h | h
    . exact h
    . simp [adr h] at g3
   refine ⟨b,o,cs,e,fr,g1,hF b g2,by rw [hw b g2 hlt]; exact g3,g4,g5,G,fun i j b' hb=>⟨hF b' (g6 i j b' hb).1,(g6 i j b' hb).2⟩,g7,fun i x hx => ?_⟩;exact eP.frame ks x 0 (G i) (G i) cs _ (fun _ _ h=>h) (fun j b' hb'=>hw b' (g6 i j b' hb').1) (g8 i x hx)
theorem eP.frame {w w':World}:∀ (ks:List K) (x:Tl ks) (j:Nat) (G G':Nat->Nat->Prop) (cs:Array Value) (o:Nat),(∀ j b,G j b->G' j b)->(∀ j b,G j b->b < w.heap.size->w'.heap[b]? = w.heap[b]?)->eP w ks x j G cs o->eP w' ks x j G' cs o
 | [],_,_,_,_,_,_,_,_,_=>trivial
 | k :: ks,x,j,G,G',cs,o,hG,hw,h=>by obtain ⟨⟨v,h1,h2⟩,h3⟩:=h;exact ⟨⟨v,h1,cO.frame k _ v (G j) (G' j) (hG j) (hw j) h2⟩,eP.frame ks _ (j + 1) G G' cs (o + 1) hG hw h3⟩
end
mutual
theorem cO.ro {Z:Nat->Prop} {w:World}:∀ (k:K) (x:T k) (v:Value) (F:Nat->Prop),(∀ b,F b->Z b)->cO w k x v F->RO Z w k x v
 | .int _,_,_,_,_,h=>h
 | .bool,_,_,_,_,h=>h
 | .str,_,_,_,_,h=>h
 | .sl _ ks,xs,v,F,hF,h=>by
   obtain ⟨a,c,h1,h2,h3,h4,h5⟩:=h;refine ⟨a,c,h1,h2,h3,h4,fun hne => ?_⟩;cases a with
   | none =>
     have:=h4 rfl;have:(aG xs).length=0:=by omega
     exact absurd (adl.1 this) hne
   | some a' =>
     obtain ⟨b,o,cs,e,fr,g1,g2,g3,g4,g5,G,g6,g7,g8⟩:=h5 a' rfl;have hlt:b < w.heap.size:=by
      rcases adj b w.heap.size with h | h
      . exact h
      . simp [adr h] at g3
     exact ⟨b,o,by rw [g1],hF b g2,hlt,fun i x hx=>eP.ro ks x 0 (G i) cs _ b e fr g3 (fun j b' hb'=>hF b' (g6 i j b' hb').1) (g8 i x hx)⟩
theorem eP.ro {Z:Nat->Prop} {w:World}:∀ (ks:List K) (x:Tl ks) (j:Nat) (G:Nat->Nat->Prop) (cs:Array Value) (o b:Nat) (e:TypeId) (fr:Nat×Nat),w.heap[b]? = some (.cells cs e fr)->(∀ j b,G j b->Z b)->eP w ks x j G cs o->wP Z w ks x b o
 | [],_,_,_,_,_,_,_,_,_,_,_=>trivial
 | k :: ks,x,j,G,cs,o,b,e,fr,hb,hG,h=>by obtain ⟨⟨v,h1,h2⟩,h3⟩:=h;refine ⟨⟨v,?_,cO.ro k _ v (G j) (hG j) h2⟩,eP.ro ks _ (j + 1) G cs (o + 1) b e fr hb hG h3⟩;simp [World.cell?,hb,h1]
end
end Go.Av
namespace Go.Av
inductive Tr (α:Type):Type 1
 | ret (a:α)
 | fail
 | br (c:Bool) (t e:Tr α)
 | call {β:Type} (o:Option β) (k:β->Tr α)
 | alt {β γ:Type} (o:Option (Sum β γ)) (k:β->Tr α) (k':γ->Tr α)
def Tr.bind {α β:Type}:Tr α->(α->Tr β)->Tr β
 | .ret a,f=>f a
 | .fail,_=> .fail
 | .br c t e,f=> .br c (t.bind f) (e.bind f)
 | .call o k,f=> .call o fun b=>(k b).bind f
 | .alt o k k',f=> .alt o (fun b=>(k b).bind f) fun c=>(k' c).bind f
def Tr.run {α:Type}:Tr α->Option α
 | .ret a=>some a
 | .fail=>none
 | .br c t e=>cond c t.run e.run
 | .call o k=>o.bind fun b=>(k b).run
 | .alt o k k'=>o.bind (Sum.elim (fun b=>(k b).run) fun c=>(k' c).run)
theorem Tr.run_bind {α β:Type} (t:Tr α) (f:α->Tr β):(t.bind f).run=t.run.bind fun a=>(f a).run:=by
 induction t with
 | ret a=>rfl
 | fail=>rfl
 | br c t e ih1 ih2=>cases c <;> simp [Tr.bind,Tr.run,ih1,ih2]
 | call o k ih=>cases o <;> simp [Tr.bind,Tr.run,ih]
 | alt o k k' ih ih' =>
   cases o with
   | none=>simp [Tr.bind,Tr.run]
   | some r=>cases r <;> simp [Tr.bind,Tr.run,ih,ih']
def Tr.need {α:Type} (c:Bool) (t:Tr α):Tr α:= .br c t .fail
def Tr.bu {α β:Type} (o:Option α) (f:α->Tr β):Tr β:=match o with | some a=>f a | none=> .fail
theorem Tr.bo {α:Type} {c:Bool} {t:Tr α} {a:α} (h:(Tr.need c t).run=some a):c=true/\t.run=some a:=by cases c <;> simp_all [Tr.need,Tr.run]
theorem Tr.af {α β:Type} {o:Option α} {f:α->Tr β} {b:β} (h:(Tr.bu o f).run=some b):∃ a,o=some a/\(f a).run=some b:=by cases o <;> simp_all [Tr.bu,Tr.run]
def look {β:Type}:List (Nat×β)->Nat->Option β
 | [],_=>none
 | (m,x) :: r,n=>bif Nat.beq m n then some x else look r n
inductive AV where
 | dead
 | lb (x:Bool)
 | d (k:K) (x:T k)
 | nil
 | b (r j s m:Nat) (k:K) (x:T k)
 | ref (r j s:Nat)
 | cut (r j s:Nat) (n:Nat)
 | pre (r j s:Nat) (n:Nat)
 | pref (r j s m:Nat) (i c:Nat)
 | ptr (r j:Nat)
 | pel (r j s:Nat) (i c:Nat)
 | brow (r n:Nat)
 | rp (dep:Option (Nat×Nat×Nat×Nat)) (e:TypeId) (ks:List K) (xs:List (Tl ks)) (i c:Nat)
inductive TV where
 | v (a:AV)
 | may (t:Nat) (want y:Bool) (g:Bool) (l:List AV)
 | agg (cs:List AV)
 | tup (cs:List (Bool×List AV))
 | fn (f:Nat) (caps:List (Bool×List AV))
inductive RV where
 | own (k:K) (x:T k)
 | av (a:AV)
structure RC where
 s:Nat
 m:Nat
 v:RV
structure Rt where
 box:Bool
 cells:List RC
structure St where
 tm:List (Nat×TV)
 rt:List (Nat×Rt)
def St.cell (st:St) (r j:Nat):Option RC:=match look st.rt r with | some R=>R.cells[j]? | none=>none
structure TI where
 agg:Bool
 ks:List K
 elem:Nat
 bytes:Nat
 flds:List (Nat×Nat)
def dfl:(k:K)->T k
 | .int _=>(0:Int)
 | .bool=>false
 | .str=>([]:List UInt8)
 | .sl _ ks=>([]:List (Tl ks))
def dZ:(ks:List K)->Tl ks
 | []=>()
 | k :: ks=>(dfl k,dZ ks)
 termination_by structural ks=>ks
def cellAt:(ks:List K)->Tl ks->Nat->Option ((k:K)×T k)
 | [],_,_=>none
 | k :: _,x,0=>some ⟨k,x.1⟩
 | _ :: ks,x,c + 1=>cellAt ks x.2 c
def lu:K->Bool
 | .sl _ _=>true
 | _=>false
def setAt:(ks:List K)->Tl ks->Nat->(k:K)->T k->Option (Tl ks)
 | [],_,_,_,_=>none
 | k' :: _,x,0,k,y=>match gV k k' y with | some y'=>some (y',x.2) | none=>none
 | _ :: ks,x,c + 1,k,y=>match setAt ks x.2 c k y with | some z=>some (x.1,z) | none=>none
def cat (ks:List K) (xs ys:List (Tl ks)):List (Tl ks):=xs ++ ys
def acV (s t:List UInt8):List UInt8:=s ++ t
def eC {e:TypeId} {ks:List K} (xs:T (.sl e ks)) (i:Nat):Tl ks:=(aG xs).getD i (dZ ks)
def cells (vs:List Value):Option (List AV):=match vs with
 | []=>some []
 | v :: r=>match (match v with
    | .int k n=>bif decide (k.min<=n) && decide (n<=k.max) then some (AV.d (.int k) n) else none
    | .bool x=>some (AV.lb x)
    | .string s=>bif Nat.ble s.data.toList.length aT then some (AV.d .str s.data.toList) else none
    | .slice none 0 0=>some AV.nil
    | _=>none),cells r with
   | some a,some l=>some (a :: l)
   | _,_=>none
def qF (v:Value):Option TV:=match v with
 | .agg cs=>match cells cs.toList with | some l=>some (.agg l) | none=>none
 | .tuple vs=>match vs.toList with | []=>some (.tup []) | _=>none
 | .func (.func f) a b=>match a.toList,b.toList with | [],[]=>some (.fn f []) | _,_=>none
 | v=>match cells [v] with | some [a]=>some (.v a) | _=>none
def dV (g:Bool) (l:List AV):TV:=match g,l with | false,[a]=> .v a | _,l=> .agg l
def St.tv (st:St) (t:Nat):Option TV:=match look st.tm t with
 | some (.may q want y g l)=>match look st.tm q with
   | some (.v (.lb x))=>(match x,want with | true,true=>some (dV g l) | false,false=>some (dV g l) | _,_=>none)
   | some _=>some (.may q want y g l)
   | none=>none
 | o=>o
def St.get (st:St):Operand->Option TV
 | .tmp t=>st.tv t
 | .const v=>qF v
 | .func f=>some (.fn f [])
 | .global _=>none
def St.read (st:St):AV->Option ((k:K)×T k)
 | .lb x=>some ⟨.bool,x⟩
 | .d k x=>some ⟨k,x⟩
 | .b r j s m k x=>match st.cell r j with
   | some rc=>bif Nat.beq rc.s s && Nat.beq rc.m m then some ⟨k,x⟩ else none
   | none=>none
 | .ref r j s=>match st.cell r j with
   | some ⟨s',_,.own k x⟩=>bif Nat.beq s' s then some ⟨k,x⟩ else none
   | _=>none
 | .cut r j s n=>match st.cell r j with
   | some ⟨s',_,.own (.sl e ks) x⟩=>bif Nat.beq s' s then some ⟨.sl e ks,List.take n (aG x)⟩ else none
   | _=>none
 | .pref r j s m i c=>match st.cell r j with
   | some ⟨s',m',.own (.sl e ks) x⟩=>bif Nat.beq s' s && Nat.beq m' m then cellAt ks (eC x i) c else none
   | _=>none
 | _=>none
def St.live (st:St):AV->Bool
 | .dead=>false
 | .pre _ _ _ _=>false
 | .lb _=>true
 | .d _ _=>true
 | .nil=>true
 | .ptr _ _=>true
 | .brow _ _=>true
 | .b r j s m _ _=>match st.cell r j with
   | some rc=>Nat.beq rc.s s && Nat.beq rc.m m
   | none=>false
 | .ref r j s=>match st.cell r j with
   | some ⟨s',_,.own (.sl _ _) _⟩=>Nat.beq s' s
   | _=>false
 | .cut r j s n=>match st.cell r j with
   | some ⟨s',_,.own (.sl _ _) _⟩=>Nat.beq s' s
   | _=>false
 | .pref r j s m i c=>match st.cell r j with
   | some ⟨s',m',.own (.sl _ ks) x⟩=>Nat.beq s' s && Nat.beq m' m && (cellAt ks (eC x i) c).isSome
   | _=>false
 | .pel r j s _ _=>match st.cell r j with
   | some rc=>Nat.beq rc.s s
   | none=>false
 | .rp none _ _ _ _ _=>true
 | .rp (some (r,j,s,m)) _ _ _ _ _=>match st.cell r j with
   | some rc=>Nat.beq rc.s s && Nat.beq rc.m m
   | none=>false
def St.ct (st:St) (k:K) (a:AV):Option (T k):=match a,k with
 | .nil,.sl _ ks=>some ([]:List (Tl ks))
 | a,k=>match st.read a with | some ⟨k',x⟩=>gV k' k x | none=>none
def St.readAll (st:St):(ks:List K)->List AV->Option (Tl ks)
 | [],[]=>some ()
 | k :: ks,a :: l=>match st.ct k a,st.readAll ks l with | some x,some y=>some (x,y) | _,_=>none
 | _,_=>none
def AV.bP:AV->Bool
 | .lb _ | .d _ _ | .nil=>true
 | _=>false
def AV.int? : AV->Option (IntKind×Int)
 | .d (.int k) n=>some (k,n)
 | _=>none
def AV.bool? : AV->Option Bool
 | .lb x=>some x
 | .d .bool x=>some x
 | _=>none
def AV.lU : AV->Option (List UInt8)
 | .d .str s=>some s
 | _=>none
def TV.int? : TV->Option (IntKind×Int) | .v a=>a.int? | _=>none
def TV.bool? : TV->Option Bool | .v a=>a.bool? | _=>none
def TV.lU : TV->Option (List UInt8) | .v a=>a.lU | _=>none
def TV.Cp : TV->Option AV | .v a=>some a | _=>none
def TV.db : TV->Option (Bool×List AV) | .v a=>some (false,[a]) | .agg l=>some (true,l) | _=>none
def St.kQ (st:St):AV->Option RC
 | .pref r j s m i c=>bif st.live (.pref r j s m i c) then some ⟨0,0,.av (.pref r j s m i c)⟩ else none
 | .lb x=>some ⟨0,0,.av (.lb x)⟩
 | .d k x=>some ⟨0,0,.av (.d k x)⟩
 | .nil=>some ⟨0,0,.av .nil⟩
 | .b r j s m k x=>bif st.live (.b r j s m k x) then some ⟨0,0,.av (.b r j s m k x)⟩ else none
 | _=>none
def St.j9 (st:St):List AV->Option (List RC)
 | []=>some []
 | a :: l=>match st.kQ a,st.j9 l with | some x,some y=>some (x :: y) | _,_=>none
def mg:K->RC
 | .int k=>⟨0,0,.av (.d (.int k) (0:Int))⟩
 | .bool=>⟨0,0,.av (.d .bool false)⟩
 | .str=>⟨0,0,.av (.d .str ([]:List UInt8))⟩
 | .sl e ks=>⟨0,0,.own (.sl e ks) ([]:List (Tl ks))⟩
def kV:K->AV
 | .int k=> .d (.int k) (0:Int)
 | .bool=> .d .bool false
 | .str=> .d .str ([]:List UInt8)
 | .sl _ _=> .nil
def St.oJ (st:St) (r j:Nat):Option AV:=match st.cell r j with
 | some ⟨s,_,.own _ _⟩=>some (.ref r j s)
 | some ⟨_,_,.av a⟩=>some a
 | none=>none
def St.fT (st:St) (r:Nat):Nat->Nat->Option (List AV)
 | _,0=>some []
 | j,n + 1=>match st.oJ r j,st.fT r (j + 1) n with | some a,some l=>some (a :: l) | _,_=>none
def vr (ks:List K) (x:Tl ks) (c:Nat) (sl:(k:K)->T k->AV):Option AV:=match cellAt ks x c with
 | some ⟨.sl e ks',y⟩=>some (sl (.sl e ks') y)
 | some ⟨k,y⟩=>some (.d k y)
 | none=>none
def eW (ks:List K) (x:Tl ks) (sl:Nat->(k:K)->T k->AV):Nat->Nat->Option (List AV)
 | _,0=>some []
 | c,n + 1=>match vr ks x c (sl c),eW ks x sl (c + 1) n with | some a,some l=>some (a :: l) | _,_=>none
def St.load (st:St) (n:Nat):AV->Option (List AV)
 | .ptr r j=>st.fT r j n
 | .pel r j s i c=>match st.cell r j with
   | some ⟨s',m,.own (.sl _ ks) xs⟩=>bif Nat.beq s' s then eW ks (eC xs i) (fun c' _ _=> .pref r j s m i c') c n else none
   | _=>none
 | .rp none e ks xs i c=>eW ks (xs.getD i (dZ ks)) (fun _ k y=> .d k y) c n
 | .rp (some (r,j,s,m)) e ks xs i c=>match st.cell r j with
   | some rc=>bif Nat.beq rc.s s && Nat.beq rc.m m then eW ks (xs.getD i (dZ ks)) (fun _ k y=> .b r j s m k y) c n else none
   | none=>none
 | _=>none
def ff (agg:Bool) (l:List AV):Option TV:=match agg,l with
 | true,l=>some (.agg l)
 | false,[a]=>some (.v a)
 | false,_=>none
def bL (a b:Int):Bool:=decide (a<=b)
def aw (a b:Int):Bool:=decide (a < b)
def aq (a b:Int):Bool:=a == b
def cC (a b:List UInt8):Bool:=a == b
def Jg (a b:Bool):Bool:=a == b
def Jy (op:BinOp) (k:IntKind) (a b:Int):Tr AV:=match op with
 | .add=> .ret (.d (.int k) (k.wrap (a + b)))
 | .sub=> .ret (.d (.int k) (k.wrap (a - b)))
 | .mul=> .ret (.d (.int k) (k.wrap (a * b)))
 | .quo=> .need (!(aq b 0)) (.ret (.d (.int k) (k.wrap (a.tdiv b))))
 | .rem=> .need (!(aq b 0)) (.ret (.d (.int k) (a.tmod b)))
 | .and=> .ret (.d (.int k) (k.wrap ((BitVec.ofInt k.bits a &&& BitVec.ofInt k.bits b).toNat:Int)))
 | .or=> .ret (.d (.int k) (k.wrap ((BitVec.ofInt k.bits a ||| BitVec.ofInt k.bits b).toNat:Int)))
 | .xor=> .ret (.d (.int k) (k.wrap ((BitVec.ofInt k.bits a ^^^ BitVec.ofInt k.bits b).toNat:Int)))
 | .eql=> .ret (.d .bool (aq a b))
 | .neq=> .ret (.d .bool (!(aq a b)))
 | .lss=> .ret (.d .bool (aw a b))
 | .leq=> .ret (.d .bool (bL a b))
 | .gtr=> .ret (.d .bool (aw b a))
 | .geq=> .ret (.d .bool (bL b a))
 | _=> .fail
def AB (op:BinOp) (k:IntKind) (a b:Int):Tr AV:=match op with
 | .shl=> .need (decide (0<=b)) (.ret (.d (.int k) (k.wrap (a * 2 ^ min b.toNat k.bits))))
 | .shr=> .need (decide (0<=b)) (.ret (.d (.int k) (a.fdiv (2 ^ min b.toNat k.bits))))
 | _=> .fail
def Jx (op:BinOp) (s t:List UInt8):Tr AV:=match op with
 | .add=> .need (Nat.ble (s.length + t.length) aT) (.ret (.d .str (acV s t)))
 | .eql=> .ret (.d .bool (cC s t))
 | .neq=> .ret (.d .bool (!(cC s t)))
 | .lss=> .ret (.d .bool (Op.bytesLess s t))
 | .leq=> .ret (.d .bool (Op.bytesLess s t || cC s t))
 | .gtr=> .ret (.d .bool (!(Op.bytesLess s t || cC s t)))
 | .geq=> .ret (.d .bool (!(Op.bytesLess s t)))
 | _=> .fail
def vf:BinOp->Bool | .shl | .shr=>true | _=>false
def R7 (isB:Bool) (op:BinOp) (x y:TV):Tr AV:=match x.int?,y.int? with
 | some (k,a),some (k',b)=>bif vf op then AB op k a b else bif k == k' then Jy op k a b else .fail
 | _,_=>match x.lU,y.lU with
   | some s,some t=>Jx op s t
   | _,_=>match x.bool?,y.bool? with
     | some a,some b=>bif !isB then .fail else (match op with | .eql=> .ret (.d .bool (Jg a b)) | .neq=> .ret (.d .bool (!(Jg a b))) | _=> .fail)
     | _,_=> .fail
def Yb (op:UnOp) (x:TV):Tr AV:=match op,x.bool?,x.int? with
 | .not,some a,_=> .ret (.d .bool (!a))
 | .neg,_,some (k,a)=> .ret (.d (.int k) (k.wrap (0 - a)))
 | _,_,_=> .fail
def Tm (x:TV):Tr AV:=match x with
 | .v (.lb a)=> .ret (.lb (!a))
 | x=>Yb .not x
end Go.Av
namespace Go.Av
inductive MM where
 | c (agg:Bool) (ks:List K)
 | p (ks:List K)
def MG:List MM->Type
 | []=>Unit
 | .c _ ks :: r=>Tl ks×MG r
 | .p ks :: r=>Tl ks×MG r
inductive PK where
 | c (agg:Bool) (ks:List K)
 | pt (ks:List K)
 | nil
 | fn (f:Nat) (caps:List MM)
 | io (agg:Bool) (ks:List K)
 | mv (k:K)
def CT:List (Bool×List K)->Type
 | []=>Unit
 | p :: r=>Tl p.2×CT r
def PT:List PK->Type
 | []=>Unit
 | .c _ ks :: r=>Tl ks×PT r
 | .pt ks :: r=>Tl ks×PT r
 | .nil :: r=>PT r
 | .fn _ caps :: r=>MG caps×PT r
 | .io _ ks :: r=>Tl ks×PT r
 | .mv k :: r=>T k×PT r
def uw:List PK->Type
 | []=>Unit
 | .io _ ks :: r=>Tl ks×uw r
 | .c _ _ :: r=>uw r
 | .pt _ :: r=>uw r
 | .nil :: r=>uw r
 | .fn _ _ :: r=>uw r
 | .mv _ :: r=>uw r
structure Su where
 ps:List PK
 rs:List (Bool×List K)
 fresh:Bool
 f:Sum (PT ps->Option (uw ps×CT rs)) (PT ps->CT rs)
def gN:List PK->Bool
 | []=>true
 | .c _ _ :: r=>gN r
 | .pt _ :: r=>gN r
 | .nil :: r=>gN r
 | .fn _ _ :: r=>gN r
 | .io _ _ :: _=>false
 | .mv _ :: _=>false
def bU:Bool->Bool->Bool | true,true=>true | false,false=>true | _,_=>false
def tP (c:RC):Bool:=match c.v with | .av a=>a.bP | _=>false
def DI (c:RC):AV:=match c.v with | .av a=>a | _=> .dead
def St.ir (st:St) (box:Bool) (ks:List K):AV->Option (Tl ks)
 | .rp none _ ks' xs i 0=>AR ks' ks (xs.getD i (dZ ks'))
 | .ptr r 0=>bif box then (match look st.rt r with
   | some R=>bif R.box && R.cells.all tP then st.readAll ks (R.cells.map DI) else none
   | none=>none) else none
 | _=>none
def St.bq (st:St) (box:Bool):(cs:List MM)->List (Bool×List AV)->Option (MG cs)
 | [],[]=>some ()
 | .c g ks :: cs,(g',l) :: r=>bif bU g g' && l.all AV.bP then (match st.readAll ks l,st.bq box cs r with | some x,some y=>some (x,y) | _,_=>none) else none
 | .p ks :: cs,(false,[a]) :: r=>(match st.ir box ks a,st.bq box cs r with | some x,some y=>some (x,y) | _,_=>none)
 | _,_=>none
def eG:TV->Bool
 | .v .nil=>true
 | _=>false
def St.args (st:St) (bP:Bool):(ps:List PK)->List TV->Option (PT ps)
 | [],[]=>some ()
 | .c g ks :: ps,tv :: r=>match tv.db with
   | some (g',l)=>bif bU g g' && (!bP || l.all AV.bP) then (match st.readAll ks l,st.args bP ps r with | some x,some y=>some (x,y) | _,_=>none) else none
   | none=>none
 | .pt ks :: ps,.v a :: r=>(match st.ir (!bP) ks a,st.args bP ps r with | some x,some y=>some (x,y) | _,_=>none)
 | .nil :: ps,tv :: r=>bif eG tv then st.args bP ps r else none
 | .fn f cs :: ps,.fn f' caps :: r=>bif Nat.beq f f' then (match st.bq (!bP) cs caps,st.args bP ps r with | some x,some y=>some (x,y) | _,_=>none) else none
 | _,_=>none
def ea (dst:Nat) (fresh:Bool):(ks:List K)->Tl ks->Nat->List AV
 | [],_,_=>[]
 | .sl e ks' :: ks,x,j=>(bif fresh then .ref dst j 0 else .d (.sl e ks') x.1) :: ea dst fresh ks x.2 (bif fresh then j + 1 else j)
 | k :: ks,x,j=> .d k x.1 :: ea dst fresh ks x.2 j
def kf:(ks:List K)->Tl ks->List RC
 | [],_=>[]
 | .sl e ks' :: ks,x=>⟨0,0,.own (.sl e ks') x.1⟩ :: kf ks x.2
 | _ :: ks,x=>kf ks x.2
def bp:List K->Nat
 | []=>0
 | .sl _ _ :: ks=>bp ks + 1
 | _ :: ks=>bp ks
def oR (dst:Nat) (fresh:Bool):(rs:List (Bool×List K))->CT rs->Nat->List (Bool×List AV)
 | [],_,_=>[]
 | (g,ks) :: rs,x,j=>(g,ea dst fresh ks x.1 j) :: oR dst fresh rs x.2 (bif fresh then j + bp ks else j)
def cU:(rs:List (Bool×List K))->CT rs->List RC
 | [],_=>[]
 | (_,ks) :: rs,x=>kf ks x.1 ++ cU rs x.2
def gu:List (Bool×List AV)->Option TV
 | [(true,l)]=>some (.agg l)
 | [(false,[a])]=>some (.v a)
 | [(false,_)]=>none
 | l=>some (.tup l)
def mo:List (Bool×List K)->Bool
 | []=>false
 | (_,ks) :: rs=> !Nat.beq (bp ks) 0 || mo rs
def fW (dst:Nat) (s:Su) (y:CT s.rs):Option (TV×Option Rt) :=
 match gu (oR dst s.fresh s.rs y 0) with
 | some tv=>some (tv,bif s.fresh && mo s.rs then some ⟨false,cU s.rs y⟩ else none)
 | none=>none
def St.uo (st:St) (dst:Nat):List Su->List TV->Tr (TV×Option Rt)
 | [],_=> .fail
 | s :: r,l=>bif gN s.ps then (match st.args (!s.fresh) s.ps l with
    | some x=>(match s.f with
      | .inr g=>Tr.bu (fW dst s (g x)) .ret
      | .inl f=> .call (f x) fun y=>Tr.bu (fW dst s y.2) .ret)
    | none=>st.uo dst r l) else st.uo dst r l
inductive SE where
 | d (t:Nat) (k:K)
 | own (t:Nat) (k:K)
 | fn (t f:Nat) (caps:List MM)
 | ag (t:Nat) (ks:List K)
 | box (r:Nat) (cs:List (Bool×K))
 | al (t t2:Nat)
def BT:List (Bool×K)->Type
 | []=>Unit
 | p :: r=>T p.2×BT r
def bJ:List SE->Type
 | []=>Unit
 | .d _ k :: r=>T k×bJ r
 | .own _ k :: r=>T k×bJ r
 | .fn _ _ caps :: r=>MG caps×bJ r
 | .ag _ ks :: r=>Tl ks×bJ r
 | .box _ cs :: r=>BT cs×bJ r
 | .al _ _ :: r=>Unit×bJ r
def cn (t:Nat):Nat:=100000 + t
def fL:(cs:List (Bool×K))->BT cs->List RC
 | [],_=>[]
 | (true,k) :: cs,x=>⟨0,0,.own k x.1⟩ :: fL cs x.2
 | (false,k) :: cs,x=>⟨0,0,.av (.d k x.1)⟩ :: fL cs x.2
def rh:(cs:List MM)->MG cs->List (Bool×List AV)
 | [],_=>[]
 | .c g ks :: cs,x=>(g,ea 0 false ks x.1 0) :: rh cs x.2
 | .p ks :: cs,x=>(false,[.rp none 0 ks [x.1] 0 0]) :: rh cs x.2
def mz:(σ:List SE)->bJ σ->List (Nat×TV)
 | [],_=>[]
 | .d t k :: σ,x=>(t,.v (.d k x.1)) :: mz σ x.2
 | .own t k :: σ,x=>(t,.v (.ref (cn t) 0 0)) :: mz σ x.2
 | .fn t f caps :: σ,x=>(t,.fn f (rh caps x.1)) :: mz σ x.2
 | .ag t ks :: σ,x=>(t,.agg (ea 0 false ks x.1 0)) :: mz σ x.2
 | .box r _ :: σ,x=>(r,.v (.ptr r 0)) :: mz σ x.2
 | .al t t2 :: σ,x=>(t,.v (.ref (cn t2) 0 0)) :: mz σ x.2
def eK:(σ:List SE)->bJ σ->List (Nat×Rt)
 | [],_=>[]
 | .d _ _ :: σ,x=>eK σ x.2
 | .own t k :: σ,x=>(cn t,⟨false,[⟨0,0,.own k x.1⟩]⟩) :: eK σ x.2
 | .fn _ _ _ :: σ,x=>eK σ x.2
 | .ag _ _ :: σ,x=>eK σ x.2
 | .box r cs :: σ,x=>(r,⟨true,fL cs x.1⟩) :: eK σ x.2
 | .al _ _ :: σ,x=>eK σ x.2
def enc (σ:List SE) (x:bJ σ):St:=⟨mz σ x,eK σ x⟩
def RJ {α:Type} (l:List (Nat×α)) (n:Nat) (x:α):List (Nat×α):=match l with
 | []=>[]
 | (m,y) :: r=>bif Nat.beq m n then (m,x) :: r else (m,y) :: RJ r n x
def jK {α:Type}:List α->Nat->α->List α
 | [],_,_=>[]
 | _ :: r,0,x=>x :: r
 | y :: r,n + 1,x=>y :: jK r n x
def St.setCell (st:St) (r j:Nat) (c:RC):St:=match look st.rt r with
 | some R=>⟨st.tm,RJ st.rt r ⟨R.box,jK R.cells j c⟩⟩
 | none=>st
def St.take (st:St):AV->Option (St×((k:K)×T k))
 | .ref r j s=>match st.cell r j with
   | some ⟨s',m,.own k x⟩=>bif Nat.beq s' s then some (st.setCell r j ⟨s' + 1,m + 1,.av .dead⟩,⟨k,x⟩) else none
   | _=>none
 | .cut r j s n=>match st.cell r j with
   | some ⟨s',m,.own (.sl e ks) x⟩=>bif Nat.beq s' s then some (st.setCell r j ⟨s' + 1,m + 1,.av .dead⟩,⟨.sl e ks,List.take n (aG x)⟩) else none
   | _=>none
 | _=>none
def St.dS (st:St) (k:K) (a:AV):Option (St×T k):=match a,k with
 | .nil,.sl _ ks=>some (st,([]:List (Tl ks)))
 | a,k=>match st.take a with | some (st',⟨k',x⟩)=>(match gV k' k x with | some y=>some (st',y) | none=>none) | none=>none
def jM (st:St):(cs:List (Bool×K))->List RC->Option (BT cs)
 | [],[]=>some ()
 | (true,k) :: cs,⟨_,_,.own k' x⟩ :: r=>match gV k' k x,jM st cs r with | some y,some z=>some (y,z) | _,_=>none
 | (false,k) :: cs,⟨_,_,.av a⟩ :: r=>bif a.bP then (match st.ct k a,jM st cs r with | some y,some z=>some (y,z) | _,_=>none) else none
 | _,_=>none
def ow (t:Nat):List SE->Bool
 | []=>false
 | .own t' _ :: σ=>Nat.beq t' t || ow t σ
 | _ :: σ=>ow t σ
def yl (r:Nat):List SE->Bool
 | []=>true
 | .own _ _ :: _=>false
 | .box r' _ :: σ=> !Nat.beq r' r && yl r σ
 | _ :: σ=>yl r σ
def LR (st:St) (r j s:Nat):Bool:=match st.cell r j with
 | some c=>Nat.beq c.s s
 | none=>false
def DR (l:List (Nat×TV)) (t:Nat):Bool:=match look l t with
 | some (.v (.ref q 0 0))=>Nat.beq q (cn t)
 | _=>false
def dec:(σ:List SE)->St->Option (bJ σ)
 | [],_=>some ()
 | .d t k :: σ,st=>match st.tv t with
   | some (.v a)=>bif a.bP then (match st.ct k a,dec σ st with | some x,some y=>some (x,y) | _,_=>none) else none
   | _=>none
 | .own t k :: σ,st=>match st.tv t with
   | some (.v a)=>bif ow t σ then none else (match st.dS k a with | some (st',x)=>(match dec σ st' with | some y=>some (x,y) | none=>none) | none=>none)
   | _=>none
 | .fn t f caps :: σ,st=>match st.tv t with
   | some (.fn f' l)=>bif Nat.beq f f' then (match st.bq false caps l,dec σ st with | some x,some y=>some (x,y) | _,_=>none) else none
   | _=>none
 | .ag t ks :: σ,st=>match st.tv t with
   | some (.agg l)=>bif l.all AV.bP then (match st.readAll ks l,dec σ st with | some x,some y=>some (x,y) | _,_=>none) else none
   | _=>none
 | .box r cs :: σ,st=>match st.tv r,look st.rt r with
   | some (.v (.ptr r' 0)),some ⟨true,l⟩=>bif Nat.beq r r' && Nat.blt r 100000 && yl r σ then (match jM st cs l,dec σ st with | some x,some y=>some (x,y) | _,_=>none) else none
   | _,_=>none
 | .al t t2 :: σ,st=>match st.tv t,st.tv t2 with
   | some (.v (.ref r j s)),some (.v (.ref r2 j2 s2))=>bif Nat.beq r r2 && (Nat.beq j j2 && (Nat.beq s s2 && LR st r j s)) then (match dec σ st with | some y=>bif DR (mz σ y) t2 then some ((),y) else none | none=>none) else none
   | _,_=>none
structure Lo (ρ:List SE) where
 σ:List SE
 f:bJ σ->Option (Sum (bJ σ) (bJ ρ))
structure En where
 nt:Nat
 tt:List (Nat×TI)
 ga:Nat->List Su
 ρ:List SE
 lo:Nat->Option (Lo ρ)
 pins:List Nat
 rg:Nat->Option (St->Tr St)
def kN:List Nat->Nat->Bool
 | [],_=>false
 | x :: r,n=>Nat.beq x n || kN r n
def En.dB (E:En) (d:Nat):Bool:=Nat.blt d E.nt && !kN E.pins d
def En.ti (E:En) (t:Nat):Option TI:=look E.tt t
def FL (l:List (Nat×Nat)) (i:Nat):Option (Nat×Nat):=match l,i with
 | [],_=>none
 | x :: _,0=>some x
 | _ :: r,n + 1=>FL r n
def yr (n:Nat):AV->Option AV
 | .ptr r j=>some (.ptr r (j + n))
 | .pel r j s i c=>some (.pel r j s i (c + n))
 | .rp dep e ks xs i c=>some (.rp dep e ks xs i (c + n))
 | _=>none
def pH (l:List AV) (o n:Nat):List AV:=(l.drop o).take n
def putAt (l:List AV) (o:Nat) (p:List AV):List AV:=l.take o ++ p ++ l.drop (o + p.length)
def ja {α β:Type} (step:α->β->Option α):α->List β->Option α
 | l,[]=>some l
 | l,q :: r=>match step l q with | some l'=>ja step l' r | none=>none
def rM (E:En) (st:St) (flds:List (Nat×Nat)) (l:List AV) (q:Nat×Operand):Option (List AV):=match FL flds q.1,st.get q.2 with
 | some (o,t),some tv=>(match tv.db,E.ti t with
   | some (_,p),some ti=>bif Nat.beq p.length ti.ks.length && p.all st.live && Nat.ble (o + p.length) l.length then some (putAt l o p) else none
   | _,_=>none)
 | _,_=>none
def lenOf (y:Option ((k:K)×T k)) (isS:Bool):Option Int:=match y,isS with
 | some ⟨.sl _ _,x⟩,false=>some (aG x).length
 | some ⟨.str,s⟩,true=>some (List.length (α:=UInt8) s)
 | _,_=>none
def St.len (st:St) (isS:Bool):TV->Option Int
 | .v .nil=>bif isS then none else some 0
 | .v a=>lenOf (st.read a) isS
 | _=>none
def B8 (s:List UInt8) (i:Nat):Int:=((s.getD i 0).toNat:Int)
def ko (n:Int) (len:Nat):Bool:=bL 0 n && aw n (len:Int)
def En.sl (E:En) (t:Nat):Option TI:=match E.ti t with
 | some ⟨false,[.sl _ _],e,_,_⟩=>E.ti e
 | _=>none
def En.str (E:En) (t:Nat):Bool:=match E.ti t with
 | some ⟨false,[.str],_,_,_⟩=>true
 | _=>false
def En.u8 (E:En) (t:Nat):Bool:=match E.ti t with
 | some ⟨false,[.int .u8],_,_,_⟩=>true
 | _=>false
def En.i64 (E:En) (t:Nat):Bool:=match E.ti t with
 | some ⟨false,[.int .i64],_,_,_⟩=>true
 | _=>false
def En.bool (E:En) (t:Nat):Bool:=match E.ti t with
 | some ⟨false,[.bool],_,_,_⟩=>true
 | _=>false
def St.indexAddr (st:St) (sz:Nat) (x:TV) (n:Int):Tr AV:=match x with
 | .v (.ref r j s)=>(match st.cell r j with
   | some ⟨s',_,.own (.sl e ks) xs⟩=>bif Nat.beq s' s && Nat.beq ks.length sz then .need (ko n (aG xs).length) (.ret (.pel r j s n.toNat 0)) else .fail
   | _=> .fail)
 | .v (.d (.sl e ks) xs)=>bif Nat.beq ks.length sz then .need (ko n (aG xs).length) (.ret (.rp none e ks (aG xs) n.toNat 0)) else .fail
 | .v (.b r j s m (.sl e ks) xs)=>(match st.cell r j with
   | some rc=>bif Nat.beq rc.s s && Nat.beq rc.m m && Nat.beq ks.length sz then .need (ko n (aG xs).length) (.ret (.rp (some (r,j,s,m)) e ks (aG xs) n.toNat 0)) else .fail
   | none=> .fail)
 | .v (.pref r j s m i c)=>(match st.cell r j with
   | some ⟨s',m',.own (.sl e0 ks0) x0⟩=>bif Nat.beq s' s && Nat.beq m' m then (match cellAt ks0 (eC x0 i) c with
     | some ⟨.sl e ks,xs⟩=>bif Nat.beq ks.length sz then .need (ko n (aG xs).length) (.ret (.rp (some (r,j,s,m)) e ks (aG xs) n.toNat 0)) else .fail
     | _=> .fail) else .fail
   | _=> .fail)
 | _=> .fail
def jY (st:St) (lo hi:Option Operand) (len:Nat):Option (Int×Int) :=
 match (match lo with | none=>some 0 | some x=>(match st.get x with | some tv=>(match tv.int? with | some (_,n)=>some n | none=>none) | none=>none)),
  (match hi with | none=>some (len:Int) | some x=>(match st.get x with | some tv=>(match tv.int? with | some (_,n)=>some n | none=>none) | none=>none)) with
 | some a,some b=>some (a,b)
 | _,_=>none
def gp (lo hi:Int) (len:Nat):Bool:=bL 0 lo && (bL lo hi && bL hi (len:Int))
def sub {α:Type} (l:List α) (lo hi:Int):List α:=(l.take hi.toNat).drop lo.toNat
def St.mY (st:St) (x:TV) (lo hi:Option Operand):Tr AV:=match x.lU with
 | some s=>Tr.bu (jY st lo hi s.length) fun p=> .need (gp p.1 p.2 s.length) (.ret (.d .str (sub s p.1 p.2)))
 | none=> .fail
def St.mO (st:St) (sz:Nat) (x:TV) (lo hi:Option Operand):Tr AV:=match x with
 | .v .nil=>Tr.bu (jY st lo hi 0) fun p=> .need (gp p.1 p.2 0) (.ret .nil)
 | .v (.d (.sl e ks) xs)=>bif Nat.beq ks.length sz then Tr.bu (jY st lo hi (aG xs).length) fun p=> .need (gp p.1 p.2 (aG xs).length) (.ret (.d (.sl e ks) (sub (aG xs) p.1 p.2))) else .fail
 | .v (.b r j s m (.sl e ks) xs)=>(match st.cell r j with
   | some rc=>bif Nat.beq rc.s s && Nat.beq rc.m m && Nat.beq ks.length sz then Tr.bu (jY st lo hi (aG xs).length) fun p=> .need (gp p.1 p.2 (aG xs).length) (.ret (.b r j s m (.sl e ks) (sub (aG xs) p.1 p.2))) else .fail
   | none=> .fail)
 | .v (.pref r j s m i c)=>(match st.cell r j with
   | some ⟨s',m',.own (.sl e0 ks0) x0⟩=>bif Nat.beq s' s && Nat.beq m' m then (match cellAt ks0 (eC x0 i) c with
     | some ⟨.sl e ks,xs⟩=>bif Nat.beq ks.length sz then Tr.bu (jY st lo hi (aG xs).length) fun p=> .need (gp p.1 p.2 (aG xs).length) (.ret (.b r j s m (.sl e ks) (sub (aG xs) p.1 p.2))) else .fail
     | _=> .fail) else .fail
   | _=> .fail)
 | .v (.ref r j s)=>(match st.cell r j with
   | some ⟨s',m,.own (.sl e ks) xs⟩=>bif Nat.beq s' s && Nat.beq ks.length sz then Tr.bu (jY st lo hi (aG xs).length) fun p=> .need (gp p.1 p.2 (aG xs).length)
      (match lo with | none=> .ret (.cut r j s p.2.toNat) | some _=> .ret (.b r j s m (.sl e ks) (sub (aG xs) p.1 p.2))) else .fail
   | _=> .fail)
 | _=> .fail
def flat:List K->Bool
 | []=>true
 | .sl _ _ :: _=>false
 | _ :: ks=>flat ks
def chunks (st:St) (ks:List K):Nat->List AV->Option (List (Tl ks))
 | 0,[]=>some []
 | 0,_ :: _=>none
 | n + 1,l=>match st.readAll ks (l.take ks.length),chunks st ks n (l.drop ks.length) with | some x,some r=>some (x :: r) | _,_=>none
def lv (st:St) (size:Nat) (l:List AV) (q:Nat×Operand):Option (List AV):=match st.get q.2 with
 | some tv=>(match tv.db with
   | some (_,p)=>bif Nat.beq p.length size && p.all st.live && Nat.ble (q.1 * size + p.length) l.length then some (putAt l (q.1 * size) p) else none
   | none=>none)
 | none=>none
def nL (a:AV):Bool:=match a with | .nil=>true | .d k _=> !lu k | .lb _=>true | _=>false
def oe {α:Type} (n:Nat) (l:List α):List α:=match n with | 0=>[] | n + 1=>l ++ oe n l
def strOf (xs:List (Tl [.int .u8])):List UInt8:=xs.map fun x=>UInt8.ofNat (Int.toNat x.1)
def bytesOf (s:List UInt8):List (Tl [.int .u8]):=s.map fun c=>((c.toNat:Int),())
def St.getAll (st:St):List Operand->Option (List TV)
 | []=>some []
 | x :: l=>match st.get x,st.getAll l with | some a,some r=>some (a :: r) | _,_=>none
def lists:List TV->Option (List (Bool×List AV))
 | []=>some []
 | x :: l=>match x.db,lists l with | some p,some r=>some (p :: r) | _,_=>none
def Iu (a b:Int):Int:=if b < a then b else a
def Ik (a b:Int):Int:=if a < b then b else a
def St.side (st:St) (c:Operand) (want:Bool) (o:Operand):Option ((k:K)×T k):=match st.get o,c with
 | some (.v a),_=>bif a.bP then st.read a else none
 | some (.may t w _ false [a]),.tmp t'=>bif Nat.beq t t' && bU w want && a.bP then st.read a else none
 | _,_=>none
def yG (E:En) (st:St) (dst:Nat) (op:Op):Tr (TV×Option Rt) :=
 let v (t:Tr AV):Tr (TV×Option Rt):=t.bind fun a=> .ret (.v a,none)
 match op with
 | .move x=>Tr.bu (st.get x) fun tv=> .ret (tv,none)
 | .assign x=>Tr.bu (st.get x) fun tv=> .ret (tv,none)
 | .pick c a b=>(match st.get c with
   | some (.v (.lb true))=>Tr.bu (st.get a) fun tv=> .ret (tv,none)
   | some (.v (.lb false))=>Tr.bu (st.get b) fun tv=> .ret (tv,none)
   | some (.v (.d .bool g)) =>
     (match st.side c true a,st.side c false b with
     | some ⟨k,x⟩,some ⟨k',y⟩=>(match gV k' k y with | some y'=> .ret (.v (.d k (cond g x y')),none) | none=> .fail)
     | _,_=> .fail)
   | _=> .fail)
 | .alloc t=>Tr.bu (E.ti t) fun ti=> .ret (.v (.ptr dst 0),some ⟨true,ti.ks.map mg⟩)
 | .box t x=>Tr.bu (E.ti t) fun ti=>Tr.bu (st.get x) fun tv=>Tr.bu tv.db fun p=>bif Nat.beq p.2.length ti.ks.length then Tr.bu (st.j9 p.2) fun l=> .ret (.v (.ptr dst 0),some ⟨true,l⟩) else .fail
 | .build t parts=>Tr.bu (E.ti t) fun ti=>bif !ti.agg then .fail else Tr.bu (ja (rM E st ti.flds) (ti.ks.map kV) parts.toList) fun l=> .ret (.agg l,none)
 | .buildSlice t n parts=>Tr.bu (E.ti t) fun ti=>Tr.bu (E.sl t) fun te=>Tr.bu (ja (lv st te.ks.length) (oe n (te.ks.map kV)) parts.toList) fun l=>bif Nat.ble (n * te.ks.length) 1000 && Nat.ble n 1000 then
    Tr.bu (chunks st te.ks n l) fun xs=>bif (flat te.ks || l.all nL) && !(kN E.pins 999999 && l.all AV.bP)
     then .ret (.v (.ref dst 0 0),some ⟨false,[⟨0,0,.own (.sl ti.elem te.ks) xs⟩]⟩)
     else bif l.all AV.bP then .ret (.v (.d (.sl ti.elem te.ks) xs),none) else .ret (.v (.brow dst n),some ⟨true,l.map fun a=>⟨0,0,.av a⟩⟩)
    else .fail
 | .load t a=>Tr.bu (E.ti t) fun ti=>Tr.bu (st.get a) fun tv=>Tr.bu tv.Cp fun a=>Tr.bu (st.load ti.ks.length a) fun l=>Tr.bu (ff ti.agg l) fun tv=> .ret (tv,none)
 | .nilCheck x=>Tr.bu (st.get x) fun tv=>(match tv with
   | .v (.ptr r j)=> .ret (.v (.ptr r j),none)
   | .v (.pel r j s i c)=>bif st.live (.pel r j s i c) then .ret (.v (.pel r j s i c),none) else .fail
   | _=> .fail)
 | .binOp op t x y _=>Tr.bu (st.get x) fun a=>Tr.bu (st.get y) fun b=>v (R7 (E.bool t) op a b)
 | .unOp op _ x=>Tr.bu (st.get x) fun a=>v (match op with | .not=>Tm a | _=>Yb op a)
 | .convert s d x=>Tr.bu (E.ti s) fun ts=>Tr.bu (E.ti d) fun td=>Tr.bu (st.get x) fun tv=>bif ts.agg || td.agg then .fail else (match ts.ks,td.ks with
   | [.int _],[.int k]=>Tr.bu tv.int? fun p=>v (.ret (.d (.int k) (k.wrap p.2)))
   | [.str],[.sl e [.int .u8]]=>bif !E.u8 td.elem then .fail else Tr.bu tv.lU fun s=> .ret (.v (.ref dst 0 0),some ⟨false,[⟨0,0,.own (.sl e [.int .u8]) (bytesOf s)⟩]⟩)
   | [.sl e [.int .u8]],[.str]=>bif !E.u8 ts.elem then .fail else Tr.bu tv.Cp fun a=>Tr.bu (st.ct (.sl e [.int .u8]) a) fun xs=>v (.ret (.d .str (strOf (aG xs))))
   | [.str],[.str]=>Tr.bu tv.lU fun s=>v (.ret (.d .str s))
   | _,_=> .fail)
 | .makeSlice t (.tmp n) (.tmp n')=>Tr.bu (E.ti t) fun ti=>Tr.bu (E.sl t) fun te=>Tr.bu (st.tv n) fun tv=>Tr.bu tv.int? fun p=>bif Nat.beq n n' then
    .need (bL 0 p.2 && (bL (p.2 * te.bytes) aT && Nat.blt 0 te.bytes)) (.ret (.v (.ref dst 0 0),some ⟨false,[⟨0,0,.own (.sl ti.elem te.ks) (List.replicate p.2.toNat (dZ te.ks))⟩]⟩)) else .fail
 | .makeSlice t (.const (.int _ n)) (.const (.int _ n'))=>Tr.bu (E.ti t) fun ti=>Tr.bu (E.sl t) fun te=>bif n == n' && (bL 0 n && (bL (n * te.bytes) aT && Nat.blt 0 te.bytes)) then
    .ret (.v (.ref dst 0 0),some ⟨false,[⟨0,0,.own (.sl ti.elem te.ks) (List.replicate n.toNat (dZ te.ks))⟩]⟩) else .fail
 | .slice t x lo hi none=>Tr.bu (st.get x) fun tv=>(match E.sl t with
   | some te=>v (st.mO te.ks.length tv lo hi)
   | none=>bif E.str t then v (st.mY tv lo hi) else .fail)
 | .fieldAddr t x f=>Tr.bu (E.ti t) fun ti=>Tr.bu (FL ti.flds f) fun p=>Tr.bu (st.get x) fun tv=>Tr.bu tv.Cp fun a=>bif ti.agg && st.live a then Tr.bu (yr p.1 a) fun a=> .ret (.v a,none) else .fail
 | .field t x f=>Tr.bu (E.ti t) fun ti=>Tr.bu (FL ti.flds f) fun p=>Tr.bu (E.ti p.2) fun tf=>Tr.bu (st.get x) fun tv=>(match tv with
   | .agg l=>bif ti.agg && Nat.ble (p.1 + tf.ks.length) l.length then Tr.bu (ff tf.agg (pH l p.1 tf.ks.length)) fun tv=> .ret (tv,none) else .fail
   | _=> .fail)
 | .indexAddr t x i=>Tr.bu (E.sl t) fun te=>Tr.bu (st.get x) fun tv=>Tr.bu (st.get i) fun ti=>Tr.bu ti.int? fun p=>v (st.indexAddr te.ks.length tv p.2)
 | .index t x i=>bif !E.str t then .fail else Tr.bu (st.get x) fun tv=>Tr.bu (st.get i) fun ti=>Tr.bu ti.int? fun p=>Tr.bu tv.lU fun s=> .need (ko p.2 s.length) (v (.ret (.d (.int .u8) (B8 s p.2.toNat))))
 | .extract x i=>Tr.bu (st.get x) fun tv=>(match tv with
   | .tup l=>(match l[i]? with
     | some (g,l)=>Tr.bu (ff g l) fun tv=> .ret (tv,none)
     | none=> .fail)
   | _=> .fail)
 | .makeFunc (.func f) first caps=>bif Nat.beq first.size 0 then Tr.bu (st.getAll caps.toList) fun l=>Tr.bu (lists l) fun l=> .ret (.fn f l,none) else .fail
 | .call c=>(match c.callee with
   | .builtin .len=>(match c.args.toList,c.argTypes.toList with | [x],t :: _=>bif E.str t then Tr.bu (st.get x) fun tv=>Tr.bu (st.len true tv) fun n=>v (.ret (.d (.int .i64) n)) else Tr.bu (E.sl t) fun _=>Tr.bu (st.get x) fun tv=>Tr.bu (st.len false tv) fun n=>v (.ret (.d (.int .i64) n)) | _,_=> .fail)
   | .builtin .cap=>(match c.args.toList,c.argTypes.toList with | [x],t :: _=>Tr.bu (E.sl t) fun _=>Tr.bu (st.get x) fun tv=>bif eG tv then v (.ret (.d (.int .i64) (0:Int))) else .fail | _,_=> .fail)
   | .builtin .min=>(match c.args.toList with | [x,y]=>Tr.bu (st.get x) fun a=>Tr.bu (st.get y) fun b=>Tr.bu a.int? fun p=>Tr.bu b.int? fun q=>bif p.1 == q.1 then v (.ret (.d (.int p.1) (Iu p.2 q.2))) else .fail | _=> .fail)
   | .builtin .max=>(match c.args.toList with | [x,y]=>Tr.bu (st.get x) fun a=>Tr.bu (st.get y) fun b=>Tr.bu a.int? fun p=>Tr.bu b.int? fun q=>bif p.1 == q.1 then v (.ret (.d (.int p.1) (Ik p.2 q.2))) else .fail | _=> .fail)
   | .value f=>Tr.bu (st.get f) fun tf=>(match tf with
     | .fn g caps=>Tr.bu (st.getAll c.args.toList) fun l=>st.uo dst (E.ga g) (l ++ caps.map fun p=>bif p.1 then .agg p.2 else (match p.2 with | [a]=> .v a | _=> .agg p.2))
     | _=> .fail)
   | _=> .fail)
 | _=> .fail
def St.aE (st:St) (dst:Nat) (p:TV×Option Rt):St:=⟨(dst,p.1) :: st.tm,match p.2 with | some R=>(dst,R) :: st.rt | none=>st.rt⟩
def St.free (st:St) (dst:Nat):Bool:=match look st.rt dst with | none=>true | some _=>false
def St.bump (st:St) (r j:Nat) (v:RV):Option St:=match st.cell r j with | some c=>some (st.setCell r j ⟨c.s + 1,c.m + 1,v⟩) | none=>none
def St.gQ (st:St) (r:Nat):Nat->List K->List AV->Option St
 | _,[],[]=>some st
 | j,k :: ks,a :: l=>match a with
   | .ref r2 j2 s2=>bif Nat.beq r r2 && Nat.beq j j2 then (match st.cell r j with | some c=>bif Nat.beq c.s s2 then st.gQ r (j + 1) ks l else none | none=>none)
     else (match st.dS k (.ref r2 j2 s2) with | some (st',x)=>(match st'.bump r j (.own k x) with | some st'=>st'.gQ r (j + 1) ks l | none=>none) | none=>none)
   | .cut r2 j2 s2 n=>(match st.dS k (.cut r2 j2 s2 n) with | some (st',x)=>(match st'.bump r j (.own k x) with | some st'=>st'.gQ r (j + 1) ks l | none=>none) | none=>none)
   | .nil=>(match k with
     | .sl e ks'=>(match st.bump r j (.own (.sl e ks') ([]:List (Tl ks'))) with | some st'=>st'.gQ r (j + 1) ks l | none=>none)
     | _=>none)
   | a=>(match st.kQ a with | some c=>(match st.bump r j c.v with | some st'=>st'.gQ r (j + 1) ks l | none=>none) | none=>none)
 | _,_,_=>none
def oY (r j s m c:Nat):AV->Bool
 | .pref r' j' s' m' _ q=>Nat.beq r' r && (Nat.beq j' j && (Nat.beq s' s && (Nat.beq m' m && Nat.beq q c)))
 | _=>false
def St.BM (st:St) (r j s m c:Nat) (a:AV):Bool:=oY r j s m c a && (match st.cell r j with | some ⟨s',_,.own (.sl _ _) _⟩=>Nat.beq s' s | _=>false)
def lM (r j s m i:Nat):Nat->List AV->Bool
 | _,[]=>true
 | c,a :: l=>bif oY r j s m c a then (match a with | .pref _ _ _ _ i' _=>Nat.beq i' i && lM r j s m i (c + 1) l | _=>lM r j s m i (c + 1) l) else lM r j s m i (c + 1) l
def St.IA (st:St) (r j:Nat):Nat:=match st.cell r j with | some c=>c.m | none=>0
def St.Jw (st:St) (a:AV) (l:List AV):Bool:=match a with | .pel r j s i c=>lM r j s (st.IA r j) i c l | _=>true
def St.rf (st:St) (r j s i m0:Nat):Nat->List K->List AV->Option St
 | _,[],[]=>some st
 | c,k :: ks',a :: l=>bif st.BM r j s m0 c a then st.rf r j s i m0 (c + 1) ks' l else
   match (match k with
    | .sl _ _=>st.dS k a
    | _=>(match st.ct k a with | some x=>bif a.bP then some (st,x) else none | none=>none)) with
   | some (st',x)=>(match st'.cell r j with
     | some ⟨s',m,.own (.sl e ks) xs⟩=>bif Nat.beq s' s then (match setAt ks (eC xs i) c k x with
       | some y=>(st'.setCell r j ⟨s',m + 1,.own (.sl e ks) (List.set (aG xs) i y)⟩).rf r j s i m0 (c + 1) ks' l
       | none=>none) else none
     | _=>none)
   | none=>none
 | _,_,_=>none
def St.uI (st:St) (r j s i m0:Nat) (ks0:List K) (z0:Tl ks0):Nat->(ks:List K)->List AV->Option (St×Tl ks)
 | _,[],[]=>some (st,())
 | c,k :: ks',a :: l=>bif st.BM r j s m0 c a then (match cellAt ks0 z0 c with
    | some z=>(match gV z.1 k z.2,st.uI r j s i m0 ks0 z0 (c + 1) ks' l with | some x,some q=>some (q.1,(x,q.2)) | _,_=>none)
    | none=>none) else
   match (match k with
    | .sl _ _=>st.dS k a
    | _=>(match st.ct k a with | some x=>bif a.bP then some (st,x) else none | none=>none)) with
   | some (st',x)=>(match st'.cell r j with
     | some ⟨s',m,.own (.sl e ks) xs⟩=>bif Nat.beq s' s && Nat.beq m (st.IA r j) then (match setAt ks (eC xs i) c k x with
       | some y=>(match (st'.setCell r j ⟨s',m + 1,.own (.sl e ks) (List.set (aG xs) i y)⟩).uI r j s i m0 ks0 z0 (c + 1) ks' l with | some q=>some (q.1,(x,q.2)) | none=>none)
       | none=>none) else none
     | _=>none)
   | none=>none
 | _,_,_=>none
def St.LZ (st:St) (r j s i:Nat) (ks:List K) (l:List AV):Option St:=match st.cell r j with
 | some ⟨_,m,.own (.sl e ks0) xs⟩=>(match st.uI r j s i m ks0 (eC xs i) 0 ks l with
   | some q=>(match AR ks ks0 q.2,q.1.cell r j with
     | some y,some c1=>bif Nat.blt m c1.m then some (q.1.setCell r j ⟨c1.s,c1.m,.own (.sl e ks0) (List.set (aG xs) i y)⟩) else none
     | _,_=>none)
   | none=>none)
 | _=>none
def St.store (st:St) (ks:List K) (l:List AV):AV->Option St
 | .ptr r j=>st.gQ r j ks l
 | .pel r j s i c=>bif st.live (.pel r j s i c) then (bif Nat.beq c 0 && Nat.ble 8 l.length then st.LZ r j s i ks l else st.rf r j s i (st.IA r j) c ks l) else none
 | _=>none
def Ek {e:TypeId} {ks:List K} (o:Option (T (.sl e ks))):Bool:=match o with | some x=>(match aG x with | []=>true | _=>false) | none=>false
def kH (st:St) (fresh:Bool):(ks:List K)->List AV->Option (St×Tl ks)
 | [],[]=>some (st,())
 | .sl e ks' :: ks,a :: l=>(match (bif fresh then st.dS (.sl e ks') a else bif a.bP || Ek (st.ct (.sl e ks') a) then (match st.ct (.sl e ks') a with | some x=>some (st,x) | none=>none) else none) with
   | some (st',x)=>(match kH st' fresh ks l with | some y=>some (y.1,(x,y.2)) | none=>none)
   | none=>none)
 | k :: ks,a :: l=>(match st.ct k a,a.bP,kH st fresh ks l with | some x,true,some y=>some (y.1,(x,y.2)) | _,_,_=>none)
 | _,_=>none
def St.source (st:St) (k:K) (ks:List K) (a:AV):Option (St×T k) :=
 bif flat ks then (match st.ct k a with | some x=>some (st,x) | none=>none) else st.dS k a
def St.news (st:St) (e:Nat) (ks:List K):TV->Option (St×List (Tl ks))
 | .v (.d .str s)=>match gV (.sl e [.int .u8]) (.sl e ks) (bytesOf s) with | some z=>some (st,aG z) | none=>none
 | .v (.brow r n)=>bif Nat.beq n 1 then (match look st.rt r with
   | some ⟨true,l⟩=>(match kH st true ks (l.map DI) with | some (st',x)=>some (st',[x]) | none=>none)
   | _=>none) else none
 | .v b=>match st.source (.sl e ks) ks b with | some (st',z)=>some (st',aG z) | none=>none
 | _=>none
def St.append (st:St) (dst:Nat) (e:Nat) (te:TI) (x y:TV):Tr St :=
 Tr.bu x.Cp fun a=>Tr.bu (st.dS (.sl e te.ks) a) fun p=>Tr.bu (p.1.news e te.ks y) fun q =>
  bif q.1.free dst && Nat.blt 0 te.bytes then
   .need (Nat.ble (((aG p.2).length + q.2.length) * te.bytes) aT)
    (.ret (q.1.aE dst (.v (.ref dst 0 0),some ⟨false,[⟨0,0,.own (.sl e te.ks) (cat te.ks (aG p.2) q.2)⟩]⟩)))
  else .fail
def St.Au (st:St) (dst:Nat) (e:Nat) (te:TI) (n:Int):Tr St :=
 bif st.free dst && Nat.blt 0 te.bytes then .need (bL 0 n && bL (n * te.bytes) aT) (.ret (st.aE dst (.v (.ref dst 0 0),some ⟨false,[⟨0,0,.own (.sl e te.ks) (List.replicate n.toNat (dZ te.ks))⟩]⟩))) else .fail
def St.fm (st:St):(ps:List PK)->List TV->Option (St×PT ps)
 | [],[]=>some (st,())
 | .c g ks :: ps,tv :: r=>match tv.db with
   | some (g',l)=>bif bU g g' && l.all AV.bP then (match st.readAll ks l,st.fm ps r with | some x,some y=>some (y.1,(x,y.2)) | _,_=>none) else none
   | none=>none
 | .fn f cs :: ps,.fn f' caps :: r=>bif Nat.beq f f' then (match st.bq true cs caps,st.fm ps r with | some x,some y=>some (y.1,(x,y.2)) | _,_=>none) else none
 | .mv k :: ps,.v a :: r=>match st.dS k a with | some (st',x)=>(match st'.fm ps r with | some y=>some (y.1,(x,y.2)) | none=>none) | none=>none
 | _,_=>none
def St.uk (st:St) (dst:Nat):List Su->List TV->Tr St
 | [],_=> .fail
 | s :: r,l=>bif gN s.ps || !s.fresh then st.uk dst r l else (match st.fm s.ps l with
    | some (st',x)=>(match s.f with
      | .inl f=> .call (f x) fun y=>Tr.bu (fW dst s y.2) fun p=>bif st'.free dst then .ret (st'.aE dst p) else .fail
      | .inr g=>Tr.bu (fW dst s (g x)) fun p=>bif st'.free dst then .ret (st'.aE dst p) else .fail)
    | none=>st.uk dst r l)
structure Ln where
 r:Nat
 j:Nat
 pl:Option (Nat×Nat)
def St.Cz (st:St) (k:K):AV->Option (Ln×T k)
 | .ref r j s=>match st.cell r j with
   | some ⟨s',_,.own k' x⟩=>bif Nat.beq s' s then (match gV k' k x with | some y=>some (⟨r,j,none⟩,y) | none=>none) else none
   | _=>none
 | .pref r j s m i c=>match st.cell r j with
   | some ⟨s',m',.own (.sl _ ks) x⟩=>bif Nat.beq s' s && Nat.beq m' m then (match cellAt ks (eC x i) c with
     | some ⟨k',y⟩=>(match gV k' k y with | some y=>some (⟨r,j,some (i,c)⟩,y) | none=>none)
     | none=>none) else none
   | _=>none
 | _=>none
def St.nk (st:St):(ks:List K)->List AV->Option (List Ln×Tl ks)
 | [],[]=>some ([],())
 | .sl e ks' :: ks,a :: l=>(match st.Cz (.sl e ks') a,st.nk ks l with | some p,some q=>some (p.1 :: q.1,(p.2,q.2)) | _,_=>none)
 | k :: ks,a :: l=>(match st.ct k a,a.bP,st.nk ks l with | some x,true,some q=>some (q.1,(x,q.2)) | _,_,_=>none)
 | _,_=>none
def St.bQ (st:St):(ps:List PK)->List TV->Option (List Ln×PT ps)
 | [],[]=>some ([],())
 | .c g ks :: ps,tv :: r=>match tv.db with
   | some (g',l)=>bif bU g g' && l.all AV.bP then (match st.readAll ks l,st.bQ ps r with | some x,some y=>some (y.1,(x,y.2)) | _,_=>none) else none
   | none=>none
 | .fn f cs :: ps,.fn f' caps :: r=>bif Nat.beq f f' then (match st.bq true cs caps,st.bQ ps r with | some x,some y=>some (y.1,(x,y.2)) | _,_=>none) else none
 | .io g ks :: ps,tv :: r=>match tv.db with
   | some (g',l)=>bif bU g g' then (match st.nk ks l,st.bQ ps r with | some p,some q=>some (p.1 ++ q.1,(p.2,q.2)) | _,_=>none) else none
   | none=>none
 | _,_=>none
def F6 (r j:Nat):List Ln->Bool
 | []=>false
 | n :: l=>(Nat.beq n.r r && Nat.beq n.j j) || F6 r j l
def noTwo:List Ln->Bool
 | []=>true
 | n :: l=> !F6 n.r n.j l && noTwo l
def wK:(ks:List K)->Tl ks->List ((k:K)×T k)
 | [],_=>[]
 | .sl e ks' :: ks,x=>⟨.sl e ks',x.1⟩ :: wK ks x.2
 | _ :: ks,x=>wK ks x.2
def jH:(ps:List PK)->uw ps->List ((k:K)×T k)
 | [],_=>[]
 | .io _ ks :: ps,y=>wK ks y.1 ++ jH ps y.2
 | .c _ _ :: ps,y=>jH ps y
 | .pt _ :: ps,y=>jH ps y
 | .nil :: ps,y=>jH ps y
 | .fn _ _ :: ps,y=>jH ps y
 | .mv _ :: ps,y=>jH ps y
def St.A9 (st:St) (n:Ln) (y:(k:K)×T k):Option RC:=match st.cell n.r n.j,n.pl with
 | some ⟨s,m,_⟩,none=>some ⟨s,m + 1,.own y.1 y.2⟩
 | some ⟨s,m,.own (.sl e ks) x⟩,some (i,c)=>(match setAt ks (eC x i) c y.1 y.2 with | some z=>some ⟨s,m + 1,.own (.sl e ks) (List.set (aG x) i z)⟩ | none=>none)
 | _,_=>none
def St.rV (st:St):List Ln->List ((k:K)×T k)->Option (List (Nat×Nat×RC))
 | [],[]=>some []
 | n :: l,y :: r=>(match st.A9 n y,st.rV l r with | some c,some q=>some ((n.r,n.j,c) :: q) | _,_=>none)
 | _,_=>none
def St.setCells (st:St):List (Nat×Nat×RC)->St
 | []=>st
 | (r,j,c) :: l=>(st.setCells l).setCell r j c
def St.BU (st:St) (dst:Option Nat) (tv:TV):St:=match dst with | some d=>st.aE d (tv,none) | none=>st
def St.mX (st:St) (dst:Option Nat):List Su->List TV->Tr St
 | [],_=> .fail
 | s :: r,l=>bif mo s.rs || !s.fresh then st.mX dst r l else (match st.bQ s.ps l with
   | some (ns,x)=>(match s.f with
     | .inl f=>bif noTwo ns then .call (f x) fun y=>Tr.bu (gu (oR 0 true s.rs y.2 0)) fun tv=>Tr.bu (st.rV ns (jH s.ps y.1)) fun q=> .ret ((st.setCells q).BU dst tv) else .fail
     | .inr _=> .fail)
   | none=>st.mX dst r l)
def lL:List PK->Bool
 | []=>false
 | .io _ _ :: _=>true
 | _ :: ps=>lL ps
def KB:List Su->Bool
 | []=>false
 | s :: r=>lL s.ps || KB r
def St.rebind (st:St) (x:Operand) (d:Nat) (g:Bool) (n:Nat):St:=match x with
 | .tmp t=>bif Nat.beq t d then st else (match st.fT d 0 n with | some l=>⟨(t,dV g l) :: st.tm,st.rt⟩ | none=>st)
 | _=>st
def PF (E:En) (st:St) (dst:Option Nat) (op:Op):Tr St:=match op,dst with
 | .store t a x,none=>Tr.bu (E.ti t) fun ti=>Tr.bu (st.get a) fun ta=>Tr.bu ta.Cp fun a=>Tr.bu (st.get x) fun tx=>Tr.bu tx.db fun p=>bif p.2.all st.live && Nat.beq p.2.length ti.ks.length then .need (st.Jw a p.2) (Tr.bu (st.store ti.ks p.2 a) .ret) else .fail
 | .assign x,some d=>Tr.bu (st.get x) fun tv=> .ret (st.aE d (tv,none))
 | .move x,some d=>Tr.bu (st.get x) fun tv=> .ret (st.aE d (tv,none))
 | .box t x,some d=>Tr.bu (E.ti t) fun ti=>Tr.bu (st.get x) fun tv=>Tr.bu tv.db fun p=>bif st.free d && p.2.all st.live && Nat.beq p.2.length ti.ks.length then
    Tr.bu ((st.aE d (.v (.ptr d 0),some ⟨true,ti.ks.map mg⟩)).gQ d 0 ti.ks p.2) fun st'=> .ret (st'.rebind x d p.1 ti.ks.length) else .fail
 | .call c,d=>(match c.callee,c.args.toList with
   | .builtin .append,[x,y]=>(match d,c.argTypes.toList with
     | some d,t :: t2 :: _=>Tr.bu (E.ti t) fun ti=>Tr.bu (E.sl t) fun te=>Tr.bu (st.get x) fun a=>Tr.bu (st.get y) fun b=>bif E.str t2 || (E.sl t2).isSome then st.append d ti.elem te a b else (bif E.i64 t2 && eG a then Tr.bu b.int? fun p=>st.Au d ti.elem te p.2 else .fail)
     | _,_=> .fail)
   | .value f,l=>Tr.bu (st.get f) fun tf=>(match tf with
     | .fn g caps=>Tr.bu (st.getAll l) fun l=>bif KB (E.ga g) then st.mX d (E.ga g) (l ++ caps.map fun p=>bif p.1 then .agg p.2 else (match p.2 with | [a]=> .v a | _=> .agg p.2))
       else (match d with
        | some d=>st.uk d (E.ga g) (l ++ caps.map fun p=>bif p.1 then .agg p.2 else (match p.2 with | [a]=> .v a | _=> .agg p.2))
        | none=> .fail)
     | _=> .fail)
   | _,_=> .fail)
 | _,_=> .fail
end Go.Av
namespace Go.Av
def St.under (st:St) (g:Nat) (want:Bool):St:=⟨st.tm.map fun p=>match p.2 with | .may t w _ g' l=>bif Nat.beq t g && bU w want then (p.1,dV g' l) else p | _=>p,st.rt⟩
def q8 (ops:List Oper) (i:Nat):Option Nat:=match ops[i]? with | some o=>o.dst | none=>none
def JA (ops:List Oper) (i:Nat):Bool:=ops.any fun o=>match o.guard with | some (j,_)=>Nat.beq j i | none=>false
def Cs (g:Nat) (want y:Bool):Tr (TV×Option Rt)->Option TV
 | .ret (.v a,none)=>some (.may g want y false [a])
 | .ret (.agg l,none)=>some (.may g want y true l)
 | _=>none
def St.Kt (st:St) (t:Nat) (x:Bool):St:=⟨(t,.v (.lb x)) :: st.tm,st.rt⟩
def St.sure (st:St):St:=⟨st.tm.filter fun p=>match p.2 with | .may _ _ _ _ _=>false | _=>true,st.rt⟩
def bm (ops:List Oper):Bool:=ops.any fun o=>match o.guard with | some _=>true | none=>false
def jm (hg:Bool) (st:St):St:=bif hg then st.sure else st
def bF (e:Edge):Bool:=Region.binds .any e
def bR:List Oper->List Nat->List Nat
 | [],acc=>acc
 | o :: r,acc=>bR r (acc ++ [o.after.toList.foldl (fun s e=>bif bF e then s ||| 2 ^ e.on ||| acc.getD e.on 0 else s) 0])
def gC:List Oper->Nat->Bool
 | [],_=>true
 | o :: r,i=>o.after.toList.all (fun e=> !bF e || Nat.blt e.on i) && gC r (i + 1)
abbrev Bd:=List (Nat×Nat×(TV×Option Rt))
def view (base:St) (mask:Nat):Bd->St
 | []=>base
 | (i,t,p) :: r=>bif mask.testBit i then (view base mask r).aE t p else view base mask r
def aD (base:St):Bd->St
 | []=>base
 | (_,t,p) :: r=>(aD base r).aE t p
def cG:Nat:=2 ^ 200 - 1
def gO (ns:List Nat) (i:Nat):Bool:=(List.range i).all (fun j=>(ns.getD i 0).testBit j) && (List.range (ns.length - i - 1)).all (fun j=>(ns.getD (i + 1 + j) 0).testBit i)
def fF (g:Nat) (x:Bool):Bd->Bd
 | []=>[]
 | (i,t,p) :: r=>bif Nat.beq t g then (i,t,(.v (.lb x),p.2)) :: r else (i,t,p) :: fF g x r
def jr (g:Nat):Bd->Bool
 | []=>false
 | (_,t,_) :: r=>Nat.beq t g || jr g r
def tX (st:St) (d:Nat):Bool:=match look st.tm d with | none=>true | some _=>false
def mN:Op->Bool | .assign _=>true | _=>false
def xf (E:En) (mask:Nat) (o:Oper) (d:Nat) (base:St) (bs:Bd) (lax:Bool):Tr (TV×Option Rt) :=
 bif mN o.op && !lax then .fail else bif E.dB d && tX base d && base.free d && !jr d bs then yG E (view base mask bs) d o.op else .fail
def zt (E:En):Option Nat->Bool | some d=>E.dB d | none=>true
def dO (E:En) (dr:Bool) (ops:List Oper) (ns:List Nat):List Oper->Nat->St->Bd->Tr St
 | [],_,base,bs=> .ret (jm (bm ops) (aD base bs))
 | o :: r,i,base,bs=>match o.guard with
   | none=>(match o.dst with
     | some d=>(match xf E (ns.getD i cG) o d base bs (dr && !gO ns i) with
       | .fail=>bif (!dr || gO ns i) && zt E o.dst then (PF E (jm (bm ops) (aD base bs)) o.dst o.op).bind fun st'=>dO E dr ops ns r (i + 1) st' [] else .fail
       | t=>t.bind fun p=>dO E dr ops ns r (i + 1) base ((i,d,p) :: bs))
     | none=>bif !dr || gO ns i then (PF E (jm (bm ops) (aD base bs)) none o.op).bind fun st'=>dO E dr ops ns r (i + 1) st' [] else .fail)
   | some (j,want)=>match q8 ops j,o.dst with
     | some g,some d=>bif E.dB d && tX base d && base.free d && !jr d bs && !mN o.op then (match (view base (ns.getD i cG) bs).tv g with
       | some (.v (.lb x))=>bif bU x want then (yG E (view base (ns.getD i cG) bs) d o.op).bind fun p=>dO E dr ops ns r (i + 1) base ((i,d,p) :: bs)
          else dO E dr ops ns r (i + 1) base ((i,d,(.tup [],none)) :: bs)
       | some (.v (.d .bool x))=>(match (bif JA ops i then none else Cs g want x (yG E ((view base (ns.getD i cG) bs).under g want) d o.op)) with
          | some tv=>dO E dr ops ns r (i + 1) base ((i,d,(tv,none)) :: bs)
          | none=>bif jr g bs then .br x
            (match want with
              | true=>(yG E (view base (ns.getD i cG) (fF g true bs)) d o.op).bind fun p=>dO E dr ops ns r (i + 1) base ((i,d,p) :: fF g true bs)
              | false=>dO E dr ops ns r (i + 1) base ((i,d,(.tup [],none)) :: fF g true bs))
            (match want with
              | false=>(yG E (view base (ns.getD i cG) (fF g false bs)) d o.op).bind fun p=>dO E dr ops ns r (i + 1) base ((i,d,p) :: fF g false bs)
              | true=>dO E dr ops ns r (i + 1) base ((i,d,(.tup [],none)) :: fF g false bs)) else .fail)
       | some (.tup [])=>dO E dr ops ns r (i + 1) base ((i,d,(.tup [],none)) :: bs)
       | _=> .fail) else .fail
     | _,_=> .fail
inductive Ou where
 | nrm (st:St)
 | ext (id:Nat) (st:St)
 | ret (st:St)
def cQ (E:En):Code->St->Tr Ou
 | .skip,st=> .ret (.nrm st)
 | .region id ops false,st=>match E.rg id with
   | some F=>(F st).bind fun st'=> .ret (.nrm st')
   | none=>(dO E false ops.toList [] ops.toList 0 st []).bind fun st'=> .ret (.nrm st')
 | .region id ops true,st=>match E.rg id with
   | some F=>(F st).bind fun st'=> .ret (.nrm st')
   | none=>bif gC ops.toList 0 then (dO E true ops.toList (bR ops.toList []) ops.toList 0 st []).bind fun st'=> .ret (.nrm st') else .fail
 | .seq a b,st=>(cQ E a st).bind fun o=>match o with | .nrm st'=>cQ E b st' | o=> .ret o
 | .cond c a b,st=>match st.get c,c with
   | some (.v (.lb true)),_=>cQ E a st
   | some (.v (.lb false)),_=>cQ E b st
   | some (.v (.d .bool x)),.tmp t=> .br x (cQ E a (st.Kt t true)) (cQ E b (st.Kt t false))
   | _,_=> .fail
 | .block id c,st=>match E.lo id with
   | some L=>Tr.bu (dec L.σ st) fun x=> .alt (L.f x) (fun y=> .ret (.nrm (enc L.σ y))) fun z=> .ret (.ret (enc E.ρ z))
   | none=>(cQ E c st).bind fun o=>match o with
     | .ext id' st'=>bif Nat.beq id' id then .ret (.nrm st') else .ret (.ext id' st')
     | o=> .ret o
 | .exit id,st=> .ret (.ext id st)
 | .ret,st=> .ret (.ret st)
 | .loop c,st=>(cQ E c st).bind fun o=>match o with | .nrm _=> .fail | o=> .ret o
 | _,_=> .fail
def cZ (E:En) (id:Nat) (σ:List SE) (body:Code) (x:bJ σ):Tr (Sum (bJ σ) (Sum (bJ σ) (bJ E.ρ))) :=
 (cQ E body (enc σ x)).bind fun o=>match o with
   | .nrm st=>Tr.bu (dec σ st) fun y=> .ret (.inl y)
   | .ext id' st=>bif Nat.beq id' id then Tr.bu (dec σ st) fun y=> .ret (.inr (.inl y)) else .fail
   | .ret st=>Tr.bu (dec E.ρ st) fun y=> .ret (.inr (.inr y))
def iter {X Y:Type} (step:X->Option (Sum X Y)):Nat->X->Option Y
 | 0,_=>none
 | n + 1,x=>match step x with
   | some (.inl x')=>iter step n x'
   | some (.inr y)=>some y
   | none=>none
def qI:(ps:List PK)->PT ps->Nat->List (Nat×TV)
 | [],_,_=>[]
 | .c g ks :: ps,x,i=>(i,dV g (ea 0 false ks x.1 0)) :: qI ps x.2 (i + 1)
 | .pt ks :: ps,x,i=>(i,.v (.rp none 0 ks [x.1] 0 0)) :: qI ps x.2 (i + 1)
 | .nil :: ps,x,i=>(i,.v .nil) :: qI ps x (i + 1)
 | .fn f caps :: ps,x,i=>(i,.fn f (rh caps x.1)) :: qI ps x.2 (i + 1)
 | .io g ks :: ps,x,i=>(i,dV g (ea (cn i) true ks x.1 0)) :: qI ps x.2 (i + 1)
 | .mv k :: ps,x,i=>(i,.v (.ref (cn i) 0 0)) :: qI ps x.2 (i + 1)
def mC:(ps:List PK)->PT ps->Nat->List (Nat×Rt)
 | [],_,_=>[]
 | .c _ _ :: ps,x,i=>mC ps x.2 (i + 1)
 | .pt _ :: ps,x,i=>mC ps x.2 (i + 1)
 | .nil :: ps,x,i=>mC ps x (i + 1)
 | .fn _ _ :: ps,x,i=>mC ps x.2 (i + 1)
 | .io _ ks :: ps,x,i=>(cn i,⟨false,kf ks x.1⟩) :: mC ps x.2 (i + 1)
 | .mv k :: ps,x,i=>(cn i,⟨false,[⟨0,0,.own k x.1⟩]⟩) :: mC ps x.2 (i + 1)
def start (ps:List PK) (x:PT ps):St:=⟨qI ps x 0,mC ps x 0⟩
def jU (E:En) (st:St):List ResultVar->Option (List (Bool×List AV))
 | []=>some []
 | .tmp t :: r=>match st.tv t,jU E st r with
   | some tv,some l=>(match tv.db with | some p=>some (p :: l) | none=>none)
   | _,_=>none
 | .cell t ty :: r=>match st.tv t,E.ti ty,jU E st r with
   | some (.v (.ptr r' j)),some ti,some l=>(match st.load ti.ks.length (.ptr r' j) with | some cs=>some ((ti.agg,cs) :: l) | none=>none)
   | _,_,_=>none
def xt (st:St) (fresh:Bool):(rs:List (Bool×List K))->List (Bool×List AV)->Option (St×CT rs)
 | [],[]=>some (st,())
 | (g,ks) :: rs,(g',l) :: r=>bif bU g g' then (match kH st fresh ks l with
   | some (st',x)=>(match xt st' fresh rs r with | some y=>some (y.1,(x,y.2)) | none=>none)
   | none=>none) else none
 | _,_=>none
def eU (st:St):(ks:List K)->List AV->Option (Tl ks)
 | [],[]=>some ()
 | .sl e ks' :: ks,.ref r j s :: l=>(match st.cell r j,eU st ks l with
   | some ⟨s',_,.own k' x⟩,some y=>bif Nat.beq s' s then (match gV k' (.sl e ks') x with | some x'=>some (x',y) | none=>none) else none
   | _,_=>none)
 | k :: ks,a :: l=>bif lu k then none else (match st.ct k a,a.bP,eU st ks l with | some x,true,some y=>some (x,y) | _,_,_=>none)
 | _,_=>none
def eS:List AV->List (Nat×Nat)
 | []=>[]
 | .ref r j _ :: l=>(r,j) :: eS l
 | _ :: l=>eS l
def hasName (r j:Nat):List (Nat×Nat)->Bool
 | []=>false
 | n :: l=>(Nat.beq n.1 r && Nat.beq n.2 j) || hasName r j l
def xq:List (Nat×Nat)->Bool
 | []=>true
 | n :: l=> !hasName n.1 n.2 l && xq l
def la (st:St):List PK->Nat->List (Nat×Nat)
 | [],_=>[]
 | .io _ _ :: ps,i=>(match look st.tm i with | some tv=>(match tv.db with | some p=>eS p.2 | none=>[]) | none=>[]) ++ la st ps (i + 1)
 | .mv _ :: ps,i=>(300000 + i,0) :: la st ps (i + 1)
 | .c _ _ :: ps,i=>la st ps (i + 1)
 | .pt _ :: ps,i=>la st ps (i + 1)
 | .nil :: ps,i=>la st ps (i + 1)
 | .fn _ _ :: ps,i=>la st ps (i + 1)
def jw (pins:List Nat) (st:St):(ps:List PK)->Nat->Option (uw ps)
 | [],_=>some ()
 | .c _ _ :: ps,i=>jw pins st ps (i + 1)
 | .pt _ :: ps,i=>jw pins st ps (i + 1)
 | .nil :: ps,i=>jw pins st ps (i + 1)
 | .fn _ _ :: ps,i=>jw pins st ps (i + 1)
 | .mv _ :: ps,i=>jw pins st ps (i + 1)
 | .io g ks :: ps,i=>match look st.tm i with
   | some tv=>(match tv.db with
     | some (g',l)=>bif bU g g' && kN pins i then (match eU st ks l,jw pins st ps (i + 1) with | some x,some y=>some (x,y) | _,_=>none) else none
     | none=>none)
   | none=>none
def qw (pins:List Nat) (st:St) (ps:List PK) (i:Nat):Option (uw ps):=bif xq (la st ps i) then jw pins st ps i else none
def FK (E:En) (body:Code) (res:List ResultVar) (ps:List PK) (rs:List (Bool×List K)) (fresh:Bool) (x:PT ps):Tr (uw ps×CT rs) :=
 (cQ E body (start ps x)).bind fun o=>match o with
   | .ext _ _=> .fail
   | .nrm st=>Tr.bu (jU E st res) fun l=>Tr.bu (xt st fresh rs l) fun p=>Tr.bu (qw E.pins p.1 ps 0) fun z=> .ret (z,p.2)
   | .ret st=>Tr.bu (jU E st res) fun l=>Tr.bu (xt st fresh rs l) fun p=>Tr.bu (qw E.pins p.1 ps 0) fun z=> .ret (z,p.2)
end Go.Av
namespace Go.Av
open Go.RowKit (Below)
structure Gh where
 be:Nat->Nat
 cv:Nat->Nat->Value
 fp:Nat->Nat->Nat->Prop
def bj (Z:Nat->Prop) (g:Gh) (st:St) (w:World):AV->Value->Prop
 | .dead,_=>True
 | .lb x,v=>v= .bool x
 | .d k x,v=>RO Z w k x v
 | .nil,v=>v= .slice none 0 0
 | .b r j s m k x,v=>∃ c,st.cell r j=some c/\s<=c.s/\m<=c.m/\(c.s=s->c.m=m->RO (fun q=>Z q∨g.fp r j q) w k x v)
 | .ref r j s,v=>∃ c,st.cell r j=some c/\s<=c.s/\(c.s=s->v=g.cv r j)
 | .cut r j s n,v=>∃ c,st.cell r j=some c/\s<=c.s/\(c.s=s->∃ a l cap,g.cv r j= .slice a l cap/\n<=l/\v= .slice a n cap)
 | .pre r j s n,v=>∃ c,st.cell r j=some c/\s<=c.s/\(c.s=s->∃ e ks xs,c.v= .own (.sl e ks) xs/\∃ a l cap,v= .slice a l cap/\n<=l/\l<=cap/\l=n + (aG xs).length/\g.cv r j= .slice (if cap=n then a else a.map (·.add (n * ks.length))) (l - n) (cap - n))
 | .pref r j s m i q,v=>∃ c,st.cell r j=some c/\s<=c.s/\m<=c.m/\(c.s=s->c.m=m->∃ e ks xs,c.v= .own (.sl e ks) xs/\i < (aG xs).length/\q < ks.length/\∃ b o l cap,g.cv r j= .slice (some ⟨b,o,none⟩) l cap/\w.cell? ⟨b,o + i * ks.length + q,none⟩=some v)
 | .ptr r j,v=>∃ R,look st.rt r=some R/\R.box=true/\v= .pointer (some ⟨g.be r,j,none⟩)
 | .pel r j s i q,v=>∃ c,st.cell r j=some c/\s<=c.s/\(c.s=s->∃ e ks xs,c.v= .own (.sl e ks) xs/\i < (aG xs).length/\∃ b o l cap,g.cv r j= .slice (some ⟨b,o,none⟩) l cap/\v= .pointer (some ⟨b,o + i * ks.length + q,none⟩))
 | .brow r n,v=>∃ R,look st.rt r=some R/\R.box=true/\v= .slice (some ⟨g.be r,0,none⟩) n n
 | .rp none e ks xs i q,v=>i < xs.length/\∃ b o,Z b/\b < w.heap.size/\v= .pointer (some ⟨b,o + i * ks.length + q,none⟩)/\∀ i x,xs[i]? = some x->wP Z w ks x b (o + i * ks.length)
 | .rp (some (r,j,s,m)) e ks xs i q,v=>∃ c,st.cell r j=some c/\s<=c.s/\m<=c.m/\(c.s=s->c.m=m->i < xs.length/\∃ b o,(Z b∨g.fp r j b)/\b < w.heap.size/\v= .pointer (some ⟨b,o + i * ks.length + q,none⟩)/\∀ i x,xs[i]? = some x->wP (fun q=>Z q∨g.fp r j q) w ks x b (o + i * ks.length))
def aP (Z:Nat->Prop) (g:Gh) (st:St) (w:World):List AV->List Value->Prop
 | [],[]=>True
 | a :: l,v :: vs=>bj Z g st w a v/\aP Z g st w l vs
 | _,_=>False
def qV (Z:Nat->Prop) (g:Gh) (st:St) (w:World) (p:Bool×List AV) (v:Value):Prop :=
 match p with
 | (true,l)=>∃ vs:Array Value,v= .agg vs/\aP Z g st w l vs.toList
 | (false,[a])=>bj Z g st w a v
 | (false,_)=>False
def fY (Z:Nat->Prop) (g:Gh) (st:St) (w:World):List (Bool×List AV)->List Value->Prop
 | [],[]=>True
 | p :: l,v :: vs=>qV Z g st w p v/\fY Z g st w l vs
 | _,_=>False
def bD (Z:Nat->Prop) (g:Gh) (st:St) (w:World):TV->Value->Prop
 | .v a,v=>bj Z g st w a v
 | .may _ want y gg l,v=>y=want->(match dV gg l with | .v a=>bj Z g st w a v | .agg l=>∃ vs:Array Value,v= .agg vs/\aP Z g st w l vs.toList | _=>True)
 | .agg l,v=>∃ vs:Array Value,v= .agg vs/\aP Z g st w l vs.toList
 | .tup l,v=>∃ vs:Array Value,v= .tuple vs/\fY Z g st w l vs.toList
 | .fn f caps,v=>∃ vs:Array Value,v= .func (.func f) #[] vs/\fY Z g st w caps vs.toList
structure Fx (w w':World) (g g':Gh) (r j:Nat) (c c':RC):Prop where
 s:c.s<=c'.s
 m:c.m<=c'.m
 cv:c'.s=c.s->g'.cv r j=g.cv r j
 sl:c'.s=c.s->∀ e ks xs,c.v= .own (.sl e ks) xs->∃ xs',c'.v= .own (.sl e ks) xs'/\(aG xs').length=(aG xs).length
 all:c'.s=c.s->c'.m=c.m->c'.v=c.v/\∀ b,g.fp r j b->b < w.heap.size->g'.fp r j b/\w'.heap[b]? = w.heap[b]?
structure l8 (Z Z':Nat->Prop) (w w':World) (g g':Gh) (st st':St):Prop where
 size:w.heap.size<=w'.heap.size
 z:∀ b,Z b->b < w.heap.size->Z' b/\w'.heap[b]? = w.heap[b]?
 root:∀ r R,look st.rt r=some R->∃ R',look st'.rt r=some R'/\R'.box=R.box/\(R.box=true->g'.be r=g.be r)
 cell:∀ r j c,st.cell r j=some c->∃ c',st'.cell r j=some c'/\Fx w w' g g' r j c c'
 own:∀ r j b,g.fp r j b->b < w.heap.size
 block:∀ r j c e ks xs,st.cell r j=some c->c.v= .own (.sl e ks) xs->∀ b o l cap,g.cv r j= .slice (some ⟨b,o,none⟩) l cap->g.fp r j b
theorem Fx.refl (w:World) (g:Gh) (r j:Nat) (c:RC):Fx w w g g r j c c :=
 ⟨ac7 _,ac7 _,fun _=>rfl,fun _ e ks xs h=>⟨xs,h,rfl⟩,fun _ _=>⟨rfl,fun b h _=>⟨h,rfl⟩⟩⟩
theorem BB {w w':World} {b o:Nat} (h:w'.heap[b]? = w.heap[b]?):w'.cell? ⟨b,o,none⟩=w.cell? ⟨b,o,none⟩:=by simp only [World.cell?,h]
theorem BL {w:World} {b o:Nat} {v:Value} (h:w.cell? ⟨b,o,none⟩=some v):b < w.heap.size:=by
 rcases adj b w.heap.size with h1 | h1
 . exact h1
 . simp [World.cell?,adr h1] at h
theorem bj.bZ {Z Z':Nat->Prop} {w w':World} {g g':Gh} {st st':St} (k:l8 Z Z' w w' g g' st st'):∀ (a:AV) (v:Value),bj Z g st w a v->bj Z' g' st' w' a v
 | .dead,_,_=>trivial
 | .lb _,_,h=>h
 | .d kk x,v,h=>RO.mono k.size k.z kk x v h
 | .nil,_,h=>h
 | .b r j s m kk x,v,h=>by
   obtain ⟨c,h1,h2,h3,h4⟩:=h;obtain ⟨c',h1',kc⟩:=k.cell r j c h1;refine ⟨c',h1',ady h2 kc.s,ady h3 kc.m,fun es em => ?_⟩;have e1:c.s=s:=aeF (es ▸ kc.s) h2;have e2:c.m=m:=aeF (em ▸ kc.m) h3;have ka:=kc.all (by omega) (by omega);exact RO.mono k.size (fun b hb hlt=>by
    rcases hb with hb | hb
    . exact ⟨.inl (k.z b hb hlt).1,(k.z b hb hlt).2⟩
    . exact ⟨.inr (ka.2 b hb hlt).1,(ka.2 b hb hlt).2⟩) kk x v (h4 e1 e2)
 | .ref r j s,v,h=>by obtain ⟨c,h1,h2,h3⟩:=h;obtain ⟨c',h1',kc⟩:=k.cell r j c h1;refine ⟨c',h1',ady h2 kc.s,fun es => ?_⟩;have e1:c.s=s:=aeF (es ▸ kc.s) h2;rw [kc.cv (by omega)];exact h3 e1
 | .cut r j s n,v,h=>by obtain ⟨c,h1,h2,h3⟩:=h;obtain ⟨c',h1',kc⟩:=k.cell r j c h1;refine ⟨c',h1',ady h2 kc.s,fun es => ?_⟩;have e1:c.s=s:=aeF (es ▸ kc.s) h2;rw [kc.cv (by omega)];exact h3 e1
 | .pre r j s n,v,h=>by obtain ⟨c,h1,h2,h3⟩:=h;obtain ⟨c',h1',kc⟩:=k.cell r j c h1;refine ⟨c',h1',ady h2 kc.s,fun es => ?_⟩;have e1:c.s=s:=aeF (es ▸ kc.s) h2;obtain ⟨e,ks,xs,g1,a,l,cap,g2,g3,g4,g5,g6⟩:=h3 e1;obtain ⟨xs',g1',g2'⟩:=kc.sl (by omega) e ks xs g1;exact ⟨e,ks,xs',g1',a,l,cap,g2,g3,g4,by omega,by rw [kc.cv (by omega)]; exact g6⟩
 | .pref r j s m i q,v,h=>by obtain ⟨c,h1,h2,h3,h4⟩:=h;obtain ⟨c',h1',kc⟩:=k.cell r j c h1;refine ⟨c',h1',ady h2 kc.s,ady h3 kc.m,fun es em => ?_⟩;have e1:c.s=s:=aeF (es ▸ kc.s) h2;have e2:c.m=m:=aeF (em ▸ kc.m) h3;obtain ⟨e,ks,xs,g1,g2,g3,b,o,l,cap,g4,g5⟩:=h4 e1 e2;have ka:=kc.all (by omega) (by omega);refine ⟨e,ks,xs,by rw [ka.1]; exact g1,g2,g3,b,o,l,cap,by rw [kc.cv (by omega)]; exact g4,?_⟩;rw [BB (ka.2 b (k.block r j c e ks xs h1 g1 b o l cap g4) (BL g5)).2];exact g5
 | .ptr r j,v,h=>by obtain ⟨R,h1,h2,h3⟩:=h;obtain ⟨R',h1',h2',h3'⟩:=k.root r R h1;exact ⟨R',h1',by rw [h2',h2],by rw [h3' h2]; exact h3⟩
 | .pel r j s i q,v,h=>by obtain ⟨c,h1,h2,h3⟩:=h;obtain ⟨c',h1',kc⟩:=k.cell r j c h1;refine ⟨c',h1',ady h2 kc.s,fun es => ?_⟩;have e1:c.s=s:=aeF (es ▸ kc.s) h2;obtain ⟨e,ks,xs,g1,g2,b,o,l,cap,g4,g5⟩:=h3 e1;obtain ⟨xs',g1',g2'⟩:=kc.sl (by omega) e ks xs g1;exact ⟨e,ks,xs',g1',by omega,b,o,l,cap,by rw [kc.cv (by omega)]; exact g4,g5⟩
 | .brow r n,v,h=>by obtain ⟨R,h1,h2,h3⟩:=h;obtain ⟨R',h1',h2',h3'⟩:=k.root r R h1;exact ⟨R',h1',by rw [h2',h2],by rw [h3' h2]; exact h3⟩
 | .rp none e ks xs i q,v,h=>by obtain ⟨h0,b,o,h1,h2,h3,h4⟩:=h;exact ⟨h0,b,o,(k.z b h1 h2).1,adw h2 k.size,h3,fun i x hx=>wP.mono k.size k.z ks x b _ (k.z b h1 h2).2 (h4 i x hx)⟩
 | .rp (some (r,j,s,m)) e ks xs i q,v,h=>by
   obtain ⟨c,h1,h2,h3,h4⟩:=h;obtain ⟨c',h1',kc⟩:=k.cell r j c h1;refine ⟨c',h1',ady h2 kc.s,ady h3 kc.m,fun es em => ?_⟩;have e1:c.s=s:=aeF (es ▸ kc.s) h2;have e2:c.m=m:=aeF (em ▸ kc.m) h3;have ka:=kc.all (by omega) (by omega);have hz:∀ b,(Z b∨g.fp r j b)->b < w.heap.size->(Z' b∨g'.fp r j b)/\w'.heap[b]? = w.heap[b]? := fun b hb hlt=>by
    rcases hb with hb | hb
    . exact ⟨.inl (k.z b hb hlt).1,(k.z b hb hlt).2⟩
    . exact ⟨.inr (ka.2 b hb hlt).1,(ka.2 b hb hlt).2⟩
   obtain ⟨h0,b,o,g1,g2,g3,g4⟩:=h4 e1 e2;exact ⟨h0,b,o,(hz b g1 g2).1,adw g2 k.size,g3,fun i x hx=>wP.mono k.size hz ks x b _ (hz b g1 g2).2 (g4 i x hx)⟩
theorem aP.bZ {Z Z':Nat->Prop} {w w':World} {g g':Gh} {st st':St} (k:l8 Z Z' w w' g g' st st'):∀ (l:List AV) (vs:List Value),aP Z g st w l vs->aP Z' g' st' w' l vs
 | [],[],_=>trivial
 | a :: l,v :: vs,h=>⟨bj.bZ k a v h.1,aP.bZ k l vs h.2⟩
 | [],_ :: _,h=>h.elim
 | _ :: _,[],h=>h.elim
theorem qV.bZ {Z Z':Nat->Prop} {w w':World} {g g':Gh} {st st':St} (k:l8 Z Z' w w' g g' st st') (p:Bool×List AV) (v:Value) (h:qV Z g st w p v):qV Z' g' st' w' p v:=by
 match p,h with
 | (true,l),⟨vs,e,h⟩=>exact ⟨vs,e,aP.bZ k l _ h⟩
 | (false,[a]),h=>exact bj.bZ k a v h
theorem fY.bZ {Z Z':Nat->Prop} {w w':World} {g g':Gh} {st st':St} (k:l8 Z Z' w w' g g' st st'):∀ (l:List (Bool×List AV)) (vs:List Value),fY Z g st w l vs->fY Z' g' st' w' l vs
 | [],[],_=>trivial
 | a :: l,v :: vs,h=>⟨qV.bZ k a v h.1,fY.bZ k l vs h.2⟩
 | [],_ :: _,h=>h.elim
 | _ :: _,[],h=>h.elim
theorem bD.bZ {Z Z':Nat->Prop} {w w':World} {g g':Gh} {st st':St} (k:l8 Z Z' w w' g g' st st'):∀ (t:TV) (v:Value),bD Z g st w t v->bD Z' g' st' w' t v
 | .v a,v,h=>bj.bZ k a v h
 | .may t want y gg l,v,h=>fun e=>by
   have:=h e;split at this
   . exact bj.bZ k _ v this
   . obtain ⟨vs,e,h⟩:=this;exact ⟨vs,e,aP.bZ k _ _ h⟩
   . trivial
 | .agg l,v,⟨vs,e,h⟩=>⟨vs,e,aP.bZ k l _ h⟩
 | .tup l,v,⟨vs,e,h⟩=>⟨vs,e,fY.bZ k l _ h⟩
 | .fn f caps,v,⟨vs,e,h⟩=>⟨vs,e,fY.bZ k caps _ h⟩
def jo (Z:Nat->Prop) (g:Gh) (st:St) (w:World):RV->Value->(Nat->Prop)->Prop
 | .own k x,v,F=>cO w k x v F
 | .av a,v,_=>bj Z g st w a v
theorem jo.bZ {Z Z':Nat->Prop} {w w':World} {g g':Gh} {st st':St} (k:l8 Z Z' w w' g g' st st') (rv:RV) (v:Value) (F F':Nat->Prop) (h:jo Z g st w rv v F)
 (hF:∀ b,F b->F' b) (hw:∀ b,F b->b < w.heap.size->w'.heap[b]? = w.heap[b]?):jo Z' g' st' w' rv v F':=by
 cases rv with
 | own kk x=>exact cO.frame kk x v F F' hF hw h
 | av a=>exact bj.bZ k a v h
def V9 (k:IntKind) (zs:List Int) (o:Option Obj):Prop:=∃ e fr,o=some (.cells (zs.map fun z=>Value.int k z).toArray e fr)
def U5 (o:Option Obj):Prop:=∃ m cs e fr,o=some (.cells cs e fr)/\cs[0]? = some (Value.int .i64 m)
def ZA (o:Option Obj):Prop:=∃ ev cs e fr,o=some (.cells cs e fr)/\cs[0]? = some ev/\(ev= .nilIface∨∃ te pe,ev= .iface te pe)
def gl0 : List (String × (Option Obj → Prop)) := [("internal/strconv.uint64pow10", V9 .u64 Lib.pow10Tab), ("internal/bytealg.MaxLen", U5), ("strconv.ErrSyntax", ZA), ("strconv.ErrRange", ZA)]
def Gl (P:Program) (w:World) (Z:Nat->Prop):Prop:=∀ t∈gl0,∀ g,P.globalNamed t.1=some g->t.2 w.heap[g]? /\ Z g/\g < w.heap.size
theorem Gl.mono {P:Program} {w w':World} {Z Z':Nat->Prop} (h:Gl P w Z) (hs:w.heap.size<=w'.heap.size) (hz:∀ b,Z b->b < w.heap.size->Z' b/\w'.heap[b]? = w.heap[b]?):Gl P w' Z':=fun t ht g hg=>by obtain ⟨h1,h2,h3⟩:=h t ht g hg;obtain ⟨h4,h5⟩:=hz g h2 h3;exact ⟨h5 ▸ h1,h4,adw h3 hs⟩
structure Cx (P:Program) where
 w0:World
 F0:Nat->Prop
 Z0:Nat->Prop
 pin:Nat->Option Value
 gl:Gl P w0 Z0
 z0F:∀ b,Z0 b->b < w0.heap.size->¬ F0 b
def jG {P:Program} (cx:Cx P) (a:Act) (d:Nat):Prop:=d < a.tmps.size/\cx.pin d=none
structure Rel {P:Program} (cx:Cx P) (Z:Nat->Prop) (g:Gh) (st:St) (a:Act) (w:World):Prop where
 os:w.os=cx.w0.os
 tape:w.tape=cx.w0.tape
 output:w.output=cx.w0.output
 size:cx.w0.heap.size<=w.heap.size
 block:∀ b,b < cx.w0.heap.size->¬ cx.F0 b->w.heap[b]? = cx.w0.heap[b]?
 bS:∀ b,Z b->b < w.heap.size/\(cx.Z0 b∨cx.w0.heap.size<=b)
 z0:∀ b,cx.Z0 b->b < cx.w0.heap.size->Z b
 fp:∀ r j b,g.fp r j b->b < w.heap.size/\(cx.F0 b∨cx.w0.heap.size<=b)/\¬ Z b/\∃ c k x,st.cell r j=some c/\c.v= .own k x
 disj:∀ r j r' j' b,g.fp r j b->g.fp r' j' b->r=r'/\j=j'
 box:∀ r R,look st.rt r=some R->R.box=true->cx.w0.heap.size<=g.be r/\¬ Z (g.be r)/\(∀ r' j',¬ g.fp r' j' (g.be r))/\(∀ r' R',look st.rt r'=some R'->R'.box=true->g.be r'=g.be r->r'=r) /\
  ∃ cs e fr,w.heap[g.be r]? = some (.cells cs e fr)/\(∀ q,q < cs.size->¬ (fr.1<=q/\q < fr.2))/\cs.size=R.cells.length/\∀ j,j < cs.size->cs[j]? = some (g.cv r j)
 cell:∀ r j c,st.cell r j=some c->jo Z g st w c.v (g.cv r j) (g.fp r j)
 tm:∀ t tv,look st.tm t=some tv->t < a.tmps.size/\bD Z g st w tv (a.tmps.getD t undef)
 defers:a.defers=[]
 pin:∀ t v,cx.pin t=some v->a.tmps.getD t undef=v
theorem Rel.gl {P:Program} {cx:Cx P} {Z:Nat->Prop} {g:Gh} {st:St} {a:Act} {w:World} (h:Rel cx Z g st a w):Gl P w Z :=
 cx.gl.mono h.size fun b hb hl=>⟨h.z0 b hb hl,h.block b hl (cx.z0F b hb hl)⟩
end Go.Av
namespace Go.Av
open Go.RowKit (Below)
def Cons (st:St):Prop:=∀ d t want y g l,look st.tm d=some (.may t want y g l)->∀ x,(look st.tm t=some (.v (.lb x))->x=y)/\(look st.tm t=some (.v (.d .bool x))->x=y)
theorem Mg (s:ByteArray):et s.data.toList=s:=by cases s; simp [et]
theorem K1 {Z:Nat->Prop} {g:Gh} {st:St} {w:World} {gg:Bool} {l:List AV} {v:Value} (h:match dV gg l with | .v a=>bj Z g st w a v | .agg l=>∃ vs:Array Value,v= .agg vs/\aP Z g st w l vs.toList | _=>True):bD Z g st w (dV gg l) v:=by
 unfold dV at *
 split <;> simp_all [bD]
section
variable {P:Program} {cx:Cx P} {Z:Nat->Prop} {g:Gh} {st:St} {a:Act} {w:World}
theorem ic (h:Rel cx Z g st a w) (hc:Cons st) {t:Nat} {tv:TV} (ht:st.tv t=some tv):bD Z g st w tv (a.tmps.getD t undef):=by
 unfold St.tv at ht;cases hl:look st.tm t with
 | none=>simp [hl] at ht
 | some tv0 =>
   have h0:=(h.tm t tv0 hl).2;rw [hl] at ht;cases tv0 with
   | may q want y gg l =>
     simp only at ht;cases hq:look st.tm q with
     | none=>simp [hq] at ht
     | some tq =>
       simp only [hq] at ht;have hcq:=hc t q want y gg l hl;split at ht
       . rename_i x he;injection he with he
         subst he;have:=(hcq x).1 hq;subst this;split at ht
         . simp only [ac3] at ht; subst ht; exact K1 (h0 rfl)
         . simp only [ac3] at ht; subst ht; exact K1 (h0 rfl)
         . simp at ht
       . simp only [ac3] at ht; subst ht; exact h0
       . simp_all
   | v a=>simp only [ac3] at ht; subst ht; exact h0
   | agg l=>simp only [ac3] at ht; subst ht; exact h0
   | tup l=>simp only [ac3] at ht; subst ht; exact h0
   | fn f caps=>simp only [ac3] at ht; subst ht; exact h0
theorem sX:∀ (vs:List Value) (l:List AV),cells vs=some l->aP Z g st w l vs
 | [],l,h=>by simp [cells] at h; subst h; trivial
 | v :: r,l,h=>by
   simp only [cells] at h;split at h
   . rename_i a l' ha hl;simp only [ac3] at h;subst h;refine ⟨?_,sX r l' hl⟩;split at ha
     . rename_i k n;cases hk:(decide (k.min<=n) && decide (n<=k.max)) with
       | false=>simp [hk] at ha
       | true => simp only [hk,ac6,ac3] at ha;subst ha;simp only [ac5,aeg] at hk;exact ⟨rfl,hk⟩
     . simp only [ac3] at ha; subst ha; rfl
     . rename_i s;cases hk:Nat.ble s.data.toList.length aT with
       | false=>simp only [hk,adm,reduceCtorEq] at ha
       | true => simp only [hk,ac6,ac3] at ha;subst ha;exact ⟨by rw [Mg],adC hk⟩
     . simp only [ac3] at ha; subst ha; rfl
     . simp at ha
   . simp at h
theorem HH {v:Value} {tv:TV} (h:qF v=some tv):bD Z g st w tv v:=by
 unfold qF at h;split at h
 . rename_i cs;split at h
   . rename_i l hl;simp only [ac3] at h;subst h;exact ⟨cs,rfl,sX _ _ hl⟩
   . simp at h
 . rename_i vs;split at h
   . rename_i e;simp only [ac3] at h;subst h;exact ⟨vs,rfl,by rw [e]; trivial⟩
   . simp at h
 . rename_i f x y;split at h
   . rename_i e1 e2;simp only [ac3] at h;subst h;obtain rfl:x = #[]:=by cases x; simp_all
     exact ⟨y,rfl,by rw [e2]; trivial⟩
   . simp at h
 . split at h
   . rename_i a ha;simp only [ac3] at h;subst h;exact (sX [v] _ ha).1
   . simp at h
theorem aM (h:Rel cx Z g st a w) (hc:Cons st) {o:Operand} {tv:TV} (ht:st.get o=some tv):bD Z g st w tv (a.eval o):=by
 cases o with
 | tmp t=>exact ic h hc ht
 | const v=>exact HH ht
 | global n=>simp [St.get] at ht
 | func f=>simp only [St.get,ac3] at ht; subst ht; exact ⟨#[],rfl,trivial⟩
theorem mQ {Z:Nat->Prop} {w:World}:∀ (ks:List K) (x:Tl ks) (b o c:Nat) (k:K) (y:T k),wP Z w ks x b o->cellAt ks x c=some ⟨k,y⟩->∃ v,w.cell? ⟨b,o + c,none⟩=some v/\RO Z w k y v
 | [],_,_,_,_,_,_,_,h=>by simp [cellAt] at h
 | k0 :: ks,x,b,o,0,k,y,h,hc=>by simp only [cellAt,ac3,Sigma.mk.injEq] at hc;obtain ⟨rfl,hc⟩:=hc;have:=ae8 hc;subst this;exact h.1
 | k0 :: ks,x,b,o,c + 1,k,y,h,hc=>by obtain ⟨v,h1,h2⟩:=mQ ks x.2 b (o + 1) c k y h.2 hc;exact ⟨v,by rw [show o + (c + 1)=o + 1 + c by omega]; exact h1,h2⟩
theorem zG:∀ (ks:List K) (x:Tl ks) (c:Nat) (k:K) (y:T k),cellAt ks x c=some ⟨k,y⟩->c < ks.length
 | [],_,_,_,_,h=>by simp [cellAt] at h
 | _ :: _,_,0,_,_,_=>by simp
 | _ :: ks,x,c + 1,k,y,h=>by have:=zG ks x.2 c k y h; simp; omega
theorem ij {e:TypeId} {ks:List K} (xs:T (.sl e ks)) {i:Nat} (h:i < (aG xs).length):(aG xs)[i]? = some (eC xs i):=by simp [eC,List.getD,h]
def fZ (w:World):Nat->Prop:=fun b=>b < w.heap.size
theorem RO.bS {Z Z':Nat->Prop} {w:World} {k:K} {x:T k} {v:Value} (h:RO Z w k x v) (hz:∀ b,Z b->b < w.heap.size->Z' b):RO Z' w k x v :=
 RO.mono (ac7 _) (fun b hb hl=>⟨hz b hb hl,rfl⟩) k x v h
theorem RO.all {Z:Nat->Prop} {w:World} {k:K} {x:T k} {v:Value} (h:RO Z w k x v):RO (fZ w) w k x v:=h.bS fun _ _ h=>h
theorem O6 {Z:Nat->Prop} {w:World} {e:TypeId} {ks:List K} {xs:T (.sl e ks)} {a:Option Addr} {l cap n:Nat} (h:RO Z w (.sl e ks) xs (.slice a l cap)) (hn:n<=l):RO Z w (.sl e ks) (List.take n (aG xs)) (.slice a n cap):=by
 obtain ⟨a',c',h1,h2,h3,h4,h5⟩:=h;simp only [adX] at h1;obtain ⟨rfl,rfl,rfl⟩:=h1;have hlen:(aG (e:=e) (ks:=ks) (List.take n (aG xs))).length=n:=(adJ (l:=aG xs) (i:=n)).trans (afb hn);refine ⟨a,cap,by rw [hlen],by omega,by omega,h4,fun hne => ?_⟩;have hne':aG xs≠[]:=by intro h0;apply hne;show List.take n (aG xs)=[];rw [h0]; exact List.take_nil
 obtain ⟨b,o,g1,g2,g3,g4⟩:=h5 hne';refine ⟨b,o,g1,g2,g3,fun i x hx=>g4 i x ?_⟩;have hx':(List.take n (aG xs))[i]? = some x:=hx;rw [ad6] at hx';split at hx'
 . exact hx'
 . simp at hx'
theorem dN (h:Rel cx Z g st a w) {r j:Nat} {c:RC} {k:K} {x:T k} (hc:st.cell r j=some c) (hv:c.v= .own k x):cO w k x (g.cv r j) (g.fp r j):=by have:=h.cell r j c hc;rw [hv] at this;exact this
theorem Bp (h:Rel cx Z g st a w) {r j:Nat} {c:RC} {x:AV} (hc:st.cell r j=some c) (hv:c.v= .av x):bj Z g st w x (g.cv r j):=by have:=h.cell r j c hc;rw [hv] at this;exact this
theorem zF {w:World} {e:TypeId} {ks:List K} {xs:T (.sl e ks)} {v:Value} {F:Nat->Prop} {b o l cap:Nat} (h:cO w (.sl e ks) xs v F) (hv:v= .slice (some ⟨b,o,none⟩) l cap):F b/\l=(aG xs).length:=by obtain ⟨a,c,h1,h2,h3,h4,h5⟩:=h;rw [hv] at h1;simp only [adX] at h1;obtain ⟨rfl,rfl,rfl⟩:=h1;obtain ⟨b',o',cs,e',fr,g1,g2,_⟩:=h5 _ rfl;simp only [aei,aej] at g1;obtain ⟨rfl,rfl⟩:=g1;exact ⟨g2,rfl⟩
theorem AE (h:Rel cx Z g st a w) {x:AV} {v:Value} (hr:bj Z g st w x v) {k:K} {y:T k} (hy:st.read x=some ⟨k,y⟩):RO (fZ w) w k y v:=by
 cases x with
 | dead=>simp [St.read] at hy
 | lb b=>simp only [St.read,ac3] at hy; cases hy; exact hr
 | d k' x'=>simp only [St.read,ac3] at hy; cases hy; exact RO.all hr
 | nil=>simp [St.read] at hy
 | pre=>simp [St.read] at hy
 | b r j s m k' x' =>
   obtain ⟨c,h1,h2,h3,h4⟩:=hr;simp only [St.read,h1] at hy;cases hb:Nat.beq c.s s && Nat.beq c.m m with
   | false=>simp [hb] at hy
   | true => simp only [hb,ac6,ac3] at hy;cases hy;simp only [ac5] at hb;exact RO.all (h4 (aem hb.1) (aem hb.2))
 | ref r j s =>
   obtain ⟨c,h1,h2,h3⟩:=hr;obtain ⟨cs,cm,cv⟩:=c;cases cv with
   | av _=>simp [St.read,h1] at hy
   | own k' x' =>
     simp only [St.read,h1] at hy;cases hb:Nat.beq cs s with
     | false=>simp [hb] at hy
     | true => simp only [hb,ac6,ac3] at hy;cases hy;rw [h3 (aem hb)];exact cO.ro _ _ _ _ (fun b hb=>(h.fp r j b hb).1) (dN h h1 rfl)
 | cut r j s n =>
   obtain ⟨c,h1,h2,h3⟩:=hr;obtain ⟨cs,cm,cv⟩:=c;cases cv with
   | av _=>simp [St.read,h1] at hy
   | own k' x' =>
     cases k' with
     | int _=>simp [St.read,h1] at hy
     | bool=>simp [St.read,h1] at hy
     | str=>simp [St.read,h1] at hy
     | sl e ks =>
       simp only [St.read,h1] at hy;cases hb:Nat.beq cs s with
       | false=>simp [hb] at hy
       | true => simp only [hb,ac6,ac3] at hy;cases hy;obtain ⟨aa,l,cap,e1,e2,rfl⟩:=h3 (aem hb);have:=cO.ro (Z:=fZ w) _ _ _ _ (fun b hb=>(h.fp r j b hb).1) (dN h h1 rfl);rw [e1] at this;exact O6 this e2
 | pref r j s m i q =>
   obtain ⟨c,h1,h2,h3,h4⟩:=hr;obtain ⟨cs,cm,cv⟩:=c;cases cv with
   | av _=>simp [St.read,h1] at hy
   | own k' x' =>
     cases k' with
     | int _=>simp [St.read,h1] at hy
     | bool=>simp [St.read,h1] at hy
     | str=>simp [St.read,h1] at hy
     | sl e ks =>
       simp only [St.read,h1] at hy;cases hb:Nat.beq cs s && Nat.beq cm m with
       | false=>simp [hb] at hy
       | true => simp only [hb,ac6] at hy;simp only [ac5] at hb;obtain ⟨e',ks',xs',g1,g2,g3,b,o,l,cap,g4,g5⟩:=h4 (aem hb.1) (aem hb.2);simp only [RV.own.injEq,K.sl.injEq] at g1;obtain ⟨⟨rfl,rfl⟩,g1⟩:=g1;have:=ae8 g1;subst this;have hro:=cO.ro (Z:=fZ w) _ _ _ _ (fun b hb=>(h.fp r j b hb).1) (dN h h1 rfl);rw [g4] at hro;obtain ⟨aa,c',u1,u2,u3,u4,u5⟩:=hro;simp only [adX] at u1;obtain ⟨rfl,rfl,rfl⟩:=u1;obtain ⟨b',o',v1,v2,v3,v4⟩:=u5 (by intro h0; rw [h0] at g2; simp at g2);simp only [ac3,aei,aej] at v1;obtain ⟨rfl,rfl⟩:=v1;obtain ⟨v',hv1,hv2⟩:=mQ ks _ b _ q k y (v4 i _ (ij x' g2)) hy;rw [g5] at hv1;simp only [ac3] at hv1;subst hv1;exact hv2
 | ptr _ _=>simp [St.read] at hy
 | pel _ _ _ _ _=>simp [St.read] at hy
 | brow _ _=>simp [St.read] at hy
 | rp _ _ _ _ _ _=>simp [St.read] at hy
theorem Lm {Z:Nat->Prop} {w:World} (e:TypeId) (ks:List K):RO Z w (.sl e ks) ([]:List (Tl ks)) (.slice none 0 0) :=
 ⟨none,0,rfl,ac7 _,adM _,fun _=>rfl,fun h=>absurd rfl h⟩
theorem jx {F:Nat->Prop} {w:World} (e:TypeId) (ks:List K):cO w (.sl e ks) ([]:List (Tl ks)) (.slice none 0 0) F :=
 ⟨none,0,rfl,ac7 _,adM _,fun _=>rfl,fun a' h=>by simp at h⟩
theorem lh (h:Rel cx Z g st a w) {x:AV} {v:Value} (hr:bj Z g st w x v) {k:K} {y:T k} (hy:st.ct k x=some y):RO (fZ w) w k y v:=by
 unfold St.ct at hy;split at hy
 . rename_i ks;cases hy;have:v= .slice none 0 0:=hr;subst this;exact Lm _ _
 . split at hy
   . rename_i k' x' hx;obtain ⟨e,hy⟩:=cF hy;subst e;subst hy;exact AE h hr hx
   . simp at hy
theorem cu (h:Rel cx Z g st a w) {x:AV} {v:Value} (hr:bj Z g st w x v) (hf:x.bP=true) {k:K} {y:T k} (hy:st.ct k x=some y):RO Z w k y v:=by
 unfold St.ct at hy;split at hy
 . cases hy;have:v= .slice none 0 0:=hr;subst this;exact Lm _ _
 . split at hy
   . rename_i k' x' hx;obtain ⟨e,hy⟩:=cF hy;subst e;subst hy;cases x with
     | lb b=>simp only [St.read,ac3] at hx; cases hx; exact hr
     | d k' x'=>simp only [St.read,ac3] at hx; cases hx; exact hr
     | nil=>simp [St.read] at hx
     | _=>simp [AV.bP] at hf
   . simp at hy
def ur (Z:Nat->Prop) (w:World):(ks:List K)->Tl ks->List Value->Prop
 | [],_,[]=>True
 | k :: ks,x,v :: vs=>RO Z w k x.1 v/\ur Z w ks x.2 vs
 | _,_,_=>False
theorem wk (h:Rel cx Z g st a w):∀ (ks:List K) (l:List AV) (vs:List Value) (y:Tl ks),aP Z g st w l vs->st.readAll ks l=some y->ur (fZ w) w ks y vs
 | [],[],[],_,_,_=>trivial
 | [],[],_ :: _,_,h1,_=>h1.elim
 | k :: ks,x :: l,[],_,h1,_=>h1.elim
 | k :: ks,x :: l,v :: vs,y,h1,h2=>by
   unfold St.readAll at h2;split at h2
   . rename_i z zs hz hzs;cases h2;exact ⟨lh h h1.1 hz,wk h ks l vs zs h1.2 hzs⟩
   . simp at h2
 | [],_ :: _,_,_,_,h2=>by simp [St.readAll] at h2
 | _ :: _,[],_,_,_,h2=>by simp [St.readAll] at h2
theorem dK (h:Rel cx Z g st a w):∀ (ks:List K) (l:List AV) (vs:List Value) (y:Tl ks),aP Z g st w l vs->l.all AV.bP=true->st.readAll ks l=some y->ur Z w ks y vs
 | [],[],[],_,_,_,_=>trivial
 | [],[],_ :: _,_,h1,_,_=>h1.elim
 | k :: ks,x :: l,[],_,h1,_,_=>h1.elim
 | k :: ks,x :: l,v :: vs,y,h1,hf,h2=>by
   simp only [aef,ac5] at hf;unfold St.readAll at h2;split at h2
   . rename_i z zs hz hzs;cases h2;exact ⟨cu h h1.1 hf.1 hz,dK h ks l vs zs h1.2 hf.2 hzs⟩
   . simp at h2
 | [],_ :: _,_,_,_,_,h2=>by simp [St.readAll] at h2
 | _ :: _,[],_,_,_,_,h2=>by simp [St.readAll] at h2
end
end Go.Av
namespace Go.Av
open Go.RowKit (Below)
theorem ba {β:Type} (m:Nat) (x:β) (r:List (Nat×β)) (n:Nat):look ((m,x) :: r) n=if m=n then some x else look r n:=by
 simp only [look];cases h:Nat.beq m n with
 | true=>simp [aem h]
 | false=>simp [aew h]
theorem beq_eq {a b:Nat} (h:Nat.beq a b=true):a=b:=aem h
theorem LP (a:Act) (d:Nat) (v:Value):(a.put (some d) v).tmps=a.tmps.setIfInBounds d v:=rfl
theorem put_defers (a:Act) (d:Option Nat) (v:Value):(a.put d v).defers=a.defers:=by cases d <;> rfl
theorem ru (a:Act) (d:Option Nat) (v:Value):(a.put d v).tmps.size=a.tmps.size:=by cases d <;> simp [Act.put]
theorem AI (a:Act) (d t:Nat) (v:Value) (hd:d < a.tmps.size):(a.put (some d) v).tmps.getD t undef=if d=t then v else a.tmps.getD t undef:=by
 simp only [LP,adb,ad1];by_cases h:d=t
 . subst h; simp [hd]
 . simp [h]
section
variable {P:Program} {cx:Cx P} {Z:Nat->Prop} {g:Gh} {st:St} {a:Act} {w:World}
theorem eO (h:Rel cx Z g st a w) {st':St} {w':World} (hs:st'.rt=st.rt) (hw:w'.heap=w.heap):l8 Z Z w w' g g st st' where
 size:=by rw [hw]; exact ac7 _
 z:=fun b hb _=>⟨hb,by rw [hw]⟩
 root:=fun r R hR=>⟨R,by rw [hs]; exact hR,rfl,fun _=>rfl⟩
 cell:=fun r j c hc=>⟨c,by simp only [St.cell,hs]; exact hc,ac7 _,ac7 _,fun _=>rfl,fun _ e ks xs hh=>⟨xs,hh,rfl⟩,fun _ _=>⟨rfl,fun b hb _=>⟨hb,by rw [hw]⟩⟩⟩
 own:=fun r j b hb=>(h.fp r j b hb).1
 block:=fun r j c e ks xs hc hv b o l cap hg=>by have:=dN h hc hv;rw [hg] at this;exact (zF this rfl).1
theorem Fe (h:Rel cx Z g st a w) {d:Nat} (hd:jG cx a d) (u:Value):∀ t v,cx.pin t=some v->(a.put (some d) u).tmps.getD t undef=v:=fun t v ht=>by rw [AI _ _ _ _ hd.1,if_neg (fun e=>by subst e; rw [hd.2] at ht; simp at ht)];exact h.pin t v ht
theorem Rel.fA (h:Rel cx Z g st a w) {d:Nat} {tv:TV} {v:Value} (hd:jG cx a d) (ht:bD Z g st w tv v):Rel cx Z g (st.aE d (tv,none)) (a.put (some d) v) w:=by
 have k:=eO h (st':=st.aE d (tv,none)) (w':=w) rfl rfl
 exact { os:=h.os,tape:=h.tape,output:=h.output,size:=h.size,block:=h.block,bS:=h.bS,z0:=h.z0
         fp:=h.fp,disj:=h.disj,box:=h.box
         cell:=fun r j c hc=>jo.bZ k _ _ _ _ (h.cell r j c hc) (fun _ h=>h) (fun _ _ _=>rfl)
         tm:=fun t tv' ht'=>by
          have ht'':look ((d,tv) :: st.tm) t=some tv':=ht';rw [ba] at ht'';rw [ru,AI _ _ _ _ hd.1];by_cases hh:d=t
          . rw [if_pos hh] at ht'' ⊢;cases ht'';exact ⟨hh ▸ hd.1,bD.bZ k _ _ ht⟩
          . rw [if_neg hh] at ht'' ⊢;exact ⟨(h.tm t tv' ht'').1,bD.bZ k _ _ (h.tm t tv' ht'').2⟩
         defers:=by rw [put_defers]; exact h.defers
         pin:=Fe h hd v }
theorem Rel.world (h:Rel cx Z g st a w) {w':World} (hw:w'.heap=w.heap) (h1:w'.os=w.os) (h2:w'.tape=w.tape) (h3:w'.output=w.output):Rel cx Z g st a w':=by
 have k:=eO h (st':=st) (w':=w') rfl hw
 exact { os:=h1.trans h.os,tape:=h2.trans h.tape,output:=h3.trans h.output,size:=by rw [hw]; exact h.size
         block:=fun b hb hf=>by rw [hw]; exact h.block b hb hf
         bS:=fun b hb=>by rw [hw]; exact h.bS b hb
         z0:=h.z0
         fp:=fun r j b hb=>by rw [hw]; exact h.fp r j b hb
         disj:=h.disj
         box:=fun r R hR hb=>by rw [hw]; exact h.box r R hR hb
         cell:=fun r j c hc=>jo.bZ k _ _ _ _ (h.cell r j c hc) (fun _ h=>h) (fun b _ _=>by rw [hw])
         tm:=fun t tv ht=>⟨(h.tm t tv ht).1,bD.bZ k _ _ (h.tm t tv ht).2⟩
         defers:=h.defers,pin:=h.pin }
structure Wa (Z Z':Nat->Prop) (w w':World) (g':Gh) (st':St) (d:Nat) (R:Rt):Prop where
 os:w'.os=w.os
 tape:w'.tape=w.tape
 output:w'.output=w.output
 size:w.heap.size<=w'.heap.size
 block:∀ b,b < w.heap.size->w'.heap[b]? = w.heap[b]?
 bS:∀ b,Z' b->Z b∨(w.heap.size<=b/\b < w'.heap.size)
 zle:∀ b,Z b->Z' b
 fp:∀ j b,g'.fp d j b->w.heap.size<=b/\b < w'.heap.size/\¬ Z' b/\∃ (c:RC) (k:K) (x:T k),R.cells[j]? = some c/\c.v= .own k x
 disj:∀ j j' b,g'.fp d j b->g'.fp d j' b->j=j'
 box:R.box=true->w.heap.size<=g'.be d/\¬ Z' (g'.be d)/\(∀ j,¬ g'.fp d j (g'.be d)) /\
  ∃ cs e fr,w'.heap[g'.be d]? = some (.cells cs e fr)/\(∀ q,q < cs.size->¬ (fr.1<=q/\q < fr.2))/\cs.size=R.cells.length/\∀ j,j < cs.size->cs[j]? = some (g'.cv d j)
 cell:∀ (j:Nat) (c:RC),R.cells[j]? = some c->jo Z' g' st' w' c.v (g'.cv d j) (g'.fp d j)
theorem lE {d:Nat} (h:st.free d=true):look st.rt d=none:=by
 unfold St.free at h;split at h
 . assumption
 . simp at h
def Gh.at (g:Gh) (d:Nat) (be:Nat) (cv:Nat->Value) (fp:Nat->Nat->Prop):Gh :=
 ⟨fun r=>if r=d then be else g.be r,fun r j=>if r=d then cv j else g.cv r j,fun r j=>if r=d then fp j else g.fp r j⟩
theorem BF (h:Rel cx Z g st a w) {d:Nat} {tv:TV} {R:Rt} {Z':Nat->Prop} {w':World} {be:Nat} {cv:Nat->Value} {fp:Nat->Nat->Prop} (hf:st.free d=true)
 (hs:w.heap.size<=w'.heap.size) (hb:∀ b,b < w.heap.size->w'.heap[b]? = w.heap[b]?) (hz:∀ b,Z b->Z' b) :
 l8 Z Z' w w' g (g.at d be cv fp) st (st.aE d (tv,some R)) where
 size:=hs
 z:=fun b hb' hlt=>⟨hz b hb',hb b hlt⟩
 root:=fun r R' hR=>by
  have hne:d≠r:=fun e=>by rw [<- e,lE hf] at hR; simp at hR
  refine ⟨R',?_,rfl,fun _=>by simp [Gh.at,Ne.symm hne]⟩;show look ((d,R) :: st.rt) r=_;rw [ba,if_neg hne];exact hR
 cell:=fun r j c hc=>by
  have hne:d≠r:=fun e=>by simp only [St.cell,<- e,lE hf] at hc; simp at hc
  have hne':¬ r=d:=fun e=>hne e.symm
  refine ⟨c,?_,ac7 _,ac7 _,fun _=>by simp [Gh.at,hne'],fun _ e ks xs hh=>⟨xs,hh,rfl⟩,fun _ _=>⟨rfl,fun b hb' hlt=>⟨by simp [Gh.at,hne']; exact hb',hb b hlt⟩⟩⟩;show (match look ((d,R) :: st.rt) r with | some R=>R.cells[j]? | none=>none)=_;rw [ba,if_neg hne];exact hc
 own:=fun r j b hb'=>(h.fp r j b hb').1
 block:=fun r j c e ks xs hc hv b o l cap hg=>by have:=dN h hc hv;rw [hg] at this;exact (zF this rfl).1
theorem Rel.AY (h:Rel cx Z g st a w) {d:Nat} {tv:TV} {R:Rt} {v:Value} {Z':Nat->Prop} {w':World} {be:Nat} {cv:Nat->Value} {fp:Nat->Nat->Prop} (hd:jG cx a d) (hf:st.free d=true)
 (hn:Wa Z Z' w w' (g.at d be cv fp) (st.aE d (tv,some R)) d R) (ht:bD Z' (g.at d be cv fp) (st.aE d (tv,some R)) w' tv v) :
 Rel cx Z' (g.at d be cv fp) (st.aE d (tv,some R)) (a.put (some d) v) w':=by
 have k:=BF (tv:=tv) (R:=R) (be:=be) (cv:=cv) (fp:=fp) h hf hn.size hn.block hn.zle;have hlook:∀ r,look (st.aE d (tv,some R)).rt r=if d=r then some R else look st.rt r:=fun r=>ba _ _ _ _
 have hg1:∀ r j,r≠d->(g.at d be cv fp).fp r j=g.fp r j:=fun r j hr=>by simp [Gh.at,hr]
 have hg2:∀ r j,r≠d->(g.at d be cv fp).cv r j=g.cv r j:=fun r j hr=>by simp [Gh.at,hr]
 have hg3:∀ r,r≠d->(g.at d be cv fp).be r=g.be r:=fun r hr=>by simp [Gh.at,hr]
 have hcell:∀ r j,(st.aE d (tv,some R)).cell r j=if d=r then R.cells[j]? else st.cell r j:=fun r j=>by simp only [St.cell,hlook];by_cases hh:d=r <;> simp [hh]
 refine { os:=hn.os.trans h.os,tape:=hn.tape.trans h.tape,output:=hn.output.trans h.output,size:=ady h.size hn.size,block := ?_,bS := ?_,z0:=fun b h1 h2=>hn.zle b (h.z0 b h1 h2),fp := ?_,disj := ?_,box := ?_,cell := ?_,tm := ?_,defers:=by rw [put_defers]; exact h.defers,pin:=Fe h hd v }
 . exact fun b hb hfb=>(hn.block b (adw hb h.size)).trans (h.block b hb hfb)
 . intro b hb;rcases hn.bS b hb with h1 | ⟨h1,h2⟩
   . exact ⟨adw (h.bS b h1).1 hn.size,(h.bS b h1).2⟩
   . exact ⟨h2,.inr (ady h.size h1)⟩
 . intro r j b hb;by_cases hr:r=d
   . subst hr;obtain ⟨h1,h2,h3,c,kk,x,h4,h5⟩:=hn.fp j b hb;exact ⟨h2,.inr (ady h.size h1),h3,c,kk,x,by rw [hcell,if_pos rfl]; exact h4,h5⟩
   . rw [hg1 r j hr] at hb;obtain ⟨h1,h2,h3,c,kk,x,h4,h5⟩:=h.fp r j b hb;refine ⟨adw h1 hn.size,h2,fun hz => ?_,c,kk,x,by rw [hcell,if_neg (fun e=>hr e.symm)]; exact h4,h5⟩;rcases hn.bS b hz with hz | ⟨hz,_⟩
     . exact h3 hz
     . omega
 . intro r j r' j' b h1 h2;by_cases hr:r=d
   . by_cases hr':r'=d
     . subst hr; subst hr';exact ⟨rfl,hn.disj j j' b h1 h2⟩
     . subst hr;rw [hg1 r' j' hr'] at h2;have:=(hn.fp j b h1).1;have:=(h.fp r' j' b h2).1;omega
   . by_cases hr':r'=d
     . subst hr';rw [hg1 r j hr] at h1;have:=(hn.fp j' b h2).1;have:=(h.fp r j b h1).1;omega
     . rw [hg1 r j hr] at h1;rw [hg1 r' j' hr'] at h2;exact h.disj r j r' j' b h1 h2
 . intro r R' hR hb;rw [hlook] at hR;by_cases hr:r=d
   . subst hr;rw [if_pos rfl] at hR;simp only [ac3] at hR;subst hR;obtain ⟨b1,b2,b3,b4⟩:=hn.box hb;refine ⟨ady h.size b1,b2,fun r' j' hfp => ?_,fun r' R'' hR'' hb'' he => ?_,b4⟩
     . by_cases hr':r'=r
       . subst hr'; exact b3 j' hfp
       . rw [hg1 r' j' hr'] at hfp;have:=(h.fp r' j' _ hfp).1;omega
     . rw [hlook] at hR'';by_cases hr':r=r'
       . exact hr'.symm
       . rw [if_neg hr'] at hR'';rw [hg3 r' (fun e=>hr' e.symm)] at he;obtain ⟨_,_,_,_,cs,e,fr,hblk,_⟩:=h.box r' R'' hR'' hb'';have:g.be r' < w.heap.size:=by
          rcases adj (g.be r') w.heap.size with hh | hh
          . exact hh
          . simp [adr hh] at hblk
         omega
   . rw [if_neg (fun e=>hr e.symm)] at hR;obtain ⟨b1,b2,b3,b4,cs,e,fr,b5,b6⟩:=h.box r R' hR hb;have hlt:g.be r < w.heap.size:=by
      rcases adj (g.be r) w.heap.size with hh | hh
      . exact hh
      . simp [adr hh] at b5
     rw [hg3 r hr];refine ⟨b1,fun hz => ?_,fun r' j' hfp => ?_,fun r' R'' hR'' hb'' he => ?_,cs,e,fr,by rw [hn.block _ hlt]; exact b5,b6.1,b6.2.1,fun j hj=>by rw [hg2 r j hr]; exact b6.2.2 j hj⟩
     . rcases hn.bS _ hz with hz | ⟨hz,_⟩
       . exact b2 hz
       . omega
     . by_cases hr':r'=d
       . subst hr';have:=(hn.fp j' _ hfp).1;omega
       . rw [hg1 r' j' hr'] at hfp;exact b3 r' j' hfp
     . rw [hlook] at hR'';by_cases hr':d=r'
       . subst hr';rw [if_pos rfl] at hR'';simp only [ac3] at hR'';subst hR'';have:=(hn.box hb'').1;omega
       . rw [if_neg hr'] at hR'';rw [hg3 r' (fun e=>hr' e.symm)] at he;exact b4 r' R'' hR'' hb'' he
 . intro r j c hc;rw [hcell] at hc;by_cases hr:d=r
   . subst hr;rw [if_pos rfl] at hc;exact hn.cell j c hc
   . rw [if_neg hr] at hc;have hr':r≠d:=fun e=>hr e.symm
     rw [hg2 r j hr',hg1 r j hr'];exact jo.bZ k _ _ _ _ (h.cell r j c hc) (fun _ h=>h) (fun b _ hlt=>hn.block b hlt)
 . intro t tv' ht';have ht'':look ((d,tv) :: st.tm) t=some tv':=ht';rw [ba] at ht'';rw [ru,AI _ _ _ _ hd.1];by_cases hh:d=t
   . rw [if_pos hh] at ht'' ⊢;cases ht'';exact ⟨hh ▸ hd.1,ht⟩
   . rw [if_neg hh] at ht'' ⊢;exact ⟨(h.tm t tv' ht'').1,bD.bZ k _ _ (h.tm t tv' ht'').2⟩
theorem Rel.Ac (h:Rel cx Z g st a w) {Z':Nat->Prop} {w':World} (h1:w'.os=w.os) (h2:w'.tape=w.tape) (h3:w'.output=w.output) (hs:w.heap.size<=w'.heap.size)
 (hb:∀ b,b < w.heap.size->w'.heap[b]? = w.heap[b]?) (hz:∀ b,Z b->Z' b) (hz':∀ b,Z' b->Z b∨(w.heap.size<=b/\b < w'.heap.size)):Rel cx Z' g st a w':=by
 have k:l8 Z Z' w w' g g st st :=
  { size:=hs,z:=fun b hb' hlt=>⟨hz b hb',hb b hlt⟩,root:=fun r R hR=>⟨R,hR,rfl,fun _=>rfl⟩
    cell:=fun r j c hc=>⟨c,hc,ac7 _,ac7 _,fun _=>rfl,fun _ e ks xs hh=>⟨xs,hh,rfl⟩,fun _ _=>⟨rfl,fun b hb' hlt=>⟨hb',hb b hlt⟩⟩⟩
    own:=fun r j b hb'=>(h.fp r j b hb').1
    block:=(eO h (st':=st) (w':=w) rfl rfl).block }
 refine { os:=h1.trans h.os,tape:=h2.trans h.tape,output:=h3.trans h.output,size:=ady h.size hs,block := ?_,bS := ?_,z0:=fun b h1 h2=>hz b (h.z0 b h1 h2),fp := ?_,disj:=h.disj,box := ?_,cell := ?_,tm := ?_,defers:=h.defers,pin:=h.pin }
 . exact fun b hb' hfb=>(hb b (adw hb' h.size)).trans (h.block b hb' hfb)
 . intro b hb';rcases hz' b hb' with h1 | ⟨h1,h2⟩
   . exact ⟨adw (h.bS b h1).1 hs,(h.bS b h1).2⟩
   . exact ⟨h2,.inr (ady h.size h1)⟩
 . intro r j b hb';obtain ⟨h1,h2,h3,h4⟩:=h.fp r j b hb';refine ⟨adw h1 hs,h2,fun hzz => ?_,h4⟩;rcases hz' b hzz with hzz | ⟨hzz,_⟩
   . exact h3 hzz
   . omega
 . intro r R hR hbx;obtain ⟨b1,b2,b3,b4,cs,e,fr,b5,b6⟩:=h.box r R hR hbx;have hlt:g.be r < w.heap.size:=by
    rcases adj (g.be r) w.heap.size with hh | hh
    . exact hh
    . simp [adr hh] at b5
   refine ⟨b1,fun hzz => ?_,b3,b4,cs,e,fr,by rw [hb _ hlt]; exact b5,b6⟩;rcases hz' _ hzz with hzz | ⟨hzz,_⟩
   . exact b2 hzz
   . omega
 . intro r j c hc;exact jo.bZ k _ _ _ _ (h.cell r j c hc) (fun _ h=>h) (fun b _ hlt=>hb b hlt)
 . exact fun t tv ht=>⟨(h.tm t tv ht).1,bD.bZ k _ _ (h.tm t tv ht).2⟩
end
end Go.Av
namespace Go.Av
open Go.RowKit (Below)
def zV:K->Value
 | .int k=> .int k 0
 | .bool=> .bool false
 | .str=> .string (et [])
 | .sl _ _=> .slice none 0 0
def gM (P:Program) (ti:TI):TypeDesc->Prop
 | .struct fs=>ti.agg=true/\(∀ f o u,FL ti.flds f=some (o,u)->∃ fi,fs[f]? = some fi/\fi.offset=o/\fi.type=u)/\(∀ fi,fi∈fs.toList->∃ i,P.info? fi.type=some i/\i.size≠0)
 | .slice e=>ti.agg=false/\∃ ks,ti.ks=[.sl e ks]/\ti.elem=e
 | .int k=>ti.agg=false/\ti.ks=[.int k]
 | .bool=>ti.agg=false/\ti.ks=[.bool]
 | .string=>ti.agg=false/\ti.ks=[.str]
 | _=>False
structure qx (P:Program) (t:Nat) (ti:TI):Prop where
 info:∃ i,P.info? t=some i/\i.size=ti.ks.length/\i.bytes=ti.bytes/\∃ z,i.zero=some z/\z.cells.toList=ti.ks.map zV
 desc:∃ d,P.underlying t=some d/\gM P ti d
def bK (P:Program) (E:En):Prop:=∀ t ti,E.ti t=some ti->qx P t ti
section
variable {P:Program} {cx:Cx P} {Z:Nat->Prop} {g:Gh} {st:St} {a:Act} {w:World} {E:En}
theorem bM {t:TypeId} {ti:TI} (h:qx P t ti) (w:World):(sizeOf t).run P w= .ok ti.ks.length w:=by obtain ⟨i,h1,h2,_⟩:=h.info;simp [sizeOf,typeInfo,h1,h2]
theorem yN {t:TypeId} {ti:TI} (h:qx P t ti) (w:World):∃ i,(typeInfo t).run P w= .ok i w/\i.size=ti.ks.length/\i.bytes=ti.bytes:=by obtain ⟨i,h1,h2,h3,_⟩:=h.info;exact ⟨i,by simp [typeInfo,h1],h2,h3⟩
theorem rO {t:TypeId} {ti:TI} (h:qx P t ti) (w:World):∃ z,(zeroValue t).run P w= .ok z w/\z.cells.toList=ti.ks.map zV:=by obtain ⟨i,h1,h2,h3,z,h4,h5⟩:=h.info;exact ⟨z,by simp [zeroValue,typeInfo,h1,h4],h5⟩
theorem nI {t:TypeId} {ti:TI} (h:qx P t ti) (w:World):(isAgg t).run P w= .ok ti.agg w:=by obtain ⟨d,h1,h2⟩:=h.desc;cases d <;> simp only [gM] at h2 <;> simp [isAgg,adH h1,h2.1]
theorem gI (b o n:Nat):(⟨b,o,none⟩:Addr).add n=⟨b,o + n,none⟩:=by
 unfold Addr.add;split
 . rename_i h; subst h; rfl
 . rfl
def jz (w:World) (b o:Nat) (vs:List Value):Prop:=∀ (j:Nat) (v:Value),vs[j]? = some v->w.cell? ⟨b,o + j,none⟩=some v
theorem jz.cons {w:World} {b o:Nat} {v:Value} {vs:List Value} (h1:w.cell? ⟨b,o,none⟩=some v) (h2:jz w b (o + 1) vs):jz w b o (v :: vs):=fun j u hj=>by
 cases j with
 | zero=>simp at hj; subst hj; exact h1
 | succ j=>simp at hj; rw [show o + (j + 1)=o + 1 + j by omega]; exact h2 j u hj
theorem uy {t:TypeId} {ti:TI} (h:qx P t ti) {w:World} {b o:Nat} {vs:List Value} (hl:vs.length=ti.ks.length) (hc:jz w b o vs) :
 ∃ v,(loadVar t ⟨b,o,none⟩).run P w= .ok v w/\(match ti.agg with | true=>v= .agg vs.toArray | false=>vs=[v]):=by
 cases hagg:ti.agg with
 | true => refine ⟨.agg vs.toArray,?_,rfl⟩;have hr:=nI h w;rw [hagg] at hr;have hll:=run_loadCells_list (P:=P) w ⟨b,o,none⟩ vs (fun j v hj=>by rw [gI]; exact hc j v hj);rw [hl] at hll;simp [loadVar,hr,bM h w,hll]
 | false =>
   have hr:=nI h w;rw [hagg] at hr;obtain ⟨d,h1,h2⟩:=h.desc;have hone:ti.ks.length=1:=by
    cases d <;> simp only [gM] at h2
    all_goals first
     | (simp [h2.2]; done)
     | (obtain ⟨_,ks,e,_⟩:=h2; simp [e]; done)
     | (rw [h2.1] at hagg; simp at hagg; done)
   match vs,hl with
   | [],hl=>simp [hone] at hl
   | [v],hl => have:=hc 0 v rfl;simp only [adO] at this;exact ⟨v,by simp [loadVar,hr,this],rfl⟩
   | _ :: _ :: _,hl=>simp [hone] at hl
theorem DC {Z:Nat->Prop} {w:World} {ks:List K} {x:Tl ks} {b o c:Nat} {sl:(k:K)->T k->AV} {av:AV} (h:wP Z w ks x b o) (hc:vr ks x c sl=some av) :
 ∃ v k y,w.cell? ⟨b,o + c,none⟩=some v/\cellAt ks x c=some ⟨k,y⟩/\RO Z w k y v/\((∃ e ks',k= .sl e ks')/\av=sl k y∨(lu k=false)/\av= .d k y):=by
 unfold vr at hc;split at hc
 . rename_i e ks' y hy;simp only [ac3] at hc;obtain ⟨v,h1,h2⟩:=mQ ks x b o c _ _ h hy;exact ⟨v,_,_,h1,hy,h2,.inl ⟨⟨e,ks',rfl⟩,hc.symm⟩⟩
 . rename_i k y hns hy;simp only [ac3] at hc;obtain ⟨v,h1,h2⟩:=mQ ks x b o c _ _ h hy;refine ⟨v,k,y,h1,hy,h2,.inr ⟨?_,hc.symm⟩⟩;cases k with
   | sl e ks'=>exact (hns e ks' y rfl HEq.rfl).elim
   | _=>rfl
 . simp at hc
theorem eN {Z Z':Nat->Prop} {w:World} {k:K} {y:T k} {v:Value} (hk:lu k=false) (h:RO Z w k y v):RO Z' w k y v:=by
 cases k with
 | sl e ks=>simp [lu] at hk
 | _=>exact h
theorem xJ (h:Rel cx Z g st a w) {p:AV} {v:Value} {n:Nat} {l:List AV} (hp:bj Z g st w p v) (hl:st.load n p=some l) :
 ∃ b o vs,v= .pointer (some ⟨b,o,none⟩)/\vs.length=n/\jz w b o vs/\aP Z g st w l vs:=by
 have els_go:∀ (ks:List K) (x:Tl ks) (b o:Nat) (Z':Nat->Prop) (sl:Nat->(k:K)->T k->AV),wP Z' w ks x b o ->
  (∀ c k y v,cellAt ks x c=some ⟨k,y⟩->w.cell? ⟨b,o + c,none⟩=some v->RO Z' w k y v->bj Z g st w (sl c k y) v) ->
  ∀ (n c:Nat) (l:List AV),eW ks x sl c n=some l->∃ vs,vs.length=n/\jz w b (o + c) vs/\aP Z g st w l vs:=by
  intro ks x b o Z' sl hro hsl n;induction n with
  | zero=>intro c l hl; simp only [eW,ac3] at hl; subst hl; exact ⟨[],rfl,fun j v hj=>by simp at hj,trivial⟩
  | succ n ih =>
    intro c l hl;simp only [eW] at hl;split at hl
    . rename_i av l' h1 h2;simp only [ac3] at hl;subst hl;obtain ⟨vs,e1,e2,e3⟩:=ih (c + 1) l' h2;obtain ⟨v,k,y,g1,g2,g3,g4⟩:=DC hro h1;refine ⟨v :: vs,by simp [e1],jz.cons g1 (by rw [show o + c + 1=o + (c + 1) by omega]; exact e2),?_,e3⟩;rcases g4 with ⟨_,rfl⟩ | ⟨hk,rfl⟩
      . exact hsl c k y v g2 g1 g3
      . exact eN hk g3
    . simp at hl
 cases p with
 | ptr r j =>
   obtain ⟨R,h1,h2,rfl⟩:=hp;obtain ⟨_,_,_,_,cs,e,fr,b1,b2,b3,b4⟩:=h.box r R h1 h2;refine ⟨g.be r,j,?_⟩;simp only [St.load] at hl;have key:∀ (n j:Nat) (l:List AV),st.fT r j n=some l->∃ vs,vs.length=n/\jz w (g.be r) j vs/\aP Z g st w l vs:=by
    intro n;induction n with
    | zero=>intro j l hl; simp only [St.fT,ac3] at hl; subst hl; exact ⟨[],rfl,fun j v hj=>by simp at hj,trivial⟩
    | succ n ih =>
      intro j l hl;simp only [St.fT] at hl;split at hl
      . rename_i av l' g1 g2;simp only [ac3] at hl;subst hl;obtain ⟨vs,e1,e2,e3⟩:=ih (j + 1) l' g2;unfold St.oJ at g1;cases hc:st.cell r j with
        | none=>simp [hc] at g1
        | some c =>
          have hcj:R.cells[j]? = some c:=by simpa [St.cell,h1] using hc
          have hjlt:j < cs.size:=by
           rw [b3];rcases adj j R.cells.length with hh | hh
           . exact hh
           . simp [adp hh] at hcj
          refine ⟨g.cv r j :: vs,by simp [e1],jz.cons (by simp [World.cell?,b1,b4 j hjlt]) e2,?_,e3⟩;obtain ⟨cs',cm,cv⟩:=c;cases cv with
          | own k x => simp only [hc,ac3] at g1;subst g1;exact ⟨_,hc,ac7 _,fun _=>rfl⟩
          | av x => simp only [hc,ac3] at g1;subst g1;exact Bp h hc rfl
      . simp at hl
   obtain ⟨vs,e1,e2,e3⟩:=key n j l hl;exact ⟨vs,rfl,e1,e2,e3⟩
 | pel r j s i q =>
   obtain ⟨c,h1,h2,h3⟩:=hp;obtain ⟨cs,cm,cv⟩:=c;cases cv with
   | av _=>simp [St.load,h1] at hl
   | own k x =>
     cases k with
     | int _=>simp [St.load,h1] at hl
     | bool=>simp [St.load,h1] at hl
     | str=>simp [St.load,h1] at hl
     | sl e ks =>
       simp only [St.load,h1] at hl;cases hb:Nat.beq cs s with
       | false=>simp [hb] at hl
       | true => simp only [hb,ac6] at hl;obtain ⟨e',ks',xs',g1,g2,b,o,len,cap,g4,rfl⟩:=h3 (beq_eq hb);simp only [RV.own.injEq,K.sl.injEq] at g1;obtain ⟨⟨rfl,rfl⟩,g1⟩:=g1;cases g1;have hro:=cO.ro (Z:=fZ w) _ _ _ _ (fun b hb=>(h.fp r j b hb).1) (dN h h1 rfl);rw [g4] at hro;obtain ⟨aa,c',u1,u2,u3,u4,u5⟩:=hro;simp only [adX] at u1;obtain ⟨rfl,rfl,rfl⟩:=u1;obtain ⟨b',o',v1,v2,v3,v4⟩:=u5 (by intro h0; rw [h0] at g2; simp at g2);simp only [ac3,aei,aej] at v1;obtain ⟨rfl,rfl⟩:=v1;obtain ⟨vs,e1,e2,e3⟩:=els_go ks (eC x i) b (o + i * ks.length) (fZ w) (fun c' _ _=> .pref r j s cm i c') (v4 i _ (ij x g2)) (fun c k y v hy hv hr=>⟨_,h1,by rw [beq_eq hb]; exact ac7 _,ac7 _,fun _ _=>⟨e,ks,x,rfl,g2,zG _ _ _ _ _ hy,b,o,_,cap,g4,hv⟩⟩) n q l hl;exact ⟨b,o + i * ks.length + q,vs,rfl,e1,e2,e3⟩
 | rp dep e ks xs i q =>
   cases dep with
   | none =>
     obtain ⟨h0,b,o,g1,g2,rfl,g4⟩:=hp;simp only [St.load] at hl;have hx:xs[i]? = some (xs.getD i (dZ ks)):=by simp [List.getD,h0]
     obtain ⟨vs,e1,e2,e3⟩:=els_go ks _ b (o + i * ks.length) Z (fun _ k y=> .d k y) (g4 i _ hx) (fun c k y v _ _ hr=>hr) n q l hl;exact ⟨b,o + i * ks.length + q,vs,rfl,e1,e2,e3⟩
   | some dd =>
     obtain ⟨r,j,s,m⟩:=dd;obtain ⟨c,h1,h2,h3,h4⟩:=hp;simp only [St.load,h1] at hl;cases hb:Nat.beq c.s s && Nat.beq c.m m with
     | false=>simp [hb] at hl
     | true =>
       simp only [hb,ac6] at hl;simp only [ac5] at hb;obtain ⟨h0,b,o,g1,g2,rfl,g4⟩:=h4 (beq_eq hb.1) (beq_eq hb.2);have hx:xs[i]? = some (xs.getD i (dZ ks)):=by simp [List.getD,h0]
       obtain ⟨vs,e1,e2,e3⟩:=els_go ks _ b (o + i * ks.length) _ (fun _ k y=> .b r j s m k y) (g4 i _ hx) (fun c' k y v _ _ hr=>⟨c,h1,h2,h3,fun _ _=>hr⟩) n q l hl;exact ⟨b,o + i * ks.length + q,vs,rfl,e1,e2,e3⟩
 | _=>simp [St.load] at hl
end
end Go.Av
namespace Go.Av
open Go.RowKit (Below)
theorem fI (k:IntKind) (n:Int):mq k (k.wrap n):=by
 unfold mq
 cases k <;> simp only [IntKind.wrap,IntKind.min,IntKind.max,IntKind.signed,IntKind.bits,afn,Bool.false_and,if_true] <;> (try simp only [adQ,aek]) <;>
  (constructor <;> (try split) <;> simp_all <;> omega)
theorem Gk {k:IntKind} {n:Int} (h:mq k n):k.wrap n=n:=by
 unfold mq at h
 cases k <;> simp only [IntKind.wrap,IntKind.min,IntKind.max,IntKind.signed,IntKind.bits,afn,Bool.false_and,if_true,adQ,aek] at h ⊢ <;>
  (try split) <;> simp_all <;> omega
theorem uK {k:IntKind} {n m:Int} (h:mq k m) (h1:(m<=n/\n<=0)∨(0<=n/\n<=m)∨(m<=n/\n <= -1)):mq k n:=by
 unfold mq at *
 cases k <;> simp only [IntKind.min,IntKind.max,IntKind.signed,IntKind.bits,if_true,adQ,aek] at h ⊢ <;> simp at h ⊢ <;> omega
theorem KV {k:IntKind} {m:Int} (b:Int) (h:mq k m):mq k (m.tmod b):=by
 refine uK h ?_;rcases Int.le_total 0 m with h1 | h1
 . have:=Int.tmod_nonneg b h1;have h2:m.tmod b<=m:=by
    have e:=aeq (b:=b) h1;rw [e];rcases Int.lt_trichotomy b 0 with hb | hb | hb
    . have h3:=Int.emod_neg m b;have:=Int.emod_nonneg m (show -b≠0 by omega);have h5:=afc m (-b);have h6:0<=m / (-b):=afz h1 (by omega);have h7:0<=(-b) * (m / (-b)):=afE (by omega) h6;omega
    . subst hb; simp
    . have h5:=afc m b;have h6:0<=m / b:=afz h1 (by omega);have h7:0<=b * (m / b):=afE (by omega) h6;omega
   exact .inr (.inl ⟨this,h2⟩)
 . refine .inl ?_;have e:m.tmod b = -((-m).tmod b):=by rw [Int.neg_tmod,Int.neg_neg]
   have h1':0 <= -m:=by omega
   have:=Int.tmod_nonneg b h1';have h2:(-m).tmod b <= -m:=by
    have e:=aeq (b:=b) h1';rw [e];rcases Int.lt_trichotomy b 0 with hb | hb | hb
    . have h3:=Int.emod_neg (-m) b;have h5:=afc (-m) (-b);have h6:0<=(-m) / (-b):=afz h1' (by omega);have h7:0<=(-b) * ((-m) / (-b)):=afE (by omega) h6;omega
    . subst hb; simp
    . have h5:=afc (-m) b;have h6:0<=(-m) / b:=afz h1' (by omega);have h7:0<=b * ((-m) / b):=afE (by omega) h6;omega
   omega
theorem KX {k:IntKind} {m:Int} (n:Nat) (h:mq k m):mq k (m.fdiv (2 ^ n)):=by
 refine uK h ?_;have hp:(0:Int) < 2 ^ n:=Int.pow_pos (by decide);have hp1:(1:Int)<=2 ^ n:=hp;have e:m.fdiv (2 ^ n)=m / 2 ^ n:=Int.fdiv_eq_ediv_of_nonneg m (by omega);rw [e];generalize (2:Int) ^ n=q at *
 have h5:=afc m q;have h6:=Int.emod_nonneg m (show q≠0 by omega);have h7:=Int.emod_lt_of_pos m hp;rcases Int.le_total 0 m with h1 | h1
 . have h8:0<=m / q:=afz h1 (by omega);have h9:m / q<=q * (m / q):=by
    have:=Int.mul_le_mul_of_nonneg_right hp1 h8;simpa using this
   exact .inr (.inl ⟨h8,by omega⟩)
 . rcases Int.lt_or_le (m / q) 0 with h8 | h8
   . refine .inr (.inr ⟨?_,by omega⟩);rcases Int.lt_or_le (m / q) m with h9 | h9
     . exfalso;have h10:q * (m / q)<=q * (m - 1):=aft (by omega) (by omega);have h11:q * (m - 1)<=1 * (m - 1):=by
        have:=Int.mul_le_mul_of_nonpos_right hp1 (show m - 1<=0 by omega);simpa using this
       have h12:q * (m - 1)=q * m - q:=by rw [Int.mul_sub,Int.mul_one]
       have h13:q * m<=1 * m:=Int.mul_le_mul_of_nonpos_right hp1 h1;omega
     . exact h9
   . have h10:0<=q * (m / q):=afE (by omega) h8;exact .inl ⟨by omega,by
      rcases Int.lt_or_le 0 (m / q) with h11 | h11
      . have h12:q * 1<=q * (m / q):=aft (by omega) (by omega);omega
      . exact h11⟩
section
variable {P:Program} {cx:Cx P} {Z:Nat->Prop} {g:Gh} {st:St} {a:Act} {w:World} {E:En}
theorem cS {tv:TV} {v:Value} {k:IntKind} {n:Int} (h:bD Z g st w tv v) (hi:tv.int? = some (k,n)):v= .int k n/\mq k n:=by
 cases tv with
 | v a =>
   cases a with
   | d kk x =>
     cases kk with
     | int k' => simp only [TV.int?,AV.int?,ac3,adF] at hi;obtain ⟨rfl,rfl⟩:=hi;exact h
     | _=>simp [TV.int?,AV.int?] at hi
   | _=>simp [TV.int?,AV.int?] at hi
 | _=>simp [TV.int?] at hi
theorem so {tv:TV} {v:Value} {x:Bool} (h:bD Z g st w tv v) (hi:tv.bool? = some x):v= .bool x:=by
 cases tv with
 | v a =>
   cases a with
   | lb y=>simp only [TV.bool?,AV.bool?,ac3] at hi; subst hi; exact h
   | d kk y =>
     cases kk with
     | bool=>simp only [TV.bool?,AV.bool?] at hi; cases hi; exact h
     | _=>simp [TV.bool?,AV.bool?] at hi
   | _=>simp [TV.bool?,AV.bool?] at hi
 | _=>simp [TV.bool?] at hi
theorem lK {tv:TV} {v:Value} {s:List UInt8} (h:bD Z g st w tv v) (hi:tv.lU = some s):v= .string (et s)/\s.length<=aT:=by
 cases tv with
 | v a =>
   cases a with
   | d kk y =>
     cases kk with
     | str=>simp only [TV.lU,AV.lU] at hi; cases hi; exact h
     | _=>simp [TV.lU,AV.lU] at hi
   | _=>simp [TV.lU,AV.lU] at hi
 | _=>simp [TV.lU] at hi
theorem rN {tv:TV} {v:Value} {x:AV} (h:bD Z g st w tv v) (hi:tv.Cp = some x):bj Z g st w x v:=by
 cases tv with
 | v a=>simp only [TV.Cp,ac3] at hi; subst hi; exact h
 | _=>simp [TV.Cp] at hi
theorem jd (s:List UInt8):(et s).size=s.length:=by simp [et,ByteArray.size]
theorem EM (s t:List UInt8):et s ++ et t=et (s ++ t):=by apply afX;simp [et]
theorem iz (s:List UInt8):(et s).toList=s:=ByteArray.toList_mk s
theorem Hi {op:BinOp} {k:IntKind} {x y:Int} {av:AV} (hx:mq k x) (hs:vf op=false) (h:(Jy op k x y).run=some av) (t:TypeId) (ox oy:Operand) (w:World) :
 ∃ v,((do eqGuard op t ox oy (.int k x) (.int k y); binOp op t (.int k x) (.int k y)):Sem Value).run P w= .ok v w/\bj Z g st w av v/\v.oneCell'=true:=by
 have hg:∀ w,(eqGuard op t ox oy (.int k x) (.int k y)).run P w= .ok () w:=fun w=>by unfold eqGuard;cases op <;> simp
 cases op <;> simp only [vf,Bool.true_eq_false,adQ] at hs <;> simp only [Jy,Tr.run,ac3,reduceCtorEq] at h
 case add=>subst h; exact ⟨.int k (k.wrap (x + y)),by simp [hg,binOp,Op.intArith],⟨rfl,fI _ _⟩,rfl⟩
 case sub=>subst h; exact ⟨.int k (k.wrap (x - y)),by simp [hg,binOp,Op.intArith],⟨rfl,fI _ _⟩,rfl⟩
 case mul=>subst h; exact ⟨.int k (k.wrap (x * y)),by simp [hg,binOp,Op.intArith],⟨rfl,fI _ _⟩,rfl⟩
 case quo =>
  obtain ⟨h0,h⟩:=Tr.bo h;simp only [Tr.run,ac3] at h;subst h;have hy:y≠0:=by simpa [aq] using h0
  exact ⟨.int k (k.wrap (x.tdiv y)),by simp [hg,binOp,Op.intDiv,hy],⟨rfl,fI _ _⟩,rfl⟩
 case rem =>
  obtain ⟨h0,h⟩:=Tr.bo h;simp only [Tr.run,ac3] at h;subst h;have hy:y≠0:=by simpa [aq] using h0
  exact ⟨.int k (x.tmod y),by simp [hg,binOp,Op.intDiv,hy],⟨rfl,KV _ hx⟩,rfl⟩
 case and=>subst h; exact ⟨.int k (k.wrap ((BitVec.ofInt k.bits x &&& BitVec.ofInt k.bits y).toNat:Int)),by simp [hg,binOp,Op.intBits],⟨rfl,fI _ _⟩,rfl⟩
 case or=>subst h; exact ⟨.int k (k.wrap ((BitVec.ofInt k.bits x ||| BitVec.ofInt k.bits y).toNat:Int)),by simp [hg,binOp,Op.intBits],⟨rfl,fI _ _⟩,rfl⟩
 case xor=>subst h; exact ⟨.int k (k.wrap ((BitVec.ofInt k.bits x ^^^ BitVec.ofInt k.bits y).toNat:Int)),by simp [hg,binOp,Op.intBits],⟨rfl,fI _ _⟩,rfl⟩
 case eql=>subst h; exact ⟨.bool (x == y),by simp [hg,binOp,Op.intCmp],rfl,rfl⟩
 case neq=>subst h; exact ⟨.bool (x != y),by simp [hg,binOp,Op.intCmp],rfl,rfl⟩
 case lss=>subst h; exact ⟨.bool (decide (x < y)),by simp [hg,binOp,Op.intCmp],rfl,rfl⟩
 case leq=>subst h; exact ⟨.bool (decide (x<=y)),by simp [hg,binOp,Op.intCmp],rfl,rfl⟩
 case gtr=>subst h; exact ⟨.bool (decide (x > y)),by simp [hg,binOp,Op.intCmp],rfl,rfl⟩
 case geq=>subst h; exact ⟨.bool (decide (x ≥ y)),by simp [hg,binOp,Op.intCmp],rfl,rfl⟩
theorem BS {op:BinOp} {k k':IntKind} {x y:Int} {av:AV} (hx:mq k x) (h:(AB op k x y).run=some av) (t:TypeId) (ox oy:Operand) (w:World) :
 ∃ v,((do eqGuard op t ox oy (.int k x) (.int k' y); binOp op t (.int k x) (.int k' y)):Sem Value).run P w= .ok v w/\bj Z g st w av v/\v.oneCell'=true:=by
 have hg:∀ w,(eqGuard op t ox oy (.int k x) (.int k' y)).run P w= .ok () w:=fun w=>by unfold eqGuard;cases op <;> simp
 cases op <;> simp only [AB,Tr.run,ac3,reduceCtorEq] at h
 case shl =>
  obtain ⟨h0,h⟩:=Tr.bo h;simp only [Tr.run,ac3] at h;subst h
  have hy:¬ y < 0:=by have:0<=y:=by simpa using h0
                      omega
  exact ⟨.int k (k.wrap (x * 2 ^ min y.toNat k.bits)),by simp [hg,binOp,Op.shift,hy],⟨rfl,fI _ _⟩,rfl⟩
 case shr =>
  obtain ⟨h0,h⟩:=Tr.bo h;simp only [Tr.run,ac3] at h;subst h
  have hy:¬ y < 0:=by have:0<=y:=by simpa using h0
                      omega
  exact ⟨.int k (x.fdiv (2 ^ min y.toNat k.bits)),by simp [hg,binOp,Op.shift,hy],⟨rfl,KX _ hx⟩,rfl⟩
theorem Il {op:BinOp} {s u:List UInt8} {av:AV} (h:(Jx op s u).run=some av) (t:TypeId) (ox oy:Operand) (w:World) :
 ∃ v,((do eqGuard op t ox oy (.string (et s)) (.string (et u)); binOp op t (.string (et s)) (.string (et u))):Sem Value).run P w= .ok v w/\bj Z g st w av v/\v.oneCell'=true:=by
 have hg:∀ w,(eqGuard op t ox oy (.string (et s)) (.string (et u))).run P w= .ok () w:=fun w=>by unfold eqGuard;cases op <;> simp
 cases op <;> simp only [Jx,Tr.run,ac3,reduceCtorEq] at h
 case add =>
  obtain ⟨h0,h⟩:=Tr.bo h;simp only [Tr.run,ac3] at h;subst h;have hb:s.length + u.length<=aT:=adC h0;have hb':¬ ((((et s).size + (et u).size:Nat):Int) > IntKind.i64.max):=by
   rw [jd,jd];have:IntKind.i64.max=9223372036854775807:=by rfl
   rw [this];unfold aT at hb;omega
  exact ⟨.string (et (s ++ u)),by simp only [adv,hg,adh,binOp,Op.stringOp,hb',aek,EM]; rfl,⟨rfl,by show (s ++ u).length<=aT; rw [ac4]; exact hb⟩,rfl⟩
 case eql=>subst h; exact ⟨.bool (s == u),by simp [hg,binOp,Op.stringOp,iz],rfl,rfl⟩
 case neq=>subst h; exact ⟨.bool (!(s == u)),by simp [hg,binOp,Op.stringOp,iz],rfl,rfl⟩
 case lss=>subst h; exact ⟨.bool (Op.bytesLess s u),by simp [hg,binOp,Op.stringOp,iz],rfl,rfl⟩
 case leq=>subst h; exact ⟨.bool (Op.bytesLess s u || s == u),by simp [hg,binOp,Op.stringOp,iz],rfl,rfl⟩
 case gtr=>subst h; exact ⟨.bool (!(Op.bytesLess s u || s == u)),by simp [hg,binOp,Op.stringOp,iz],rfl,rfl⟩
 case geq=>subst h; exact ⟨.bool (!(Op.bytesLess s u)),by simp [hg,binOp,Op.stringOp,iz],rfl,rfl⟩
end
end Go.Av
namespace Go.Av
open Go.RowKit (Below)
def di (P:Program) (cx:Cx P) (st:St) (a:Act) (w:World) (o:Oper) (d:Nat) (p:TV×Option Rt):Prop :=
 ∀ (next:Act->World->Prop) (Q:Exit->Act->World->Prop),(∀ Z' g' v w',Rel cx Z' g' (st.aE d p) (a.put (some d) v) w'->next (a.put (some d) v) w')->o.wp P a w next Q
theorem oF {Z:Nat->Prop} {w:World} {k:K} {x:T k} {v:Value} (h:RO Z w k x v):v.cells = #[v]/\v.oneCell'=true:=by
 cases k with
 | int _=>obtain ⟨rfl,_⟩:=h; exact ⟨rfl,rfl⟩
 | bool=>cases h; exact ⟨rfl,rfl⟩
 | str=>obtain ⟨rfl,_⟩:=h; exact ⟨rfl,rfl⟩
 | sl e ks=>obtain ⟨a,c,rfl,_⟩:=h; exact ⟨rfl,rfl⟩
theorem rJ {w:World} {k:K} {x:T k} {v:Value} {F:Nat->Prop} (h:cO w k x v F):v.cells = #[v]/\v.oneCell'=true:=by
 cases k with
 | int _=>obtain ⟨rfl,_⟩:=h; exact ⟨rfl,rfl⟩
 | bool=>cases h; exact ⟨rfl,rfl⟩
 | str=>obtain ⟨rfl,_⟩:=h; exact ⟨rfl,rfl⟩
 | sl e ks=>obtain ⟨a,c,rfl,_⟩:=h; exact ⟨rfl,rfl⟩
section
variable {P:Program} {cx:Cx P} {Z:Nat->Prop} {g:Gh} {st:St} {a:Act} {w:World} {E:En}
theorem cq (h:Rel cx Z g st a w) {o:Oper} {d:Nat} (hd:o.dst=some d) (hdn:jG cx a d) {v:Value} {tv:TV} (hrun:(execOp a.eval o).run P w= .ok (.value v) w) (ht:bD Z g st w tv v) :
 di P cx st a w o d (tv,none):=by
 intro next Q hk;unfold Oper.wp;rw [hrun,adI,hd];exact hk _ _ _ _ (h.fA hdn ht)
theorem Rel.Bs (h:Rel cx Z g st a w) {d:Nat} (hdn:jG cx a d) (hf:st.free d=true) {cs:Array Value} {e:TypeId} {l:List RC} (hl:l.length=cs.size)
 (hc:∀ (j:Nat) (c:RC) (v:Value),l[j]? = some c->cs[j]? = some v->(∃ k0,c=mg k0/\v=zV k0)∨(∃ av,c.v= .av av/\bj Z g st w av v)) {tv:TV} {v:Value}
 (ht:(tv= .v (.ptr d 0)/\v= .pointer (some ⟨w.heap.size,0,none⟩))∨(∃ n,tv= .v (.brow d n)/\v= .slice (some ⟨w.heap.size,0,none⟩) n n)) :
 ∃ g',Rel cx Z g' (st.aE d (tv,some ⟨true,l⟩)) (a.put (some d) v) (w.alloc (.cells cs e (0,0)))/\l8 Z Z w (w.alloc (.cells cs e (0,0))) g g' st (st.aE d (tv,some ⟨true,l⟩))/\g'.be d=w.heap.size:=by
 have hheap:(w.alloc (.cells cs e (0,0))).heap=w.heap.push (.cells cs e (0,0)):=rfl;have hsz:(w.alloc (.cells cs e (0,0))).heap.size=w.heap.size + 1:=by rw [hheap,aeP]
 have hold:∀ b,b < w.heap.size->(w.alloc (.cells cs e (0,0))).heap[b]? = w.heap[b]? := fun b hb=>by rw [hheap,ad0,if_neg (by omega)]
 have hk:=BF (tv:=tv) (R:=⟨true,l⟩) (be:=w.heap.size) (cv:=fun j=>cs.getD j undef) (fp:=fun _ _=>False) (Z':=Z) (w':=w.alloc (.cells cs e (0,0))) h hf (by omega) hold (fun _ h=>h);refine ⟨g.at d w.heap.size (fun j=>cs.getD j undef) (fun _ _=>False),Rel.AY h hdn hf ?_ ?_,hk,by simp [Gh.at]⟩
 . refine { os:=rfl,tape:=rfl,output:=rfl,size:=by omega,block:=hold,bS:=fun b hb=> .inl hb,zle:=fun b hb=>hb,fp := ?_,disj := ?_,box := ?_,cell := ?_ }
   . intro j b hb; simp [Gh.at] at hb
   . intro j j' b hb; simp [Gh.at] at hb
   . intro _;refine ⟨by simp [Gh.at],fun hz => ?_,fun j hb=>by simp [Gh.at] at hb,cs,e,(0,0),?_,fun q _=>by simp,hl.symm,fun j hj => ?_⟩
     . have:=(h.bS _ hz).1;simp [Gh.at] at this
     . simp only [Gh.at,if_true];rw [hheap,ad0,if_pos rfl]
     . simp [Gh.at,adb,hj]
   . intro j c hj;have hjl:j < cs.size:=by
      rw [<- hl];rcases adj j l.length with hh | hh
      . exact hh
      . simp [adp hh] at hj
     have hcv:(g.at d w.heap.size (fun j=>cs.getD j undef) (fun _ _=>False)).cv d j=cs[j]:=by simp [Gh.at,adb,hjl]
     rw [hcv];rcases hc j c cs[j] hj (by simp [hjl]) with ⟨k0,rfl,hv⟩ | ⟨av,hav,hr⟩
     . rw [hv];cases k0 with
       | int k=>exact ⟨rfl,by have:=fI k 0; unfold mq; cases k <;> simp [IntKind.min,IntKind.max,IntKind.signed,IntKind.bits]⟩
       | bool=>rfl
       | str=>exact ⟨rfl,adM _⟩
       | sl e ks=>exact jx e ks
     . rw [hav];exact bj.bZ hk av _ hr
 . rcases ht with ⟨rfl,rfl⟩ | ⟨n,rfl,rfl⟩
   . exact ⟨⟨true,l⟩,by show look ((d,_) :: st.rt) d=_; rw [ba,if_pos rfl],rfl,by simp [Gh.at]⟩
   . exact ⟨⟨true,l⟩,by show look ((d,_) :: st.rt) d=_; rw [ba,if_pos rfl],rfl,by simp [Gh.at]⟩
theorem Rel.newRow (h:Rel cx Z g st a w) {d:Nat} (hdn:jG cx a d) (hf:st.free d=true) {w':World} {cs:Array Value} {e0:TypeId} {fr:Nat×Nat} (h1:w'.os=w.os) (h2:w'.tape=w.tape) (h3:w'.output=w.output)
 (hh:w'.heap=w.heap.push (.cells cs e0 fr)) {k:K} {x:T k} {v:Value} (ho:cO w' k x v (fun b=>b=w.heap.size)) :
 ∃ g',Rel cx Z g' (st.aE d (.v (.ref d 0 0),some ⟨false,[⟨0,0,.own k x⟩]⟩)) (a.put (some d) v) w':=by
 have hsz:w'.heap.size=w.heap.size + 1:=by rw [hh,aeP]
 have hold:∀ b,b < w.heap.size->w'.heap[b]? = w.heap[b]? := fun b hb=>by rw [hh,ad0,if_neg (by omega)]
 refine ⟨g.at d 0 (fun _=>v) (fun j b=>j=0/\b=w.heap.size),Rel.AY h hdn hf ?_ ?_⟩
 . refine { os:=h1,tape:=h2,output:=h3,size:=by omega,block:=hold,bS:=fun b hb=> .inl hb,zle:=fun b hb=>hb,fp := ?_,disj := ?_,box:=fun hb=>by simp at hb,cell := ?_ }
   . intro j b hb;simp only [Gh.at,if_true] at hb;obtain ⟨rfl,rfl⟩:=hb;exact ⟨ac7 _,by omega,fun hz=>by have:=(h.bS _ hz).1; omega,_,k,x,rfl,rfl⟩
   . intro j j' b hb hb';simp only [Gh.at,if_true] at hb hb';rw [hb.1,hb'.1]
   . intro j c hj
     match j with
     | 0 =>
       simp only [adf,ac3] at hj;subst hj;have e1:(g.at d 0 (fun _=>v) (fun j b=>j=0/\b=w.heap.size)).cv d 0=v:=by simp [Gh.at]
       have e2:(g.at d 0 (fun _=>v) (fun j b=>j=0/\b=w.heap.size)).fp d 0=fun b=>b=w.heap.size:=by funext b; simp [Gh.at]
       rw [e1,e2];exact ho
     | j + 1=>simp at hj
 . exact ⟨⟨0,0,.own k x⟩,by show (match look ((d,_) :: st.rt) d with | some R=>R.cells[0]? | none=>none)=_; rw [ba,if_pos rfl]; rfl,ac7 _,fun _=>by simp [Gh.at]⟩
theorem DF (h:Rel cx Z g st a w) (hc:Cons st) {o:Oper} {d:Nat} (hd:o.dst=some d) (hdn:jG cx a d) {x:Operand} (ho:o.op= .move x∨o.op= .assign x) {tv:TV} (hq:st.get x=some tv):di P cx st a w o d (tv,none) :=
 cq h hd hdn (v:=a.eval x) (by rcases ho with ho | ho <;> simp [execOp,ho]) (aM h hc hq)
theorem Xg (hT:bK P E) (h:Rel cx Z g st a w) (hc:Cons st) {o:Oper} {d:Nat} (hd:o.dst=some d) (hdn:jG cx a d) {op:BinOp} {t t':TypeId} {x y:Operand} (ho:o.op= .binOp op t x y t') {tx ty:TV} {av:AV}
 (hx:st.get x=some tx) (hy:st.get y=some ty) (hb:(R7 (E.bool t) op tx ty).run=some av):di P cx st a w o d (.v av,none):=by
 have rx:=aM h hc hx;have ry:=aM h hc hy;have key:∃ v,((do eqGuard op t x y (a.eval x) (a.eval y); binOp op t (a.eval x) (a.eval y)):Sem Value).run P w= .ok v w/\bj Z g st w av v:=by
  unfold R7 at hb;split at hb
  . rename_i k n k' m hix hiy;obtain ⟨ex,rix⟩:=cS rx hix;obtain ⟨ey,riy⟩:=cS ry hiy;rw [ex,ey];cases hs:vf op with
    | true => simp only [hs,ac6] at hb;obtain ⟨v,e1,e2,_⟩:=BS (P:=P) (Z:=Z) (g:=g) (st:=st) (k':=k') rix hb t x y w;exact ⟨v,e1,e2⟩
    | false =>
      simp only [hs,adm] at hb;cases hk:(k == k') with
      | false=>simp [hk,Tr.run] at hb
      | true =>
        simp only [hk,ac6] at hb;have:k=k':=by simpa using hk
        subst this;obtain ⟨v,e1,e2,_⟩:=Hi (P:=P) (Z:=Z) (g:=g) (st:=st) rix hs hb t x y w;exact ⟨v,e1,e2⟩
  . split at hb
    . rename_i s u hsx hsy;obtain ⟨ex,_⟩:=lK rx hsx;obtain ⟨ey,_⟩:=lK ry hsy;rw [ex,ey];obtain ⟨v,e1,e2,_⟩:=Il (P:=P) (Z:=Z) (g:=g) (st:=st) hb t x y w;exact ⟨v,e1,e2⟩
    . split at hb
      . rename_i p q hbx hby;have ex:=so rx hbx;have ey:=so ry hby;rw [ex,ey];cases hB:E.bool t with
        | false=>simp [hB,Tr.run] at hb
        | true =>
          simp only [hB,adL,adm] at hb;unfold En.bool at hB;split at hB
          . rename_i el by' fl hti
            obtain ⟨dd,hu,hdd⟩:=(hT t _ hti).desc;have hu':P.underlying t=some .bool:=by cases dd <;> simp [gM] at hdd;exact hu
            have hg:∀ w,(eqGuard op t x y (.bool p) (.bool q)).run P w= .ok () w:=fun w=>by unfold eqGuard;cases op <;> simp
            have he:∀ w,(Op.equal t (.bool p) (.bool q)).run P w= .ok (p == q) w:=fun w=>by show (Op.equalIn (9999 + 1) t (.bool p) (.bool q)).run P w=_;unfold Op.equalIn;simp [adH hu']
            split at hb
            . simp only [Tr.run,ac3] at hb;subst hb;exact ⟨.bool (p == q),by simp [hg,binOp,he],rfl⟩
            . simp only [Tr.run,ac3] at hb;subst hb;exact ⟨.bool (!(p == q)),by simp [hg,binOp,he],rfl⟩
            . simp [Tr.run] at hb
          . simp at hB
      . simp [Tr.run] at hb
 obtain ⟨v,e1,e2⟩:=key;exact cq h hd hdn (v:=v) (by simp only [execOp,ho,adv,e1,adh]; rfl) e2
theorem A5 {op:UnOp} {tx:TV} {vx:Value} (rx:bD Z g st w tx vx) {av:AV} (hb:(Yb op tx).run=some av):∃ v,(Op.unary op vx).run P w= .ok v w/\bj Z g st w av v:=by
 unfold Yb at hb;split at hb
 . rename_i p hbx;rw [so rx hbx];simp only [Tr.run,ac3] at hb;subst hb;exact ⟨.bool (!p),by simp [Op.unary],rfl⟩
 . rename_i k n hix;rw [(cS rx hix).1];simp only [Tr.run,ac3] at hb;subst hb;exact ⟨.int k (k.wrap (0 - n)),by simp [Op.unary,Op.intArith],rfl,fI _ _⟩
 . simp [Tr.run] at hb
theorem acv (h:Rel cx Z g st a w) (hc:Cons st) {o:Oper} {d:Nat} (hd:o.dst=some d) (hdn:jG cx a d) {op:UnOp} {t:TypeId} {x:Operand} (ho:o.op= .unOp op t x) {tx:TV} {av:AV}
 (hx:st.get x=some tx) (hb:(match op with | .not=>Tm tx | _=>Yb op tx).run=some av):di P cx st a w o d (.v av,none):=by
 have rx:=aM h hc hx;have key:∃ v,(Op.unary op (a.eval x)).run P w= .ok v w/\bj Z g st w av v:=by
  cases op with
  | not =>
    simp only at hb;unfold Tm at hb;split at hb
    . rename_i p;simp only [Tr.run,ac3] at hb;subst hb;have:a.eval x= .bool p:=rx;rw [this];exact ⟨.bool (!p),by simp [Op.unary],rfl⟩
    . exact A5 rx hb
  | neg=>exact A5 rx hb
  | xor=>exact A5 rx hb
  | plus=>exact A5 rx hb
 obtain ⟨v,e1,e2⟩:=key;exact cq h hd hdn (v:=v) (by simp [execOp,ho,e1]) e2
theorem Ts (hT:bK P E) (h:Rel cx Z g st a w) (hc:Cons st) {o:Oper} {d:Nat} (hd:o.dst=some d) (hdn:jG cx a d) {t:TypeId} {x:Operand} (ho:o.op= .load t x) {ti:TI} {tx:TV} {p:AV} {l:List AV} {tv:TV}
 (hti:E.ti t=some ti) (hx:st.get x=some tx) (hp:tx.Cp = some p) (hl:st.load ti.ks.length p=some l) (hw:ff ti.agg l=some tv):di P cx st a w o d (tv,none):=by
 obtain ⟨b,of,vs,e1,e2,e3,e4⟩:=xJ h (rN (aM h hc hx) hp) hl;obtain ⟨v,e5,e6⟩:=uy (hT t ti hti) e2 e3;refine cq h hd hdn (v:=v) (by simp [execOp,ho,e1,Instr.loadAt,Instr.sureAddr,e5]) ?_;unfold ff at hw;split at hw
 . rename_i l' hag;simp only [ac3] at hw;subst hw;rw [hag] at e6;exact ⟨vs.toArray,e6,by simpa using e4⟩
 . rename_i av hag;simp only [ac3] at hw;subst hw;rw [hag] at e6;subst e6;exact e4.1
 . simp at hw
end
end Go.Av
namespace Go.Av
open Go.RowKit (Below)
section
variable {P:Program} {cx:Cx P} {Z:Nat->Prop} {g:Gh} {st:St} {a:Act} {w:World} {E:En}
theorem dk:∀ {l:List AV} {vs:List Value},aP Z g st w l vs->l.length=vs.length
 | [],[],_=>rfl
 | _ :: l,_ :: vs,h=>by simp [dk h.2]
 | [],_ :: _,h=>h.elim
 | _ :: _,[],h=>h.elim
theorem lP:∀ {l:List AV} {vs:List Value},aP Z g st w l vs->∀ (j:Nat) (x:AV) (v:Value),l[j]? = some x->vs[j]? = some v->bj Z g st w x v
 | [],[],_,_,_,_,h,_=>by simp at h
 | _ :: l,_ :: vs,h,j,x,v,h1,h2=>by
   cases j with
   | zero=>simp at h1 h2; subst h1; subst h2; exact h.1
   | succ j=>simp at h1 h2; exact lP h.2 j x v h1 h2
 | [],_ :: _,h,_,_,_,_,_=>h.elim
 | _ :: _,[],h,_,_,_,_,_=>h.elim
theorem lr:∀ {l:List AV} {vs:List Value},l.length=vs.length->(∀ (j:Nat) (x:AV) (v:Value),l[j]? = some x->vs[j]? = some v->bj Z g st w x v)->aP Z g st w l vs
 | [],[],_,_=>trivial
 | x :: l,v :: vs,hl,h=>⟨h 0 x v rfl rfl,lr (by simpa using hl) (fun j y u h1 h2=>h (j + 1) y u (by simpa using h1) (by simpa using h2))⟩
 | [],_ :: _,hl,_=>by simp at hl
 | _ :: _,[],hl,_=>by simp at hl
theorem Ao (h:Rel cx Z g st a w) {x:AV} {v:Value} (hr:bj Z g st w x v) (hl:st.live x=true):v.cells = #[v]/\v.oneCell'=true:=by
 cases x with
 | dead=>simp [St.live] at hl
 | pre=>simp [St.live] at hl
 | lb b=>cases hr; exact ⟨rfl,rfl⟩
 | d k y=>exact oF hr
 | nil=>cases hr; exact ⟨rfl,rfl⟩
 | b r j s m k y => obtain ⟨c,h1,h2,h3,h4⟩:=hr;simp only [St.live,h1,ac5] at hl;exact oF (h4 (beq_eq hl.1) (beq_eq hl.2))
 | ref r j s =>
   obtain ⟨c,h1,h2,h3⟩:=hr;obtain ⟨cs,cm,cv⟩:=c;cases cv with
   | av _=>simp [St.live,h1] at hl
   | own k y =>
     cases k with
     | sl e ks => simp only [St.live,h1] at hl;rw [h3 (beq_eq hl)];exact rJ (dN h h1 rfl)
     | _=>simp [St.live,h1] at hl
 | cut r j s n =>
   obtain ⟨c,h1,h2,h3⟩:=hr;obtain ⟨cs,cm,cv⟩:=c;cases cv with
   | av _=>simp [St.live,h1] at hl
   | own k y =>
     cases k with
     | sl e ks => simp only [St.live,h1] at hl;obtain ⟨_,_,_,_,_,rfl⟩:=h3 (beq_eq hl);exact ⟨rfl,rfl⟩
     | _=>simp [St.live,h1] at hl
 | pref r j s m i c =>
   have hr':=hr;obtain ⟨cc,h1,_⟩:=hr;obtain ⟨cs,cm,cv⟩:=cc;cases cv with
   | av _=>simp [St.live,h1] at hl
   | own k y =>
     cases k with
     | sl e ks =>
       simp only [St.live,h1,ac5] at hl;obtain ⟨⟨e1,e2⟩,e3⟩:=hl;obtain ⟨⟨k,z⟩,hz⟩:=aeZ.1 e3;refine oF (AE h (x:= .pref r j s m i c) (k:=k) (y:=z) ?_ ?_)
       . exact hr'
       . simp only [St.read,h1,e1,e2,Bool.and_self,ac6,hz]
     | _=>simp [St.live,h1] at hl
 | ptr r j=>obtain ⟨_,_,_,rfl⟩:=hr; exact ⟨rfl,rfl⟩
 | brow r n=>obtain ⟨_,_,_,rfl⟩:=hr; exact ⟨rfl,rfl⟩
 | pel r j s i c => obtain ⟨cc,h1,_,h3⟩:=hr;simp only [St.live,h1] at hl;obtain ⟨_,_,_,_,_,_,_,_,_,_,rfl⟩:=h3 (beq_eq hl);exact ⟨rfl,rfl⟩
 | rp dep e ks xs i c =>
   cases dep with
   | none=>obtain ⟨_,_,_,_,_,rfl,_⟩:=hr; exact ⟨rfl,rfl⟩
   | some dd => obtain ⟨r,j,s,m⟩:=dd;obtain ⟨cc,h1,_,_,h3⟩:=hr;simp only [St.live,h1,ac5] at hl;obtain ⟨_,_,_,_,_,rfl,_⟩:=h3 (beq_eq hl.1) (beq_eq hl.2);exact ⟨rfl,rfl⟩
theorem zX {x:AV} {c:RC} (h:st.kQ x=some c):st.live x=true:=by
 cases x with
 | lb _=>rfl
 | d _ _=>rfl
 | nil=>rfl
 | b r j s m k y =>
   simp only [St.kQ] at h;cases hl:st.live (.b r j s m k y) with
   | true=>rfl
   | false=>simp [hl] at h
 | pref r j s m i c =>
   simp only [St.kQ] at h;cases hl:st.live (.pref r j s m i c) with
   | true=>rfl
   | false=>simp [hl] at h
 | _=>simp [St.kQ] at h
theorem Ke (h:Rel cx Z g st a w) {x:AV} {v:Value} {c:RC} (hr:bj Z g st w x v) (hc:st.kQ x=some c):∃ av,c.v= .av av/\bj Z g st w av v:=by
 cases x with
 | lb _=>simp only [St.kQ,ac3] at hc; subst hc; exact ⟨_,rfl,hr⟩
 | d _ _=>simp only [St.kQ,ac3] at hc; subst hc; exact ⟨_,rfl,hr⟩
 | nil=>simp only [St.kQ,ac3] at hc; subst hc; exact ⟨_,rfl,hr⟩
 | b r j s m k y =>
   simp only [St.kQ] at hc;cases hl:st.live (.b r j s m k y) with
   | true=>simp only [hl,ac6,ac3] at hc; subst hc; exact ⟨_,rfl,hr⟩
   | false=>simp [hl] at hc
 | pref r j s m i q =>
   simp only [St.kQ] at hc;cases hl:st.live (.pref r j s m i q) with
   | true=>simp only [hl,ac6,ac3] at hc; subst hc; exact ⟨_,rfl,hr⟩
   | false=>simp [hl] at hc
 | _=>simp [St.kQ] at hc
theorem sC (h:Rel cx Z g st a w):∀ (l:List AV) (vs:List Value) (cs:List RC),aP Z g st w l vs->st.j9 l=some cs->cs.length=vs.length/\(∀ v∈vs,v.cells = #[v]/\v.oneCell'=true) /\
 ∀ (j:Nat) (c:RC) (v:Value),cs[j]? = some c->vs[j]? = some v->∃ av,c.v= .av av/\bj Z g st w av v
 | [],[],cs,_,hc=>by simp only [St.j9,ac3] at hc; subst hc; exact ⟨rfl,by simp,by simp⟩
 | x :: l,v :: vs,cs,hr,hc=>by
   simp only [St.j9] at hc;split at hc
   . rename_i c cs' h1 h2;simp only [ac3] at hc;subst hc;obtain ⟨e1,e2,e3⟩:=sC h l vs cs' hr.2 h2;refine ⟨by simp [e1],?_,?_⟩
     . intro u hu;rcases adg.1 hu with rfl | hu
       . exact Ao h hr.1 (zX h1)
       . exact e2 u hu
     . intro j c' u hj hu;cases j with
       | zero=>simp at hj hu; subst hj; subst hu; exact Ke h hr.1 h1
       | succ j=>simp at hj hu; exact e3 j c' u hj hu
   . simp at hc
 | [],_ :: _,_,hr,_=>hr.elim
 | _ :: _,[],_,hr,_=>hr.elim
theorem kG (h:Rel cx Z g st a w) {tv:TV} {v:Value} {p:Bool×List AV} (hr:bD Z g st w tv v) (hp:tv.db = some p) (hl:p.2.all st.live=true):aP Z g st w p.2 v.cells.toList/\v.cells.size=p.2.length:=by
 cases tv with
 | v x => simp only [TV.db,ac3] at hp;subst hp;simp only [aef,List.all_nil,Bool.and_true] at hl;have:=(Ao h hr hl).1;rw [this];exact ⟨⟨hr,trivial⟩,rfl⟩
 | agg l => simp only [TV.db,ac3] at hp;subst hp;obtain ⟨vs,rfl,hr⟩:=hr;exact ⟨hr,by show vs.size=l.length; have:=dk hr; simpa using this.symm⟩
 | _=>simp [TV.db] at hp
theorem vM:∀ (l:List AV) (cs:List RC),st.j9 l=some cs->l.all st.live=true
 | [],_,_=>rfl
 | x :: l,cs,hc=>by
   simp only [St.j9] at hc;split at hc
   . rename_i c cs' h1 h2;simp [zX h1,vM l cs' h2]
   . simp at hc
theorem MZ (hT:bK P E) (h:Rel cx Z g st a w) {o:Oper} {d:Nat} (hd:o.dst=some d) (hdn:jG cx a d) (hf:st.free d=true) {t:TypeId} (ho:o.op= .alloc t) {ti:TI} (hti:E.ti t=some ti) :
 di P cx st a w o d (.v (.ptr d 0),some ⟨true,ti.ks.map mg⟩):=by
 obtain ⟨z,hz,hzc⟩:=rO (hT t ti hti) w;intro next Q hk;have hrun:(execOp a.eval o).run P w= .ok (.value (.pointer (some ⟨w.heap.size,0,none⟩))) (w.alloc (.cells z.cells t (0,0))):=by simp [execOp,ho,Instr.alloc,hz,newVar,newRow]
 unfold Oper.wp;rw [hrun,adI,hd];obtain ⟨g',hg,_⟩:=h.Bs (d:=d) hdn hf (cs:=z.cells) (e:=t) (l:=ti.ks.map mg) (by rw [<- adW,hzc]; simp) (fun j c v hj hv=>by left;rw [<- ac8,hzc] at hv;simp only [adY,ae7] at hj hv;obtain ⟨k0,e1,rfl⟩:=hj;obtain ⟨k1,e2,rfl⟩:=hv;rw [e1] at e2;simp only [ac3] at e2;subst e2;exact ⟨k0,rfl,rfl⟩) (tv:= .v (.ptr d 0)) (v:= .pointer (some ⟨w.heap.size,0,none⟩)) (.inl ⟨rfl,rfl⟩);exact hk _ _ _ _ hg
theorem XY (hT:bK P E) (h:Rel cx Z g st a w) (hc:Cons st) {o:Oper} {d:Nat} (hd:o.dst=some d) (hdn:jG cx a d) (hf:st.free d=true) {t:TypeId} {x:Operand} (ho:o.op= .box t x) {tv:TV} {p:Bool×List AV} {l:List RC}
 (hx:st.get x=some tv) (hp:tv.db = some p) (hl:st.j9 p.2=some l):di P cx st a w o d (.v (.ptr d 0),some ⟨true,l⟩):=by
 have hr:=aM h hc hx;obtain ⟨h1,h2⟩:=kG h hr hp (vM _ _ hl);obtain ⟨e1,e2,e3⟩:=sC h _ _ _ h1 hl;intro next Q hk;have hrun:(execOp a.eval o).run P w= .ok (.value (.pointer (some ⟨w.heap.size,0,none⟩))) (w.alloc (.cells (a.eval x).cells t (0,0))):=by simp [execOp,ho,Instr.box,newVar,newRow]
 unfold Oper.wp;rw [hrun,adI,hd];obtain ⟨g',hg,_⟩:=h.Bs (d:=d) hdn hf (cs:=(a.eval x).cells) (e:=t) (l:=l) (by rw [e1]; simp) (fun j c v hj hv=> .inr (e3 j c v hj (by rw [ac8]; exact hv))) (tv:= .v (.ptr d 0)) (v:= .pointer (some ⟨w.heap.size,0,none⟩)) (.inl ⟨rfl,rfl⟩);exact hk _ _ _ _ hg
theorem xT (h:Rel cx Z g st a w) (hc:Cons st) {o:Oper} {d:Nat} (hd:o.dst=some d) (hdn:jG cx a d) {x:Operand} (ho:o.op= .nilCheck x) {av:AV} (hx:st.get x=some (.v av)) (hp:(∃ r j,av= .ptr r j)∨(∃ r j s i c,av= .pel r j s i c)/\st.live av=true) :
 di P cx st a w o d (.v av,none):=by
 have hr:bj Z g st w av (a.eval x):=aM h hc hx;have:∃ ad,a.eval x= .pointer (some ad):=by
  rcases hp with ⟨r,j,rfl⟩ | ⟨⟨r,j,s,i,c,rfl⟩,hl⟩
  . obtain ⟨_,_,_,e⟩:=hr; exact ⟨_,e⟩
  . obtain ⟨cc,h1,_,h3⟩:=hr;simp only [St.live,h1] at hl;obtain ⟨_,_,_,_,_,_,_,_,_,_,e⟩:=h3 (beq_eq hl);exact ⟨_,e⟩
 obtain ⟨ad,e⟩:=this;exact cq h hd hdn (v:=a.eval x) (by simp [execOp,ho,e]) hr
theorem Hv {x y:AV} {n:Nat} {v:Value} (hr:bj Z g st w x v) (hy:yr n x=some y) (hl:st.live x=true):∃ b o,v= .pointer (some ⟨b,o,none⟩)/\bj Z g st w y (.pointer (some ⟨b,o + n,none⟩)):=by
 cases x with
 | ptr r j => simp only [yr,ac3] at hy;subst hy;obtain ⟨R,h1,h2,rfl⟩:=hr;exact ⟨_,_,rfl,R,h1,h2,rfl⟩
 | pel r j s i c => simp only [yr,ac3] at hy;subst hy;obtain ⟨cc,h1,h2,h3⟩:=hr;simp only [St.live,h1] at hl;obtain ⟨e,ks,xs,g1,g2,b,o,len,cap,g4,rfl⟩:=h3 (beq_eq hl);exact ⟨_,_,rfl,cc,h1,h2,fun _=>⟨e,ks,xs,g1,g2,b,o,len,cap,g4,by rw [aeK]⟩⟩
 | rp dep e ks xs i c =>
   simp only [yr,ac3] at hy;subst hy;cases dep with
   | none => obtain ⟨h0,b,o,h1,h2,rfl,h4⟩:=hr;exact ⟨_,_,rfl,h0,b,o,h1,h2,by rw [aeK],h4⟩
   | some dd => obtain ⟨r,j,s,m⟩:=dd;obtain ⟨cc,h1,h2,h3,h4⟩:=hr;simp only [St.live,h1,ac5] at hl;obtain ⟨h0,b,o,g1,g2,rfl,g4⟩:=h4 (beq_eq hl.1) (beq_eq hl.2);exact ⟨_,_,rfl,cc,h1,h2,h3,fun _ _=>⟨h0,b,o,g1,g2,by rw [aeK],g4⟩⟩
 | _=>simp [yr] at hy
theorem ny (hT:bK P E) {t:TypeId} {ti:TI} (hti:E.ti t=some ti) {f o u:Nat} (hf:FL ti.flds f=some (o,u)) (hag:ti.agg=true) :
 ∃ fs fi,P.underlying t=some (.struct fs)/\fs[f]? = some fi/\fi.offset=o/\fi.type=u/\∃ i,P.info? u=some i/\i.size≠0:=by
 obtain ⟨dd,hu,hdd⟩:=(hT t ti hti).desc;cases dd with
 | struct fs => obtain ⟨_,h1,h2⟩:=hdd;obtain ⟨fi,e1,e2,e3⟩:=h1 f o u hf;obtain ⟨i,e4,e5⟩:=h2 fi (by rw [<- ac8] at e1; exact ade e1);exact ⟨fs,fi,hu,e1,e2,e3,i,by rw [<- e3]; exact e4,e5⟩
 | _=>simp [gM,hag] at hdd
theorem BC (hT:bK P E) (h:Rel cx Z g st a w) (hc:Cons st) {o:Oper} {d:Nat} (hd:o.dst=some d) (hdn:jG cx a d) {t:TypeId} {x:Operand} {f:Nat} (ho:o.op= .fieldAddr t x f) {ti:TI} {p:Nat×Nat} {tv:TV} {av av':AV}
 (hti:E.ti t=some ti) (hag:ti.agg=true) (hf:FL ti.flds f=some p) (hx:st.get x=some tv) (ha:tv.Cp = some av) (hl:st.live av=true) (ho':yr p.1 av=some av'):di P cx st a w o d (.v av',none):=by
 obtain ⟨b,of,e1,e2⟩:=Hv (rN (aM h hc hx) ha) ho' hl;obtain ⟨fs,fi,hu,g1,g2,g3,i,g4,g5⟩:=ny hT hti (o:=p.1) (u:=p.2) hf hag;refine cq h hd hdn (v:= .pointer (some ⟨b,of + p.1,none⟩)) ?_ e2;have g4':P.info? fi.type=some i:=by rw [g3]; exact g4
 have hsz:∀ w,(sizeOf fi.type).run P w= .ok i.size w:=fun w=>by simp [sizeOf,typeInfo,g4']
 simp [execOp,ho,Instr.fieldAt,adH hu,g1,e1,Instr.sureAddr,fieldPlace,hsz,g5,g2,gI]
theorem w9 {l:List AV} {vs:List Value} (h:aP Z g st w l vs) (o n:Nat):aP Z g st w (pH l o n) ((vs.drop o).take n):=by
 refine lr ?_ ?_
 . simp [pH,dk h]
 . intro j x v hx hv;unfold pH at hx;rw [ad6] at hx hv;split at hx
   . rename_i hj;rw [if_pos hj] at hv;rw [aer] at hx hv;exact lP h _ _ _ hx hv
   . simp at hx
theorem Ot (hT:bK P E) (h:Rel cx Z g st a w) (hc:Cons st) {o:Oper} {d:Nat} (hd:o.dst=some d) (hdn:jG cx a d) {t:TypeId} {x:Operand} {f:Nat} (ho:o.op= .field t x f) {ti tf:TI} {p:Nat×Nat} {l:List AV} {tv:TV}
 (hti:E.ti t=some ti) (hag:ti.agg=true) (hf:FL ti.flds f=some p) (htf:E.ti p.2=some tf) (hx:st.get x=some (.agg l)) (hlen:p.1 + tf.ks.length<=l.length) (hw:ff tf.agg (pH l p.1 tf.ks.length)=some tv):di P cx st a w o d (tv,none):=by
 obtain ⟨vs,e1,e2⟩:=aM h hc hx;obtain ⟨fs,fi,hu,g1,g2,g3,i,g4,g5⟩:=ny hT hti (o:=p.1) (u:=p.2) hf hag;have hT2:=hT p.2 tf htf;have hl:=dk e2;have hs:=w9 e2 p.1 tf.ks.length;unfold ff at hw;split at hw
 . rename_i l' hagg;simp only [ac3] at hw;subst hw;have hia:=nI hT2 w;rw [hagg] at hia;refine cq h hd hdn (v:= .agg (vs.extract p.1 (p.1 + tf.ks.length))) ?_ ⟨_,rfl,?_⟩
   . simp [execOp,ho,Instr.field,adH hu,g1,e1,asAgg,part,g3,hia,bM hT2 w,g2]
   . rw [Array.toList_extract];simpa [List.extract,aeo] using hs
 . rename_i av hagg hss;simp only [ac3] at hw;subst hw;have hia:=nI hT2 w;rw [hagg] at hia;rw [hss] at hs;have h1:tf.ks.length=1:=by
    have:=adU List.length hss;simp [pH] at this;omega
   have hlt:p.1 < vs.size:=by
    have:l.length=vs.size:=by simpa using hl
    omega
   have hv:(vs.toList.drop p.1).take tf.ks.length=[vs[p.1]]:=by rw [h1];rw [afA (by simpa using hlt)];simp
   rw [hv] at hs;refine cq h hd hdn (v:=vs[p.1]) ?_ hs.1;simp [execOp,ho,Instr.field,adH hu,g1,e1,asAgg,part,g3,hia,g2,hlt]
 . simp at hw
end
end Go.Av
namespace Go.Av
open Go.RowKit (Below)
theorem yP {α:Type} (l:List α) (n:Nat) (c:α) (h:n < l.length):(l.set n c).take (n + 1)=l.take n ++ [c]:=by rw [List.take_succ_eq_append_getElem (by simpa using h)];rw [List.take_set,List.set_eq_of_length_le (by rw [adJ]; omega)];simp
theorem ze:∀ (p:List Value) (s off:Nat) (cs:Array Value),off + s + p.length<=cs.size ->
 ((p.zipIdx s).foldl (fun (cs:Array Value) (x:Value×Nat)=>cs.setIfInBounds (off + x.2) x.1) cs).toList=cs.toList.take (off + s) ++ p ++ cs.toList.drop (off + s + p.length)
 | [],s,off,cs,_=>by simp
 | c :: r,s,off,cs,h=>by simp only [ac9] at h;rw [List.zipIdx_cons,aes];rw [ze r (s + 1) off _ (by simp; omega)];simp only [Array.toList_setIfInBounds];rw [show off + (s + 1)=off + s + 1 by omega,yP _ _ _ (by simp; omega)];rw [List.drop_set,if_pos (by omega)];simp only [ac9,adB,afK,aee];rw [show off + s + 1 + r.length=off + s + (r.length + 1) by omega]
section
variable {P:Program} {cx:Cx P} {Z:Nat->Prop} {g:Gh} {st:St} {a:Act} {w:World} {E:En}
theorem iJ:∀ {l l':List AV} {vs vs':List Value},aP Z g st w l vs->aP Z g st w l' vs'->aP Z g st w (l ++ l') (vs ++ vs')
 | [],_,[],_,_,h=>h
 | _ :: l,_,_ :: vs,_,h1,h2=>⟨h1.1,iJ h1.2 h2⟩
 | [],_,_ :: _,_,h,_=>h.elim
 | _ :: _,_,[],_,h,_=>h.elim
theorem mP {l:List AV} {vs:List Value} (h:aP Z g st w l vs) (n:Nat):aP Z g st w (l.take n) (vs.take n):=by have:=w9 h 0 n;simpa [pH] using this
theorem kq:∀ {l:List AV} {vs:List Value},aP Z g st w l vs->∀ n,aP Z g st w (l.drop n) (vs.drop n)
 | l,vs,h,0=>by simpa using h
 | [],[],_,n + 1=>by simp; trivial
 | _ :: l,_ :: vs,h,n + 1=>by simpa using kq h.2 n
 | [],_ :: _,h,_ + 1=>h.elim
 | _ :: _,[],h,_ + 1=>h.elim
theorem HC {l p:List AV} {vs ps:List Value} (h1:aP Z g st w l vs) (h2:aP Z g st w p ps) (o:Nat):aP Z g st w (putAt l o p) (vs.take o ++ ps ++ vs.drop (o + ps.length)):=by unfold putAt;rw [dk h2];exact iJ (iJ (mP h1 o) h2) (kq h1 _)
theorem yA (h:Rel cx Z g st a w) (hc:Cons st) {place:Nat->Option (Nat×Nat)} {step:List AV->Nat×Operand->Option (List AV)}
 (hstep:∀ l l' i x,step l (i,x)=some l'->∃ tv p o,st.get x=some tv/\tv.db = some p/\p.2.all st.live=true/\place i=some (o,p.2.length)/\o + p.2.length<=l.length/\l'=putAt l o p.2) :
 ∀ (parts:List (Nat×Operand)) (l l':List AV) (cs:Array Value),aP Z g st w l cs.toList->ja step l parts=some l'->∃ cs',Instr.fill place cs (parts.map fun q=>(q.1,a.eval q.2))=some cs'/\aP Z g st w l' cs'.toList
 | [],l,l',cs,hr,hf=>by simp only [ja,ac3] at hf;subst hf;exact ⟨cs,rfl,hr⟩
 | (i,x) :: r,l,l',cs,hr,hf=>by
   simp only [ja] at hf;cases hs:step l (i,x) with
   | none=>simp [hs] at hf
   | some l1 =>
     simp only [hs] at hf;obtain ⟨tv,p,o,e1,e2,e3,e4,e5,rfl⟩:=hstep l l1 i x hs;obtain ⟨hv,hsz⟩:=kG h (aM h hc e1) e2 e3;have hlen:l.length=cs.size:=by simpa using dk hr
     have hput:=ze (a.eval x).cells.toList 0 o cs (by simp only [adW]; omega);have hrel:=HC hr hv o;have harr:((a.eval x).cells.zipIdx.foldl (fun (cs:Array Value) (x:Value×Nat)=>cs.setIfInBounds (o + x.2) x.1) cs).toList=cs.toList.take o ++ (a.eval x).cells.toList ++ cs.toList.drop (o + (a.eval x).cells.toList.length):=by rw [adO] at hput;rw [<- hput,<- Array.foldl_toList,Array.toList_zipIdx]
     obtain ⟨cs',e6,e7⟩:=yA h hc hstep r _ l' ((a.eval x).cells.zipIdx.foldl (fun (cs:Array Value) (x:Value×Nat)=>cs.setIfInBounds (o + x.2) x.1) cs) (by rw [harr]; exact hrel) hf;refine ⟨cs',?_,e7⟩;simp only [ad4,Instr.fill,e4];rw [if_neg (by simp [hsz]; omega)];exact e6
theorem Nz (hT:bK P E) (h:Rel cx Z g st a w) (hc:Cons st) {o:Oper} {d:Nat} (hd:o.dst=some d) (hdn:jG cx a d) {t:TypeId} {parts:Array (Nat×Operand)} (ho:o.op= .build t parts) {ti:TI} {l:List AV}
 (hti:E.ti t=some ti) (hag:ti.agg=true) (hl:ja (rM E st ti.flds) (ti.ks.map kV) parts.toList=some l):di P cx st a w o d (.agg l,none):=by
 have hTi:=hT t ti hti;obtain ⟨i,e1,e2,e3,z,e4,e5⟩:=hTi.info;obtain ⟨dd,hu,hdd⟩:=hTi.desc;cases dd with
 | struct fs =>
   obtain ⟨_,h1,h2⟩:=hdd;have hm:∀ (L:List Go.Field),(∀ fi∈L,∃ i,P.info? fi.type=some i/\i.size≠0)->∃ places,L.mapM (fun f=>(P.info? f.type).map fun i=>(f.offset,i.size))=some places/\∀ (j:Nat) (fi:Go.Field) (i:TypeInfo),L[j]? = some fi->P.info? fi.type=some i->places[j]? = some (fi.offset,i.size):=by
    intro L;induction L with
    | nil=>intro _; exact ⟨[],by simp,by simp⟩
    | cons fi L ih =>
      intro hL;obtain ⟨i,g1,_⟩:=hL fi (by simp);obtain ⟨places,g2,g3⟩:=ih (fun f hf=>hL f (by simp [hf]));refine ⟨(fi.offset,i.size) :: places,by simp [List.mapM_cons,g1,g2],?_⟩;intro j f' i' hj hi';cases j with
      | zero=>simp at hj; subst hj; rw [g1] at hi'; simp at hi'; subst hi'; rfl
      | succ j=>simp at hj ⊢; exact g3 j f' i' hj hi'
   obtain ⟨places,hp1,hp2⟩:=hm fs.toList h2;have hz:aP Z g st w (ti.ks.map kV) z.cells.toList:=by
    rw [e5];refine lr (by simp) ?_;intro j x v hx hv;simp only [adY,ae7] at hx hv;obtain ⟨k0,q1,rfl⟩:=hx;obtain ⟨k1,q2,rfl⟩:=hv;rw [q1] at q2;simp only [ac3] at q2;subst q2;cases k0 with
    | int k=>exact ⟨rfl,by unfold mq; cases k <;> simp [IntKind.min,IntKind.max,IntKind.signed,IntKind.bits]⟩
    | bool=>rfl
    | str=>exact ⟨rfl,adM _⟩
    | sl e ks=>rfl
   obtain ⟨cs',q1,q2⟩:=yA h hc (place:=(places.toArray[·]?)) (step:=rM E st ti.flds) (fun l l' i x hs=>by
    unfold rM at hs;split at hs
    . rename_i of u tv hf hg;split at hs
      . rename_i gg p tu hp htu;cases hb:Nat.beq p.length tu.ks.length && p.all st.live && Nat.ble (of + p.length) l.length with
        | false=>simp [hb] at hs
        | true => simp only [hb,ac6,ac3] at hs;simp only [ac5] at hb;obtain ⟨fi,s1,s2,s3⟩:=h1 _ _ _ hf;obtain ⟨iu,t1,t2,_⟩:=(hT u tu htu).info;have:places[i]? = some (fi.offset,iu.size):=hp2 i fi iu (by rw [ac8]; exact s1) (by rw [s3]; exact t1);refine ⟨tv,(gg,p),of,hg,hp,hb.1.2,?_,adC hb.2,hs.symm⟩;simp only [adS,this,s2,t2];rw [beq_eq hb.1.1]
      . simp at hs
    . simp at hs) parts.toList _ l z.cells hz hl
   have hb:P.built t (parts.map fun q=>(q.1,a.eval q.2)).toList=some cs':=by simp only [Program.built,e1,hu,e4,hp1,Array.toList_map];exact q1
   have hrun:=run_build (P:=P) w t (parts.map fun q=>(q.1,a.eval q.2)) cs' hb;exact cq h hd hdn (v:= .agg cs') (by simp only [execOp,ho]; simp [hrun]) ⟨cs',rfl,q2⟩
 | _=>simp [gM,hag] at hdd
end
end Go.Av
namespace Go.Av
open Go.RowKit (Below)
theorem rq {α:Type}:∀ (n:Nat) (l:List α),(oe n l).length=n * l.length
 | 0,_=>by simp [oe]
 | n + 1,l=>by simp [oe,rq n l,Nat.succ_mul]; omega
theorem xj {α:Type}:∀ (n:Nat) (l:List α) (i:Nat),i < n * l.length->(oe n l)[i]? = l[i % l.length]?
 | 0,_,_,h=>by simp at h
 | n + 1,l,i,h=>by
   simp only [oe];by_cases hi:i < l.length
   . rw [ad3 hi,aex hi]
   . rw [adV (by omega),xj n l (i - l.length) (by rw [adR,aeE] at h; omega)];rw [<- Nat.mod_eq_sub_mod (by omega)]
theorem rn (n:Nat) (z:Array Value):((Array.range (n * z.size)).map fun i=>z[i % z.size]!).toList=oe n z.toList:=by
 apply afG;intro i;by_cases hi:i < n * z.size
 . rw [xj n z.toList i (by simpa using hi)];have hz:0 < z.size:=by
    rcases aeU z.size with h | h
    . rw [h,Nat.mul_zero] at hi; omega
    . exact h
   have hm:i % z.size < z.size:=afQ _ hz;simp only [Array.toList_map,adY,ac8,adW];rw [aeG (by simpa using hi),aeG hm];simp [hm]
 . rw [adp (by simp; omega),adp (by rw [rq]; simpa using hi)]
section
variable {P:Program} {cx:Cx P} {Z:Nat->Prop} {g:Gh} {st:St} {a:Act} {w:World} {E:En}
theorem Kl (ks:List K):aP Z g st w (ks.map kV) (ks.map zV):=by
 refine lr (by simp) ?_;intro j x v hx hv;simp only [adY,ae7] at hx hv;obtain ⟨k0,q1,rfl⟩:=hx;obtain ⟨k1,q2,rfl⟩:=hv;rw [q1] at q2;simp only [ac3] at q2;subst q2;cases k0 with
 | int k=>exact ⟨rfl,by unfold mq; cases k <;> simp [IntKind.min,IntKind.max,IntKind.signed,IntKind.bits]⟩
 | bool=>rfl
 | str=>exact ⟨rfl,adM _⟩
 | sl e ks=>rfl
theorem BA {l:List AV} {vs:List Value} (h:aP Z g st w l vs):∀ n,aP Z g st w (oe n l) (oe n vs)
 | 0=>trivial
 | n + 1=>iJ h (BA h n)
theorem pw:∀ (n:Nat) (ks:List K) (l:List AV) (xs:List (Tl ks)),chunks st ks n l=some xs->l.length=n * ks.length->xs.length=n/\∀ (i:Nat) (x:Tl ks),xs[i]? = some x->st.readAll ks ((l.drop (i * ks.length)).take ks.length)=some x
 | 0,ks,l,xs,h,hl=>by have hl0:l=[]:=adl.1 (by simpa using hl);subst hl0;simp only [chunks,ac3] at h;subst h;exact ⟨rfl,by simp⟩
 | n + 1,ks,l,xs,h,hl=>by
   simp only [chunks] at h;split at h
   . rename_i x r h1 h2;simp only [ac3] at h;subst h;obtain ⟨e1,e2⟩:=pw n ks _ r h2 (by rw [adZ,hl,Nat.succ_mul]; omega);refine ⟨by simp [e1],fun i y hi => ?_⟩;cases i with
     | zero=>simp at hi; subst hi; simpa using h1
     | succ i => simp at hi;have:=e2 i y hi;rw [List.drop_drop] at this;rw [show (i + 1) * ks.length=ks.length + i * ks.length by rw [Nat.succ_mul]; omega];exact this
   . simp at h
theorem yX {Z Z':Nat->Prop} {w w':World} (hs:w.heap.size<=w'.heap.size) (hZ:∀ b,Z b->b < w.heap.size->Z' b/\w'.heap[b]? = w.heap[b]?):∀ (ks:List K) (x:Tl ks) (vs:List Value) (b o:Nat),ur Z w ks x vs->(∀ (j:Nat) (v:Value),vs[j]? = some v->w'.cell? ⟨b,o + j,none⟩=some v)->wP Z' w' ks x b o
 | [],_,_,_,_,_,_=>trivial
 | k :: ks,x,[],_,_,h,_=>h.elim
 | k :: ks,x,v :: vs,b,o,h,hc=>⟨⟨v,hc 0 v rfl,RO.mono hs hZ k _ v h.1⟩,yX hs hZ ks x.2 vs b (o + 1) h.2 (fun j u hj=>by rw [show o + 1 + j=o + (j + 1) by omega]; exact hc (j + 1) u (by simpa using hj))⟩
theorem zT (h:Rel cx Z g st a w) {w':World} (hs:w.heap.size<=w'.heap.size) {F:Nat->Nat->Prop}:∀ (ks:List K) (l:List AV) (vs:List Value) (x:Tl ks) (j:Nat) (cs:Array Value) (o:Nat),(flat ks=true∨l.all nL=true)->aP Z g st w l vs->st.readAll ks l=some x ->
 (∀ (i:Nat) (v:Value),vs[i]? = some v->cs[o + i]? = some v)->eP w' ks x j F cs o
 | [],_,_,_,_,_,_,_,_,_,_=>trivial
 | k :: ks,[],_,_,_,_,_,_,_,hx,_=>by simp [St.readAll] at hx
 | k :: ks,av :: l,[],_,_,_,_,_,hr,_,_=>hr.elim
 | k :: ks,av :: l,v :: vs,x,j,cs,o,hf,hr,hx,hc=>by
   unfold St.readAll at hx;split at hx
   . rename_i y z hy hz;cases hx;refine ⟨⟨v,hc 0 v rfl,?_⟩,zT h hs ks l vs z (j + 1) cs (o + 1) ?_ hr.2 hz (fun i u hi=>by rw [show o + 1 + i=o + (i + 1) by omega]; exact hc (i + 1) u (by simpa using hi))⟩
     . have hro:=lh h hr.1 hy;cases k with
       | int _=>exact hro
       | bool=>exact hro
       | str=>exact hro
       | sl e ks' =>
         rcases hf with hf | hf
         . simp [flat] at hf
         . simp only [aef,ac5] at hf;cases av with
           | nil => simp only [St.ct,ac3] at hy;cases hy;have:v= .slice none 0 0:=hr.1;subst this;exact jx e ks'
           | d k' y' => simp only [nL,adK] at hf;simp only [St.ct,St.read] at hy;obtain ⟨e1,_⟩:=cF hy;rw [e1] at hf;simp [lu] at hf
           | lb b=>simp only [St.ct,St.read] at hy; obtain ⟨e1,_⟩:=cF hy; cases e1
           | _=>simp [nL] at hf
     . rcases hf with hf | hf
       . cases k <;> simp [flat] at hf <;> exact .inl hf
       . simp only [aef,ac5] at hf; exact .inr hf.2
   . simp at hx
theorem ye {size:Nat} (l l':List AV) (i:Nat) (x:Operand) (hs:lv st size l (i,x)=some l'):∃ tv p o,st.get x=some tv/\tv.db = some p/\p.2.all st.live=true/\(fun i=>some (i * size,size)) i=some (o,p.2.length)/\o + p.2.length<=l.length/\l'=putAt l o p.2:=by
 unfold lv at hs;split at hs
 . rename_i tv hg;split at hs
   . rename_i gg p hp;cases hb:Nat.beq p.length size && p.all st.live && Nat.ble (i * size + p.length) l.length with
     | false=>simp [hb] at hs
     | true => simp only [hb,ac6,ac3] at hs;simp only [ac5] at hb;exact ⟨tv,(gg,p),i * size,hg,hp,hb.1.2,by rw [beq_eq hb.1.1],adC hb.2,hs.symm⟩
   . simp at hs
 . simp at hs
theorem zI {step:List AV->Nat×Operand->Option (List AV)} (hstep:∀ l l' q,step l q=some l'->l'.length=l.length):∀ (parts:List (Nat×Operand)) (l l':List AV),ja step l parts=some l'->l'.length=l.length
 | [],l,l',h=>by simp only [ja,ac3] at h; rw [h]
 | q :: r,l,l',h=>by
   simp only [ja] at h;split at h
   . rename_i l1 h1;rw [zI hstep r l1 l' h,hstep l l1 q h1]
   . simp at h
theorem jR (hT:bK P E) (h:Rel cx Z g st a w) (hc:Cons st) {o:Oper} {t:TypeId} {n:Nat} {parts:Array (Nat×Operand)} (ho:o.op= .buildSlice t n parts) {te:TI} {l:List AV} (hsl:∃ ti ks,E.ti t=some ti/\ti.agg=false/\ti.ks=[.sl ti.elem ks]/\E.ti ti.elem=some te)
 (hl:ja (lv st te.ks.length) (oe n (te.ks.map kV)) parts.toList=some l) (hn:n * te.ks.length<=1000) :
 ∃ cs e0,(execOp a.eval o).run P w= .ok (.value (.slice (some ⟨w.heap.size,0,none⟩) n n)) (w.alloc (.cells cs e0 (0,0)))/\aP Z g st w l cs.toList/\l.length=n * te.ks.length:=by
 obtain ⟨ti,ks,hti,hag,hks,hte⟩:=hsl;obtain ⟨dd,hu,hdd⟩:=(hT t ti hti).desc;have hu':P.underlying t=some (.slice ti.elem):=by cases dd <;> simp [gM,hag,hks] at hdd;rename_i e;rw [hdd];exact hu
 obtain ⟨z,hz,hzc⟩:=rO (hT _ te hte) w;have hzs:z.cells.size=te.ks.length:=by rw [<- adW,hzc]; simp
 have hrel0:aP Z g st w (oe n (te.ks.map kV)) ((Array.range (n * z.cells.size)).map fun i=>z.cells[i % z.cells.size]!).toList:=by rw [rn,hzc];exact BA (Kl te.ks) n
 obtain ⟨cs',q1,q2⟩:=yA h hc (place:=fun i=>some (i * te.ks.length,te.ks.length)) (step:=lv st te.ks.length) (fun l l' i x hs=>ye l l' i x hs) parts.toList _ l _ hrel0 hl;refine ⟨cs',ti.elem,?_,q2,?_⟩
 . have hcells:(if n * te.ks.length=0 then (#[]:Array Value) else z.cells)=(if n * te.ks.length=0 then #[] else z.cells):=rfl;have h24:¬ (n * te.ks.length > 2 ^ 24):=by omega
   simp only [execOp,ho,Instr.buildSlice,adv,adH hu',adh,bM (hT _ te hte),if_neg h24];by_cases h0:n * te.ks.length=0
   . have hn0:n * z.cells.size=0:=by rw [hzs]; exact h0
     have q1':=q1;rw [hn0] at q1';simp only [h0,if_true,adN,adh,adv];have e1:((Array.range 0).map fun i=>(#[]:Array Value)[i % (#[]:Array Value).size]!)=((Array.range 0).map fun i=>z.cells[i % z.cells.size]!):=by simp
     have e2:(Array.map (fun x=>(x.1,a.eval x.2)) parts).toList=parts.toList.map fun q=>(q.1,a.eval q.2):=by simp
     simp only [e1,e2,q1'];simp [newRow]
   . have e2:(Array.map (fun x=>(x.1,a.eval x.2)) parts).toList=parts.toList.map fun q=>(q.1,a.eval q.2):=by simp
     rw [hzs] at q1;simp only [h0,aek,adv,hz,adh,adN,e2,hzs,q1];simp [newRow]
 . rw [zI (fun l l' q hs=>by
    obtain ⟨tv,p,o,_,_,_,_,hle,rfl⟩:=ye l l' q.1 q.2 hs;simp only [putAt,ac4,adJ,adZ];omega) parts.toList _ l hl,rq]
   simp
end
end Go.Av
namespace Go.Av
open Go.RowKit (Below)
section
variable {P:Program} {cx:Cx P} {Z:Nat->Prop} {g:Gh} {st:St} {a:Act} {w:World} {E:En}
theorem gJ (w:World) (o:Obj):(w.alloc o).heap=w.heap.push o:=rfl
theorem alloc_old (w:World) (o:Obj) (b:Nat) (h:b < w.heap.size):(w.alloc o).heap[b]? = w.heap[b]? := by rw [gJ,ad0,if_neg (by omega)]
theorem tM (w:World) (o:Obj):(w.alloc o).heap[w.heap.size]? = some o:=by rw [gJ,ad0,if_pos rfl]
theorem C0 (hT:bK P E) (h:Rel cx Z g st a w) (hc:Cons st) {o:Oper} {d:Nat} (hd:o.dst=some d) (hdn:jG cx a d) (hf:st.free d=true) {t:TypeId} {n:Nat} {parts:Array (Nat×Operand)} (ho:o.op= .buildSlice t n parts) {ti te:TI} {l:List AV} {xs:List (Tl te.ks)}
 (hti:∃ ks,E.ti t=some ti/\ti.agg=false/\ti.ks=[.sl ti.elem ks]/\E.ti ti.elem=some te) (hl:ja (lv st te.ks.length) (oe n (te.ks.map kV)) parts.toList=some l) (hn:n * te.ks.length<=1000)
 (hx:chunks st te.ks n l=some xs) (hfl:flat te.ks=true∨l.all nL=true) (hbig:n<=aT):di P cx st a w o d (.v (.ref d 0 0),some ⟨false,[⟨0,0,.own (.sl ti.elem te.ks) xs⟩]⟩):=by
 obtain ⟨ks,h1,h2,h3,h4⟩:=hti;obtain ⟨cs,e0,hrun,hrel,hlen⟩:=jR hT h hc ho ⟨ti,ks,h1,h2,h3,h4⟩ hl hn;obtain ⟨c1,c2⟩:=pw n te.ks l xs hx hlen;have hcsz:cs.size=n * te.ks.length:=by have:=dk hrel; simp at this; omega
 intro next Q hk;unfold Oper.wp;rw [hrun,adI,hd];have hown:cO (w.alloc (.cells cs e0 (0,0))) (.sl ti.elem te.ks) xs (.slice (some ⟨w.heap.size,0,none⟩) n n) (fun b=>b=w.heap.size):=by
  refine ⟨some ⟨w.heap.size,0,none⟩,n,by rw [show (aG (e:=ti.elem) xs).length=n from c1],by rw [show (aG (e:=ti.elem) xs).length=n from c1]; exact ac7 _,by rw [show (aG (e:=ti.elem) xs).length=n from c1]; exact hbig,by simp,fun a' ha' => ?_⟩;simp only [ac3] at ha';subst ha';refine ⟨w.heap.size,0,cs,e0,(0,0),rfl,rfl,tM _ _,by simp,by rw [hcsz]; omega,fun _ _ _=>False,fun _ _ _ hh=>hh.elim,fun _ _ _ _ _ hh=>hh.elim,fun i x hi => ?_⟩;have hil:i < n:=by
   rcases adj i n with hh | hh
   . exact hh
   . have:xs[i]? = none:=adp (by omega);rw [show (aG (e:=ti.elem) xs)[i]? = xs[i]? from rfl,this] at hi;simp at hi
  have hm:=adz te.ks.length hil;rw [Nat.succ_mul] at hm;refine zT h (by rw [gJ,aeP]; omega) te.ks _ (((cs.toList.drop (i * te.ks.length)).take te.ks.length)) x 0 cs _ ?_ (mP (kq hrel _) _) (c2 i x hi) ?_
  . rcases hfl with hh | hh
    . exact .inl hh
    . right;rw [adx] at hh ⊢;exact fun y hy=>hh y (afx (afR hy))
  . intro j v hj;rw [ad6] at hj;split at hj
    . rw [aer,ac8] at hj;rw [adA];exact hj
    . simp at hj
 obtain ⟨g',hg⟩:=h.newRow (d:=d) hdn hf (w':=w.alloc (.cells cs e0 (0,0))) rfl rfl rfl (gJ _ _) hown;exact hk _ _ _ _ hg
theorem DX (hT:bK P E) (h:Rel cx Z g st a w) (hc:Cons st) {o:Oper} {d:Nat} (hd:o.dst=some d) (hdn:jG cx a d) {t:TypeId} {n:Nat} {parts:Array (Nat×Operand)} (ho:o.op= .buildSlice t n parts) {ti te:TI} {l:List AV} {xs:List (Tl te.ks)}
 (hti:∃ ks,E.ti t=some ti/\ti.agg=false/\ti.ks=[.sl ti.elem ks]/\E.ti ti.elem=some te) (hl:ja (lv st te.ks.length) (oe n (te.ks.map kV)) parts.toList=some l) (hn:n * te.ks.length<=1000)
 (hx:chunks st te.ks n l=some xs) (hfl:l.all AV.bP=true) (hbig:n<=aT):di P cx st a w o d (.v (.d (.sl ti.elem te.ks) xs),none):=by
 obtain ⟨ks,h1,h2,h3,h4⟩:=hti;obtain ⟨cs,e0,hrun,hrel,hlen⟩:=jR hT h hc ho ⟨ti,ks,h1,h2,h3,h4⟩ hl hn;obtain ⟨c1,c2⟩:=pw n te.ks l xs hx hlen;have hcsz:cs.size=n * te.ks.length:=by have:=dk hrel; simp at this; omega
 intro next Q hk;unfold Oper.wp;rw [hrun,adI,hd];have hs:w.heap.size<=(w.alloc (.cells cs e0 (0,0))).heap.size:=by rw [gJ,aeP]; omega
 have hs':(w.alloc (.cells cs e0 (0,0))).heap.size=w.heap.size + 1:=by rw [gJ,aeP]
 have hz:=h.Ac (Z':=fun b=>Z b∨b=w.heap.size) (w':=w.alloc (.cells cs e0 (0,0))) rfl rfl rfl hs (fun b hb=>alloc_old _ _ _ hb) (fun b hb=> .inl hb) (fun b hb=>hb.imp id (fun e=>⟨by omega,by omega⟩));refine hk _ _ _ _ (hz.fA hdn ?_);show RO _ _ _ _ _;refine ⟨some ⟨w.heap.size,0,none⟩,n,by rw [show (aG (e:=ti.elem) xs).length=n from c1],by rw [show (aG (e:=ti.elem) xs).length=n from c1]; exact ac7 _,by rw [show (aG (e:=ti.elem) xs).length=n from c1]; exact hbig,by simp,fun _=>⟨w.heap.size,0,rfl,.inr rfl,by omega,fun i x hi => ?_⟩⟩;refine yX (Z:=Z) hs (fun b hb hlt=>⟨.inl hb,alloc_old _ _ _ hlt⟩) te.ks x ((cs.toList.drop (i * te.ks.length)).take te.ks.length) _ _ (dK h te.ks _ _ x (mP (kq hrel _) _) ?_ (c2 i x hi)) ?_
 . rw [adx] at hfl ⊢;exact fun y hy=>hfl y (afx (afR hy))
 . intro j v hj;rw [ad6] at hj;split at hj
   . rw [aer,ac8] at hj;simp only [World.cell?,tM,adA];simpa using hj
   . simp at hj
theorem A8 (hT:bK P E) (h:Rel cx Z g st a w) (hc:Cons st) {o:Oper} {d:Nat} (hd:o.dst=some d) (hdn:jG cx a d) (hf:st.free d=true) {t:TypeId} {n:Nat} {parts:Array (Nat×Operand)} (ho:o.op= .buildSlice t n parts) {ti te:TI} {l:List AV}
 (hti:∃ ks,E.ti t=some ti/\ti.agg=false/\ti.ks=[.sl ti.elem ks]/\E.ti ti.elem=some te) (hl:ja (lv st te.ks.length) (oe n (te.ks.map kV)) parts.toList=some l) (hn:n * te.ks.length<=1000) :
 di P cx st a w o d (.v (.brow d n),some ⟨true,l.map fun a=>⟨0,0,.av a⟩⟩):=by
 obtain ⟨ks,h1,h2,h3,h4⟩:=hti;obtain ⟨cs,e0,hrun,hrel,hlen⟩:=jR hT h hc ho ⟨ti,ks,h1,h2,h3,h4⟩ hl hn;intro next Q hk;unfold Oper.wp;rw [hrun,adI,hd];obtain ⟨g',hg,_⟩:=h.Bs (d:=d) hdn hf (cs:=cs) (e:=e0) (l:=l.map fun a=>⟨0,0,.av a⟩) (by have:=dk hrel; simpa using this) (fun j c v hj hv=>by right;simp only [adY,ae7] at hj;obtain ⟨av,e1,rfl⟩:=hj;exact ⟨av,rfl,lP hrel j av v e1 (by rw [ac8]; exact hv)⟩) (tv:= .v (.brow d n)) (v:= .slice (some ⟨w.heap.size,0,none⟩) n n) (.inr ⟨n,rfl,rfl⟩);exact hk _ _ _ _ hg
theorem nB {w:World} {F:Nat->Nat->Prop}:∀ (ks:List K) (j:Nat) (cs:Array Value) (o:Nat),(∀ (i:Nat) (v:Value),(ks.map zV)[i]? = some v->cs[o + i]? = some v)->eP w ks (dZ ks) j F cs o
 | [],_,_,_,_=>trivial
 | k :: ks,j,cs,o,h=>by
   refine ⟨⟨zV k,h 0 _ rfl,?_⟩,nB ks (j + 1) cs (o + 1) (fun i v hi=>by rw [show o + 1 + i=o + (i + 1) by omega]; exact h (i + 1) v (by simpa using hi))⟩;cases k with
   | int k=>exact ⟨rfl,by unfold mq; cases k <;> simp [dZ,dfl,IntKind.min,IntKind.max,IntKind.signed,IntKind.bits]⟩
   | bool=>rfl
   | str=>exact ⟨rfl,adM _⟩
   | sl e ks=>exact jx e ks
theorem Cr (hT:bK P E) (h:Rel cx Z g st a w) {o:Oper} {d:Nat} (hd:o.dst=some d) (hdn:jG cx a d) (hf:st.free d=true) {t:TypeId} {xn xc:Operand} (ho:o.op= .makeSlice t xn xc) {k k':IntKind} {n:Int} (h1:a.eval xn= .int k n) (h2:a.eval xc= .int k' n)
 {ti te:TI} (hti:∃ ks,E.ti t=some ti/\ti.agg=false/\ti.ks=[.sl ti.elem ks]/\E.ti ti.elem=some te) (h0:0<=n) (hb:n * te.bytes<=aT) (hby:0 < te.bytes) :
 di P cx st a w o d (.v (.ref d 0 0),some ⟨false,[⟨0,0,.own (.sl ti.elem te.ks) (List.replicate n.toNat (dZ te.ks))⟩]⟩):=by
 obtain ⟨ks,e1,e2,e3,e4⟩:=hti;obtain ⟨dd,hu,hdd⟩:=(hT t ti e1).desc;have hu':P.underlying t=some (.slice ti.elem):=by cases dd <;> simp [gM,e2,e3] at hdd;rw [hdd];exact hu
 obtain ⟨z,hz,hzc⟩:=rO (hT _ te e4) w;have hzs:z.cells.size=te.ks.length:=by rw [<- adW,hzc]; simp
 obtain ⟨i,hi1,hi2,hi3⟩:=yN (hT _ te e4) w;have hnb:n<=aT:=by have:n * 1<=n * te.bytes:=aft (by omega) h0;omega
 have hbig:(aT:Int)=140737488355328:=rfl;have hwrap:IntKind.i64.wrap n=n:=Gk (by unfold mq; simp [IntKind.min,IntKind.max,IntKind.signed,IntKind.bits]; omega);let m:=n.toNat;have hm:(m:Int)=n:=Int.toNat_of_nonneg h0;let cs:Array Value:=(Array.range (m * z.cells.size)).map fun i=>z.cells[i % z.cells.size]!
 have hcs:cs.toList=oe m (te.ks.map zV):=by show ((Array.range (m * z.cells.size)).map _).toList=_; rw [rn,hzc]
 have hrun:(execOp a.eval o).run P w= .ok (.value (.slice (some ⟨w.heap.size,0,none⟩) m m)) (w.alloc (.cells cs ti.elem (0,0))):=by
  have hbt:¬ ((te.bytes:Int) * n > 2 ^ 48):=by rw [Int.mul_comm]; omega
  have hroom:¬ (n.toNat * te.bytes > roomBytes):=by
   have:((n.toNat * te.bytes:Nat):Int)<=aT:=by push_cast; rw [hm]; exact hb
   unfold roomBytes;unfold aT at this;omega
  simp only [execOp,ho,Instr.makeSlice,adv,adH hu',adh,h1,h2,asInt,asIntOf,adN,hi1,hi3,hwrap];have c1:(decide (n < 0))=false:=by simp; omega
  have c2:(decide ((te.bytes:Int) * n > 2 ^ 48))=false:=by simp only [afk]; exact hbt
  have c3:(decide (n > n))=false:=by simp
  simp only [c1,c2,c3,Bool.or_self,adQ,aek,askRoom,hroom,adN,adh,bM (hT _ te e4),adv];by_cases h0':n.toNat * te.ks.length=0
  . have hn0:m * z.cells.size=0:=by rw [hzs]; exact h0'
    have:cs = #[]:=by show (Array.range (m * z.cells.size)).map _=_; rw [hn0]; simp
    simp [h0',newRow,this];exact ⟨rfl,adU (fun c=>w.alloc (Obj.cells c ti.elem (0,0))) (by simp)⟩
  . have hcs':((Array.range (n.toNat * te.ks.length)).map fun i=>z.cells[i % z.cells.size]!)=cs:=by show _=(Array.range (m * z.cells.size)).map _; rw [hzs]
    simp only [h0',aek,adv,hz,adh,adN,hcs'];simp [newRow];rfl
 intro next Q hk;unfold Oper.wp;rw [hrun,adI,hd];have hlen:(aG (e:=ti.elem) (List.replicate n.toNat (dZ te.ks))).length=m:=List.length_replicate;have hown:cO (w.alloc (.cells cs ti.elem (0,0))) (.sl ti.elem te.ks) (List.replicate n.toNat (dZ te.ks)) (.slice (some ⟨w.heap.size,0,none⟩) m m) (fun b=>b=w.heap.size):=by
  refine ⟨some ⟨w.heap.size,0,none⟩,m,by rw [hlen],by rw [hlen]; exact ac7 _,by rw [hlen]; omega,by simp,fun a' ha' => ?_⟩;simp only [ac3] at ha';subst ha';have hcsz:cs.size=m * te.ks.length:=by rw [<- adW,hcs,rq]; simp
  refine ⟨w.heap.size,0,cs,ti.elem,(0,0),rfl,rfl,tM _ _,by simp,by rw [hcsz]; omega,fun _ _ _=>False,fun _ _ _ hh=>hh.elim,fun _ _ _ _ _ hh=>hh.elim,fun i x hi => ?_⟩;have hi':(List.replicate n.toNat (dZ te.ks))[i]? = some x:=hi;rw [afF] at hi';split at hi'
  . rename_i hlt;simp only [ac3] at hi';subst hi';refine nB te.ks 0 cs _ (fun j v hj => ?_);have hjl:j < te.ks.length:=by
     rcases adj j te.ks.length with hh | hh
     . exact hh
     . simp [adp hh] at hj
    have hmul:=adz te.ks.length (show i + 1<=m from hlt);rw [adR,aeE] at hmul;rw [<- ac8,hcs,xj m _ _ (by simp; omega)];simp only [ae0,adA];rw [afS i,Nat.mul_add_mod,aex hjl];exact hj
  . simp at hi'
 obtain ⟨g',hg⟩:=h.newRow (d:=d) hdn hf (w':=w.alloc (.cells cs ti.elem (0,0))) rfl rfl rfl (gJ _ _) hown;exact hk _ _ _ _ hg
end
end Go.Av
namespace Go.Av
open Go.RowKit (Below)
section
variable {P:Program} {cx:Cx P} {Z:Nat->Prop} {g:Gh} {st:St} {a:Act} {w:World} {E:En}
theorem dx (hT:bK P E) {t:Nat} {te:TI} (h:E.sl t=some te):∃ ti ks,E.ti t=some ti/\ti.agg=false/\ti.ks=[.sl ti.elem ks]/\E.ti ti.elem=some te/\P.underlying t=some (.slice ti.elem):=by
 unfold En.sl at h;split at h
 . rename_i e0 ks e b fl hti;obtain ⟨dd,hu,hdd⟩:=(hT t _ hti).desc;have:dd= .slice e/\e0=e:=by
    cases dd with
    | slice e' => obtain ⟨_,ks',h1,h2⟩:=hdd;simp only [afp,K.sl.injEq,aej] at h1;simp only at h2;rw [h2];exact ⟨rfl,h1.1⟩
    | _=>simp [gM] at hdd
   rw [this.1] at hu;exact ⟨_,ks,hti,rfl,by rw [this.2],h,hu⟩
 . simp at h
theorem lI (hT:bK P E) {t:Nat} (h:E.str t=true):P.underlying t=some .string:=by
 unfold En.str at h;split at h
 . rename_i e b fl hti;obtain ⟨dd,hu,hdd⟩:=(hT t _ hti).desc;cases dd <;> simp [gM] at hdd;exact hu
 . simp at h
theorem oA {Z:Nat->Prop} {w:World} {e:TypeId} {ks:List K} {xs:T (.sl e ks)} {v:Value} (h:RO Z w (.sl e ks) xs v):∃ a c,v= .slice a (aG xs).length c/\(aG xs).length<=c/\(aG xs).length<=aT/\(a=none->c=0) /\
 (aG xs≠[]->∃ b o,a=some ⟨b,o,none⟩/\Z b/\b < w.heap.size/\∀ i x,(aG xs)[i]? = some x->wP Z w ks x b (o + i * ks.length)):=h
theorem fD {n:Int} {len:Nat} (h:ko n len=true):0<=n/\n < len/\n.toNat < len:=by simp only [ko,bL,aw,ac5,aeg] at h;exact ⟨h.1,h.2,by omega⟩
theorem Gc (h:Rel cx Z g st a w) {r j s m i q s' m':Nat} {e0:TypeId} {ks0:List K} {x0:T (.sl e0 ks0)} {k:K} {y:T k} {v:Value} (hr:bj Z g st w (.pref r j s m i q) v) (hc:st.cell r j=some ⟨s',m',.own (.sl e0 ks0) x0⟩) (es:s'=s) (em:m'=m) (hy:cellAt ks0 (eC x0 i) q=some ⟨k,y⟩) :
 RO (fun q=>Z q∨g.fp r j q) w k y v:=by
 obtain ⟨cc,h1,h2,h3,h4⟩:=hr;rw [hc] at h1;simp only [ac3] at h1;subst h1;obtain ⟨e,ks,xs,g1,g2,g3,b,o,l,cap,g4,g5⟩:=h4 es em;simp only [RV.own.injEq,K.sl.injEq] at g1;obtain ⟨⟨rfl,rfl⟩,g1⟩:=g1;cases g1;have hro:=cO.ro (Z:=fun q=>Z q∨g.fp r j q) _ _ _ _ (fun b hb=> .inr hb) (dN h hc rfl);rw [g4] at hro;obtain ⟨aa,c',u1,u2,u3,u4,u5⟩:=hro;simp only [adX] at u1;obtain ⟨rfl,rfl,rfl⟩:=u1;obtain ⟨b',o',v1,v2,v3,v4⟩:=u5 (by intro h0; rw [h0] at g2; simp at g2);simp only [ac3,aei,aej] at v1;obtain ⟨rfl,rfl⟩:=v1;obtain ⟨v',hv1,hv2⟩:=mQ ks0 _ b _ q k y (v4 i _ (ij x0 g2)) hy;rw [g5] at hv1;simp only [ac3] at hv1;subst hv1;exact hv2
theorem kx {t:TypeId} {e:TypeId} {sz:Nat} (hu:P.underlying t=some (.slice e)) (hs:∀ w,(sizeOf e).run P w= .ok sz w) {b o len cap:Nat} {k:IntKind} {n:Int} (h0:0<=n) (hlt:n < len) :
 (Instr.indexAt t (.slice (some ⟨b,o,none⟩) len cap) (.int k n)).run P w= .ok (.pointer (some ⟨b,o + n.toNat * sz,none⟩)) w:=by
 have h1:(decide (0<=n/\n < (len:Int)))=true:=by simp; omega
 simp [Instr.indexAt,asIntOf,adH hu,h0,hlt,hs,gI]
theorem Cv (hT:bK P E) (h:Rel cx Z g st a w) (hc:Cons st) {o:Oper} {d:Nat} (hd:o.dst=some d) (hdn:jG cx a d) {t:TypeId} {x i:Operand} (ho:o.op= .indexAddr t x i) {te:TI} {tv ti:TV} {p:IntKind×Int} {av:AV}
 (ht:E.sl t=some te) (hx:st.get x=some tv) (hi:st.get i=some ti) (hp:ti.int? = some p) (hq:(st.indexAddr te.ks.length tv p.2).run=some av):di P cx st a w o d (.v av,none):=by
 obtain ⟨tt,ks,t1,t2,t3,t4,hu⟩:=dx hT ht;have hs:=fun w=>bM (hT _ te t4) (P:=P) w
 obtain ⟨k,n⟩:=p;have hiv:=(cS (aM h hc hi) hp).1;have rx:=aM h hc hx;have fin:∀ (b o' len cap:Nat),a.eval x= .slice (some ⟨b,o',none⟩) len cap->0<=n->n < len->bj Z g st w av (.pointer (some ⟨b,o' + n.toNat * te.ks.length,none⟩))->di P cx st a w o d (.v av,none):=by intro b o' len cap e1 e2 e3 e4;refine cq h hd hdn (v:= .pointer (some ⟨b,o' + n.toNat * te.ks.length,none⟩)) ?_ e4;have:=kx (P:=P) (w:=w) hu hs (b:=b) (o:=o') (cap:=cap) (k:=k) e2 e3;simp only [execOp,ho,e1,hiv];simp [this]
 unfold St.indexAddr at hq;split at hq
 . rename_i r j s;obtain ⟨cc,h1,h2,h3⟩:=rx;split at hq
   . rename_i s' m e ks' xs hcell;rw [hcell] at h1;simp only [ac3] at h1;subst h1;cases hb:Nat.beq s' s && Nat.beq ks'.length te.ks.length with
     | false=>simp [hb,Tr.run] at hq
     | true =>
       simp only [hb,ac6] at hq;simp only [ac5] at hb;obtain ⟨hn,hq⟩:=Tr.bo hq;simp only [Tr.run,ac3] at hq;subst hq;obtain ⟨n0,n1,n2⟩:=fD hn;have hown:=dN h hcell rfl;obtain ⟨aa,c,u1,u2,u3,u4,u5⟩:=hown;cases aa with
       | none=>have:=u4 rfl; omega
       | some aa => obtain ⟨b,o',_,_,_,rfl,_⟩:=u5 aa rfl;have ev:a.eval x=g.cv r j:=h3 (beq_eq hb.1);refine fin b o' _ c (by rw [ev,u1]) n0 n1 ⟨_,hcell,h2,fun _=>⟨e,ks',xs,rfl,n2,b,o',_,c,u1,by rw [<- beq_eq hb.2]; rfl⟩⟩
   . simp [Tr.run] at hq
 . rename_i e ks' xs;cases hb:Nat.beq ks'.length te.ks.length with
   | false=>simp [hb,Tr.run] at hq
   | true => simp only [hb,ac6] at hq;obtain ⟨hn,hq⟩:=Tr.bo hq;simp only [Tr.run,ac3] at hq;subst hq;obtain ⟨n0,n1,n2⟩:=fD hn;have rx':RO Z w (.sl e ks') xs (a.eval x):=rx;obtain ⟨aa,c,u1,u2,u3,u4,u5⟩:=oA rx';obtain ⟨b,o',rfl,v2,v3,v4⟩:=u5 (by intro h0; rw [h0] at n2; simp at n2);exact fin b o' _ c u1 n0 n1 ⟨n2,b,o',v2,v3,by rw [<- beq_eq hb]; rfl,v4⟩
 . rename_i r j s m e ks' xs;obtain ⟨cc,h1,h2,h3,h4⟩:=rx;split at hq
   . rename_i rc hcell;rw [hcell] at h1;simp only [ac3] at h1;subst h1;cases hb:Nat.beq rc.s s && Nat.beq rc.m m && Nat.beq ks'.length te.ks.length with
     | false=>simp [hb,Tr.run] at hq
     | true => simp only [hb,ac6] at hq;simp only [ac5] at hb;obtain ⟨hn,hq⟩:=Tr.bo hq;simp only [Tr.run,ac3] at hq;subst hq;obtain ⟨n0,n1,n2⟩:=fD hn;have rx':=h4 (beq_eq hb.1.1) (beq_eq hb.1.2);obtain ⟨aa,c,u1,u2,u3,u4,u5⟩:=oA rx';obtain ⟨b,o',rfl,v2,v3,v4⟩:=u5 (by intro h0; rw [h0] at n2; simp at n2);exact fin b o' _ c u1 n0 n1 ⟨rc,hcell,h2,h3,fun _ _=>⟨n2,b,o',v2,v3,by rw [<- beq_eq hb.2]; rfl,v4⟩⟩
   . simp [Tr.run] at hq
 . rename_i r j s m i' q;have rx0:bj Z g st w (.pref r j s m i' q) (a.eval x):=rx;obtain ⟨cc,h1,h2,h3,h4⟩:=rx;split at hq
   . rename_i s' m' e0 ks0 x0 hcell;cases hb:Nat.beq s' s && Nat.beq m' m with
     | false=>simp [hb,Tr.run] at hq
     | true =>
       simp only [hb,ac6] at hq;simp only [ac5] at hb;split at hq
       . rename_i e ks' xs hy;cases hb2:Nat.beq ks'.length te.ks.length with
         | false=>simp [hb2,Tr.run] at hq
         | true => simp only [hb2,ac6] at hq;obtain ⟨hn,hq⟩:=Tr.bo hq;simp only [Tr.run,ac3] at hq;subst hq;obtain ⟨n0,n1,n2⟩:=fD hn;have rx':=Gc h rx0 hcell (beq_eq hb.1) (beq_eq hb.2) hy;obtain ⟨aa,c,u1,u2,u3,u4,u5⟩:=oA rx';obtain ⟨b,o',rfl,v2,v3,v4⟩:=u5 (by intro h0; rw [h0] at n2; simp at n2);rw [hcell] at h1;simp only [ac3] at h1;subst h1;exact fin b o' _ c u1 n0 n1 ⟨_,hcell,h2,h3,fun _ _=>⟨n2,b,o',v2,v3,by rw [<- beq_eq hb2]; rfl,v4⟩⟩
       . simp [Tr.run] at hq
   . simp [Tr.run] at hq
 . simp [Tr.run] at hq
theorem Ii {s:List UInt8} {n:Nat} (h:n < s.length):(et s)[n]? = some (s.getD n 0):=by
 have hlt:n < (et s).size:=by rw [jd]; exact h
 rw [getElem?_pos (et s) n hlt];have h1:(et s)[n]=(et s).data[n]'hlt:=rfl;have h2:(et s).data[n]'hlt=s[n]'h:=by simp only [et,List.getElem_toArray]
 rw [h1,h2];simp only [List.getD,adi h,aeB]
theorem ON (hT:bK P E) (h:Rel cx Z g st a w) (hc:Cons st) {o:Oper} {d:Nat} (hd:o.dst=some d) (hdn:jG cx a d) {t:TypeId} {x i:Operand} (ho:o.op= .index t x i) {tv ti:TV} {p:IntKind×Int} {s:List UInt8}
 (ht:E.str t=true) (hx:st.get x=some tv) (hi:st.get i=some ti) (hp:ti.int? = some p) (hs:tv.lU = some s) (hn:ko p.2 s.length=true):di P cx st a w o d (.v (.d (.int .u8) (B8 s p.2.toNat)),none):=by
 have hu:=lI hT ht;have hiv:=(cS (aM h hc hi) hp).1;have hxv:=(lK (aM h hc hx) hs).1;obtain ⟨n0,n1,n2⟩:=fD hn;refine cq h hd hdn (v:= .int .u8 ((s.getD p.2.toNat 0).toNat:Int)) ?_ ⟨rfl,?_⟩
 . simp [execOp,ho,hiv,hxv,Instr.index,asIntOf,adH hu,n0,Ii n2]
 . have:=(s.getD p.2.toNat 0).toNat_lt;have e1:IntKind.u8.min=0:=rfl;have e2:IntKind.u8.max=255:=rfl;unfold mq B8;rw [e1,e2];omega
end
end Go.Av
namespace Go.Av
open Go.RowKit (Below)
theorem C9 (s:List UInt8) (l h:Nat):(et s).extract l h=et ((s.take h).drop l):=by apply afX;rw [ByteArray.data_extract];apply Array.ext';simp only [et,Array.toList_extract,List.extract_eq_take_drop];rw [List.drop_take]
section
variable {P:Program} {cx:Cx P} {Z:Nat->Prop} {g:Gh} {st:St} {a:Act} {w:World} {E:En}
theorem fP {lo hi:Int} {len:Nat} (h:gp lo hi len=true):0<=lo/\lo<=hi/\hi<=len:=by simp only [gp,bL,ac5,aeg] at h;exact ⟨h.1,h.2.1,h.2.2⟩
theorem nE {v:Value} {k:IntKind} {n:Int} {y:Nat} (hv:v= .int k n) (h0:0<=n) (h1:n<=y) (c:BoundsCode) (w:World):(Instr.sliceBound v y c).run P w= .ok n.toNat w:=by subst hv;have:0<=n/\n<=(y:Int):=⟨h0,h1⟩;simp only [Instr.sliceBound,asIntOf,adv,adN,adh,if_pos this]
theorem wo (h:Rel cx Z g st a w) (hc:Cons st) {x:Operand} {n:Int} (hx:(match st.get x with | some tv=>(match tv.int? with | some (_,n)=>some n | none=>none) | none=>none)=some n):∃ k,a.eval x= .int k n:=by
 split at hx
 . rename_i tv hg;split at hx
   . rename_i k m hi;simp only [ac3] at hx;subst hx;exact ⟨k,(cS (aM h hc hg) hi).1⟩
   . simp at hx
 . simp at hx
theorem jS (h:Rel cx Z g st a w) (hc:Cons st) {lo hi:Option Operand} {len cap:Nat} {p:Int×Int} (lu:Bool) (hl:jY st lo hi len=some p) (hk:gp p.1 p.2 len=true) (hcap:len<=cap) :
 (Instr.sliceBounds lu len cap (lo.map a.eval) (hi.map a.eval) none).run P w= .ok (p.1.toNat,p.2.toNat,cap) w:=by
 obtain ⟨k0,k1,k2⟩:=fP hk;unfold jY at hl;split at hl
 . rename_i x y hx hy;simp only [ac3] at hl;subst hl;simp only at k0 k1 k2;cases hi with
   | none =>
     simp only [ac3] at hy;subst hy;cases lo with
     | none => simp only [ac3] at hx;subst hx;simp [Instr.sliceBounds]
     | some l => obtain ⟨k,hv⟩:=wo h hc hx;simp only [Instr.sliceBounds,adG,aez,adv,adN,adh,nE hv k0 k1];simp
   | some u =>
     obtain ⟨ku,hu⟩:=wo h hc hy;cases lo with
     | none => simp only [ac3] at hx;subst hx;simp only [Instr.sliceBounds,adG,aez,adv,adN,adh,nE (P:=P) (y:=cap) hu (by omega) (by omega)];simp
     | some l => obtain ⟨k,hv⟩:=wo h hc hx;simp only [Instr.sliceBounds,adG,aez,adv,adN,adh,nE (P:=P) (y:=cap) hu (by omega) (by omega),nE (P:=P) (y:=y.toNat) hv k0 (by omega)]
 . simp at hl
theorem Fc {α:Type} (l:List α) {lo hi:Int} (h:gp lo hi l.length=true):(sub l lo hi).length=hi.toNat - lo.toNat:=by obtain ⟨k0,k1,k2⟩:=fP h;simp only [sub,adZ,adJ];omega
theorem A4 {Z:Nat->Prop} {w:World} {e:TypeId} {ks:List K} {xs:T (.sl e ks)} {aa:Option Addr} {c:Nat} {lo hi:Int} (h:RO Z w (.sl e ks) xs (.slice aa (aG xs).length c)) (hk:gp lo hi (aG xs).length=true) :
 RO Z w (.sl e ks) (sub (aG xs) lo hi) (.slice (if c=lo.toNat then aa else aa.map (·.add (lo.toNat * ks.length))) (hi.toNat - lo.toNat) (c - lo.toNat)):=by
 obtain ⟨k0,k1,k2⟩:=fP hk;obtain ⟨aa',c',u1,u2,u3,u4,u5⟩:=h;simp only [adX] at u1;obtain ⟨rfl,_,rfl⟩:=u1;have hl:(aG (e:=e) (ks:=ks) (sub (aG xs) lo hi)).length=hi.toNat - lo.toNat:=Fc (aG xs) hk;refine ⟨_,c - lo.toNat,by rw [hl],by rw [hl]; omega,by rw [hl]; omega,fun hn => ?_,fun hne => ?_⟩
 . split at hn
   . omega
   . cases aa with
     | none=>have:=u4 rfl; omega
     | some _=>simp at hn
 . have hpos:0 < hi.toNat - lo.toNat:=by
    rw [<- hl];exact List.length_pos_iff.2 hne
   have hne':aG xs≠[]:=by intro h0;rw [h0] at k2;simp at k2;omega
   obtain ⟨b,o,rfl,v2,v3,v4⟩:=u5 hne';refine ⟨b,o + lo.toNat * ks.length,?_,v2,v3,fun i x hi' => ?_⟩
   . rw [if_neg (by omega)];simp [gI]
   . have hi'':(sub (aG xs) lo hi)[i]? = some x:=hi';simp only [sub,aer,ad6] at hi'';split at hi''
     . have:=v4 _ x hi'';rw [adR] at this;rw [aeK];exact this
     . simp at hi''
theorem nO {t e:TypeId} {sz:Nat} (hu:P.underlying t=some (.slice e)) (hs:∀ w,(sizeOf e).run P w= .ok sz w) {aa:Option Addr} {len cap:Nat} {lo hi:Option Value} {l hh:Nat}
 (hb:(Instr.sliceBounds true len cap lo hi none).run P w= .ok (l,hh,cap) w) :
 (Instr.sliceAt t (.slice aa len cap) lo hi none).run P w= .ok (.slice (if cap=l then aa else aa.map (·.add (l * sz))) (hh - l) (cap - l)) w:=by
 simp only [Instr.sliceAt,adv,adH hu,adh,Instr.slice,hb,hs,adN]
theorem Ni (hT:bK P E) (h:Rel cx Z g st a w) (hc:Cons st) {o:Oper} {d:Nat} (hd:o.dst=some d) (hdn:jG cx a d) {t:TypeId} {x:Operand} {lo hi:Option Operand} (ho:o.op= .slice t x lo hi none) {te:TI} {tv:TV} {av:AV}
 (ht:E.sl t=some te) (hx:st.get x=some tv) (hq:(st.mO te.ks.length tv lo hi).run=some av):di P cx st a w o d (.v av,none):=by
 obtain ⟨tt,ks,t1,t2,t3,t4,hu⟩:=dx hT ht;have hs:=fun w=>bM (hT _ te t4) (P:=P) w
 have rx:=aM h hc hx
 have fin:∀ (aa:Option Addr) (len cap:Nat) (p:Int×Int),a.eval x= .slice aa len cap->len<=cap->jY st lo hi len=some p->gp p.1 p.2 len=true ->
  bj Z g st w av (.slice (if cap=p.1.toNat then aa else aa.map (·.add (p.1.toNat * te.ks.length))) (p.2.toNat - p.1.toNat) (cap - p.1.toNat))->di P cx st a w o d (.v av,none):=by
  intro aa len cap p e1 e2 e3 e4 e5;refine cq h hd hdn ?_ e5;simp only [execOp,ho,e1,aez,adv,nO hu hs (jS (P:=P) h hc true e3 e4 e2),adh];rfl
 unfold St.mO at hq;split at hq
 . obtain ⟨p,hp,hq⟩:=Tr.af hq;obtain ⟨hk,hq⟩:=Tr.bo hq;simp only [Tr.run,ac3] at hq;subst hq;have ex:a.eval x= .slice none 0 0:=rx;obtain ⟨k0,k1,k2⟩:=fP hk;refine fin none 0 0 p ex (ac7 _) hp hk ?_;have e1:p.1.toNat=0:=by omega
   have e2:p.2.toNat=0:=by omega
   rw [e1,e2];rfl
 . rename_i e ks' xs;cases hb:Nat.beq ks'.length te.ks.length with
   | false=>simp [hb,Tr.run] at hq
   | true => simp only [hb,ac6] at hq;obtain ⟨p,hp,hq⟩:=Tr.af hq;obtain ⟨hk,hq⟩:=Tr.bo hq;simp only [Tr.run,ac3] at hq;subst hq;have rx':RO Z w (.sl e ks') xs (a.eval x):=rx;have ⟨aa,c,u1,u2,_⟩:=oA rx';rw [u1] at rx';have:=A4 rx' hk;rw [beq_eq hb] at this;exact fin aa _ c p u1 u2 hp hk this
 . rename_i r j s m e ks' xs;obtain ⟨cc,h1,h2,h3,h4⟩:=rx;split at hq
   . rename_i rc hcell;rw [hcell] at h1;simp only [ac3] at h1;subst h1;cases hb:Nat.beq rc.s s && Nat.beq rc.m m && Nat.beq ks'.length te.ks.length with
     | false=>simp [hb,Tr.run] at hq
     | true => simp only [hb,ac6] at hq;simp only [ac5] at hb;obtain ⟨p,hp,hq⟩:=Tr.af hq;obtain ⟨hk,hq⟩:=Tr.bo hq;simp only [Tr.run,ac3] at hq;subst hq;have rx':=h4 (beq_eq hb.1.1) (beq_eq hb.1.2);have ⟨aa,c,u1,u2,_⟩:=oA rx';rw [u1] at rx';have:=A4 rx' hk;rw [beq_eq hb.2] at this;exact fin aa _ c p u1 u2 hp hk ⟨rc,hcell,h2,h3,fun _ _=>this⟩
   . simp [Tr.run] at hq
 . rename_i r j s m i' q;have rx0:bj Z g st w (.pref r j s m i' q) (a.eval x):=rx;obtain ⟨cc,h1,h2,h3,h4⟩:=rx;split at hq
   . rename_i s' m' e0 ks0 x0 hcell;cases hb:Nat.beq s' s && Nat.beq m' m with
     | false=>simp [hb,Tr.run] at hq
     | true =>
       simp only [hb,ac6] at hq;simp only [ac5] at hb;split at hq
       . rename_i e ks' xs hy;cases hb2:Nat.beq ks'.length te.ks.length with
         | false=>simp [hb2,Tr.run] at hq
         | true => simp only [hb2,ac6] at hq;obtain ⟨p,hp,hq⟩:=Tr.af hq;obtain ⟨hk,hq⟩:=Tr.bo hq;simp only [Tr.run,ac3] at hq;subst hq;have rx':=Gc h rx0 hcell (beq_eq hb.1) (beq_eq hb.2) hy;have ⟨aa,c,u1,u2,_⟩:=oA rx';rw [u1] at rx';have:=A4 rx' hk;rw [beq_eq hb2] at this;rw [hcell] at h1;simp only [ac3] at h1;subst h1;exact fin aa _ c p u1 u2 hp hk ⟨_,hcell,h2,h3,fun _ _=>this⟩
       . simp [Tr.run] at hq
   . simp [Tr.run] at hq
 . rename_i r j s;obtain ⟨cc,h1,h2,h3⟩:=rx;split at hq
   . rename_i s' m e ks' xs hcell;rw [hcell] at h1;simp only [ac3] at h1;subst h1;cases hb:Nat.beq s' s && Nat.beq ks'.length te.ks.length with
     | false=>simp [hb,Tr.run] at hq
     | true =>
       simp only [hb,ac6] at hq;simp only [ac5] at hb;obtain ⟨p,hp,hq⟩:=Tr.af hq;obtain ⟨hk,hq⟩:=Tr.bo hq;have ev:a.eval x=g.cv r j:=h3 (beq_eq hb.1);have hown:=dN h hcell rfl;have hro:=cO.ro (Z:=fun q=>Z q∨g.fp r j q) _ _ _ _ (fun b hb=> .inr hb) hown;have ⟨aa,c,u1,u2,_⟩:=oA hro;rw [u1] at hro;split at hq
       . rename_i hlo;simp only [Tr.run,ac3] at hq;subst hq;refine fin aa _ c p (by rw [ev,u1]) u2 hp hk ⟨_,hcell,h2,fun _=>⟨aa,_,c,u1,?_,?_⟩⟩
         . obtain ⟨k0,k1,k2⟩:=fP hk;omega
         . have hp1:p.1=0:=by
            unfold jY at hp;simp only at hp;split at hp
            . rename_i y hy e1;simp only [ac3] at hp e1;subst hp;simp_all
            . simp at hp
           rw [hp1];simp only [Int.toNat_zero,Nat.zero_mul,Nat.sub_zero];congr 1;split
           . rfl
           . cases aa with
             | none=>rfl
             | some q=>simp [Addr.add]
       . rename_i hlo;simp only [Tr.run,ac3] at hq;subst hq;have:=A4 hro hk;rw [beq_eq hb.2] at this;exact fin aa _ c p (by rw [ev,u1]) u2 hp hk ⟨_,hcell,by rw [beq_eq hb.1]; exact ac7 _,ac7 _,fun _ _=>this⟩
   . simp [Tr.run] at hq
 . simp [Tr.run] at hq
theorem Ji (hT:bK P E) (h:Rel cx Z g st a w) (hc:Cons st) {o:Oper} {d:Nat} (hd:o.dst=some d) (hdn:jG cx a d) {t:TypeId} {x:Operand} {lo hi:Option Operand} (ho:o.op= .slice t x lo hi none) {tv:TV} {av:AV}
 (ht:E.str t=true) (hx:st.get x=some tv) (hq:(st.mY tv lo hi).run=some av):di P cx st a w o d (.v av,none):=by
 have hu:=lI hT ht;unfold St.mY at hq;split at hq
 . rename_i s hs;obtain ⟨ev,hb⟩:=lK (aM h hc hx) hs;obtain ⟨p,hp,hq⟩:=Tr.af hq;obtain ⟨hk,hq⟩:=Tr.bo hq;simp only [Tr.run,ac3] at hq;subst hq;have hbd:=jS (P:=P) h hc false hp hk (ac7 _);refine cq h hd hdn (v:= .string (et (sub s p.1 p.2))) ?_ ⟨rfl,?_⟩
   . have hsz:(et s).size=s.length:=jd s;simp only [execOp,ho,ev,aez,Instr.sliceAt,adv,adH hu,adh,Instr.slice,hsz,hbd,aed,adQ,aek,adN];rw [C9];rfl
   . have:=Fc s hk;show (sub s p.1 p.2).length<=aT;obtain ⟨k0,k1,k2⟩:=fP hk;omega
 . simp [Tr.run] at hq
end
end Go.Av
namespace Go.Av
open Go.RowKit (Below)
section
variable {P:Program} {cx:Cx P} {Z:Nat->Prop} {g:Gh} {st:St} {a:Act} {w:World} {E:En}
theorem zd:∀ {l:List (Bool×List AV)} {vs:List Value},fY Z g st w l vs->∀ (j:Nat) (p:Bool×List AV),l[j]? = some p->∃ v,vs[j]? = some v/\qV Z g st w p v
 | [],[],_,_,_,h=>by simp at h
 | _ :: l,v :: vs,h,j,p,h1=>by
   cases j with
   | zero=>simp at h1; subst h1; exact ⟨v,rfl,h.1⟩
   | succ j=>simp at h1 ⊢; exact zd h.2 j p h1
 | [],_ :: _,h,_,_,_=>h.elim
 | _ :: _,[],h,_,_,_=>h.elim
theorem Ha {gg:Bool} {l:List AV} {v:Value} {tv:TV} (h:qV Z g st w (gg,l) v) (hw:ff gg l=some tv):bD Z g st w tv v:=by
 unfold ff at hw;split at hw
 . simp only [ac3] at hw; subst hw; exact h
 . simp only [ac3] at hw; subst hw; exact h
 . simp at hw
theorem HN (h:Rel cx Z g st a w) (hc:Cons st) {o:Oper} {d:Nat} (hd:o.dst=some d) (hdn:jG cx a d) {x:Operand} {i:Nat} (ho:o.op= .extract x i) {l:List (Bool×List AV)} {gg:Bool} {l':List AV} {tv:TV}
 (hx:st.get x=some (.tup l)) (hi:l[i]? = some (gg,l')) (hw:ff gg l'=some tv):di P cx st a w o d (tv,none):=by
 obtain ⟨vs,e1,e2⟩:=aM h hc hx;obtain ⟨v,e3,e4⟩:=zd e2 i _ hi;refine cq h hd hdn (v:=v) ?_ (Ha e4 hw);rw [ac8] at e3;simp [execOp,ho,e1,Instr.extract,e3]
theorem lX {tv:TV} {v:Value} {p:Bool×List AV} (hr:bD Z g st w tv v) (hp:tv.db = some p):qV Z g st w p v:=by
 cases tv with
 | v a=>simp only [TV.db,ac3] at hp; subst hp; exact hr
 | agg l=>simp only [TV.db,ac3] at hp; subst hp; exact hr
 | _=>simp [TV.db] at hp
theorem uJ (h:Rel cx Z g st a w) (hc:Cons st):∀ (os:List Operand) (l:List TV) (r:List (Bool×List AV)),st.getAll os=some l->lists l=some r->fY Z g st w r (os.map a.eval)
 | [],l,r,h1,h2=>by simp only [St.getAll,ac3] at h1;subst h1;simp only [lists,ac3] at h2;subst h2;trivial
 | o :: os,l,r,h1,h2=>by
   simp only [St.getAll] at h1;split at h1
   . rename_i x l' hx hl;simp only [ac3] at h1;subst h1;simp only [lists] at h2;split at h2
     . rename_i p q hp hq;simp only [ac3] at h2;subst h2;exact ⟨lX (aM h hc hx) hp,uJ h hc os l' q hl hq⟩
     . simp at h2
   . simp at h1
theorem Ey (h:Rel cx Z g st a w) (hc:Cons st) {o:Oper} {d:Nat} (hd:o.dst=some d) (hdn:jG cx a d) {f:Nat} {first caps:Array Operand} (ho:o.op= .makeFunc (.func f) first caps) {l:List TV} {r:List (Bool×List AV)}
 (hf:first.size=0) (hl:st.getAll caps.toList=some l) (hr:lists l=some r):di P cx st a w o d (.fn f r,none):=by
 have h1:=uJ h hc _ _ _ hl hr;have hf':first = #[]:=Array.eq_empty_of_size_eq_zero hf
 refine cq h hd hdn (v:= .func (.func f) #[] (caps.map a.eval)) ?_ ⟨_,rfl,by simpa using h1⟩;simp [execOp,ho,Instr.makeFunc,hf']
theorem N2 (h:Rel cx Z g st a w) {isS:Bool} {tv:TV} {v:Value} (hr:bD Z g st w tv v) {n:Int} (hn:st.len isS tv=some n):0<=n/\n<=aT/\(isS=false->∃ aa c,v= .slice aa n.toNat c)/\(isS=true->∃ s,v= .string (et s)/\(s.length:Int)=n):=by
 unfold St.len at hn;split at hn
 . cases isS with
   | true=>simp at hn
   | false => simp only [adm,ac3] at hn;subst hn;cases hr;exact ⟨by omega,by decide,fun _=>⟨none,0,rfl⟩,fun h=>(by simp at h)⟩
 . rename_i x _;cases hy:st.read x with
   | none=>rw [hy] at hn; cases isS <;> simp [lenOf] at hn
   | some y =>
     obtain ⟨k,y⟩:=y;rw [hy] at hn;have hro:=AE h hr hy;cases isS with
     | false =>
       cases k with
       | sl e ks => simp only [lenOf,ac3] at hn;subst hn;obtain ⟨aa,c,u1,u2,u3,_⟩:=hro;exact ⟨by omega,by omega,fun _=>⟨aa,c,by simpa using u1⟩,fun h=>(by simp at h)⟩
       | _=>simp [lenOf] at hn
     | true =>
       cases k with
       | str => simp only [lenOf,ac3] at hn;subst hn;obtain ⟨u1,u2⟩:=hro;exact ⟨by omega,by exact_mod_cast u2,fun h=>(by simp at h),fun _=>⟨y,u1,rfl⟩⟩
       | _=>simp [lenOf] at hn
 . simp at hn
theorem Oi {n:Int} (n0:0<=n) (n1:n<=aT):mq .i64 n:=by have e1:IntKind.i64.min = -9223372036854775808:=rfl;have e2:IntKind.i64.max=9223372036854775807:=rfl;have e3:(aT:Int)=140737488355328:=rfl;unfold mq;rw [e1,e2];omega
theorem PD (hT:bK P E) (h:Rel cx Z g st a w) (hc:Cons st) {o:Oper} {d:Nat} (hd:o.dst=some d) (hdn:jG cx a d) {c:Call} (ho:o.op= .call c) (hcal:c.callee= .builtin .len) {x:Operand} {t:Nat} {ts:List Nat} (hargs:c.args.toList=[x]) (hts:c.argTypes.toList=t :: ts) {isS:Bool} {tv:TV} {n:Int}
 (ht:match isS with | true=>E.str t=true | false=>∃ te,E.sl t=some te) (hx:st.get x=some tv) (hn:st.len isS tv=some n):di P cx st a w o d (.v (.d (.int .i64) n),none):=by
 obtain ⟨n0,n1,n2,n3⟩:=N2 h (aM h hc hx) hn;have hargs':c.args = #[x]:=by rw [<- aec (xs:=c.args),hargs]
 have hts0:c.argTypes[0]? = some t:=by rw [<- ac8,hts]; rfl
 have hrun:(execOp a.eval o).run P w= .ok (.value (.int .i64 n)) w:=by
  have hb:(Builtin.len_ c.argTypes o.type (c.args.map a.eval)).run P w= .ok (.int .i64 n) w:=by
   cases isS with
   | true => have hu:=lI hT ht;obtain ⟨s,ev,hs⟩:=n3 rfl;simp only [Builtin.len_,hts0,hargs',aeC,ad4,ae1,adS,adf,adv,adH hu,adh,ev,adN,goInt,jd,hs]
   | false => obtain ⟨te,ht⟩:=ht;obtain ⟨_,_,_,_,_,_,hu⟩:=dx hT ht;obtain ⟨aa,cc,ev⟩:=n2 rfl;have:((n.toNat:Nat):Int)=n:=Int.toNat_of_nonneg n0;simp only [Builtin.len_,hts0,hargs',aeC,ad4,ae1,adS,adf,adv,adH hu,adh,ev,adN,goInt,this]
  simp only [execOp,ho,resolve,hcal,adv,adN,adh,invoke,builtin,hb]
 exact cq h hd hdn hrun ⟨rfl,Oi n0 n1⟩
theorem C6 (h:Rel cx Z g st a w) (hc:Cons st) {o:Oper} {d:Nat} (hd:o.dst=some d) (hdn:jG cx a d) {c:Call} (ho:o.op= .call c) {mn:Bool} (hcal:c.callee= .builtin (match mn with | true=> .min | false=> .max)) {x y:Operand} (hargs:c.args.toList=[x,y]) {tx ty:TV} {p q:IntKind×Int}
 (hx:st.get x=some tx) (hy:st.get y=some ty) (hp:tx.int? = some p) (hq:ty.int? = some q) (hk:p.1=q.1):di P cx st a w o d (.v (.d (.int p.1) (match mn with | true=>Iu p.2 q.2 | false=>Ik p.2 q.2)),none):=by
 obtain ⟨ex,rx⟩:=cS (aM h hc hx) hp;obtain ⟨ey,ry⟩:=cS (aM h hc hy) hq;have hargs':c.args = #[x,y]:=by rw [<- aec (xs:=c.args),hargs]
 cases mn with
 | true =>
   refine cq h hd hdn (v:= .int p.1 (Iu p.2 q.2)) ?_ ⟨rfl,?_⟩
   . simp only [execOp,ho,resolve,hcal,hargs',adv,adN,adh,invoke,builtin,Builtin.min_,aeC,ad4,ae1,List.foldlM_cons,List.foldlM_nil,ex,ey,Builtin.min2,Iu]
   . show mq p.1 (Iu p.2 q.2);unfold Iu;split
     . rw [hk]; exact ry
     . exact rx
 | false =>
   refine cq h hd hdn (v:= .int p.1 (Ik p.2 q.2)) ?_ ⟨rfl,?_⟩
   . simp only [execOp,ho,resolve,hcal,hargs',adv,adN,adh,invoke,builtin,Builtin.max_,aeC,ad4,ae1,List.foldlM_cons,List.foldlM_nil,ex,ey,Builtin.max2,Ik,gt_iff_lt]
   . show mq p.1 (Ik p.2 q.2);unfold Ik;split
     . rw [hk]; exact ry
     . exact rx
def xR (P:Program) (t:Nat) (ti:TI):K->Prop
 | .int k=>P.underlying t=some (.int k)
 | .bool=>P.underlying t=some .bool
 | .str=>P.underlying t=some .string
 | .sl e _=>P.underlying t=some (.slice e)/\ti.elem=e
theorem gT (hT:bK P E) {t:Nat} {ti:TI} (hti:E.ti t=some ti) (hag:ti.agg=false) {k:K} (hk:ti.ks=[k]):xR P t ti k:=by
 obtain ⟨dd,hu,hdd⟩:=(hT t _ hti).desc;cases dd with
 | struct fs=>simp [gM,hag] at hdd
 | int k' => obtain ⟨_,h1⟩:=hdd;rw [hk] at h1;simp only [afp,aej] at h1;subst h1;exact hu
 | bool => obtain ⟨_,h1⟩:=hdd;rw [hk] at h1;simp only [afp,aej] at h1;subst h1;exact hu
 | string => obtain ⟨_,h1⟩:=hdd;rw [hk] at h1;simp only [afp,aej] at h1;subst h1;exact hu
 | slice e => obtain ⟨_,ks,h1,h2⟩:=hdd;rw [hk] at h1;simp only [afp,aej] at h1;subst h1;exact ⟨hu,h2⟩
 | _=>simp [gM] at hdd
theorem FC (hT:bK P E) {t:Nat} (h:E.u8 t=true):P.underlying t=some (.int .u8):=by
 unfold En.u8 at h;split at h
 . rename_i hti;exact gT hT hti rfl rfl
 . simp at h
theorem Eo (hT:bK P E) (h:Rel cx Z g st a w) (hc:Cons st) {o:Oper} {d:Nat} (hd:o.dst=some d) (hdn:jG cx a d) {s t:TypeId} {x:Operand} (ho:o.op= .convert s t x) {ts td:TI} {tv:TV} {p:IntKind×Int} {k k0:IntKind}
 (h1:E.ti s=some ts) (h2:E.ti t=some td) (a1:ts.agg=false) (a2:td.agg=false) (k1:ts.ks=[.int k0]) (k2:td.ks=[.int k]) (hx:st.get x=some tv) (hp:tv.int? = some p):di P cx st a w o d (.v (.d (.int k) (k.wrap p.2)),none):=by
 have u1:xR P s ts _:=gT hT h1 a1 k1;have u2:xR P t td _:=gT hT h2 a2 k2;obtain ⟨ev,_⟩:=cS (aM h hc hx) hp;refine cq h hd hdn (v:= .int k (k.wrap p.2)) ?_ ⟨rfl,fI _ _⟩;simp only [execOp,ho,convert,adv,adH u1,adH u2,adh,ev,Conv.intToInt,adN]
theorem EL (hT:bK P E) (h:Rel cx Z g st a w) (hc:Cons st) {o:Oper} {d:Nat} (hd:o.dst=some d) (hdn:jG cx a d) {s t:TypeId} {x:Operand} (ho:o.op= .convert s t x) {ts td:TI} {tv:TV} {u:List UInt8}
 (h1:E.ti s=some ts) (h2:E.ti t=some td) (a1:ts.agg=false) (a2:td.agg=false) (k1:ts.ks=[.str]) (k2:td.ks=[.str]) (hx:st.get x=some tv) (hp:tv.lU = some u):di P cx st a w o d (.v (.d .str u),none):=by
 have u1:xR P s ts _:=gT hT h1 a1 k1;have u2:xR P t td _:=gT hT h2 a2 k2;obtain ⟨ev,hb⟩:=lK (aM h hc hx) hp;refine cq h hd hdn (v:= .string (et u)) ?_ ⟨rfl,hb⟩;simp only [execOp,ho,convert,adv,adH u1,adH u2,adh,ev,adN]
def Ct:List (Tl [.int .u8])->List Int
 | []=>[]
 | z :: r=>z.1 :: Ct r
theorem sa:∀ (xs:List (Tl [.int .u8])),(Ct xs).length=xs.length
 | []=>rfl
 | _ :: r=>adU (· + 1) (sa r)
theorem yv:∀ (xs:List (Tl [.int .u8])) (i:Nat) (hi:i < xs.length),(Ct xs).getD i 0=(xs[i]).1
 | [],i,hi=>by simp at hi
 | _ :: r,0,hi=>rfl
 | _ :: r,i + 1,hi=>yv r i (by simpa using hi)
theorem zy:∀ (xs:List (Tl [.int .u8])),(Ct xs).map (fun n=>UInt8.ofNat n.toNat)=strOf xs
 | []=>rfl
 | z :: r=>adU (UInt8.ofNat (Int.toNat z.1) :: ·) (zy r)
theorem Ag (hT:bK P E) (h:Rel cx Z g st a w) (hc:Cons st) {o:Oper} {d:Nat} (hd:o.dst=some d) (hdn:jG cx a d) {s t:TypeId} {x:Operand} (ho:o.op= .convert s t x) {ts td:TI} {tv:TV} {av:AV} {e:TypeId} {xs:T (.sl e [.int .u8])}
 (h1:E.ti s=some ts) (h2:E.ti t=some td) (a1:ts.agg=false) (a2:td.agg=false) (k1:ts.ks=[.sl e [.int .u8]]) (k2:td.ks=[.str]) (hu8:E.u8 ts.elem=true) (hx:st.get x=some tv) (hv:tv.Cp = some av) (hp:st.ct (.sl e [.int .u8]) av=some xs):di P cx st a w o d (.v (.d .str (strOf (aG xs))),none):=by
 obtain ⟨u1,ue⟩:=gT hT h1 a1 k1;have u2:xR P t td _:=gT hT h2 a2 k2;have u3:P.underlying e=some (.int .u8):=by rw [<- ue]; exact FC hT hu8
 obtain ⟨aa,c,e1,e2,e3,e4,e5⟩:=lh h (rN (aM h hc hx) hv) hp;have hlen:(strOf (aG xs)).length=(aG xs).length:=by simp [strOf]
 refine cq h hd hdn (v:= .string (et (strOf (aG xs)))) ?_ ⟨rfl,by show (strOf (aG xs)).length<=aT; omega⟩;have hconv:(convert s t (a.eval x)).run P w= .ok (.string (et (strOf (aG xs)))) w:=by
  rw [e1];cases aa with
  | none => have h0:aG xs=[]:=adl.1 (by have:=e4 rfl; omega);rw [run_convert_bytes_nil w s e u1 u3 _ c t u2];rw [h0];rfl
  | some q =>
    by_cases hne:aG xs=[]
    . have hq:∃ b o sp,q=⟨b,o,sp⟩:=⟨_,_,_,rfl⟩;have hl0:(aG xs).length=0:=by rw [hne]; rfl
      have:=run_convert_bytes_string (P:=P) w s t e (some q) (aG xs).length c u1 u3 u2;rw [this,hl0,hne];have hll:(loadCells q 0).run P w= .ok #[] w:=by simp [loadCells,loadCellsFrom]
      have:=run_bytesToString (P:=P) w q 0 c [] (by simpa using hll);rw [this];rfl
    . obtain ⟨b,of,hq,_,_,hrow⟩:=e5 hne;simp only [ac3] at hq;subst hq;rw [run_convert_bytes_arg w s e u1 u3 b of _ c (Ct (aG xs)) (sa _) (fun i hi => ?_) t u2]
      . rw [<- zy (aG xs)];rfl
      . have hx':=hrow i _ (adi hi);obtain ⟨⟨vv,g1,g2,_⟩,_⟩:=hx';simp only [ac9,adk,Nat.mul_one,adA] at g1;rw [g1,g2,yv _ i hi]
 simp only [execOp,ho,adv,hconv,adh];rfl
theorem bytesOf_length (s:List UInt8):(bytesOf s).length=s.length:=ae0 ..
theorem mF:∀ (s:List UInt8) (i:Nat) (x:Tl [.int .u8]),(bytesOf s)[i]? = some x->i < s.length/\x=(((s.getD i 0).toNat:Int),())
 | [],i,x,h=>by cases h
 | c :: s,0,x,h=>by have h:some (((c.toNat:Int),()):Tl [.int .u8])=some x:=h;exact ⟨by simp,(aeb h).symm⟩
 | c :: s,i + 1,x,h=>by obtain ⟨h1,h2⟩:=mF s i x h;exact ⟨by simpa using h1,h2⟩
theorem vV (hT:bK P E) (h:Rel cx Z g st a w) (hc:Cons st) {o:Oper} {d:Nat} (hd:o.dst=some d) (hdn:jG cx a d) (hf:st.free d=true) {s t:TypeId} {x:Operand} (ho:o.op= .convert s t x) {ts td:TI} {tv:TV} {u:List UInt8} {e:TypeId}
 (h1:E.ti s=some ts) (h2:E.ti t=some td) (a1:ts.agg=false) (a2:td.agg=false) (k1:ts.ks=[.str]) (k2:td.ks=[.sl e [.int .u8]]) (hu8:E.u8 td.elem=true) (hx:st.get x=some tv) (hp:tv.lU = some u) :
 di P cx st a w o d (.v (.ref d 0 0),some ⟨false,[⟨0,0,.own (.sl e [.int .u8]) (bytesOf u)⟩]⟩):=by
 have u1:xR P s ts _:=gT hT h1 a1 k1;obtain ⟨u2,ue⟩:=gT hT h2 a2 k2;have u3:P.underlying e=some (.int .u8):=by rw [<- ue]; exact FC hT hu8
 obtain ⟨ev,hb⟩:=lK (aM h hc hx) hp;have hconv:=Lib.run_convert_string_bytes (P:=P) w s t e (et u) u1 u2 u3;intro next Q hk;unfold Oper.wp;simp only [execOp,ho,adv,ev,hconv,adh];show o.upon P a next Q (.ok (.value _) _);rw [adI,hd];have hsz:(et u).size=u.length:=jd u;have hcap:u.length<=grownCap w (et u).size 0 e:=by rw [<- hsz];unfold grownCap;simp [Question.cut]
 have hbc:(Lib.bytesCells w e (et u)).size=grownCap w (et u).size 0 e:=by
  have:(et u).data.size=u.length:=by simp [et]
  simp only [Lib.bytesCells,Array.size_append,Array.size_map,Array.size_replicate,this];omega
 have hnew:=Lib.bytesWorld_at_new w e (et u);have hheap:(Lib.bytesWorld w e (et u)).heap=w.heap.push (.cells (Lib.bytesCells w e (et u)) e ((Lib.bytesCells w e (et u)).size,(Lib.bytesCells w e (et u)).size + 1)):=by
  apply aeH;intro i;rcases afu i w.heap.size with hi | hi | hi
  . rw [Lib.bytesWorld_at_old w e (et u) i hi,ad0,if_neg (by omega)]
  . subst hi;rw [hnew,ad0,if_pos rfl]
  . rw [adr (by rw [Lib.bytesWorld_size]; omega),adr (by rw [aeP]; omega)]
 have hlen:(aG (e:=e) (bytesOf u)).length=u.length:=bytesOf_length u;have hown:cO (Lib.bytesWorld w e (et u)) (.sl e [.int .u8]) (bytesOf u) (.slice (some ⟨w.heap.size,0,none⟩) (et u).size (grownCap w (et u).size 0 e)) (fun b=>b=w.heap.size):=by
  refine ⟨_,_,by rw [hlen,hsz],by rw [hlen]; exact hcap,by rw [hlen]; exact hb,by simp,fun a' ha' => ?_⟩;simp only [ac3] at ha';subst ha';refine ⟨w.heap.size,0,_,e,_,rfl,rfl,hnew,?_,?_,fun _ _ _=>False,fun _ _ _ hh=>hh.elim,fun _ _ _ _ _ hh=>hh.elim,fun i x hi => ?_⟩
  . intro q hq hh;simp only [mk1,adO] at hq;omega
  . rw [hbc];simp;rw [hsz];exact ac7 _
  . obtain ⟨hi1,rfl⟩:=mF u i x hi;refine ⟨⟨_,?_,rfl,?_⟩,trivial⟩
    . have hcell:=Lib.bytesWorld_cell w e (et u) i (by rw [hsz]; exact hi1);simp only [World.cell?,hnew] at hcell;have hd:(et u).data.toList=u:=by simp [et]
      rw [hd] at hcell;simpa using hcell
    . have:=(u.getD i 0).toNat_lt;have e1:IntKind.u8.min=0:=rfl;have e2:IntKind.u8.max=255:=rfl;unfold mq;rw [e1,e2];show 0<=((u.getD i 0).toNat:Int)/\((u.getD i 0).toNat:Int)<=255;omega
 obtain ⟨g',hg⟩:=h.newRow (d:=d) hdn hf (w':=Lib.bytesWorld w e (et u)) rfl rfl rfl hheap hown;exact hk _ _ _ _ hg
end
end Go.Av
namespace Go.Av
open Go.RowKit (Below)
theorem eo {a b:Bool} (h:bU a b=true):a=b:=by cases a <;> cases b <;> simp_all [bU]
theorem jF {gg:Bool} {l:List AV} {t:Nat} {want y:Bool} {g':Bool} {l':List AV} (h:dV gg l= .may t want y g' l'):False:=by unfold dV at h;split at h <;> simp at h
section
variable {P:Program} {cx:Cx P} {Z:Nat->Prop} {g:Gh} {st:St} {a:Act} {w:World} {E:En}
def fM (tq:TV) (y:Bool):Prop:=∀ (Z:Nat->Prop) (g:Gh) (st:St) (w:World) (v:Value),bD Z g st w tq v->v= .bool y
def mH (st:St):Prop:=∀ d q want y g l,look st.tm d=some (.may q want y g l)->∀ tq,look st.tm q=some tq->fM tq y
theorem fM.lb {x y:Bool} (h:fM (.v (.lb x)) y):x=y:=by have:=h (fun _=>False) ⟨fun _=>0,fun _ _=>undef,fun _ _ _=>False⟩ ⟨[],[]⟩ default (.bool x) rfl;simpa using this
theorem fM.d {x y:Bool} (h:fM (.v (.d .bool x)) y):x=y:=by have:=h (fun _=>False) ⟨fun _=>0,fun _ _=>undef,fun _ _ _=>False⟩ ⟨[],[]⟩ default (.bool x) rfl;simpa using this
theorem mH.cons (hv:mH st):Cons st:=by intro d t want y gg l hl x;exact ⟨fun h3=>(hv d t want y gg l hl _ h3).lb,fun h3=>(hv d t want y gg l hl _ h3).d⟩
theorem Gr {o:Operand} {t:Nat} {want y gg:Bool} {l:List AV} (h:st.get o=some (.may t want y gg l)):∃ d,look st.tm d=some (.may t want y gg l)/\o= .tmp d:=by
 cases o with
 | tmp d =>
   refine ⟨d,?_,rfl⟩;have h:st.tv d=_:=h;unfold St.tv at h;cases hl:look st.tm d with
   | none=>simp [hl] at h
   | some tv0 =>
     rw [hl] at h;cases tv0 with
     | may q w' y' g' l' =>
       simp only at h;split at h
       . split at h
         . exact (jF (aeb h)).elim
         . exact (jF (aeb h)).elim
         . simp at h
       . exact h
       . simp at h
     | v _=>simp at h
     | agg _=>simp at h
     | tup _=>simp at h
     | fn _ _=>simp at h
 | const v => exfalso;have h:qF v=_:=h;unfold qF at h;split at h <;> (try split at h) <;> simp at h
 | func f=>simp [St.get] at h
 | global n=>simp [St.get] at h
theorem zJ (h:Rel cx Z g st a w) {x:AV} {v:Value} (hr:bj Z g st w x v) (hf:x.bP=true) {k:K} {y:T k} (hy:st.read x=some ⟨k,y⟩):RO Z w k y v:=by
 cases x with
 | lb b=>simp only [St.read,ac3] at hy; cases hy; exact hr
 | d k' x'=>simp only [St.read,ac3] at hy; cases hy; exact hr
 | nil=>simp [St.read] at hy
 | _=>simp [AV.bP] at hf
theorem Dn (h:Rel cx Z g st a w) (hv:mH st) {c o:Operand} {want y:Bool} {k:K} {x:T k} (hs:st.side c want o=some ⟨k,x⟩) (hg:a.eval c= .bool want) (hcg:st.get c=some (.v (.d .bool y))):RO Z w k x (a.eval o):=by
 have hc:=hv.cons;unfold St.side at hs;split at hs
 . rename_i _ av hget;cases hf:av.bP with
   | false=>simp [hf] at hs
   | true => simp only [hf,ac6] at hs;exact zJ h (aM h hc hget) hf hs
 . rename_i t w' y' av t' hget;cases hb:Nat.beq t t' && bU w' want && av.bP with
   | false=>simp [hb] at hs
   | true =>
     simp only [hb,ac6] at hs;simp only [ac5] at hb;obtain ⟨⟨h1,h2⟩,h3⟩:=hb;have h1:=beq_eq h1;have h2:=eo h2;subst h1;subst h2;obtain ⟨d,hd,rfl⟩:=Gr hget;obtain ⟨tq,htq⟩:∃ tq,look st.tm t=some tq:=by
      have hcg:st.tv t=_:=hcg;unfold St.tv at hcg;cases hl:look st.tm t with
      | none=>simp [hl] at hcg
      | some tq=>exact ⟨tq,rfl⟩
     have e1:=hv d _ _ _ _ _ hd tq htq _ _ _ _ _ (h.tm t tq htq).2;have hg:a.tmps.getD t undef=_:=hg;rw [hg] at e1;exact zJ h (aM h hc hget (by simpa using e1.symm)) h3 hs
 . simp at hs
theorem TQ (h:Rel cx Z g st a w) (hv:mH st) {o:Oper} {d:Nat} (hd:o.dst=some d) (hdn:jG cx a d) {c x y:Operand} (ho:o.op= .pick c x y) {gd:Bool} (hg:st.get c=some (.v (.d .bool gd)))
 {k k':K} {p:T k} {q:T k'} {q':T k} (h1:st.side c true x=some ⟨k,p⟩) (h2:st.side c false y=some ⟨k',q⟩) (h3:gV k' k q=some q'):di P cx st a w o d (.v (.d k (cond gd p q')),none):=by
 have hc:=hv.cons;have ec:a.eval c= .bool gd:=aM h hc hg;obtain ⟨e,h3⟩:=cF h3;subst e;subst h3;cases gd with
 | true => refine cq h hd hdn (v:=a.eval x) (by simp [execOp,ho,ec,asBool]) ?_;exact Dn h hv h1 ec hg
 | false => refine cq h hd hdn (v:=a.eval y) (by simp [execOp,ho,ec,asBool]) ?_;exact Dn h hv h2 ec hg
theorem zu (h:Rel cx Z g st a w) (hv:mH st) {o:Oper} {d:Nat} (hd:o.dst=some d) (hdn:jG cx a d) {c x y:Operand} (ho:o.op= .pick c x y) {gd:Bool} (hg:st.get c=some (.v (.lb gd)))
 {tv:TV} (h1:st.get (match gd with | true=>x | false=>y)=some tv):di P cx st a w o d (tv,none):=by
 have hc:=hv.cons;have ec:a.eval c= .bool gd:=aM h hc hg;have:=aM h hc h1;cases gd with
 | true=>exact cq h hd hdn (v:=a.eval x) (by simp [execOp,ho,ec,asBool]) this
 | false=>exact cq h hd hdn (v:=a.eval y) (by simp [execOp,ho,ec,asBool]) this
end
structure Ext (st st':St):Prop where
 tm:∀ t tv,look st.tm t=some tv->look st'.tm t=some tv
 rt:∀ r R,look st.rt r=some R->look st'.rt r=some R
section
variable {st st':St} {E:En}
theorem Ext.cell (x:Ext st st') {r j:Nat} {c:RC} (h:st.cell r j=some c):st'.cell r j=some c:=by
 unfold St.cell at h ⊢;cases hl:look st.rt r with
 | none=>simp [hl] at h
 | some R=>rw [hl] at h; rw [x.rt r R hl]; exact h
theorem Ext.tv (x:Ext st st') {t:Nat} {tv:TV} (h:st.tv t=some tv):st'.tv t=some tv:=by
 unfold St.tv at h ⊢;cases hl:look st.tm t with
 | none=>simp [hl] at h
 | some tv0 =>
   rw [hl] at h;rw [x.tm t tv0 hl];cases tv0 with
   | may q w' y' g' l' =>
     simp only at h ⊢;cases hq:look st.tm q with
     | none=>simp [hq] at h
     | some tq=>rw [hq] at h; rw [x.tm q tq hq]; exact h
   | _=>exact h
theorem Ext.get (x:Ext st st') {o:Operand} {tv:TV} (h:st.get o=some tv):st'.get o=some tv:=by
 cases o with
 | tmp t=>exact x.tv h
 | _=>exact h
theorem Ext.getAll (x:Ext st st'):∀ {os:List Operand} {l:List TV},st.getAll os=some l->st'.getAll os=some l
 | [],l,h=>h
 | o :: os,l,h=>by
   simp only [St.getAll] at h ⊢;split at h
   . rename_i a r h1 h2;rw [x.get h1,Ext.getAll x h2];exact h
   . simp at h
theorem Ext.read (x:Ext st st') {a:AV} {y:(k:K)×T k} (h:st.read a=some y):st'.read a=some y:=by
 cases a with
 | b r j s m k z =>
   simp only [St.read] at h ⊢;cases hc:st.cell r j with
   | none=>simp [hc] at h
   | some c=>rw [hc] at h; rw [x.cell hc]; exact h
 | ref r j s =>
   simp only [St.read] at h ⊢;cases hc:st.cell r j with
   | none=>simp [hc] at h
   | some c=>rw [hc] at h; rw [x.cell hc]; exact h
 | cut r j s n =>
   simp only [St.read] at h ⊢;cases hc:st.cell r j with
   | none=>simp [hc] at h
   | some c=>rw [hc] at h; rw [x.cell hc]; exact h
 | pref r j s m i c =>
   simp only [St.read] at h ⊢;cases hc:st.cell r j with
   | none=>simp [hc] at h
   | some c=>rw [hc] at h; rw [x.cell hc]; exact h
 | _=>exact h
theorem Ext.live (x:Ext st st') {a:AV} (h:st.live a=true):st'.live a=true:=by
 cases a with
 | b r j s m k z =>
   simp only [St.live] at h ⊢;cases hc:st.cell r j with
   | none=>simp [hc] at h
   | some c=>rw [hc] at h; rw [x.cell hc]; exact h
 | ref r j s =>
   simp only [St.live] at h ⊢;cases hc:st.cell r j with
   | none=>simp [hc] at h
   | some c=>rw [hc] at h; rw [x.cell hc]; exact h
 | cut r j s n =>
   simp only [St.live] at h ⊢;cases hc:st.cell r j with
   | none=>simp [hc] at h
   | some c=>rw [hc] at h; rw [x.cell hc]; exact h
 | pref r j s m i c =>
   simp only [St.live] at h ⊢;cases hc:st.cell r j with
   | none=>simp [hc] at h
   | some c=>rw [hc] at h; rw [x.cell hc]; exact h
 | pel r j s i c =>
   simp only [St.live] at h ⊢;cases hc:st.cell r j with
   | none=>simp [hc] at h
   | some c=>rw [hc] at h; rw [x.cell hc]; exact h
 | rp dep e ks xs i c =>
   cases dep with
   | none=>exact h
   | some p =>
     obtain ⟨r,j,s,m⟩:=p;simp only [St.live] at h ⊢;cases hc:st.cell r j with
     | none=>simp [hc] at h
     | some c=>rw [hc] at h; rw [x.cell hc]; exact h
 | _=>exact h
theorem Ext.E2 (x:Ext st st') {l:List AV} (h:l.all st.live=true):l.all st'.live=true:=by rw [adx] at h ⊢;exact fun a ha=>x.live (h a ha)
theorem Ext.ct (x:Ext st st') {k:K} {a:AV} {y:T k} (h:st.ct k a=some y):st'.ct k a=some y:=by
 have key:∀ z,(∀ s:St,s.ct k a=(match s.read a with | some ⟨k',x⟩=>gV k' k x | none=>none))->z=a->st'.ct k a=some y:=fun z e _=>by
  rw [e] at h ⊢;cases hr:st.read a with
  | none=>simp [hr] at h
  | some z=>rw [hr] at h; rw [x.read hr]; exact h
 cases a with
 | nil=>cases k <;> first | exact h | (simp [St.ct,St.read] at h)
 | _=>exact key _ (fun s=>by cases k <;> rfl) rfl
theorem Ext.readAll (x:Ext st st'):∀ {ks:List K} {l:List AV} {y:Tl ks},st.readAll ks l=some y->st'.readAll ks l=some y
 | [],[],_,h=>h
 | k :: ks,a :: l,y,h=>by
   unfold St.readAll at h ⊢;split at h
   . rename_i z zs hz hzs;rw [x.ct hz,Ext.readAll x hzs];exact h
   . simp at h
 | [],_ :: _,_,h=>by simp [St.readAll] at h
 | _ :: _,[],_,h=>by simp [St.readAll] at h
theorem Ext.kQ (x:Ext st st') {a:AV} {c:RC} (h:st.kQ a=some c):st'.kQ a=some c:=by
 cases a with
 | pref r j s m i q =>
   simp only [St.kQ] at h ⊢;cases hl:st.live (.pref r j s m i q) with
   | false=>simp [hl] at h
   | true=>rw [hl] at h; rw [x.live hl]; exact h
 | b r j s m k z =>
   simp only [St.kQ] at h ⊢;cases hl:st.live (.b r j s m k z) with
   | false=>simp [hl] at h
   | true=>rw [hl] at h; rw [x.live hl]; exact h
 | _=>exact h
theorem Ext.j9 (x:Ext st st'):∀ {l:List AV} {cs:List RC},st.j9 l=some cs->st'.j9 l=some cs
 | [],_,h=>h
 | a :: l,cs,h=>by
   unfold St.j9 at h ⊢;split at h
   . rename_i z zs hz hzs;rw [x.kQ hz,Ext.j9 x hzs];exact h
   . simp at h
theorem Ext.oJ (x:Ext st st') {r j:Nat} {a:AV} (h:st.oJ r j=some a):st'.oJ r j=some a:=by
 unfold St.oJ at h ⊢;cases hc:st.cell r j with
 | none=>simp [hc] at h
 | some c=>rw [hc] at h; rw [x.cell hc]; exact h
theorem Ext.fT (x:Ext st st'):∀ {n j r:Nat} {l:List AV},st.fT r j n=some l->st'.fT r j n=some l
 | 0,_,_,_,h=>h
 | n + 1,j,r,l,h=>by
   unfold St.fT at h ⊢;split at h
   . rename_i z zs hz hzs;rw [x.oJ hz,Ext.fT x hzs];exact h
   . simp at h
theorem Ext.load (x:Ext st st') {n:Nat} {a:AV} {l:List AV} (h:st.load n a=some l):st'.load n a=some l:=by
 cases a with
 | ptr r j=>exact x.fT h
 | pel r j s i c =>
   simp only [St.load] at h ⊢;cases hc:st.cell r j with
   | none=>simp [hc] at h
   | some c=>rw [hc] at h; rw [x.cell hc]; exact h
 | rp dep e ks xs i c =>
   cases dep with
   | none=>exact h
   | some p =>
     obtain ⟨r,j,s,m⟩:=p;simp only [St.load] at h ⊢;cases hc:st.cell r j with
     | none=>simp [hc] at h
     | some c=>rw [hc] at h; rw [x.cell hc]; exact h
 | _=>exact h
theorem tw {α β:Type} {f f':α->β->Option α} (hf:∀ l q l',f l q=some l'->f' l q=some l'):∀ {r:List β} {l l':α},ja f l r=some l'->ja f' l r=some l'
 | [],_,_,h=>h
 | q :: r,l,l',h=>by
   unfold ja at h ⊢;cases hl:f l q with
   | none=>simp [hl] at h
   | some l1=>rw [hl] at h; rw [hf _ _ _ hl]; exact tw hf h
theorem Ext.rM (x:Ext st st') {flds:List (Nat×Nat)} {l l':List AV} {q:Nat×Operand} (h:rM E st flds l q=some l'):Av.rM E st' flds l q=some l':=by
 unfold Av.rM at h ⊢;split at h
 . rename_i o t tv h1 h2;rw [h1,x.get h2];simp only;split at h
   . rename_i p ti h3 h4;cases hb:Nat.beq p.length ti.ks.length && p.all st.live && Nat.ble (o + p.length) l.length with
     | false=>simp [hb] at h
     | true => rw [hb] at h;simp only [ac5] at hb;rw [hb.1.1,x.E2 hb.1.2,hb.2];exact h
   . simp at h
 . simp at h
theorem Ext.lv (x:Ext st st') {n:Nat} {l l':List AV} {q:Nat×Operand} (h:lv st n l q=some l'):Av.lv st' n l q=some l':=by
 unfold Av.lv at h ⊢;split at h
 . rename_i tv h2;rw [x.get h2];simp only;split at h
   . rename_i p h3;cases hb:Nat.beq p.length n && p.all st.live && Nat.ble (q.1 * n + p.length) l.length with
     | false=>simp [hb] at h
     | true => rw [hb] at h;simp only [ac5] at hb;rw [hb.1.1,x.E2 hb.1.2,hb.2];exact h
   . simp at h
 . simp at h
theorem Ext.chunks (x:Ext st st') {ks:List K}:∀ {n:Nat} {l:List AV} {r:List (Tl ks)},chunks st ks n l=some r->Av.chunks st' ks n l=some r
 | 0,[],_,h=>h
 | 0,_ :: _,_,h=>by simp [Av.chunks] at h
 | n + 1,l,r,h=>by
   unfold Av.chunks at h ⊢;split at h
   . rename_i z zs hz hzs;rw [x.readAll hz,Ext.chunks x hzs];exact h
   . simp at h
theorem Ext.len (x:Ext st st') {b:Bool} {tv:TV} {n:Int} (h:st.len b tv=some n):st'.len b tv=some n:=by
 cases tv with
 | v a =>
   have key:∀ z,(∀ s:St,s.len b (.v a)=lenOf (s.read a) b)->z=a->st'.len b (.v a)=some n:=fun z e _=>by
    rw [e] at h ⊢;cases hr:st.read a with
    | none=>rw [hr] at h; cases b <;> simp [lenOf] at h
    | some z=>rw [hr] at h; rw [x.read hr]; exact h
   cases a with
   | nil=>exact h
   | _=>exact key _ (fun s=>rfl) rfl
 | _=>exact h
theorem Ext.jY (x:Ext st st') {lo hi:Option Operand} {n:Nat} {p:Int×Int} (h:jY st lo hi n=some p):Av.jY st' lo hi n=some p:=by
 have aux:∀ o,st.get o=none∨st'.get o=st.get o:=fun o=>by
  cases hg:st.get o with
  | none=>exact .inl rfl
  | some tv=>exact .inr (x.get hg)
 unfold Av.jY at h ⊢;cases lo with
 | none=>cases hi with
   | none=>exact h
   | some o =>
     rcases aux o with e | e
     . simp [e] at h
     . simp only [e] at h ⊢; exact h
 | some q =>
   rcases aux q with e0 | e0
   . simp [e0] at h
   . cases hi with
     | none=>simp only [e0] at h ⊢; exact h
     | some o =>
       rcases aux o with e | e
       . simp only [e] at h;split at h <;> simp_all
       . simp only [e0,e] at h ⊢; exact h
end
end Go.Av
namespace Go.Av
open Go.RowKit (Below)
section
variable {st st':St} {E:En}
theorem Ext.ir (x:Ext st st') {box:Bool} {ks:List K} {a:AV} {y:Tl ks} (h:st.ir box ks a=some y):st'.ir box ks a=some y:=by
 cases a with
 | rp dep e ks' xs i c =>
   cases dep with
   | none=>cases c <;> exact h
   | some _=>simp [St.ir] at h
 | ptr r j =>
   cases j with
   | succ j=>simp [St.ir] at h
   | zero =>
     simp only [St.ir] at h ⊢;cases box with
     | false=>simp at h
     | true =>
       simp only [ac6] at h ⊢;cases hl:look st.rt r with
       | none=>rw [hl] at h; simp at h
       | some R =>
         rw [hl] at h;rw [x.rt r R hl];simp only at h ⊢;cases hb:R.box && R.cells.all tP with
         | false=>rw [hb] at h; simp at h
         | true=>rw [hb] at h; simp only [ac6] at h ⊢; exact x.readAll h
 | _=>simp [St.ir] at h
theorem Ext.bq (x:Ext st st') {box:Bool}:∀ {cs:List MM} {l:List (Bool×List AV)} {y:MG cs},st.bq box cs l=some y->st'.bq box cs l=some y
 | [],[],_,h=>h
 | .c gg ks :: cs,(gg',l) :: r,y,h=>by
   unfold St.bq at h ⊢;cases hb:bU gg gg' && l.all AV.bP with
   | false=>simp [hb] at h
   | true =>
     simp only [hb,ac6] at h ⊢;split at h
     . rename_i z zs hz hzs;rw [x.readAll hz,Ext.bq x hzs];exact h
     . simp at h
 | .p ks :: cs,(false,[a]) :: r,y,h=>by
   unfold St.bq at h ⊢;split at h
   . rename_i z zs hz hzs;rw [x.ir hz,Ext.bq x hzs];exact h
   . simp at h
 | .p ks :: cs,(true,_) :: r,y,h=>by simp [St.bq] at h
 | .p ks :: cs,(false,[]) :: r,y,h=>by simp [St.bq] at h
 | .p ks :: cs,(false,_ :: _ :: _) :: r,y,h=>by simp [St.bq] at h
 | [],_ :: _,_,h=>by simp [St.bq] at h
 | .c _ _ :: _,[],_,h=>by simp [St.bq] at h
 | .p _ :: _,[],_,h=>by simp [St.bq] at h
theorem Ext.args (x:Ext st st') {bP:Bool}:∀ {ps:List PK} {l:List TV} {y:PT ps},st.args bP ps l=some y->st'.args bP ps l=some y
 | [],[],_,h=>h
 | .c gg ks :: ps,tv :: r,y,h=>by
   unfold St.args at h ⊢;cases hl:tv.db with
   | none=>simp [hl] at h
   | some p =>
     obtain ⟨gg',l⟩:=p;simp only [hl] at h ⊢;cases hb:bU gg gg' && (!bP || l.all AV.bP) with
     | false=>simp [hb] at h
     | true =>
       simp only [hb,ac6] at h ⊢;split at h
       . rename_i z zs hz hzs;rw [x.readAll hz,Ext.args x hzs];exact h
       . simp at h
 | .fn f cs :: ps,tv :: r,y,h=>by
   cases tv with
   | fn f' caps =>
     unfold St.args at h ⊢;cases hb:Nat.beq f f' with
     | false=>simp [hb] at h
     | true =>
       simp only [hb,ac6] at h ⊢;split at h
       . rename_i z zs hz hzs;rw [x.bq hz,Ext.args x hzs];exact h
       . simp at h
   | _=>simp [St.args] at h
 | .pt ks :: ps,.v a :: r,y,h=>by
   unfold St.args at h ⊢;split at h
   . rename_i z zs hz hzs;rw [x.ir hz,Ext.args x hzs];exact h
   . simp at h
 | .nil :: ps,tv :: r,y,h=>by
   have h:(bif eG tv then st.args bP ps r else (none:Option (PT ps)))=some (y:PT ps):=h;show (bif eG tv then st'.args bP ps r else (none:Option (PT ps)))=some (y:PT ps);cases hb:eG tv with
   | false=>rw [hb] at h; simp at h
   | true=>rw [hb] at h; exact Ext.args x h
 | .nil :: ps,[],y,h=>by simp [St.args] at h
 | .pt ks :: ps,.may _ _ _ _ _ :: r,y,h=>by simp [St.args] at h
 | .pt ks :: ps,.agg _ :: r,y,h=>by simp [St.args] at h
 | .pt ks :: ps,.tup _ :: r,y,h=>by simp [St.args] at h
 | .pt ks :: ps,.fn _ _ :: r,y,h=>by simp [St.args] at h
 | .pt _ :: _,[],_,h=>by simp [St.args] at h
 | .io _ _ :: _,_ :: _,_,h=>by simp [St.args] at h
 | .mv _ :: _,_ :: _,_,h=>by simp [St.args] at h
 | [],_ :: _,_,h=>by simp [St.args] at h
 | .c _ _ :: _,[],_,h=>by simp [St.args] at h
 | .fn _ _ :: _,[],_,h=>by simp [St.args] at h
 | .io _ _ :: _,[],_,h=>by simp [St.args] at h
 | .mv _ :: _,[],_,h=>by simp [St.args] at h
theorem Ext.side (x:Ext st st') {c o:Operand} {want:Bool} {y:(k:K)×T k} (h:st.side c want o=some y):st'.side c want o=some y:=by
 unfold St.side at h ⊢;cases hg:st.get o with
 | none=>simp [hg] at h
 | some tv =>
   rw [hg] at h;rw [x.get hg];split at h
   . rename_i av hh;cases hf:av.bP with
     | false=>simp [hf] at h
     | true=>simp only [hf,ac6] at h ⊢; exact x.read h
   . rename_i t w' y' av t' hh;cases hb:Nat.beq t t' && bU w' want && av.bP with
     | false=>simp [hb] at h
     | true=>simp only [hb,ac6] at h ⊢; exact x.read h
   . simp at h
end
def Ib (gg:Bool) (v:Value) (cs:List Value):Prop:=match gg with | true=>v= .agg cs.toArray | false=>cs=[v]
def Uo (Z:Nat->Prop) (w:World) (gg:Bool) (ks:List K) (x:Tl ks) (v:Value):Prop :=
 ∃ cs:List Value,Ib gg v cs/\ur Z w ks x cs
def Kr (Z:Nat->Prop) (w:World):(cs:List (Bool×List K))->CT cs->List Value->Prop
 | [],_,[]=>True
 | (gg,ks) :: cs,x,v :: vs=>Uo Z w gg ks x.1 v/\Kr Z w cs x.2 vs
 | _,_,_=>False
def aQ (fresh:Bool) (Z:Nat->Prop) (w:World) (H:Nat->Nat->Prop):(ks:List K)->Tl ks->List Value->Nat->Prop
 | [],_,[],_=>True
 | .sl e ks' :: ks,x,v :: vs,j=>(match fresh with | true=>cO w (.sl e ks') x.1 v (H j) | false=>RO Z w (.sl e ks') x.1 v)/\aQ fresh Z w H ks x.2 vs (bif fresh then j + 1 else j)
 | .int k :: ks,x,v :: vs,j=>RO Z w (.int k) x.1 v/\aQ fresh Z w H ks x.2 vs j
 | .bool :: ks,x,v :: vs,j=>RO Z w .bool x.1 v/\aQ fresh Z w H ks x.2 vs j
 | .str :: ks,x,v :: vs,j=>RO Z w .str x.1 v/\aQ fresh Z w H ks x.2 vs j
 | _,_,_,_=>False
def YB (Z:Nat->Prop) (w:World) (ks:List K) (x:Tl ks) (v:Value):Prop:=∃ b o,v= .pointer (some ⟨b,o,none⟩)/\Z b/\b < w.heap.size/\wP Z w ks x b o
def Mn (Z:Nat->Prop) (w:World):(cs:List MM)->MG cs->List Value->Prop
 | [],_,[]=>True
 | .c gg ks :: cs,x,v :: vs=>Uo Z w gg ks x.1 v/\Mn Z w cs x.2 vs
 | .p ks :: cs,x,v :: vs=>YB Z w ks x.1 v/\Mn Z w cs x.2 vs
 | _,_,_=>False
def dz (Z:Nat->Prop) (w:World) (F:Nat->Nat->Prop):(ps:List PK)->PT ps->List Value->Nat->Prop
 | [],_,[],_=>True
 | .c gg ks :: ps,x,v :: vs,n=>Uo Z w gg ks x.1 v/\dz Z w F ps x.2 vs n
 | .pt ks :: ps,x,v :: vs,n=>YB Z w ks x.1 v/\dz Z w F ps x.2 vs n
 | .nil :: ps,x,v :: vs,n=>v= .slice none 0 0/\dz Z w F ps x vs n
 | .fn f caps :: ps,x,v :: vs,n=>(∃ cs:Array Value,v= .func (.func f) #[] cs/\Mn Z w caps x.1 cs.toList)/\dz Z w F ps x.2 vs n
 | .io gg ks :: ps,x,v :: vs,n=>(∃ cs:List Value,Ib gg v cs/\aQ true Z w F ks x.1 cs n)/\dz Z w F ps x.2 vs (n + bp ks)
 | .mv k :: ps,x,v :: vs,n=>cO w k x.1 v (F n)/\dz Z w F ps x.2 vs (n + 1)
 | _,_,_,_=>False
def vF (Z:Nat->Prop) (w:World) (G:Nat->Nat->Prop):(ps:List PK)->uw ps->List Value->Nat->Prop
 | [],_,_,_=>True
 | .io gg ks :: ps,y,v :: vs,n=>(∃ cs:List Value,Ib gg v cs/\aQ true Z w G ks y.1 cs n)/\vF Z w G ps y.2 vs (n + bp ks)
 | .c _ _ :: ps,y,_ :: vs,n=>vF Z w G ps y vs n
 | .pt _ :: ps,y,_ :: vs,n=>vF Z w G ps y vs n
 | .nil :: ps,y,_ :: vs,n=>vF Z w G ps y vs n
 | .fn _ _ :: ps,y,_ :: vs,n=>vF Z w G ps y vs n
 | .mv _ :: ps,y,_ :: vs,n=>vF Z w G ps y vs (n + 1)
 | _ :: _,_,[],_=>False
def lk (fresh:Bool) (Z:Nat->Prop) (w:World) (H:Nat->Nat->Prop):(rs:List (Bool×List K))->CT rs->List Value->Nat->Prop
 | [],_,[],_=>True
 | (gg,ks) :: rs,x,v :: vs,j=>(∃ cs:List Value,Ib gg v cs/\aQ fresh Z w H ks x.1 cs j)/\lk fresh Z w H rs x.2 vs (bif fresh then j + bp ks else j)
 | _,_,_,_=>False
def zN:List Value->Value
 | [v]=>v
 | vs=> .tuple vs.toArray
def CW (P:Program) (R:Value->World->Prop):Result Next->Prop
 | .ok (.value v) w'=>R v w'
 | .ok (.enter f args) w'=>Calls P f args w' fun | .returned v,w''=>R v w'' | _,_=>False
 | _=>False
theorem CW.mono {P:Program} {R R':Value->World->Prop} {r:Result Next} (h:CW P R r) (hR:∀ v w,R v w->R' v w):CW P R' r:=by
 unfold CW at h ⊢;split at h
 . exact hR _ _ h
 . exact Calls.mono h fun e w' he=>by cases e <;> first | exact hR _ _ he | exact he
 . exact h.elim
def Pu:(ps:List PK)->uw ps
 | []=>()
 | .io _ ks :: ps=>(dZ ks,Pu ps)
 | .c _ _ :: ps=>Pu ps
 | .pt _ :: ps=>Pu ps
 | .nil :: ps=>Pu ps
 | .fn _ _ :: ps=>Pu ps
 | .mv _ :: ps=>Pu ps
def Su.uA (s:Su) (x:PT s.ps):Option (uw s.ps×CT s.rs):=match s.f with
 | .inl f=>f x
 | .inr g=>some (Pu s.ps,g x)
structure Qx (w w':World) (F:Nat->Nat->Prop) (Z Z':Nat->Prop) (H:Nat->Nat->Prop):Prop where
 os:w'.os=w.os
 tape:w'.tape=w.tape
 output:w'.output=w.output
 size:w.heap.size<=w'.heap.size
 block:∀ b,b < w.heap.size->(∀ i,¬ F i b)->w'.heap[b]? = w.heap[b]?
 z:∀ b,Z b->Z' b
 bS:∀ b,Z' b->b < w'.heap.size/\(Z b∨w.heap.size<=b)
 fp:∀ n b,H n b->b < w'.heap.size/\¬ Z' b/\((∃ i,F i b)∨w.heap.size<=b)
 disj:∀ n m b,H n b->H m b->n=m
def ar (P:Program) (f:Nat) (s:Su):Prop :=
 ∀ (w:World) (Z:Nat->Prop) (F:Nat->Nat->Prop) (args:Array Value) (x:PT s.ps) (y:uw s.ps×CT s.rs),
  Gl P w Z->dz Z w F s.ps x args.toList 0->(∀ b,Z b->b < w.heap.size)->(∀ i b,F i b->b < w.heap.size/\¬ Z b)->(∀ i j b,F i b->F j b->i=j)->s.uA x=some y ->
  CW P (fun v w'=>∃ (Z':Nat->Prop) (H:Nat->Nat->Prop) (vs:List Value),v=zN vs/\Qx w w' F Z Z' H/\vF Z' w' (fun i=>H (2 * i)) s.ps y.1 args.toList 0/\lk s.fresh Z' w' (fun j=>H (2 * j + 1)) s.rs y.2 vs 0)
   ((callFunc f args).run P w)
def df (P:Program) (E:En):Prop:=∀ f s,s∈E.ga f->ar P f s
section
variable {P:Program} {cx:Cx P} {Z:Nat->Prop} {g:Gh} {st:St} {a:Act} {w:World} {E:En}
def gb (Z:Nat->Prop) (g:Gh) (st:St) (w:World):List TV->List Value->Prop
 | [],[]=>True
 | t :: l,v :: vs=>bD Z g st w t v/\gb Z g st w l vs
 | _,_=>False
theorem gb.app:∀ {l l':List TV} {vs vs':List Value},gb Z g st w l vs->gb Z g st w l' vs'->gb Z g st w (l ++ l') (vs ++ vs')
 | [],_,[],_,_,h=>h
 | _ :: _,_,_ :: _,_,h,h'=>⟨h.1,gb.app h.2 h'⟩
 | [],_,_ :: _,_,h,_=>h.elim
 | _ :: _,_,[],_,h,_=>h.elim
theorem kD (h:Rel cx Z g st a w) (hc:Cons st):∀ (os:List Operand) (l:List TV),st.getAll os=some l->gb Z g st w l (os.map a.eval)
 | [],l,h1=>by simp [St.getAll] at h1; subst h1; trivial
 | o :: os,l,h1=>by
   simp only [St.getAll] at h1;split at h1
   . rename_i x r hx hr;simp only [ac3] at h1;subst h1;exact ⟨aM h hc hx,kD h hc os r hr⟩
   . simp at h1
theorem lD:∀ (l:List (Bool×List AV)) (vs:List Value),fY Z g st w l vs->gb Z g st w (l.map fun p=>bif p.1 then .agg p.2 else (match p.2 with | [a]=> .v a | _=> .agg p.2)) vs
 | [],[],_=>trivial
 | (true,l) :: r,v :: vs,h=>⟨h.1,lD r vs h.2⟩
 | (false,[x]) :: r,v :: vs,h=>⟨h.1,lD r vs h.2⟩
 | (false,[]) :: r,v :: vs,h=>h.1.elim
 | (false,_ :: _ :: _) :: r,v :: vs,h=>h.1.elim
 | [],_ :: _,h=>h.elim
 | _ :: _,[],h=>h.elim
theorem iC {gg:Bool} {l:List AV} {v:Value} (h:qV Z g st w (gg,l) v):∃ cs:List Value,Ib gg v cs/\aP Z g st w l cs:=by
 match gg,l,h with
 | true,l,⟨vs,e,h⟩=>exact ⟨vs.toList,by simpa [Ib] using e,h⟩
 | false,[a],h=>exact ⟨[v],rfl,h,trivial⟩
theorem ur.bS {Z':Nat->Prop} (hz:∀ b,Z b->b < w.heap.size->Z' b):∀ (ks:List K) (x:Tl ks) (vs:List Value),ur Z w ks x vs->ur Z' w ks x vs
 | [],_,[],_=>trivial
 | k :: ks,x,v :: vs,h=>⟨h.1.bS hz,ur.bS hz ks x.2 vs h.2⟩
 | [],_,_ :: _,h=>h.elim
 | _ :: _,_,[],h=>h.elim
theorem Kr.bS {Z':Nat->Prop} (hz:∀ b,Z b->b < w.heap.size->Z' b):∀ (cs:List (Bool×List K)) (x:CT cs) (vs:List Value),Kr Z w cs x vs->Kr Z' w cs x vs
 | [],_,[],_=>trivial
 | (gg,ks) :: cs,x,v :: vs,⟨⟨us,e,h⟩,h'⟩=>⟨⟨us,e,ur.bS hz ks x.1 us h⟩,Kr.bS hz cs x.2 vs h'⟩
 | [],_,_ :: _,h=>h.elim
 | _ :: _,_,[],h=>h.elim
theorem LI {Z':Nat->Prop} (hz:∀ b,Z b->b < w.heap.size->Z' b):∀ (ks:List K) (x:Tl ks) (us:List Value) (b o:Nat),ur Z w ks x us->(∀ (j:Nat) (u:Value),us[j]? = some u->w.cell? ⟨b,o + j,none⟩=some u)->wP Z' w ks x b o
 | [],_,_,_,_,_,_=>trivial
 | k :: ks,x,u :: us,b,o,h,hc=>⟨⟨u,hc 0 u rfl,RO.mono (ac7 _) (fun b hb hlt=>⟨hz b hb hlt,rfl⟩) k _ u h.1⟩,LI hz ks x.2 us b (o + 1) h.2 fun j u hj=>by rw [show o + 1 + j=o + (j + 1) by omega]; exact hc (j + 1) u (by simpa using hj)⟩
 | _ :: _,_,[],_,_,h,_=>h.elim
theorem Fs (h:Rel cx Z g st a w) {r:Nat}:∀ (l:List RC) (i:Nat),(∀ (j:Nat) (c:RC),l[j]? = some c->st.cell r (i + j)=some c)->l.all tP=true->aP Z g st w (l.map DI) ((List.range l.length).map fun j=>g.cv r (i + j))
 | [],_,_,_=>trivial
 | c :: l,i,hc,hf=>by
   simp only [aef,ac5] at hf;simp only [ac9,List.range_succ_eq_map,ad4,List.map_map];refine ⟨?_,?_⟩
   . have:=h.cell r i c (by have:=hc 0 c rfl; rwa [adO] at this);obtain ⟨s,m,v⟩:=c;cases v with
     | own k x=>simp [tP] at hf
     | av x=>exact this
   . have:=Fs h l (i + 1) (fun j c hj=>by rw [show i + 1 + j=i + (j + 1) by omega]; exact hc (j + 1) c (by simpa using hj)) hf.2;have e:((List.range l.length).map ((fun j=>g.cv r (i + j)) ∘ Nat.succ))=(List.range l.length).map fun j=>g.cv r (i + 1 + j):=by
      apply List.map_congr_left;intro j _;show g.cv r (i + (j + 1))=_;rw [show i + (j + 1)=i + 1 + j by omega]
     rw [e];exact this
theorem BV (h:Rel cx Z g st a w) {box:Bool} {Z':Nat->Prop} (hz:∀ b,Z b->b < w.heap.size->Z' b) (hb:box=true->∀ r R,look st.rt r=some R->R.box=true->Z' (g.be r)) {ks:List K} {av:AV} {v:Value} {x:Tl ks} (hr:bj Z g st w av v) (hx:st.ir box ks av=some x):YB Z' w ks x v:=by
 cases av with
 | rp dep e ks' xs i c =>
   cases dep with
   | some _=>simp [St.ir] at hx
   | none =>
     cases c with
     | succ c=>simp [St.ir] at hx
     | zero =>
       simp only [St.ir] at hx;obtain ⟨e,hx⟩:=uz hx;subst e;subst hx;obtain ⟨h0,b,o,h1,h2,h3,h4⟩:=hr;refine ⟨b,o + i * ks'.length,by rw [h3,adO],hz b h1 h2,h2,?_⟩;have hget:xs[i]? = some (xs.getD i (dZ ks')):=by simp [List.getD,adi h0]
       exact wP.mono (ac7 _) (fun b hb hlt=>⟨hz b hb hlt,rfl⟩) ks' _ b _ rfl (h4 i _ hget)
 | ptr r j =>
   cases j with
   | succ j=>simp [St.ir] at hx
   | zero =>
     simp only [St.ir] at hx;cases hbx:box with
     | false=>rw [hbx] at hx; simp at hx
     | true =>
       rw [hbx] at hx;simp only [ac6] at hx;cases hl:look st.rt r with
       | none=>rw [hl] at hx; simp at hx
       | some R =>
         rw [hl] at hx;simp only at hx;cases hf:R.box && R.cells.all tP with
         | false=>rw [hf] at hx; simp at hx
         | true =>
           rw [hf] at hx;simp only [ac6] at hx;simp only [ac5] at hf;obtain ⟨R0,e1,_,e3⟩:=hr;obtain ⟨_,_,_,_,cs,el,fr,b5,_,b7,b8⟩:=h.box r R hl hf.1;have hlt:g.be r < w.heap.size:=by
            rcases adj (g.be r) w.heap.size with hh | hh
            . exact hh
            . simp [adr hh] at b5
           have h1:=Fs h (r:=r) R.cells 0 (fun j c hj=>by simp only [St.cell,hl,adA]; exact hj) hf.2;have h2:=dK h ks _ _ x h1 (by rw [List.all_map]; refine adx.2 fun c hc => ?_; have:=adx.1 hf.2 c hc; obtain ⟨s,m,v⟩:=c; cases v with | own k x=>simp [tP] at this | av x=>exact this) hx;refine ⟨g.be r,0,e3,hb hbx r R hl hf.1,hlt,LI hz ks x _ _ 0 h2 fun j u hj => ?_⟩;simp only [adY,adA] at hj;rcases adj j R.cells.length with hjl | hjl
           . rw [afW hjl] at hj;simp only [adG,ac3] at hj;subst hj;rw [adA];simp only [World.cell?,b5,aed,adQ,aek];exact b8 j (by omega)
           . rw [adp (by simpa using hjl)] at hj;simp at hj
 | _=>simp [St.ir] at hx
theorem nA (h:Rel cx Z g st a w) {box:Bool} {Z':Nat->Prop} (hz:∀ b,Z b->b < w.heap.size->Z' b) (hb:box=true->∀ r R,look st.rt r=some R->R.box=true->Z' (g.be r)):∀ (cs:List MM) (l:List (Bool×List AV)) (vs:List Value) (x:MG cs),fY Z g st w l vs->st.bq box cs l=some x->Mn Z' w cs x vs
 | [],[],[],_,_,_=>trivial
 | [],[],_ :: _,_,h1,_=>h1.elim
 | .c gg ks :: cs,(gg',l) :: r,v :: vs,x,h1,h2=>by
   unfold St.bq at h2;cases hbb:bU gg gg' && l.all AV.bP with
   | false=>simp [hbb] at h2
   | true =>
     simp only [hbb,ac6] at h2;simp only [ac5] at hbb;have hg:=eo hbb.1;subst hg;split at h2
     . rename_i z zs hz1 hzs;cases h2;obtain ⟨us,e1,e2⟩:=iC h1.1;exact ⟨⟨us,e1,ur.bS hz ks z us (dK h ks l us z e2 hbb.2 hz1)⟩,nA h hz hb cs r vs zs h1.2 hzs⟩
     . simp at h2
 | .p ks :: cs,(false,[av]) :: r,v :: vs,x,h1,h2=>by
   unfold St.bq at h2;split at h2
   . rename_i z zs hz1 hzs;cases h2;exact ⟨BV h hz hb h1.1 hz1,nA h hz hb cs r vs zs h1.2 hzs⟩
   . simp at h2
 | .p ks :: cs,(true,_) :: r,_,_,_,h=>by simp [St.bq] at h
 | .p ks :: cs,(false,[]) :: r,_,_,_,h=>by simp [St.bq] at h
 | .p ks :: cs,(false,_ :: _ :: _) :: r,_,_,_,h=>by simp [St.bq] at h
 | .c _ _ :: _,_ :: _,[],_,h1,_=>h1.elim
 | .p _ :: _,(false,[_]) :: _,[],_,h1,_=>h1.elim
 | [],_ :: _,_,_,_,h2=>by simp [St.bq] at h2
 | .c _ _ :: _,[],_,_,_,h2=>by simp [St.bq] at h2
 | .p _ :: _,[],_,_,_,h2=>by simp [St.bq] at h2
theorem sy {tv:TV} {v:Value} (h:bD Z g st w tv v) (hb:eG tv=true):v= .slice none 0 0:=by
 cases tv with
 | v a =>
   cases a with
   | nil=>exact h
   | _=>simp [eG] at hb
 | _=>simp [eG] at hb
theorem B9 (h:Rel cx Z g st a w) {bP:Bool} {Z':Nat->Prop} (hz':bP=false->Z'=fZ w):(!bP)=true->∀ r R,look st.rt r=some R->R.box=true->Z' (g.be r):=fun hf r R hR hb=>by
 rw [hz' (by simpa using hf)];obtain ⟨_,_,_,_,cs,el,fr,b5,_⟩:=h.box r R hR hb;show g.be r < w.heap.size;rcases adj (g.be r) w.heap.size with hh | hh
 . exact hh
 . simp [adr hh] at b5
theorem rU (h:Rel cx Z g st a w) (bP:Bool) {Z':Nat->Prop} (hz:∀ b,Z b->b < w.heap.size->Z' b) (hz':bP=false->Z'=fZ w) {F:Nat->Nat->Prop}:∀ (ps:List PK) (l:List TV) (vs:List Value) (x:PT ps) (i:Nat),gb Z g st w l vs->st.args bP ps l=some x->dz Z' w F ps x vs i
 | [],[],[],_,_,_,_=>trivial
 | [],[],_ :: _,_,_,h1,_=>h1.elim
 | .c gg ks :: ps,tv :: r,v :: vs,x,i,h1,h2=>by
   unfold St.args at h2;cases hl:tv.db with
   | none=>simp [hl] at h2
   | some p =>
     obtain ⟨gg',l⟩:=p;simp only [hl] at h2;cases hb:bU gg gg' && (!bP || l.all AV.bP) with
     | false=>simp [hb] at h2
     | true =>
       simp only [hb,ac6] at h2;simp only [ac5] at hb;have hg:=eo hb.1;subst hg;split at h2
       . rename_i z zs hz1 hzs;cases h2;obtain ⟨us,e1,e2⟩:=iC (lX h1.1 hl);refine ⟨⟨us,e1,?_⟩,rU h bP hz hz' ps r vs zs i h1.2 hzs⟩;cases bP with
         | false=>rw [hz' rfl]; exact wk h ks l us z e2 hz1
         | true=>exact ur.bS hz _ _ _ (dK h ks l us z e2 (by simpa using hb.2) hz1)
       . simp at h2
 | .fn f cs :: ps,tv :: r,v :: vs,x,i,h1,h2=>by
   cases tv with
   | fn f' caps =>
     unfold St.args at h2;cases hb:Nat.beq f f' with
     | false=>simp [hb] at h2
     | true =>
       simp only [hb,ac6] at h2;have hf:=beq_eq hb;subst hf;split at h2
       . rename_i z zs hz1 hzs;cases h2;obtain ⟨us,e1,e2⟩:=h1.1;exact ⟨⟨us,e1,nA h hz (B9 h hz') cs caps us.toList z e2 hz1⟩,rU h bP hz hz' ps r vs zs i h1.2 hzs⟩
       . simp at h2
   | _=>simp [St.args] at h2
 | .c _ _ :: _,_ :: _,[],_,_,h1,_=>h1.elim
 | .fn _ _ :: _,_ :: _,[],_,_,h1,_=>h1.elim
 | .pt ks :: ps,.v av :: r,v :: vs,x,i,h1,h2=>by
   unfold St.args at h2;split at h2
   . rename_i z zs hz1 hzs;cases h2;exact ⟨BV h hz (B9 h hz') h1.1 hz1,rU h bP hz hz' ps r vs zs i h1.2 hzs⟩
   . simp at h2
 | .nil :: ps,tv :: r,v :: vs,x,i,h1,h2=>by
   have h2:(bif eG tv then st.args bP ps r else (none:Option (PT ps)))=some (x:PT ps):=h2;cases hb:eG tv with
   | false=>rw [hb] at h2; simp at h2
   | true=>rw [hb] at h2; exact ⟨sy h1.1 hb,rU h bP hz hz' ps r vs x i h1.2 h2⟩
 | .nil :: ps,_ :: r,[],_,_,h1,_=>h1.elim
 | .nil :: ps,[],_,_,_,_,h2=>by simp [St.args] at h2
 | .pt ks :: ps,.may _ _ _ _ _ :: r,_,_,_,_,h2=>by simp [St.args] at h2
 | .pt ks :: ps,.agg _ :: r,_,_,_,_,h2=>by simp [St.args] at h2
 | .pt ks :: ps,.tup _ :: r,_,_,_,_,h2=>by simp [St.args] at h2
 | .pt ks :: ps,.fn _ _ :: r,_,_,_,_,h2=>by simp [St.args] at h2
 | .pt _ :: _,.v _ :: _,[],_,_,h1,_=>h1.elim
 | .pt _ :: _,[],_,_,_,_,h2=>by simp [St.args] at h2
 | .io _ _ :: _,_ :: _,_,_,_,_,h2=>by simp [St.args] at h2
 | .mv _ :: _,_ :: _,_,_,_,_,h2=>by simp [St.args] at h2
 | [],_ :: _,_,_,_,_,h2=>by simp [St.args] at h2
 | .c _ _ :: _,[],_,_,_,_,h2=>by simp [St.args] at h2
 | .fn _ _ :: _,[],_,_,_,_,h2=>by simp [St.args] at h2
 | .io _ _ :: _,[],_,_,_,_,h2=>by simp [St.args] at h2
 | .mv _ :: _,[],_,_,_,_,h2=>by simp [St.args] at h2
end
end Go.Av
