/- FnExactAgree, a part. -/
import Derived.Calls
import Derived.Below
import Derived.KernelRfl
import Derived.Lib.LaidTab
import Derived.Lib.ItoaNum
import Derived.Laws.Entries
import Derived.Laws.Cells
import Derived.Laws.IdiomCopy
import Derived.Laws.Strings
import Derived.Laws.Tables
import Derived.Lib.ConvBytes
import Derived.Laws.BytesArg
namespace Go.Av
abbrev aen:=@Option.some.injEq
abbrev aeo:=@Bool.and_eq_true
abbrev aep:=@List.length_append
abbrev aeq:=@List.getElem?_eq_getElem
abbrev aer:=@Array.getElem?_toList
abbrev aes:=@decide_eq_true
abbrev aet:=@List.mem_of_getElem?
abbrev aeu:=@List.getElem?_cons_zero
abbrev aev:=@Array.getD_eq_getD_getElem?
abbrev aew:=@List.mem_cons
abbrev aex:=@Nat.zero_add
abbrev aey:=@Nat.ble_eq_true_of_le
abbrev aez:=@Result.andThen_ok
abbrev aeA:=@Nat.le_trans
abbrev aeB:=@List.mem_cons_of_mem
abbrev aeC:=@Nat.zero_le
abbrev aeD:=@Nat.lt_or_ge
abbrev aeE:=@List.getElem?_eq_none
abbrev aeF:=@List.length_cons
abbrev aeG:=@List.all_eq_true
abbrev aeH:=@Array.getElem?_eq_none
abbrev aeI:=@List.mem_cons_self
abbrev aeJ:=@Nat.le_of_ble_eq_true
abbrev aeK:=@Nat.lt_of_lt_of_le
abbrev aeL:=@decide_eq_false
abbrev aeM:=@Option.map_some
abbrev aeN:=@Sem.run_bind
abbrev aeO:=@Sum.inl.injEq
abbrev aeP:=@Array.getElem?_eq_some_iff
abbrev aeQ:=@Nat.add_zero
abbrev aeR:=@run_underlying
abbrev aeS:=@Nat.mul_le_mul_right
abbrev aeT:=@Prod.mk.injEq
abbrev aeU:=@congrArg
abbrev aeV:=@List.append_assoc
abbrev aeW:=@List.getElem?_eq_some_iff
abbrev aeX:=@Sem.run_pure
abbrev aeY:=@Array.length_toList
abbrev aeZ:=@List.getElem?_toArray
abbrev ae0:=@Nat.add_mul
abbrev ae1:=@Array.getElem?_push
abbrev ae2:=@List.getElem?_map
abbrev ae3:=@List.getElem?_append_right
abbrev ae4:=@List.getElem?_append_left
abbrev ae5:=@Bool.false_eq_true
abbrev ae6:=@List.length_eq_zero_iff
abbrev ae7:=@List.length_nil
abbrev ae8:=@Bool.not_eq_true'
abbrev ae9:=@Option.some.inj
abbrev afa:=@Nat.add_sub_cancel_left
abbrev afb:=@List.foldl_cons
abbrev afc:=@List.length_filter_le
abbrev afd:=@List.length_take
abbrev afe:=@List.all_cons
abbrev aff:=@List.map_cons
abbrev afg:=@Array.getElem?_append_left
abbrev afh:=@List.filter_cons
abbrev afi:=@List.getElem?_cons_succ
abbrev afj:=@Array.getElem?_setIfInBounds
abbrev afk:=@Array.toArray_toList
abbrev afl:=@Nat.lt_succ_self
abbrev afm:=@Value.slice.injEq
abbrev afn:=@List.getD_eq_getElem?_getD
abbrev afo:=@Oper.upon_value
abbrev afp:=@List.append_nil
abbrev afq:=@Nat.add_assoc
abbrev afr:=@Nat.lt_of_succ_le
abbrev afs:=@Int.toNat_natCast
abbrev aft:=@List.getElem?_take
abbrev afu:=@List.getElem?_drop
abbrev afv:=@List.length_replicate
abbrev afw:=@List.mem_append
abbrev afx:=@Nat.ne_of_beq_eq_false
abbrev afy:=@List.mem_range
abbrev afz:=@Bool.or_eq_true
abbrev afA:=@List.mem_filter
abbrev afB:=@List.length_set
abbrev afC:=@Nat.eq_of_beq_eq_true
abbrev afD:=@of_decide_eq_true
abbrev afE:=@if_false
abbrev afF:=@Option.bind_eq_some_iff
abbrev afG:=@Int.tmod_eq_emod_of_nonneg
abbrev afH:=@Option.isSome_none
abbrev afI:=@List.takeWhile_cons
abbrev afJ:=@decide_eq_true_eq
abbrev afK:=@Addr.mk.injEq
abbrev afL:=@Classical.choose_spec
abbrev afM:=@List.mem_map
abbrev afN:=@Array.size_push
abbrev afO:=@List.length_map
abbrev afP:=@Nat.le_mul_of_pos_right
abbrev afQ:=@and_true
abbrev afR:=@Nat.zero_testBit
abbrev afS:=@Option.map_eq_some_iff
abbrev afT:=@List.take_of_length_le
abbrev afU:=@List.take_add_one
abbrev afV:=@List.dropWhile_cons
abbrev afW:=@Nat.le_antisymm
abbrev afX:=@Classical.byContradiction
abbrev afY:=@Option.getD_some
abbrev afZ:=@List.map_toArray
abbrev af0:=@Array.append_assoc
abbrev af1:=@List.filter_append
abbrev af2:=@Bool.or_eq_false_iff
abbrev af3:=@List.mem_append_left
abbrev af4:=@List.nil_append
abbrev af5:=@List.replicate_succ
abbrev af6:=@List.replicate_zero
abbrev af7:=@Nat.sub_self
abbrev af8:=@Int.tdiv_eq_ediv_of_nonneg
abbrev af9:=@List.length_drop
abbrev aga:=@Nat.eq_zero_or_pos
abbrev agb:=@Array.ext_getElem?
abbrev agc:=@Option.filter_some
abbrev agd:=@List.mem_singleton
abbrev age:=@List.length_singleton
abbrev agf:=@Nat.le_succ
abbrev agh:=@Bool.true_and
abbrev agi:=@List.take_append_of_le_length
abbrev agj:=@decide_eq_false_iff_not
abbrev agk:=@List.map_nil
abbrev agl:=@Int.mul_ediv_add_emod
abbrev agm:=@Option.map_none
abbrev agn:=@List.mem_append_right
abbrev ago:=@List.take_append_drop
abbrev agp:=@List.singleton_append
abbrev agq:=@UInt8.lt_iff_toNat_lt
abbrev agr:=@List.mem_iff_getElem?
abbrev ags:=@Array.size_append
abbrev agt:=@List.drop_eq_getElem_cons
abbrev agu:=@Array.getElem?_eq_getElem
abbrev agv:=@Array.mem_toList_iff
abbrev agw:=@List.mem_or_eq_of_mem_set
abbrev agx:=@Array.getElem?_setIfInBounds_ne
abbrev agy:=@eq_of_heq
abbrev agz:=@Int.ediv_nonneg
abbrev agA:=@List.eq_nil_iff_forall_not_mem
abbrev agB:=@UInt8.toNat_ofNat'
abbrev agC:=@Int.mul_le_mul_of_nonneg_left
abbrev agD:=@Nat.le_of_lt
abbrev agE:=@Bool.and_eq_false_iff
abbrev agF:=@Bool.cond_false_right
abbrev agG:=@Array.getElem?_append_right
abbrev agH:=@Nat.mod_eq_of_lt
abbrev agI:=@List.mem_of_mem_drop
abbrev agJ:=@Nat.succ_ne_self
abbrev agK:=@List.take_length
abbrev agL:=@Nat.pow_le_pow_right
abbrev agM:=@List.cons.injEq
abbrev agN:=@List.pairwise_iff_getElem
abbrev agO:=@List.mem_of_find?_eq_some
abbrev agP:=@Nat.mul_comm
abbrev agQ:=@List.eq_of_mem_replicate
abbrev agR:=@List.filterMap_cons_none
abbrev agS:=@List.filterMap_cons_some
abbrev agT:=@Int.mul_nonneg
abbrev agU:=@List.getElem?_replicate
abbrev agV:=@List.filter_cons_of_pos
abbrev agW:=@List.ext_getElem?
abbrev agX:=@Nat.lt_trichotomy
abbrev agY:=@List.getElem?_set
abbrev agZ:=@Nat.one_mul
abbrev ag0:=@List.getElem?_set_self
abbrev ag1:=@Bool.and_true
abbrev ag2:=@List.any_eq_true
abbrev ag3:=@Nat.min_eq_left
abbrev ag4:=@List.mem_of_mem_take
abbrev ag5:=@Nat.eq_of_testBit_eq
abbrev ag6:=@List.getElem?_of_mem
abbrev ag7:=@List.length_pos_iff
abbrev ag8:=@List.take_succ_cons
abbrev ag9:=@Eq.trans
abbrev aha:=@Bool.not_eq_false'
abbrev ahb:=@ByteArray.ext
abbrev ahc:=@List.sum_cons
abbrev ahd:=@Nat.lt_succ_of_lt
abbrev ahe:=@List.size_toArray
abbrev ahf:=@List.length_range
theorem oB.{u,v} {α : Type u} {β : Type v} (a : α) (f : α → Option β) : (some a).bind f = f a := rfl
theorem oT.{u} {α : Type u} (a b : α) : cond true a b = a := rfl
theorem oF.{u} {α : Type u} (a b : α) : cond false a b = b := rfl
theorem oN : (!true) = false := rfl
theorem oM : (!false) = true := rfl
theorem oL.{u,v,w} {α : Type u} {β : Type v} {γ : Sort w} (f : α → γ) (g : β → γ) (x : α) : Sum.elim f g (Sum.inl x) = f x := rfl
theorem oR (n : Nat) : n ≤ n := Nat.le.refl
abbrev S8 := List UInt8
abbrev zR {α : Type} (x : α) : Option (Unit × (α × Unit) × Unit) := some ((), ((x, ()), ()))
open Go.RowKit (Below)
inductive K where
 | int (k:IntKind)
 | bool
 | str
 | sl (e:TypeId) (ks:List K)
mutual
def T:K->Type
 | .int _=>Int
 | .bool=>Bool
 | .str=>S8
 | .sl _ ks=>List (Tl ks)
def Tl:List K->Type
 | []=>Unit
 | k::ks=>T k×Tl ks
end
def aQ{e:TypeId}{ks:List K}(xs:T (.sl e ks)):List (Tl ks):=xs
mutual
def K.same:K->K->Bool
 | .int a,.int b=>a == b
 | .bool,.bool=>true
 | .str,.str=>true
 | .sl e ks,.sl e' ks'=>Nat.beq e e'&&K.kG ks ks'
 | _,_=>false
def K.kG:List K->List K->Bool
 | [],[]=>true
 | k::ks,k'::ks'=>K.same k k'&&K.kG ks ks'
 | _,_=>false
end
mutual
theorem K.BK:∀(a b:K),K.same a b=true->a=b
 | .int a,.int b,h=>by simp[K.same]at h; rw[h]
 | .bool,.bool,_=>rfl
 | .str,.str,_=>rfl
 | .sl e ks,.sl e' ks',h=>by simp only[K.same,aeo]at h;rw[afC h.1,K.jI ks ks' h.2]
 | .int _,.bool,h=>by simp[K.same]at h
 | .int _,.str,h=>by simp[K.same]at h
 | .int _,.sl _ _,h=>by simp[K.same]at h
 | .bool,.int _,h=>by simp[K.same]at h
 | .bool,.str,h=>by simp[K.same]at h
 | .bool,.sl _ _,h=>by simp[K.same]at h
 | .str,.int _,h=>by simp[K.same]at h
 | .str,.bool,h=>by simp[K.same]at h
 | .str,.sl _ _,h=>by simp[K.same]at h
 | .sl _ _,.int _,h=>by simp[K.same]at h
 | .sl _ _,.bool,h=>by simp[K.same]at h
 | .sl _ _,.str,h=>by simp[K.same]at h
theorem K.jI:∀(a b:List K),K.kG a b=true->a=b
 | [],[],_=>rfl
 | k::ks,k'::ks',h=>by simp only[K.kG,aeo]at h;rw[K.BK k k' h.1,K.jI ks ks' h.2]
 | [],_::_,h=>by simp[K.kG]at h
 | _::_,[],h=>by simp[K.kG]at h
end
def fD(k k':K)(x:T k):Option (T k') :=
 match h:K.same k k' with
 | true=>some (K.BK k k' h ▸ x)
 | false=>none
theorem cq{k k':K}{x:T k}{y:T k'}(h:fD k k' x=some y):∃ e:k=k',e ▸ x=y:=by
 unfold fD at h;split at h
 . rename_i h1;exact⟨K.BK k k' h1,by simpa using h⟩
 . simp at h
def vZ(ks ks':List K)(x:Tl ks):Option (Tl ks') :=
 match h:K.kG ks ks' with
 | true=>some (K.jI ks ks' h ▸ x)
 | false=>none
theorem uW{ks ks':List K}{x:Tl ks}{y:Tl ks'}(h:vZ ks ks' x=some y):∃ e:ks=ks',e ▸ x=y:=by
 unfold vZ at h;split at h
 . rename_i h1;exact⟨K.jI ks ks' h1,by simpa using h⟩
 . simp at h
def TK:List K->Nat
 | [.int .u8]=>0
 | _=>1
def eQ(l:S8):ByteArray:=⟨l.toArray⟩
def bG:Nat:=140737488355328
theorem bb : bG = 140737488355328 := rfl
def nB(k:IntKind)(n:Int):Prop:=k.min<=n/\n<=k.max
mutual
def RO(Z:Nat->Prop)(w:World):(k:K)->T k->Value->Prop
 | .int k,n,v=>v= .int k n/\nB k n
 | .bool,b,v=>v= .bool b
 | .str,s,v=>v= .string (eQ s)/\s.length<=bG
 | .sl _ ks,xs,v=>∃ a c,v= .slice a (aQ xs).length c/\(aQ xs).length<=c/\(aQ xs).length<=bG/\(a=none->c=0) /\
    (aQ xs≠[]->∃ b o,a=some ⟨b,o,none⟩/\Z b/\b<w.heap.size/\∀ i x,(aQ xs)[i]? = some x->pz Z w ks x b (o+i * ks.length))
def pz(Z:Nat->Prop)(w:World):(ks:List K)->Tl ks->Nat->Nat->Prop
 | [],_,_,_=>True
 | k::ks,x,b,o=>(∃ v,w.cell? ⟨b,o,none⟩=some v/\RO Z w k x.1 v)/\pz Z w ks x.2 b (o+1)
end
mutual
def cO(w:World):(k:K)->T k->Value->(Nat->Prop)->Prop
 | .int k,n,v,_=>v= .int k n/\nB k n
 | .bool,b,v,_=>v= .bool b
 | .str,s,v,_=>v= .string (eQ s)/\s.length<=bG
 | .sl _ ks,xs,v,F=>∃ a c,v= .slice a (aQ xs).length c/\(aQ xs).length<=c/\(aQ xs).length<=bG/\(a=none->c=0) /\
    ∀ a',a=some a'->∃ b o cs e fr,a'=⟨b,o,none⟩/\F b/\w.heap[b]? = some (.cells cs e fr)/\(∀ q,q<cs.size+TK ks->¬ (fr.1<=q/\q<fr.2))/\o+c * ks.length<=cs.size /\
     ∃ G:Nat->Nat->Nat->Prop,(∀ i j b',G i j b'->F b'/\b'≠b)/\(∀ i j i' j' b',G i j b'->G i' j' b'->i=i'/\j=j') /\
      ∀ i x,(aQ xs)[i]? = some x->fA w ks x 0 (G i) cs (o+i * ks.length)
def fA(w:World):(ks:List K)->Tl ks->Nat->(Nat->Nat->Prop)->Array Value->Nat->Prop
 | [],_,_,_,_,_=>True
 | k::ks,x,j,G,cs,o=>(∃ v,cs[o]? = some v/\cO w k x.1 v (G j))/\fA w ks x.2 (j+1) G cs (o+1)
end
mutual
theorem RO.mono{Z Z':Nat->Prop}{w w':World}(hs:w.heap.size<=w'.heap.size)(hZ:∀ b,Z b->b<w.heap.size->Z' b/\w'.heap[b]? = w.heap[b]?) :
 ∀(k:K) (x:T k) (v:Value),RO Z w k x v->RO Z' w' k x v
 | .int _,_,_,h=>h
 | .bool,_,_,h=>h
 | .str,_,_,h=>h
 | .sl _ ks,xs,v,h=>by obtain⟨a,c,h1,h2,h3,h4,h5⟩:=h;refine⟨a,c,h1,h2,h3,h4,fun hne => ?_⟩;obtain⟨b,o,e,hb,hlt,hr⟩:=h5 hne;exact⟨b,o,e,(hZ b hb hlt).1,aeK hlt hs,fun i x hx=>pz.mono hs hZ ks x b _ (hZ b hb hlt).2 (hr i x hx)⟩
theorem pz.mono{Z Z':Nat->Prop}{w w':World}(hs:w.heap.size<=w'.heap.size)(hZ:∀ b,Z b->b<w.heap.size->Z' b/\w'.heap[b]? = w.heap[b]?) :
 ∀(ks:List K) (x:Tl ks) (b o:Nat),w'.heap[b]? = w.heap[b]? -> pz Z w ks x b o->pz Z' w' ks x b o
 | [],_,_,_,_,_=>trivial
 | k::ks,x,b,o,hb,h=>by obtain⟨⟨v,h1,h2⟩,h3⟩:=h;refine⟨⟨v,?_,RO.mono hs hZ k _ v h2⟩,pz.mono hs hZ ks _ b _ hb h3⟩;rw[<- h1];simp only[World.cell?,hb]
end
mutual
theorem cO.frame{w w':World}:∀(k:K) (x:T k) (v:Value) (F F':Nat->Prop),(∀ b,F b->F' b)->(∀ b,F b->b<w.heap.size->w'.heap[b]? = w.heap[b]?)->cO w k x v F->cO w' k x v F'
 | .int _,_,_,_,_,_,_,h=>h
 | .bool,_,_,_,_,_,_,h=>h
 | .str,_,_,_,_,_,_,h=>h
 | .sl _ ks,xs,v,F,F',hF,hw,h=>by
   obtain⟨a,c,h1,h2,h3,h4,h5⟩:=h;refine⟨a,c,h1,h2,h3,h4,fun a' ha => ?_⟩;obtain⟨b,o,cs,e,fr,g1,g2,g3,g4,g5,G,g6,g7,g8⟩:=h5 a' ha;have hlt:b<w.heap.size:=by
    rcases aeD b w.heap.size with h | h
    . exact h
    . simp[aeH h]at g3
   refine⟨b,o,cs,e,fr,g1,hF b g2,by rw[hw b g2 hlt]; exact g3,g4,g5,G,fun i j b' hb=>⟨hF b' (g6 i j b' hb).1,(g6 i j b' hb).2⟩,g7,fun i x hx => ?_⟩;exact fA.frame ks x 0 (G i) (G i) cs _ (fun _ _ h=>h) (fun j b' hb'=>hw b' (g6 i j b' hb').1) (g8 i x hx)
theorem fA.frame{w w':World}:∀(ks:List K) (x:Tl ks) (j:Nat) (G G':Nat->Nat->Prop) (cs:Array Value) (o:Nat),(∀ j b,G j b->G' j b)->(∀ j b,G j b->b<w.heap.size->w'.heap[b]? = w.heap[b]?)->fA w ks x j G cs o->fA w' ks x j G' cs o
 | [],_,_,_,_,_,_,_,_,_=>trivial
 | k::ks,x,j,G,G',cs,o,hG,hw,h=>by obtain⟨⟨v,h1,h2⟩,h3⟩:=h;exact⟨⟨v,h1,cO.frame k _ v (G j) (G' j) (hG j) (hw j) h2⟩,fA.frame ks _ (j+1) G G' cs (o+1) hG hw h3⟩
end
mutual
theorem cO.ro{Z:Nat->Prop}{w:World}:∀(k:K) (x:T k) (v:Value) (F:Nat->Prop),(∀ b,F b->Z b)->cO w k x v F->RO Z w k x v
 | .int _,_,_,_,_,h=>h
 | .bool,_,_,_,_,h=>h
 | .str,_,_,_,_,h=>h
 | .sl _ ks,xs,v,F,hF,h=>by
   obtain⟨a,c,h1,h2,h3,h4,h5⟩:=h;refine⟨a,c,h1,h2,h3,h4,fun hne => ?_⟩;cases a with
   | none =>
     have:=h4 rfl;have:(aQ xs).length=0:=by omega
     exact absurd (ae6.1 this) hne
   | some a' =>
     obtain⟨b,o,cs,e,fr,g1,g2,g3,g4,g5,G,g6,g7,g8⟩:=h5 a' rfl;have hlt:b<w.heap.size:=by
      rcases aeD b w.heap.size with h | h
      . exact h
      . simp[aeH h]at g3
     exact⟨b,o,by rw[g1],hF b g2,hlt,fun i x hx=>fA.ro ks x 0 (G i) cs _ b e fr g3 (fun j b' hb'=>hF b' (g6 i j b' hb').1) (g8 i x hx)⟩
theorem fA.ro{Z:Nat->Prop}{w:World}:∀(ks:List K) (x:Tl ks) (j:Nat) (G:Nat->Nat->Prop) (cs:Array Value) (o b:Nat) (e:TypeId) (fr:Nat×Nat),w.heap[b]? = some (.cells cs e fr)->(∀ j b,G j b->Z b)->fA w ks x j G cs o->pz Z w ks x b o
 | [],_,_,_,_,_,_,_,_,_,_,_=>trivial
 | k::ks,x,j,G,cs,o,b,e,fr,hb,hG,h=>by obtain⟨⟨v,h1,h2⟩,h3⟩:=h;refine⟨⟨v,?_,cO.ro k _ v (G j) (hG j) h2⟩,fA.ro ks _ (j+1) G cs (o+1) b e fr hb hG h3⟩;simp[World.cell?,hb,h1]
end
inductive Tr (α:Type):Type 1
 | ret (a:α)
 | fail
 | br (c:Bool) (t e:Tr α)
 | call {β:Type} (o:Option β) (k:β->Tr α)
 | alt {β γ:Type} (o:Option (Sum β γ)) (k:β->Tr α) (k':γ->Tr α)
def Tr.bind{α β:Type}:Tr α->(α->Tr β)->Tr β
 | .ret a,f=>f a
 | .fail,_=> .fail
 | .br c t e,f=> .br c (t.bind f) (e.bind f)
 | .call o k,f=> .call o fun b=>(k b).bind f
 | .alt o k k',f=> .alt o (fun b=>(k b).bind f) fun c=>(k' c).bind f
def Tr.run{α:Type}:Tr α->Option α
 | .ret a=>some a
 | .fail=>none
 | .br c t e=>cond c t.run e.run
 | .call o k=>o.bind fun b=>(k b).run
 | .alt o k k'=>o.bind (Sum.elim (fun b=>(k b).run) fun c=>(k' c).run)
theorem Tr.run_bind{α β:Type}(t:Tr α)(f:α->Tr β):(t.bind f).run=t.run.bind fun a=>(f a).run:=by
 induction t with
 | ret a=>rfl
 | fail=>rfl
 | br c t e ih1 ih2=>cases c <;> simp[Tr.bind,Tr.run,ih1,ih2]
 | call o k ih=>cases o <;> simp[Tr.bind,Tr.run,ih]
 | alt o k k' ih ih' =>
   cases o with
   | none=>simp[Tr.bind,Tr.run]
   | some r=>cases r <;> simp[Tr.bind,Tr.run,ih,ih']
def Tr.need{α:Type}(c:Bool)(t:Tr α):Tr α:= .br c t .fail
def Tr.bQ{α β:Type}(o:Option α)(f:α->Tr β):Tr β:=match o with | some a=>f a | none=> .fail
theorem Tr.bB{α:Type}{c:Bool}{t:Tr α}{a:α}(h:(Tr.need c t).run=some a):c=true/\t.run=some a:=by cases c <;> simp_all[Tr.need,Tr.run]
theorem Tr.af{α β:Type}{o:Option α}{f:α->Tr β}{b:β}(h:(Tr.bQ o f).run=some b):∃ a,o=some a/\(f a).run=some b:=by cases o <;> simp_all[Tr.bQ,Tr.run]
def look{β:Type}:List (Nat×β)->Nat->Option β
 | [],_=>none
 | (m,x)::r,n=>bif Nat.beq m n then some x else look r n
inductive AV where
 | dead
 | lb (x:Bool)
 | d (k:K) (x:T k)
 | nil
 | b (r j s m:Nat) (k:K) (x:T k)
 | ref (r j s:Nat)
 | cut (r j s:Nat) (n:Nat)
 | pre (r j s:Nat) (n:Nat)
 | pref (r j s m:Nat) (i c:Nat)
 | ptr (r j:Nat)
 | pel (r j s:Nat) (i c:Nat)
 | brow (r n:Nat)
 | rp (dep:Option (Nat×Nat×Nat×Nat)) (e:TypeId) (ks:List K) (xs:List (Tl ks)) (i c:Nat)
inductive TV where
 | v (a:AV)
 | may (t:Nat) (want y:Bool) (g:Bool) (l:List AV)
 | agg (cs:List AV)
 | tup (cs:List (Bool×List AV))
 | fn (f:Nat) (caps:List (Bool×List AV))
 | bc (r j s m:Nat) (e:TypeId) (ks:List K) (x:List (Tl ks))
inductive RV where
 | own (k:K) (x:T k)
 | av (a:AV)
structure RC where
 s:Nat
 m:Nat
 v:RV
structure Rt where
 box:Bool
 cells:List RC
structure St where
 tm:List (Nat×TV)
 rt:List (Nat×Rt)
def St.cell(st:St)(r j:Nat):Option RC:=match look st.rt r with | some R=>R.cells[j]? | none=>none
structure TI where
 agg:Bool
 ks:List K
 elem:Nat
 bytes:Nat
 flds:List (Nat×Nat)
def dfl:(k:K)->T k
 | .int _=>(0:Int)
 | .bool=>false
 | .str=>([]:S8)
 | .sl _ ks=>([]:List (Tl ks))
def iq:(ks:List K)->Tl ks
 | []=>()
 | k::ks=>(dfl k,iq ks)
 termination_by structural ks=>ks
def cellAt:(ks:List K)->Tl ks->Nat->Option ((k:K)×T k)
 | [],_,_=>none
 | k::_,x,0=>some ⟨k,x.1⟩
 | _::ks,x,c+1=>cellAt ks x.2 c
def qT:K->Bool
 | .sl _ _=>true
 | _=>false
def setAt:(ks:List K)->Tl ks->Nat->(k:K)->T k->Option (Tl ks)
 | [],_,_,_,_=>none
 | k'::_,x,0,k,y=>match fD k k' y with | some y'=>some (y',x.2) | none=>none
 | _::ks,x,c+1,k,y=>match setAt ks x.2 c k y with | some z=>some (x.1,z) | none=>none
def cat(ks:List K)(xs ys:List (Tl ks)):List (Tl ks):=xs++ys
def acP(s t:S8):S8:=s++t
def gi{e:TypeId}{ks:List K}(xs:T (.sl e ks))(i:Nat):Tl ks:=(aQ xs).getD i (iq ks)
def cells(vs:List Value):Option (List AV):=match vs with
 | []=>some []
 | v::r=>match (match v with
    | .int k n=>bif decide (k.min<=n)&&decide (n<=k.max)then some (AV.d (.int k) n)else none
    | .bool x=>some (AV.lb x)
    | .string s=>bif Nat.ble s.data.toList.length bG then some (AV.d .str s.data.toList)else none
    | .slice none 0 0=>some AV.nil
    | _=>none),cells r with
   | some a,some l=>some (a::l)
   | _,_=>none
def sa(v:Value):Option TV:=match v with
 | .agg cs=>match cells cs.toList with | some l=>some (.agg l) | none=>none
 | .tuple vs=>match vs.toList with | []=>some (.tup []) | _=>none
 | .func (.func f) a b=>match a.toList,b.toList with | [],[]=>some (.fn f []) | _,_=>none
 | v=>match cells [v]with | some [a]=>some (.v a) | _=>none
def eN(g:Bool)(l:List AV):TV:=match g,l with | false,[a]=> .v a | _,l=> .agg l
def St.tv(st:St)(t:Nat):Option TV:=match look st.tm t with
 | some (.may q want y g l)=>match look st.tm q with
   | some (.v (.lb x))=>(match x,want with | true,true=>some (eN g l) | false,false=>some (eN g l) | _,_=>none)
   | some _=>some (.may q want y g l)
   | none=>none
 | o=>o
def St.get(st:St):Operand->Option TV
 | .tmp t=>st.tv t
 | .const v=>sa v
 | .func f=>some (.fn f [])
 | .global _=>none
def St.read(st:St):AV->Option ((k:K)×T k)
 | .lb x=>some ⟨.bool,x⟩
 | .d k x=>some ⟨k,x⟩
 | .b r j s m k x=>match st.cell r j with
   | some rc=>bif Nat.beq rc.s s&&Nat.beq rc.m m then some ⟨k,x⟩else none
   | none=>none
 | .ref r j s=>match st.cell r j with
   | some ⟨s',_,.own k x⟩=>bif Nat.beq s' s then some ⟨k,x⟩else none
   | _=>none
 | .cut r j s n=>match st.cell r j with
   | some ⟨s',_,.own (.sl e ks) x⟩=>bif Nat.beq s' s then some ⟨.sl e ks,List.take n (aQ x)⟩else none
   | _=>none
 | .pref r j s m i c=>match st.cell r j with
   | some ⟨s',m',.own (.sl e ks) x⟩=>bif Nat.beq s' s&&Nat.beq m' m then cellAt ks (gi x i) c else none
   | _=>none
 | _=>none
def St.live(st:St):AV->Bool
 | .dead=>false
 | .pre _ _ _ _=>false
 | .lb _=>true
 | .d _ _=>true
 | .nil=>true
 | .ptr _ _=>true
 | .brow _ _=>true
 | .b r j s m _ _=>match st.cell r j with
   | some rc=>Nat.beq rc.s s&&Nat.beq rc.m m
   | none=>false
 | .ref r j s=>match st.cell r j with
   | some ⟨s',_,.own (.sl _ _) _⟩=>Nat.beq s' s
   | _=>false
 | .cut r j s n=>match st.cell r j with
   | some ⟨s',_,.own (.sl _ _) _⟩=>Nat.beq s' s
   | _=>false
 | .pref r j s m i c=>match st.cell r j with
   | some ⟨s',m',.own (.sl _ ks) x⟩=>Nat.beq s' s&&Nat.beq m' m&&(cellAt ks (gi x i) c).isSome
   | _=>false
 | .pel r j s _ _=>match st.cell r j with
   | some rc=>Nat.beq rc.s s
   | none=>false
 | .rp none _ _ _ _ _=>true
 | .rp (some (r,j,s,m)) _ _ _ _ _=>match st.cell r j with
   | some rc=>Nat.beq rc.s s&&Nat.beq rc.m m
   | none=>false
def St.bo(st:St)(k:K)(a:AV):Option (T k):=match a,k with
 | .nil,.sl _ ks=>some ([]:List (Tl ks))
 | a,k=>match st.read a with | some ⟨k',x⟩=>fD k' k x | none=>none
def St.readAll(st:St):(ks:List K)->List AV->Option (Tl ks)
 | [],[]=>some ()
 | k::ks,a::l=>match st.bo k a,st.readAll ks l with | some x,some y=>some (x,y) | _,_=>none
 | _,_=>none
def AV.bE:AV->Bool
 | .lb _ | .d _ _ | .nil=>true
 | _=>false
def AV.int? : AV->Option (IntKind×Int)
 | .d (.int k) n=>some (k,n)
 | _=>none
def AV.bool? : AV->Option Bool
 | .lb x=>some x
 | .d .bool x=>some x
 | _=>none
def AV.mZ : AV->Option S8
 | .d .str s=>some s
 | _=>none
def TV.int? : TV->Option (IntKind×Int) | .v a=>a.int? | _=>none
def TV.bool? : TV->Option Bool | .v a=>a.bool? | _=>none
def TV.mZ : TV->Option S8 | .v a=>a.mZ | _=>none
def TV.Eg : TV->Option AV | .v a=>some a | .bc r j s m e ks x=>some (.b r j s m (.sl e ks) x) | _=>none
def TV.cH : TV->Option (Bool×List AV) | .v a=>some (false,[a]) | .agg l=>some (true,l) | .bc r j s m e ks x=>some (false,[.b r j s m (.sl e ks) x]) | _=>none
def St.jo(st:St):AV->Option RC
 | .pref r j s m i c=>bif st.live (.pref r j s m i c)then some ⟨0,0,.av (.pref r j s m i c)⟩else none
 | .lb x=>some ⟨0,0,.av (.lb x)⟩
 | .d k x=>some ⟨0,0,.av (.d k x)⟩
 | .nil=>some ⟨0,0,.av .nil⟩
 | .b r j s m k x=>bif st.live (.b r j s m k x)then some ⟨0,0,.av (.b r j s m k x)⟩else none
 | _=>none
def St.kP(st:St):List AV->Option (List RC)
 | []=>some []
 | a::l=>match st.jo a,st.kP l with | some x,some y=>some (x::y) | _,_=>none
def mM:K->RC
 | .int k=>⟨0,0,.av (.d (.int k) (0:Int))⟩
 | .bool=>⟨0,0,.av (.d .bool false)⟩
 | .str=>⟨0,0,.av (.d .str ([]:S8))⟩
 | .sl e ks=>⟨0,0,.own (.sl e ks) ([]:List (Tl ks))⟩
def lU:K->AV
 | .int k=> .d (.int k) (0:Int)
 | .bool=> .d .bool false
 | .str=> .d .str ([]:S8)
 | .sl _ _=> .nil
def St.jr(st:St)(r j:Nat):Option AV:=match st.cell r j with
 | some ⟨s,_,.own _ _⟩=>some (.ref r j s)
 | some ⟨_,_,.av a⟩=>some a
 | none=>none
def St.de(st:St)(r:Nat):Nat->Nat->Option (List AV)
 | _,0=>some []
 | j,n+1=>match st.jr r j,st.de r (j+1) n with | some a,some l=>some (a::l) | _,_=>none
def E7(ks:List K)(x:Tl ks)(c:Nat)(sl:(k:K)->T k->AV):Option AV:=match cellAt ks x c with
 | some ⟨.sl e ks',y⟩=>some (sl (.sl e ks') y)
 | some ⟨k,y⟩=>some (.d k y)
 | none=>none
def mL(ks:List K)(x:Tl ks)(sl:Nat->(k:K)->T k->AV):Nat->Nat->Option (List AV)
 | _,0=>some []
 | c,n+1=>match E7 ks x c (sl c),mL ks x sl (c+1) n with | some a,some l=>some (a::l) | _,_=>none
def St.load(st:St)(n:Nat):AV->Option (List AV)
 | .ptr r j=>st.de r j n
 | .pel r j s i c=>match st.cell r j with
   | some ⟨s',m,.own (.sl _ ks) xs⟩=>bif Nat.beq s' s then mL ks (gi xs i) (fun c' _ _=> .pref r j s m i c') c n else none
   | _=>none
 | .rp none e ks xs i c=>mL ks (xs.getD i (iq ks)) (fun _ k y=> .d k y) c n
 | .rp (some (r,j,s,m)) e ks xs i c=>match st.cell r j with
   | some rc=>bif Nat.beq rc.s s&&Nat.beq rc.m m then mL ks (xs.getD i (iq ks)) (fun _ k y=> .b r j s m k y) c n else none
   | none=>none
 | _=>none
def gG(agg:Bool)(l:List AV):Option TV:=match agg,l with
 | true,l=>some (.agg l)
 | false,[a]=>some (.v a)
 | false,_=>none
def bM(a b:Int):Bool:=decide (a<=b)
def aG(a b:Int):Bool:=decide (a<b)
def aj(a b:Int):Bool:=a == b
def bk(a b:S8):Bool:=a == b
def eqB(a b:Bool):Bool:=a == b
def Ol(op:BinOp)(k:IntKind)(a b:Int):Tr AV:=match op with
 | .add=> .ret (.d (.int k) (k.wrap (a+b)))
 | .sub=> .ret (.d (.int k) (k.wrap (a-b)))
 | .mul=> .ret (.d (.int k) (k.wrap (a * b)))
 | .quo=> .need (!(aj b 0)) (.ret (.d (.int k) (k.wrap (a.tdiv b))))
 | .rem=> .need (!(aj b 0)) (.ret (.d (.int k) (a.tmod b)))
 | .and=> .ret (.d (.int k) (k.wrap ((BitVec.ofInt k.bits a &&& BitVec.ofInt k.bits b).toNat:Int)))
 | .or=> .ret (.d (.int k) (k.wrap ((BitVec.ofInt k.bits a ||| BitVec.ofInt k.bits b).toNat:Int)))
 | .xor=> .ret (.d (.int k) (k.wrap ((BitVec.ofInt k.bits a ^^^ BitVec.ofInt k.bits b).toNat:Int)))
 | .eql=> .ret (.d .bool (aj a b))
 | .neq=> .ret (.d .bool (!(aj a b)))
 | .lss=> .ret (.d .bool (aG a b))
 | .leq=> .ret (.d .bool (bM a b))
 | .gtr=> .ret (.d .bool (aG b a))
 | .geq=> .ret (.d .bool (bM b a))
 | _=> .fail
def A6(op:BinOp)(k:IntKind)(a b:Int):Tr AV:=match op with
 | .shl=> .need (decide (0<=b)) (.ret (.d (.int k) (k.wrap (a * 2 ^ min b.toNat k.bits))))
 | .shr=> .need (decide (0<=b)) (.ret (.d (.int k) (a.fdiv (2 ^ min b.toNat k.bits))))
 | _=> .fail
def J5(op:BinOp)(s t:S8):Tr AV:=match op with
 | .add=> .need (Nat.ble (s.length+t.length) bG) (.ret (.d .str (acP s t)))
 | .eql=> .ret (.d .bool (bk s t))
 | .neq=> .ret (.d .bool (!(bk s t)))
 | .lss=> .ret (.d .bool (Op.bytesLess s t))
 | .leq=> .ret (.d .bool (Op.bytesLess s t||bk s t))
 | .gtr=> .ret (.d .bool (!(Op.bytesLess s t||bk s t)))
 | .geq=> .ret (.d .bool (!(Op.bytesLess s t)))
 | _=> .fail
def vy:BinOp->Bool | .shl | .shr=>true | _=>false
def Ua(isB:Bool)(op:BinOp)(x y:TV):Tr AV:=match x.int?,y.int? with
 | some (k,a),some (k',b)=>bif vy op then A6 op k a b else bif k == k' then Ol op k a b else .fail
 | _,_=>match x.mZ,y.mZ with
   | some s,some t=>J5 op s t
   | _,_=>match x.bool?,y.bool? with
     | some a,some b=>bif !isB then .fail else (match op with | .eql=> .ret (.d .bool (eqB a b)) | .neq=> .ret (.d .bool (!(eqB a b))) | _=> .fail)
     | _,_=> .fail
def Y3(op:UnOp)(x:TV):Tr AV:=match op,x.bool?,x.int? with
 | .not,some a,_=> .ret (.d .bool (!a))
 | .neg,_,some (k,a)=> .ret (.d (.int k) (k.wrap (0-a)))
 | _,_,_=> .fail
def UG(x:TV):Tr AV:=match x with
 | .v (.lb a)=> .ret (.lb (!a))
 | x=>Y3 .not x
inductive Qy where
 | c (agg:Bool) (ks:List K)
 | p (ks:List K)
def OH:List Qy->Type
 | []=>Unit
 | .c _ ks::r=>Tl ks×OH r
 | .p ks::r=>Tl ks×OH r
def BT:List (Bool×K)->Type
 | []=>Unit
 | p::r=>T p.2×BT r
inductive PK where
 | c (agg:Bool) (ks:List K)
 | pt (ks:List K)
 | nil
 | fn (f:Nat) (caps:List Qy)
 | io (agg:Bool) (ks:List K)
 | mv (k:K)
 | pw (cs:List (Bool×K))
def CT:List (Bool×List K)->Type
 | []=>Unit
 | p::r=>Tl p.2×CT r
def PT:List PK->Type
 | []=>Unit
 | .c _ ks::r=>Tl ks×PT r
 | .pt ks::r=>Tl ks×PT r
 | .nil::r=>PT r
 | .fn _ caps::r=>OH caps×PT r
 | .io _ ks::r=>Tl ks×PT r
 | .mv k::r=>T k×PT r
 | .pw cs::r=>BT cs×PT r
def rm:List PK->Type
 | []=>Unit
 | .io _ ks::r=>Tl ks×rm r
 | .c _ _::r=>rm r
 | .pt _::r=>rm r
 | .nil::r=>rm r
 | .fn _ _::r=>rm r
 | .mv _::r=>rm r
 | .pw cs::r=>BT cs×rm r
structure Su where
 ps:List PK
 rs:List (Bool×List K)
 fresh:Bool
 f:Sum (PT ps->Option (rm ps×CT rs)) (PT ps->CT rs)
def il:List PK->Bool
 | []=>true
 | .c _ _::r=>il r
 | .pt _::r=>il r
 | .nil::r=>il r
 | .fn _ _::r=>il r
 | .io _ _::_=>false
 | .mv _::_=>false
 | .pw _::_=>false
def bS:Bool->Bool->Bool | true,true=>true | false,false=>true | _,_=>false
def nh(c:RC):Bool:=match c.v with | .av a=>a.bE | _=>false
def tj(c:RC):AV:=match c.v with | .av a=>a | _=> .dead
def St.jc(st:St)(box:Bool)(ks:List K):AV->Option (Tl ks)
 | .rp none _ ks' xs i 0=>vZ ks' ks (xs.getD i (iq ks'))
 | .ptr r 0=>bif box then (match look st.rt r with
   | some R=>bif R.box&&R.cells.all nh then st.readAll ks (R.cells.map tj)else none
   | none=>none)else none
 | _=>none
def St.bC(st:St)(box:Bool):(cs:List Qy)->List (Bool×List AV)->Option (OH cs)
 | [],[]=>some ()
 | .c g ks::cs,(g',l)::r=>bif bS g g'&&l.all AV.bE then (match st.readAll ks l,st.bC box cs r with | some x,some y=>some (x,y) | _,_=>none)else none
 | .p ks::cs,(false,[a])::r=>(match st.jc box ks a,st.bC box cs r with | some x,some y=>some (x,y) | _,_=>none)
 | _,_=>none
def eW:TV->Bool
 | .v .nil=>true
 | _=>false
def St.args(st:St)(bE:Bool):(ps:List PK)->List TV->Option (PT ps)
 | [],[]=>some ()
 | .c g ks::ps,tv::r=>match tv.cH with
   | some (g',l)=>bif bS g g'&&(!bE||l.all AV.bE)then (match st.readAll ks l,st.args bE ps r with | some x,some y=>some (x,y) | _,_=>none)else none
   | none=>none
 | .pt ks::ps,.v a::r=>(match st.jc (!bE) ks a,st.args bE ps r with | some x,some y=>some (x,y) | _,_=>none)
 | .nil::ps,tv::r=>bif eW tv then st.args bE ps r else none
 | .fn f cs::ps,.fn f' caps::r=>bif Nat.beq f f' then (match st.bC (!bE) cs caps,st.args bE ps r with | some x,some y=>some (x,y) | _,_=>none)else none
 | _,_=>none
def e8(dst:Nat)(fresh:Bool):(ks:List K)->Tl ks->Nat->List AV
 | [],_,_=>[]
 | .sl e ks'::ks,x,j=>(bif fresh then .ref dst j 0 else .d (.sl e ks') x.1)::e8 dst fresh ks x.2 (bif fresh then j+1 else j)
 | k::ks,x,j=> .d k x.1::e8 dst fresh ks x.2 j
def kF:(ks:List K)->Tl ks->List RC
 | [],_=>[]
 | .sl e ks'::ks,x=>⟨0,0,.own (.sl e ks') x.1⟩::kF ks x.2
 | _::ks,x=>kF ks x.2
def bD:List K->Nat
 | []=>0
 | .sl _ _::ks=>bD ks+1
 | _::ks=>bD ks
def pT(dst:Nat)(fresh:Bool):(rs:List (Bool×List K))->CT rs->Nat->List (Bool×List AV)
 | [],_,_=>[]
 | (g,ks)::rs,x,j=>(g,e8 dst fresh ks x.1 j)::pT dst fresh rs x.2 (bif fresh then j+bD ks else j)
def cr:(rs:List (Bool×List K))->CT rs->List RC
 | [],_=>[]
 | (_,ks)::rs,x=>kF ks x.1++cr rs x.2
def hU:List (Bool×List AV)->Option TV
 | [(true,l)]=>some (.agg l)
 | [(false,[a])]=>some (.v a)
 | [(false,_)]=>none
 | l=>some (.tup l)
def kb:List (Bool×List K)->Bool
 | []=>false
 | (_,ks)::rs=> !Nat.beq (bD ks) 0||kb rs
def eb(dst:Nat)(s:Su)(y:CT s.rs):Option (TV×Option Rt) :=
 match hU (pT dst s.fresh s.rs y 0)with
 | some tv=>some (tv,bif s.fresh&&kb s.rs then some ⟨false,cr s.rs y⟩else none)
 | none=>none
def St.uE(st:St)(dst:Nat):List Su->List TV->Tr (TV×Option Rt)
 | [],_=> .fail
 | s::r,l=>bif il s.ps then (match st.args (!s.fresh) s.ps l with
    | some x=>(match s.f with
      | .inr g=>Tr.bQ (eb dst s (g x)) .ret
      | .inl f=> .call (f x) fun y=>Tr.bQ (eb dst s y.2) .ret)
    | none=>st.uE dst r l)else st.uE dst r l
inductive SE where
 | d (t:Nat) (k:K)
 | own (t:Nat) (k:K)
 | fn (t f:Nat) (caps:List Qy)
 | ag (t:Nat) (ks:List K)
 | box (r:Nat) (cs:List (Bool×K))
 | al (t t2:Nat)
 | fr (t f r:Nat)
def ej:List SE->Type
 | []=>Unit
 | .d _ k::r=>T k×ej r
 | .own _ k::r=>T k×ej r
 | .fn _ _ caps::r=>OH caps×ej r
 | .ag _ ks::r=>Tl ks×ej r
 | .box _ cs::r=>BT cs×ej r
 | .al _ _::r=>Unit×ej r
 | .fr _ _ _::r=>Unit×ej r
def cn(t:Nat):Nat:=100000+t
def bK:(cs:List (Bool×K))->BT cs->List RC
 | [],_=>[]
 | (true,k)::cs,x=>⟨0,0,.own k x.1⟩::bK cs x.2
 | (false,k)::cs,x=>⟨0,0,.av (.d k x.1)⟩::bK cs x.2
def rT:(cs:List Qy)->OH cs->List (Bool×List AV)
 | [],_=>[]
 | .c g ks::cs,x=>(g,e8 0 false ks x.1 0)::rT cs x.2
 | .p ks::cs,x=>(false,[.rp none 0 ks [x.1] 0 0])::rT cs x.2
def mB:(σ:List SE)->ej σ->List (Nat×TV)
 | [],_=>[]
 | .d t k::σ,x=>(t,.v (.d k x.1))::mB σ x.2
 | .own t k::σ,x=>(t,.v (.ref (cn t) 0 0))::mB σ x.2
 | .fn t f caps::σ,x=>(t,.fn f (rT caps x.1))::mB σ x.2
 | .ag t ks::σ,x=>(t,.agg (e8 0 false ks x.1 0))::mB σ x.2
 | .box r _::σ,x=>(r,.v (.ptr r 0))::mB σ x.2
 | .al t t2::σ,x=>(t,.v (.ref (cn t2) 0 0))::mB σ x.2
 | .fr t f r::σ,x=>(t,.fn f [(false,[.ptr r 0])])::mB σ x.2
def eP:(σ:List SE)->ej σ->List (Nat×Rt)
 | [],_=>[]
 | .d _ _::σ,x=>eP σ x.2
 | .own t k::σ,x=>(cn t,⟨false,[⟨0,0,.own k x.1⟩]⟩)::eP σ x.2
 | .fn _ _ _::σ,x=>eP σ x.2
 | .ag _ _::σ,x=>eP σ x.2
 | .box r cs::σ,x=>(r,⟨true,bK cs x.1⟩)::eP σ x.2
 | .al _ _::σ,x=>eP σ x.2
 | .fr _ _ _::σ,x=>eP σ x.2
def enc(σ:List SE)(x:ej σ):St:=⟨mB σ x,eP σ x⟩
def V3{α:Type}(l:List (Nat×α))(n:Nat)(x:α):List (Nat×α):=match l with
 | []=>[]
 | (m,y)::r=>bif Nat.beq m n then (m,x)::r else (m,y)::V3 r n x
def kQ{α:Type}:List α->Nat->α->List α
 | [],_,_=>[]
 | _::r,0,x=>x::r
 | y::r,n+1,x=>y::kQ r n x
def St.setCell(st:St)(r j:Nat)(c:RC):St:=match look st.rt r with
 | some R=>⟨st.tm,V3 st.rt r ⟨R.box,kQ R.cells j c⟩⟩
 | none=>st
def St.take(st:St):AV->Option (St×((k:K)×T k))
 | .ref r j s=>match st.cell r j with
   | some ⟨s',m,.own k x⟩=>bif Nat.beq s' s then some (st.setCell r j ⟨s'+1,m+1,.av .dead⟩,⟨k,x⟩)else none
   | _=>none
 | .cut r j s n=>match st.cell r j with
   | some ⟨s',m,.own (.sl e ks) x⟩=>bif Nat.beq s' s then some (st.setCell r j ⟨s'+1,m+1,.av .dead⟩,⟨.sl e ks,List.take n (aQ x)⟩)else none
   | _=>none
 | _=>none
def St.cz(st:St)(k:K)(a:AV):Option (St×T k):=match a,k with
 | .nil,.sl _ ks=>some (st,([]:List (Tl ks)))
 | a,k=>match st.take a with | some (st',⟨k',x⟩)=>(match fD k' k x with | some y=>some (st',y) | none=>none) | none=>none
def ea(st:St):(cs:List (Bool×K))->List RC->Option (BT cs)
 | [],[]=>some ()
 | (true,k)::cs,⟨_,_,.own k' x⟩::r=>match fD k' k x,ea st cs r with | some y,some z=>some (y,z) | _,_=>none
 | (false,k)::cs,⟨_,_,.av a⟩::r=>bif a.bE then (match st.bo k a,ea st cs r with | some y,some z=>some (y,z) | _,_=>none)else none
 | _,_=>none
def pC(t:Nat):List SE->Bool
 | []=>false
 | .own t' _::σ=>Nat.beq t' t||pC t σ
 | _::σ=>pC t σ
def wb(r:Nat):List SE->Bool
 | []=>true
 | .own _ _::_=>false
 | .box r' _::σ=> !Nat.beq r' r&&wb r σ
 | _::σ=>wb r σ
def KE(st:St)(r j s:Nat):Bool:=match st.cell r j with
 | some c=>Nat.beq c.s s
 | none=>false
def E6(l:List (Nat×TV))(t:Nat):Bool:=match look l t with
 | some (.v (.ref q 0 0))=>Nat.beq q (cn t)
 | _=>false
def AP(l:List (Nat×Rt))(r:Nat):Bool:=match look l r with | some R=>R.box | none=>false
def dec:(σ:List SE)->St->Option (ej σ)
 | [],_=>some ()
 | .d t k::σ,st=>match st.tv t with
   | some (.v a)=>bif a.bE then (match st.bo k a,dec σ st with | some x,some y=>some (x,y) | _,_=>none)else none
   | _=>none
 | .own t k::σ,st=>match st.tv t with
   | some (.v a)=>bif pC t σ then none else (match st.cz k a with | some (st',x)=>(match dec σ st' with | some y=>some (x,y) | none=>none) | none=>none)
   | _=>none
 | .fn t f caps::σ,st=>match st.tv t with
   | some (.fn f' l)=>bif Nat.beq f f' then (match st.bC false caps l,dec σ st with | some x,some y=>some (x,y) | _,_=>none)else none
   | _=>none
 | .ag t ks::σ,st=>match st.tv t with
   | some (.agg l)=>bif l.all AV.bE then (match st.readAll ks l,dec σ st with | some x,some y=>some (x,y) | _,_=>none)else none
   | _=>none
 | .box r cs::σ,st=>match st.tv r,look st.rt r with
   | some (.v (.ptr r' 0)),some ⟨true,l⟩=>bif Nat.beq r r'&&Nat.blt r 100000&&wb r σ then (match ea st cs l,dec σ st with | some x,some y=>some (x,y) | _,_=>none)else none
   | _,_=>none
 | .al t t2::σ,st=>match st.tv t,st.tv t2 with
   | some (.v (.ref r j s)),some (.v (.ref r2 j2 s2))=>bif Nat.beq r r2&&(Nat.beq j j2&&(Nat.beq s s2&&KE st r j s))then (match dec σ st with | some y=>bif E6 (mB σ y) t2 then some ((),y)else none | none=>none)else none
   | _,_=>none
 | .fr t f r::σ,st=>match st.tv t with
   | some (.fn f' [(false,[.ptr r' 0])])=>bif Nat.beq f f'&&Nat.beq r r' then (match dec σ st with | some y=>bif AP (eP σ y) r then some ((),y)else none | none=>none)else none
   | _=>none
structure Lo (ρ:List SE) where
 σ:List SE
 f:ej σ->Option (Sum (ej σ) (ej ρ))
structure Sc where
 e:TypeId
 ks:List K
 by':Nat
structure En where
 nt:Nat
 tt:List (Nat×TI)
 ga:Nat->List Su
 ρ:List SE
 lo:Nat->Option (Lo ρ)
 pins:List Nat
 rg:Nat->Option (St->Tr St)
 gc:Nat->Option Sc
def gW:List Nat->Nat->Bool
 | [],_=>false
 | x::r,n=>Nat.beq x n||gW r n
def En.dB(E:En)(d:Nat):Bool:=Nat.blt d E.nt&& !gW E.pins d
def En.ti(E:En)(t:Nat):Option TI:=look E.tt t
def H6(l:List (Nat×Nat))(i:Nat):Option (Nat×Nat):=match l,i with
 | [],_=>none
 | x::_,0=>some x
 | _::r,n+1=>H6 r n
def xt(n:Nat):AV->Option AV
 | .ptr r j=>some (.ptr r (j+n))
 | .pel r j s i c=>some (.pel r j s i (c+n))
 | .rp dep e ks xs i c=>some (.rp dep e ks xs i (c+n))
 | _=>none
def pS(l:List AV)(o n:Nat):List AV:=(l.drop o).take n
def putAt(l:List AV)(o:Nat)(p:List AV):List AV:=l.take o++p++l.drop (o+p.length)
def jH{α β:Type}(step:α->β->Option α):α->List β->Option α
 | l,[]=>some l
 | l,q::r=>match step l q with | some l'=>jH step l' r | none=>none
def rR(E:En)(st:St)(flds:List (Nat×Nat))(l:List AV)(q:Nat×Operand):Option (List AV):=match H6 flds q.1,st.get q.2 with
 | some (o,t),some tv=>(match tv.cH,E.ti t with
   | some (_,p),some ti=>bif Nat.beq p.length ti.ks.length&&p.all st.live&&Nat.ble (o+p.length) l.length then some (putAt l o p)else none
   | _,_=>none)
 | _,_=>none
def lenOf(y:Option ((k:K)×T k))(isS:Bool):Option Int:=match y,isS with
 | some ⟨.sl _ _,x⟩,false=>some (aQ x).length
 | some ⟨.str,s⟩,true=>some (List.length (α:=UInt8) s)
 | _,_=>none
def St.len(st:St)(isS:Bool):TV->Option Int
 | .v .nil=>bif isS then none else some 0
 | .v a=>lenOf (st.read a) isS
 | _=>none
def CR(s:S8)(i:Nat):Int:=((s.getD i 0).toNat:Int)
def nR(n:Int)(len:Nat):Bool:=bM 0 n&&aG n (len:Int)
def En.sl(E:En)(t:Nat):Option TI:=match E.ti t with
 | some ⟨false,[.sl _ _],e,_,_⟩=>E.ti e
 | _=>none
def En.str(E:En)(t:Nat):Bool:=match E.ti t with
 | some ⟨false,[.str],_,_,_⟩=>true
 | _=>false
def En.u8(E:En)(t:Nat):Bool:=match E.ti t with
 | some ⟨false,[.int .u8],_,_,_⟩=>true
 | _=>false
def En.i64(E:En)(t:Nat):Bool:=match E.ti t with
 | some ⟨false,[.int .i64],_,_,_⟩=>true
 | _=>false
def En.bool(E:En)(t:Nat):Bool:=match E.ti t with
 | some ⟨false,[.bool],_,_,_⟩=>true
 | _=>false
def St.indexAddr(st:St)(sz:Nat)(x:TV)(n:Int):Tr AV:=match x with
 | .v (.ref r j s)=>(match st.cell r j with
   | some ⟨s',_,.own (.sl e ks) xs⟩=>bif Nat.beq s' s&&Nat.beq ks.length sz then .need (nR n (aQ xs).length) (.ret (.pel r j s n.toNat 0))else .fail
   | _=> .fail)
 | .v (.d (.sl e ks) xs)=>bif Nat.beq ks.length sz then .need (nR n (aQ xs).length) (.ret (.rp none e ks (aQ xs) n.toNat 0))else .fail
 | .v (.b r j s m (.sl e ks) xs)=>(match st.cell r j with
   | some rc=>bif Nat.beq rc.s s&&Nat.beq rc.m m&&Nat.beq ks.length sz then .need (nR n (aQ xs).length) (.ret (.rp (some (r,j,s,m)) e ks (aQ xs) n.toNat 0))else .fail
   | none=> .fail)
 | .v (.pref r j s m i c)=>(match st.cell r j with
   | some ⟨s',m',.own (.sl e0 ks0) x0⟩=>bif Nat.beq s' s&&Nat.beq m' m then (match cellAt ks0 (gi x0 i) c with
     | some ⟨.sl e ks,xs⟩=>bif Nat.beq ks.length sz then .need (nR n (aQ xs).length) (.ret (.rp (some (r,j,s,m)) e ks (aQ xs) n.toNat 0))else .fail
     | _=> .fail)else .fail
   | _=> .fail)
 | _=> .fail
def nf(st:St)(lo hi:Option Operand)(len:Nat):Option (Int×Int) :=
 match (match lo with | none=>some 0 | some x=>(match st.get x with | some tv=>(match tv.int? with | some (_,n)=>some n | none=>none) | none=>none)),
  (match hi with | none=>some (len:Int) | some x=>(match st.get x with | some tv=>(match tv.int? with | some (_,n)=>some n | none=>none) | none=>none))with
 | some a,some b=>some (a,b)
 | _,_=>none
def iF(lo hi:Int)(len:Nat):Bool:=bM 0 lo&&(bM lo hi&&bM hi (len:Int))
def sub{α:Type}(l:List α)(lo hi:Int):List α:=(l.take hi.toNat).drop lo.toNat
def St.oh(st:St)(x:TV)(lo hi:Option Operand):Tr AV:=match x.mZ with
 | some s=>Tr.bQ (nf st lo hi s.length) fun p=> .need (iF p.1 p.2 s.length) (.ret (.d .str (sub s p.1 p.2)))
 | none=> .fail
def St.nK(st:St)(sz:Nat)(x:TV)(lo hi:Option Operand):Tr AV:=match x with
 | .v .nil=>Tr.bQ (nf st lo hi 0) fun p=> .need (iF p.1 p.2 0) (.ret .nil)
 | .v (.d (.sl e ks) xs)=>bif Nat.beq ks.length sz then Tr.bQ (nf st lo hi (aQ xs).length) fun p=> .need (iF p.1 p.2 (aQ xs).length) (.ret (.d (.sl e ks) (sub (aQ xs) p.1 p.2)))else .fail
 | .v (.b r j s m (.sl e ks) xs)=>(match st.cell r j with
   | some rc=>bif Nat.beq rc.s s&&Nat.beq rc.m m&&Nat.beq ks.length sz then Tr.bQ (nf st lo hi (aQ xs).length) fun p=> .need (iF p.1 p.2 (aQ xs).length) (.ret (.b r j s m (.sl e ks) (sub (aQ xs) p.1 p.2)))else .fail
   | none=> .fail)
 | .v (.pref r j s m i c)=>(match st.cell r j with
   | some ⟨s',m',.own (.sl e0 ks0) x0⟩=>bif Nat.beq s' s&&Nat.beq m' m then (match cellAt ks0 (gi x0 i) c with
     | some ⟨.sl e ks,xs⟩=>bif Nat.beq ks.length sz then Tr.bQ (nf st lo hi (aQ xs).length) fun p=> .need (iF p.1 p.2 (aQ xs).length) (.ret (.b r j s m (.sl e ks) (sub (aQ xs) p.1 p.2)))else .fail
     | _=> .fail)else .fail
   | _=> .fail)
 | .v (.ref r j s)=>(match st.cell r j with
   | some ⟨s',m,.own (.sl e ks) xs⟩=>bif Nat.beq s' s&&Nat.beq ks.length sz then Tr.bQ (nf st lo hi (aQ xs).length) fun p=> .need (iF p.1 p.2 (aQ xs).length)
      (match lo with | none=> .ret (.cut r j s p.2.toNat) | some _=> .ret (.b r j s m (.sl e ks) (sub (aQ xs) p.1 p.2)))else .fail
   | _=> .fail)
 | _=> .fail
def flat:List K->Bool
 | []=>true
 | .sl _ _::_=>false
 | _::ks=>flat ks
def chunks(st:St)(ks:List K):Nat->List AV->Option (List (Tl ks))
 | 0,[]=>some []
 | 0,_::_=>none
 | n+1,l=>match st.readAll ks (l.take ks.length),chunks st ks n (l.drop ks.length)with | some x,some r=>some (x::r) | _,_=>none
def mi(st:St)(size:Nat)(l:List AV)(q:Nat×Operand):Option (List AV):=match st.get q.2 with
 | some tv=>(match tv.cH with
   | some (_,p)=>bif Nat.beq p.length size&&p.all st.live&&Nat.ble (q.1 * size+p.length) l.length then some (putAt l (q.1 * size) p)else none
   | none=>none)
 | none=>none
def oJ(a:AV):Bool:=match a with | .nil=>true | .d k _=> !qT k | .lb _=>true | _=>false
def pj{α:Type}(n:Nat)(l:List α):List α:=match n with | 0=>[] | n+1=>l++pj n l
def WV(n:Int):S8:=[UInt8.ofNat n.toNat]
def HI(n:Int):Bool:=bM 0 n&&bM n 127
def strOf(xs:List (Tl [.int .u8])):S8:=xs.map fun x=>UInt8.ofNat (Int.toNat x.1)
def bytesOf(s:S8):List (Tl [.int .u8]):=s.map fun c=>((c.toNat:Int),())
def St.getAll(st:St):List Operand->Option (List TV)
 | []=>some []
 | x::l=>match st.get x,st.getAll l with | some a,some r=>some (a::r) | _,_=>none
def lists:List TV->Option (List (Bool×List AV))
 | []=>some []
 | x::l=>match x.cH,lists l with | some p,some r=>some (p::r) | _,_=>none
def Oz(a b:Int):Int:=if b<a then b else a
def E1(a b:Int):Int:=if a<b then b else a
def St.side(st:St)(c:Operand)(want:Bool)(o:Operand):Option ((k:K)×T k):=match st.get o,c with
 | some (.v a),_=>bif a.bE then st.read a else none
 | some (.may t w _ false [a]),.tmp t'=>bif Nat.beq t t'&&bS w want&&a.bE then st.read a else none
 | _,_=>none
def St.px(st:St)(dst:Nat)(s:Sc):List TV->Tr (TV×Option Rt)
 | [.v a]=>bif a.bE then Tr.bQ (st.bo (.sl s.e s.ks) a) fun x=> .need (Nat.ble ((aQ x).length * s.by') bG) (.ret (.bc dst 0 0 0 s.e s.ks (aQ x),some ⟨false,[⟨0,0,.own (.sl s.e s.ks) ([]:List (Tl s.ks))⟩]⟩))else .fail
 | _=> .fail
def wX(E:En)(st:St)(dst:Nat)(op:Op):Tr (TV×Option Rt) :=
 let v (t:Tr AV):Tr (TV×Option Rt):=t.bind fun a=> .ret (.v a,none)
 match op with
 | .move x=>Tr.bQ (st.get x) fun tv=> .ret (tv,none)
 | .assign x=>Tr.bQ (st.get x) fun tv=> .ret (tv,none)
 | .pick c a b=>(match st.get c with
   | some (.v (.lb true))=>Tr.bQ (st.get a) fun tv=> .ret (tv,none)
   | some (.v (.lb false))=>Tr.bQ (st.get b) fun tv=> .ret (tv,none)
   | some (.v (.d .bool g)) =>
     (match st.side c true a,st.side c false b with
     | some ⟨k,x⟩,some ⟨k',y⟩=>(match fD k' k y with | some y'=> .ret (.v (.d k (cond g x y')),none) | none=> .fail)
     | _,_=> .fail)
   | _=> .fail)
 | .alloc t=>Tr.bQ (E.ti t) fun ti=> .ret (.v (.ptr dst 0),some ⟨true,ti.ks.map mM⟩)
 | .box t x=>Tr.bQ (E.ti t) fun ti=>Tr.bQ (st.get x) fun tv=>Tr.bQ tv.cH fun p=>bif Nat.beq p.2.length ti.ks.length then Tr.bQ (st.kP p.2) fun l=> .ret (.v (.ptr dst 0),some ⟨true,l⟩)else .fail
 | .build t parts=>Tr.bQ (E.ti t) fun ti=>bif !ti.agg then .fail else Tr.bQ (jH (rR E st ti.flds) (ti.ks.map lU) parts.toList) fun l=> .ret (.agg l,none)
 | .buildSlice t n parts=>Tr.bQ (E.ti t) fun ti=>Tr.bQ (E.sl t) fun te=>Tr.bQ (jH (mi st te.ks.length) (pj n (te.ks.map lU)) parts.toList) fun l=>bif Nat.ble (n * te.ks.length) 1000&&Nat.ble n 1000 then
    Tr.bQ (chunks st te.ks n l) fun xs=>bif (flat te.ks||l.all oJ)&& !(gW E.pins 999999&&l.all AV.bE)
     then .ret (.v (.ref dst 0 0),some ⟨false,[⟨0,0,.own (.sl ti.elem te.ks) xs⟩]⟩)
     else bif l.all AV.bE then .ret (.v (.d (.sl ti.elem te.ks) xs),none)else .ret (.v (.brow dst n),some ⟨true,l.map fun a=>⟨0,0,.av a⟩⟩)
    else .fail
 | .load t a=>Tr.bQ (E.ti t) fun ti=>Tr.bQ (st.get a) fun tv=>Tr.bQ tv.Eg fun a=>Tr.bQ (st.load ti.ks.length a) fun l=>Tr.bQ (gG ti.agg l) fun tv=> .ret (tv,none)
 | .nilCheck x=>Tr.bQ (st.get x) fun tv=>(match tv with
   | .v (.ptr r j)=> .ret (.v (.ptr r j),none)
   | .v (.pel r j s i c)=>bif st.live (.pel r j s i c)then .ret (.v (.pel r j s i c),none)else .fail
   | _=> .fail)
 | .binOp op t x y _=>Tr.bQ (st.get x) fun a=>Tr.bQ (st.get y) fun b=>v (Ua (E.bool t) op a b)
 | .unOp op _ x=>Tr.bQ (st.get x) fun a=>v (match op with | .not=>UG a | _=>Y3 op a)
 | .convert s d x=>Tr.bQ (E.ti s) fun ts=>Tr.bQ (E.ti d) fun td=>Tr.bQ (st.get x) fun tv=>bif ts.agg||td.agg then .fail else (match ts.ks,td.ks with
   | [.int _],[.int k]=>Tr.bQ tv.int? fun p=>v (.ret (.d (.int k) (k.wrap p.2)))
   | [.int _],[.str]=>Tr.bQ tv.int? fun p=> .need (bM 0 p.2&&bM p.2 127) (v (.ret (.d .str (WV p.2))))
   | [.str],[.sl e [.int .u8]]=>bif !E.u8 td.elem then .fail else Tr.bQ tv.mZ fun s=> .ret (.v (.ref dst 0 0),some ⟨false,[⟨0,0,.own (.sl e [.int .u8]) (bytesOf s)⟩]⟩)
   | [.sl e [.int .u8]],[.str]=>bif !E.u8 ts.elem then .fail else Tr.bQ tv.Eg fun a=>Tr.bQ (st.bo (.sl e [.int .u8]) a) fun xs=>v (.ret (.d .str (strOf (aQ xs))))
   | [.str],[.str]=>Tr.bQ tv.mZ fun s=>v (.ret (.d .str s))
   | _,_=> .fail)
 | .makeSlice t (.tmp n) (.tmp n')=>Tr.bQ (E.ti t) fun ti=>Tr.bQ (E.sl t) fun te=>Tr.bQ (st.tv n) fun tv=>Tr.bQ tv.int? fun p=>bif Nat.beq n n' then
    .need (bM 0 p.2&&(bM (p.2 * te.bytes) bG&&Nat.blt 0 te.bytes)) (.ret (.v (.ref dst 0 0),some ⟨false,[⟨0,0,.own (.sl ti.elem te.ks) (List.replicate p.2.toNat (iq te.ks))⟩]⟩))else .fail
 | .makeSlice t (.const (.int _ n)) (.const (.int _ n'))=>Tr.bQ (E.ti t) fun ti=>Tr.bQ (E.sl t) fun te=>bif n == n'&&(bM 0 n&&(bM (n * te.bytes) bG&&Nat.blt 0 te.bytes))then
    .ret (.v (.ref dst 0 0),some ⟨false,[⟨0,0,.own (.sl ti.elem te.ks) (List.replicate n.toNat (iq te.ks))⟩]⟩)else .fail
 | .slice t x lo hi none=>Tr.bQ (st.get x) fun tv=>(match E.sl t with
   | some te=>v (st.nK te.ks.length tv lo hi)
   | none=>bif E.str t then v (st.oh tv lo hi)else .fail)
 | .fieldAddr t x f=>Tr.bQ (E.ti t) fun ti=>Tr.bQ (H6 ti.flds f) fun p=>Tr.bQ (st.get x) fun tv=>Tr.bQ tv.Eg fun a=>bif ti.agg&&st.live a then Tr.bQ (xt p.1 a) fun a=> .ret (.v a,none)else .fail
 | .field t x f=>Tr.bQ (E.ti t) fun ti=>Tr.bQ (H6 ti.flds f) fun p=>Tr.bQ (E.ti p.2) fun tf=>Tr.bQ (st.get x) fun tv=>(match tv with
   | .agg l=>bif ti.agg&&Nat.ble (p.1+tf.ks.length) l.length then Tr.bQ (gG tf.agg (pS l p.1 tf.ks.length)) fun tv=> .ret (tv,none)else .fail
   | _=> .fail)
 | .indexAddr t x i=>Tr.bQ (E.sl t) fun te=>Tr.bQ (st.get x) fun tv=>Tr.bQ (st.get i) fun ti=>Tr.bQ ti.int? fun p=>v (st.indexAddr te.ks.length tv p.2)
 | .index t x i=>bif !E.str t then .fail else Tr.bQ (st.get x) fun tv=>Tr.bQ (st.get i) fun ti=>Tr.bQ ti.int? fun p=>Tr.bQ tv.mZ fun s=> .need (nR p.2 s.length) (v (.ret (.d (.int .u8) (CR s p.2.toNat))))
 | .extract x i=>Tr.bQ (st.get x) fun tv=>(match tv with
   | .tup l=>(match l[i]? with
     | some (g,l)=>Tr.bQ (gG g l) fun tv=> .ret (tv,none)
     | none=> .fail)
   | _=> .fail)
 | .makeFunc (.func f) first caps=>bif Nat.beq first.size 0 then Tr.bQ (st.getAll caps.toList) fun l=>Tr.bQ (lists l) fun l=> .ret (.fn f l,none)else .fail
 | .call c=>(match c.callee with
   | .builtin .len=>(match c.args.toList,c.argTypes.toList with | [x],t::_=>bif E.str t then Tr.bQ (st.get x) fun tv=>Tr.bQ (st.len true tv) fun n=>v (.ret (.d (.int .i64) n))else Tr.bQ (E.sl t) fun _=>Tr.bQ (st.get x) fun tv=>Tr.bQ (st.len false tv) fun n=>v (.ret (.d (.int .i64) n)) | _,_=> .fail)
   | .builtin .cap=>(match c.args.toList,c.argTypes.toList with | [x],t::_=>Tr.bQ (E.sl t) fun _=>Tr.bQ (st.get x) fun tv=>bif eW tv then v (.ret (.d (.int .i64) (0:Int)))else .fail | _,_=> .fail)
   | .builtin .min=>(match c.args.toList with | [x,y]=>Tr.bQ (st.get x) fun a=>Tr.bQ (st.get y) fun b=>Tr.bQ a.int? fun p=>Tr.bQ b.int? fun q=>bif p.1 == q.1 then v (.ret (.d (.int p.1) (Oz p.2 q.2)))else .fail | _=> .fail)
   | .builtin .max=>(match c.args.toList with | [x,y]=>Tr.bQ (st.get x) fun a=>Tr.bQ (st.get y) fun b=>Tr.bQ a.int? fun p=>Tr.bQ b.int? fun q=>bif p.1 == q.1 then v (.ret (.d (.int p.1) (E1 p.2 q.2)))else .fail | _=> .fail)
   | .value f=>Tr.bQ (st.get f) fun tf=>(match tf with
     | .fn g caps=>Tr.bQ (st.getAll c.args.toList) fun l=>(match E.gc g,caps with | some s,[]=>st.px dst s l | _,_=>st.uE dst (E.ga g) (l++caps.map fun p=>bif p.1 then .agg p.2 else (match p.2 with | [a]=> .v a | _=> .agg p.2)))
     | _=> .fail)
   | _=> .fail)
 | _=> .fail
def St.aT(st:St)(dst:Nat)(p:TV×Option Rt):St:=⟨(dst,p.1)::st.tm,match p.2 with | some R=>(dst,R)::st.rt | none=>st.rt⟩
def St.free(st:St)(dst:Nat):Bool:=match look st.rt dst with | none=>true | some _=>false
def St.bump(st:St)(r j:Nat)(v:RV):Option St:=match st.cell r j with | some c=>some (st.setCell r j ⟨c.s+1,c.m+1,v⟩) | none=>none
def St.cI(st:St)(r:Nat):Nat->List K->List AV->Option St
 | _,[],[]=>some st
 | j,k::ks,a::l=>match a with
   | .ref r2 j2 s2=>bif Nat.beq r r2&&Nat.beq j j2 then (match st.cell r j with | some c=>bif Nat.beq c.s s2 then st.cI r (j+1) ks l else none | none=>none)
     else (match st.cz k (.ref r2 j2 s2)with | some (st',x)=>(match st'.bump r j (.own k x)with | some st'=>st'.cI r (j+1) ks l | none=>none) | none=>none)
   | .cut r2 j2 s2 n=>(match st.cz k (.cut r2 j2 s2 n)with | some (st',x)=>(match st'.bump r j (.own k x)with | some st'=>st'.cI r (j+1) ks l | none=>none) | none=>none)
   | .nil=>(match k with
     | .sl e ks'=>(match st.bump r j (.own (.sl e ks') ([]:List (Tl ks')))with | some st'=>st'.cI r (j+1) ks l | none=>none)
     | _=>none)
   | a=>(match st.jo a with | some c=>(match st.bump r j c.v with | some st'=>st'.cI r (j+1) ks l | none=>none) | none=>none)
 | _,_,_=>none
def pJ(r j s m c:Nat):AV->Bool
 | .pref r' j' s' m' _ q=>Nat.beq r' r&&(Nat.beq j' j&&(Nat.beq s' s&&(Nat.beq m' m&&Nat.beq q c)))
 | _=>false
def St.mc(st:St)(r j s m c:Nat)(a:AV):Bool:=pJ r j s m c a&&(match st.cell r j with | some ⟨s',_,.own (.sl _ _) _⟩=>Nat.beq s' s | _=>false)
def mT(r j s m i:Nat):Nat->List AV->Bool
 | _,[]=>true
 | c,a::l=>bif pJ r j s m c a then (match a with | .pref _ _ _ _ i' _=>Nat.beq i' i&&mT r j s m i (c+1) l | _=>mT r j s m i (c+1) l)else mT r j s m i (c+1) l
def St.Dt(st:St)(r j:Nat):Nat:=match st.cell r j with | some c=>c.m | none=>0
def St.GW(st:St)(a:AV)(l:List AV):Bool:=match a with | .pel r j s i c=>mT r j s (st.Dt r j) i c l | _=>true
def St.jl(st:St)(r j s i m0:Nat):Nat->List K->List AV->Option St
 | _,[],[]=>some st
 | c,k::ks',a::l=>bif st.mc r j s m0 c a then st.jl r j s i m0 (c+1) ks' l else
   match (match k with
    | .sl _ _=>st.cz k a
    | _=>(match st.bo k a with | some x=>bif a.bE then some (st,x)else none | none=>none))with
   | some (st',x)=>(match st'.cell r j with
     | some ⟨s',m,.own (.sl e ks) xs⟩=>bif Nat.beq s' s then (match setAt ks (gi xs i) c k x with
       | some y=>(st'.setCell r j ⟨s',m+1,.own (.sl e ks) (List.set (aQ xs) i y)⟩).jl r j s i m0 (c+1) ks' l
       | none=>none)else none
     | _=>none)
   | none=>none
 | _,_,_=>none
def St.gn(st:St)(r j s i m0:Nat)(ks0:List K)(z0:Tl ks0):Nat->(ks:List K)->List AV->Option (St×Tl ks)
 | _,[],[]=>some (st,())
 | c,k::ks',a::l=>bif st.mc r j s m0 c a then (match cellAt ks0 z0 c with
    | some z=>(match fD z.1 k z.2,st.gn r j s i m0 ks0 z0 (c+1) ks' l with | some x,some q=>some (q.1,(x,q.2)) | _,_=>none)
    | none=>none)else
   match (match k with
    | .sl _ _=>st.cz k a
    | _=>(match st.bo k a with | some x=>bif a.bE then some (st,x)else none | none=>none))with
   | some (st',x)=>(match st'.cell r j with
     | some ⟨s',m,.own (.sl e ks) xs⟩=>bif Nat.beq s' s&&Nat.beq m (st.Dt r j)then (match setAt ks (gi xs i) c k x with
       | some y=>(match (st'.setCell r j ⟨s',m+1,.own (.sl e ks) (List.set (aQ xs) i y)⟩).gn r j s i m0 ks0 z0 (c+1) ks' l with | some q=>some (q.1,(x,q.2)) | none=>none)
       | none=>none)else none
     | _=>none)
   | none=>none
 | _,_,_=>none
def St.uV(st:St)(r j s i:Nat)(ks:List K)(l:List AV):Option St:=match st.cell r j with
 | some ⟨_,m,.own (.sl e ks0) xs⟩=>(match st.gn r j s i m ks0 (gi xs i) 0 ks l with
   | some q=>(match vZ ks ks0 q.2,q.1.cell r j with
     | some y,some c1=>bif Nat.blt m c1.m then some (q.1.setCell r j ⟨c1.s,c1.m,.own (.sl e ks0) (List.set (aQ xs) i y)⟩)else none
     | _,_=>none)
   | none=>none)
 | _=>none
def St.store(st:St)(ks:List K)(l:List AV):AV->Option St
 | .ptr r j=>st.cI r j ks l
 | .pel r j s i c=>bif st.live (.pel r j s i c)then (bif Nat.beq c 0&&Nat.ble 8 l.length then st.uV r j s i ks l else st.jl r j s i (st.Dt r j) c ks l)else none
 | _=>none
def xk{e:TypeId}{ks:List K}(o:Option (T (.sl e ks))):Bool:=match o with | some x=>(match aQ x with | []=>true | _=>false) | none=>false
def iH(st:St)(fresh:Bool):(ks:List K)->List AV->Option (St×Tl ks)
 | [],[]=>some (st,())
 | .sl e ks'::ks,a::l=>(match (bif fresh then st.cz (.sl e ks') a else bif a.bE||xk (st.bo (.sl e ks') a)then (match st.bo (.sl e ks') a with | some x=>some (st,x) | none=>none)else none)with
   | some (st',x)=>(match iH st' fresh ks l with | some y=>some (y.1,(x,y.2)) | none=>none)
   | none=>none)
 | k::ks,a::l=>(match st.bo k a,a.bE,iH st fresh ks l with | some x,true,some y=>some (y.1,(x,y.2)) | _,_,_=>none)
 | _,_=>none
def St.source(st:St)(k:K)(ks:List K)(a:AV):Option (St×T k) :=
 bif flat ks then (match st.bo k a with | some x=>some (st,x) | none=>none)else st.cz k a
def St.news(st:St)(e:Nat)(ks:List K):TV->Option (St×List (Tl ks))
 | .v (.d .str s)=>match fD (.sl e [.int .u8]) (.sl e ks) (bytesOf s)with | some z=>some (st,aQ z) | none=>none
 | .v (.brow r n)=>bif Nat.beq n 1 then (match look st.rt r with
   | some ⟨true,l⟩=>(match iH st true ks (l.map tj)with | some (st',x)=>some (st',[x]) | none=>none)
   | _=>none)else none
 | .v b=>match st.source (.sl e ks) ks b with | some (st',z)=>some (st',aQ z) | none=>none
 | _=>none
def St.append(st:St)(dst:Nat)(e:Nat)(te:TI)(x y:TV):Tr St :=
 Tr.bQ x.Eg fun a=>Tr.bQ (st.cz (.sl e te.ks) a) fun p=>Tr.bQ (p.1.news e te.ks y) fun q =>
  bif q.1.free dst&&Nat.blt 0 te.bytes then
   .need (Nat.ble (((aQ p.2).length+q.2.length) * te.bytes) bG)
    (.ret (q.1.aT dst (.v (.ref dst 0 0),some ⟨false,[⟨0,0,.own (.sl e te.ks) (cat te.ks (aQ p.2) q.2)⟩]⟩)))
  else .fail
def Yy(l:List RC):Bool:=l.any fun c=>match c.v with | .av (.d (.sl _ _) _)=>true | _=>false
def St.J1(st:St)(ks:List K):TV->TV->Bool
 | .bc _ _ _ _ _ _ _,_=>true
 | _,.v (.brow r _)=>(match look st.rt r with | some R=>Yy R.cells | none=>false)
 | _,.v (.d (.sl _ _) _)=> !flat ks
 | _,_=>false
def St.Cw(st:St)(e:TypeId)(ks:List K):TV->Option (St×T (.sl e ks))
 | .bc r j s m e' ks' x=>(match st.cell r j with
   | some c=>bif Nat.beq c.s s&&Nat.beq c.m m then (match fD (.sl e' ks') (.sl e ks) x with | some y=>some (st.setCell r j ⟨c.s+1,c.m+1,.av .dead⟩,y) | none=>none)else none
   | none=>none)
 | .v a=>st.cz (.sl e ks) a
 | _=>none
def St.C7(st:St)(e:TypeId)(ks:List K):TV->Option (List (Tl ks))
 | .v (.brow r n)=>bif Nat.beq n 1 then (match look st.rt r with
   | some ⟨true,l⟩=>bif l.all nh then (match st.readAll ks (l.map tj)with | some x=>some [x] | none=>none)else none
   | _=>none)else none
 | .v (.d k x)=>(match fD k (.sl e ks) x with | some z=>some (aQ z) | none=>none)
 | _=>none
def St.nj(st:St)(dst:Nat)(e:Nat)(te:TI)(x y:TV):Tr St :=
 Tr.bQ (st.Cw e te.ks x) fun p=>Tr.bQ (p.1.C7 e te.ks y) fun ys =>
  bif p.1.free dst&&Nat.blt 0 te.bytes then
   .need (Nat.ble (((aQ p.2).length+ys.length) * te.bytes) bG)
    (.ret (p.1.aT dst (.bc dst 0 0 0 e te.ks (cat te.ks (aQ p.2) ys),some ⟨false,[⟨0,0,.own (.sl e te.ks) ([]:List (Tl te.ks))⟩]⟩)))
  else .fail
def St.mO(st:St)(dst:Nat)(e:Nat)(te:TI)(n:Int):Tr St :=
 bif st.free dst&&Nat.blt 0 te.bytes then .need (bM 0 n&&bM (n * te.bytes) bG) (.ret (st.aT dst (.v (.ref dst 0 0),some ⟨false,[⟨0,0,.own (.sl e te.ks) (List.replicate n.toNat (iq te.ks))⟩]⟩)))else .fail
def St.fX(st:St):(ps:List PK)->List TV->Option (St×PT ps)
 | [],[]=>some (st,())
 | .c g ks::ps,tv::r=>match tv.cH with
   | some (g',l)=>bif bS g g'&&l.all AV.bE then (match st.readAll ks l,st.fX ps r with | some x,some y=>some (y.1,(x,y.2)) | _,_=>none)else none
   | none=>none
 | .fn f cs::ps,.fn f' caps::r=>bif Nat.beq f f' then (match st.bC true cs caps,st.fX ps r with | some x,some y=>some (y.1,(x,y.2)) | _,_=>none)else none
 | .mv k::ps,.v a::r=>match st.cz k a with | some (st',x)=>(match st'.fX ps r with | some y=>some (y.1,(x,y.2)) | none=>none) | none=>none
 | _,_=>none
def St.vc(st:St)(dst:Nat):List Su->List TV->Tr St
 | [],_=> .fail
 | s::r,l=>bif il s.ps|| !s.fresh then st.vc dst r l else (match st.fX s.ps l with
    | some (st',x)=>(match s.f with
      | .inl f=> .call (f x) fun y=>Tr.bQ (eb dst s y.2) fun p=>bif st'.free dst then .ret (st'.aT dst p)else .fail
      | .inr g=>Tr.bQ (eb dst s (g x)) fun p=>bif st'.free dst then .ret (st'.aT dst p)else .fail)
    | none=>st.vc dst r l)
structure Ln where
 r:Nat
 j:Nat
 pl:Option (Nat×Nat)
def St.CL(st:St)(k:K):AV->Option (Ln×T k)
 | .ref r j s=>match st.cell r j with
   | some ⟨s',_,.own k' x⟩=>bif Nat.beq s' s then (match fD k' k x with | some y=>some (⟨r,j,none⟩,y) | none=>none)else none
   | _=>none
 | .pref r j s m i c=>match st.cell r j with
   | some ⟨s',m',.own (.sl _ ks) x⟩=>bif Nat.beq s' s&&Nat.beq m' m then (match cellAt ks (gi x i) c with
     | some ⟨k',y⟩=>(match fD k' k y with | some y=>some (⟨r,j,some (i,c)⟩,y) | none=>none)
     | none=>none)else none
   | _=>none
 | _=>none
def St.nU(st:St):(ks:List K)->List AV->Option (List Ln×Tl ks)
 | [],[]=>some ([],())
 | .sl e ks'::ks,a::l=>(match st.CL (.sl e ks') a,st.nU ks l with | some p,some q=>some (p.1::q.1,(p.2,q.2)) | _,_=>none)
 | k::ks,a::l=>(match st.bo k a,a.bE,st.nU ks l with | some x,true,some q=>some (q.1,(x,q.2)) | _,_,_=>none)
 | _,_=>none
def St.bR(st:St):(ps:List PK)->List TV->Option (List Ln×PT ps)
 | [],[]=>some ([],())
 | .c g ks::ps,tv::r=>match tv.cH with
   | some (g',l)=>bif bS g g'&&l.all AV.bE then (match st.readAll ks l,st.bR ps r with | some x,some y=>some (y.1,(x,y.2)) | _,_=>none)else none
   | none=>none
 | .fn f cs::ps,.fn f' caps::r=>bif Nat.beq f f' then (match st.bC true cs caps,st.bR ps r with | some x,some y=>some (y.1,(x,y.2)) | _,_=>none)else none
 | .io g ks::ps,tv::r=>match tv.cH with
   | some (g',l)=>bif bS g g' then (match st.nU ks l,st.bR ps r with | some p,some q=>some (p.1++q.1,(p.2,q.2)) | _,_=>none)else none
   | none=>none
 | _,_=>none
def GZ(r j:Nat):List Ln->Bool
 | []=>false
 | n::l=>(Nat.beq n.r r&&Nat.beq n.j j)||GZ r j l
def noTwo:List Ln->Bool
 | []=>true
 | n::l=> !GZ n.r n.j l&&noTwo l
def xv:(ks:List K)->Tl ks->List ((k:K)×T k)
 | [],_=>[]
 | .sl e ks'::ks,x=>⟨.sl e ks',x.1⟩::xv ks x.2
 | _::ks,x=>xv ks x.2
def j4:(ps:List PK)->rm ps->List ((k:K)×T k)
 | [],_=>[]
 | .io _ ks::ps,y=>xv ks y.1++j4 ps y.2
 | .c _ _::ps,y=>j4 ps y
 | .pt _::ps,y=>j4 ps y
 | .nil::ps,y=>j4 ps y
 | .fn _ _::ps,y=>j4 ps y
 | .mv _::ps,y=>j4 ps y
 | .pw _::ps,y=>j4 ps y.2
def St.Bt(st:St)(n:Ln)(y:(k:K)×T k):Option RC:=match st.cell n.r n.j,n.pl with
 | some ⟨s,m,_⟩,none=>some ⟨s,m+1,.own y.1 y.2⟩
 | some ⟨s,m,.own (.sl e ks) x⟩,some (i,c)=>(match setAt ks (gi x i) c y.1 y.2 with | some z=>some ⟨s,m+1,.own (.sl e ks) (List.set (aQ x) i z)⟩ | none=>none)
 | _,_=>none
def St.rS(st:St):List Ln->List ((k:K)×T k)->Option (List (Nat×Nat×RC))
 | [],[]=>some []
 | n::l,y::r=>(match st.Bt n y,st.rS l r with | some c,some q=>some ((n.r,n.j,c)::q) | _,_=>none)
 | _,_=>none
def St.setCells(st:St):List (Nat×Nat×RC)->St
 | []=>st
 | (r,j,c)::l=>(st.setCells l).setCell r j c
def St.Ck(st:St)(dst:Option Nat)(tv:TV):St:=match dst with | some d=>st.aT d (tv,none) | none=>st
def St.nL(st:St)(dst:Option Nat):List Su->List TV->Tr St
 | [],_=> .fail
 | s::r,l=>bif kb s.rs|| !s.fresh then st.nL dst r l else (match st.bR s.ps l with
   | some (ns,x)=>(match s.f with
     | .inl f=>bif noTwo ns then .call (f x) fun y=>Tr.bQ (hU (pT 0 true s.rs y.2 0)) fun tv=>Tr.bQ (st.rS ns (j4 s.ps y.1)) fun q=> .ret ((st.setCells q).Ck dst tv)else .fail
     | .inr _=> .fail)
   | none=>st.nL dst r l)
def St.ca(st:St):(ps:List PK)->List TV->Option (Option (Nat×List RC)×PT ps)
 | [],[]=>some (none,())
 | .c g ks::ps,tv::r=>match tv.cH with
   | some (g',l)=>bif bS g g'&&l.all AV.bE then (match st.readAll ks l,st.ca ps r with | some x,some y=>some (y.1,(x,y.2)) | _,_=>none)else none
   | none=>none
 | .fn f cs::ps,.fn f' caps::r=>bif Nat.beq f f' then (match st.bC false cs caps,st.ca ps r with | some x,some y=>some (y.1,(x,y.2)) | _,_=>none)else none
 | .pw cs::ps,.v (.ptr q 0)::r=>match look st.rt q with
   | some ⟨true,l⟩=>bif Nat.ble l.length 200000 then (match ea st cs l,st.ca ps r with | some x,some (none,y)=>some (some (q,l),(x,y)) | _,_=>none)else none
   | _=>none
 | _,_=>none
def ik:(ps:List PK)->rm ps->List RC
 | [],_=>[]
 | .pw cs::_,y=>bK cs y.1
 | .io _ _::ps,y=>ik ps y.2
 | .c _ _::ps,y=>ik ps y
 | .pt _::ps,y=>ik ps y
 | .nil::ps,y=>ik ps y
 | .fn _ _::ps,y=>ik ps y
 | .mv _::ps,y=>ik ps y
def jd:List RC->List RC->List RC
 | c::l,c'::r=>⟨c.s+1,c.m+1,c'.v⟩::jd l r
 | _,_=>[]
def St.ur(st:St)(dst:Option Nat):List Su->List TV->Tr St
 | [],_=> .fail
 | s::r,l=>match st.ca s.ps l with
   | some (some (q,l0),x)=>(match s.f with
     | .inl f=> .call (f x) fun y=>(match dst with
       | none=> .ret ⟨st.tm,(q,⟨true,jd l0 (ik s.ps y.1)⟩)::st.rt⟩
       | some d=>Tr.bQ (eb d s y.2) fun p=>bif !(s.fresh&&kb s.rs)||St.free ⟨st.tm,(q,⟨true,jd l0 (ik s.ps y.1)⟩)::st.rt⟩ d then .ret (St.aT ⟨st.tm,(q,⟨true,jd l0 (ik s.ps y.1)⟩)::st.rt⟩ d p)else .fail)
     | .inr _=> .fail)
   | _=>st.ur dst r l
def SL:List PK->Bool
 | []=>false
 | .pw _::_=>true
 | _::ps=>SL ps
def KS:List Su->Bool
 | []=>false
 | s::r=>SL s.ps||KS r
def lu:List PK->Bool
 | []=>false
 | .io _ _::_=>true
 | .pw _::_=>true
 | _::ps=>lu ps
def J0:List Su->Bool
 | []=>false
 | s::r=>lu s.ps||J0 r
def St.rebind(st:St)(x:Operand)(d:Nat)(g:Bool)(n:Nat):St:=match x with
 | .tmp t=>bif Nat.beq t d then st else (match st.de d 0 n with | some l=>⟨(t,eN g l)::st.tm,st.rt⟩ | none=>st)
 | _=>st
def yS(E:En)(st:St)(dst:Option Nat)(op:Op):Tr St:=match op,dst with
 | .store t a x,none=>Tr.bQ (E.ti t) fun ti=>Tr.bQ (st.get a) fun ta=>Tr.bQ ta.Eg fun a=>Tr.bQ (st.get x) fun tx=>Tr.bQ tx.cH fun p=>bif p.2.all st.live&&Nat.beq p.2.length ti.ks.length then .need (st.GW a p.2) (Tr.bQ (st.store ti.ks p.2 a) .ret)else .fail
 | .assign x,some d=>Tr.bQ (st.get x) fun tv=> .ret (st.aT d (tv,none))
 | .move x,some d=>Tr.bQ (st.get x) fun tv=> .ret (st.aT d (tv,none))
 | .box t x,some d=>Tr.bQ (E.ti t) fun ti=>Tr.bQ (st.get x) fun tv=>Tr.bQ tv.cH fun p=>bif st.free d&&p.2.all st.live&&Nat.beq p.2.length ti.ks.length then
    Tr.bQ ((st.aT d (.v (.ptr d 0),some ⟨true,ti.ks.map mM⟩)).cI d 0 ti.ks p.2) fun st'=> .ret (st'.rebind x d p.1 ti.ks.length)else .fail
 | .call c,d=>(match c.callee,c.args.toList with
   | .builtin .append,[x,y]=>(match d,c.argTypes.toList with
     | some d,t::t2::_=>Tr.bQ (E.ti t) fun ti=>Tr.bQ (E.sl t) fun te=>Tr.bQ (st.get x) fun a=>Tr.bQ (st.get y) fun b=>bif E.str t2||(E.sl t2).isSome then (bif st.J1 te.ks a b then st.nj d ti.elem te a b else st.append d ti.elem te a b)else (bif E.i64 t2&&eW a then Tr.bQ b.int? fun p=>st.mO d ti.elem te p.2 else .fail)
     | _,_=> .fail)
   | .value f,l=>Tr.bQ (st.get f) fun tf=>(match tf with
     | .fn g caps=>Tr.bQ (st.getAll l) fun l=>bif KS (E.ga g)then st.ur d (E.ga g) (l++caps.map fun p=>bif p.1 then .agg p.2 else (match p.2 with | [a]=> .v a | _=> .agg p.2))else bif J0 (E.ga g)then st.nL d (E.ga g) (l++caps.map fun p=>bif p.1 then .agg p.2 else (match p.2 with | [a]=> .v a | _=> .agg p.2))else (match d with | some d=>st.vc d (E.ga g) (l++caps.map fun p=>bif p.1 then .agg p.2 else (match p.2 with | [a]=> .v a | _=> .agg p.2)) | none=> .fail)
     | _=> .fail)
   | _,_=> .fail)
 | _,_=> .fail
def St.under(st:St)(g:Nat)(want:Bool):St:=⟨st.tm.map fun p=>match p.2 with | .may t w _ g' l=>bif Nat.beq t g&&bS w want then (p.1,eN g' l)else p | _=>p,st.rt⟩
def kO(ops:List Oper)(i:Nat):Option Nat:=match ops[i]? with | some o=>o.dst | none=>none
def MW(ops:List Oper)(i:Nat):Bool:=ops.any fun o=>match o.guard with | some (j,_)=>Nat.beq j i | none=>false
def CN(g:Nat)(want y:Bool):Tr (TV×Option Rt)->Option TV
 | .ret (.v a,none)=>some (.may g want y false [a])
 | .ret (.agg l,none)=>some (.may g want y true l)
 | _=>none
def St.KM(st:St)(t:Nat)(x:Bool):St:=⟨(t,.v (.lb x))::st.tm,st.rt⟩
def St.sure(st:St):St:=⟨st.tm.filter fun p=>match p.2 with | .may _ _ _ _ _=>false | _=>true,st.rt⟩
def bw(ops:List Oper):Bool:=ops.any fun o=>match o.guard with | some _=>true | none=>false
def jX(hg:Bool)(st:St):St:=bif hg then st.sure else st
def dR(e:Edge):Bool:=Region.binds .any e
def bq:List Oper->List Nat->List Nat
 | [],acc=>acc
 | o::r,acc=>bq r (acc++[o.after.toList.foldl (fun s e=>bif dR e then s ||| 2 ^ e.on ||| acc.getD e.on 0 else s) 0])
def iO:List Oper->Nat->Bool
 | [],_=>true
 | o::r,i=>o.after.toList.all (fun e=> !dR e||Nat.blt e.on i)&&iO r (i+1)
abbrev Bd:=List (Nat×Nat×(TV×Option Rt))
def view(base:St)(mask:Nat):Bd->St
 | []=>base
 | (i,t,p)::r=>bif mask.testBit i then (view base mask r).aT t p else view base mask r
def aE(base:St):Bd->St
 | []=>base
 | (_,t,p)::r=>(aE base r).aT t p
def cy:Nat:=2 ^ 200-1
def iK(ns:List Nat)(i:Nat):Bool:=(List.range i).all (fun j=>(ns.getD i 0).testBit j)&&(List.range (ns.length-i-1)).all (fun j=>(ns.getD (i+1+j) 0).testBit i)
def fS(g:Nat)(x:Bool):Bd->Bd
 | []=>[]
 | (i,t,p)::r=>bif Nat.beq t g then (i,t,(.v (.lb x),p.2))::r else (i,t,p)::fS g x r
def j8(g:Nat):Bd->Bool
 | []=>false
 | (_,t,_)::r=>Nat.beq t g||j8 g r
def nw(st:St)(d:Nat):Bool:=match look st.tm d with | none=>true | some _=>false
def nV:Op->Bool | .assign _=>true | _=>false
def w9(E:En)(mask:Nat)(o:Oper)(d:Nat)(base:St)(bs:Bd)(lax:Bool):Tr (TV×Option Rt) :=
 bif nV o.op&& !lax then .fail else bif E.dB d&&nw base d&&base.free d&& !j8 d bs then wX E (view base mask bs) d o.op else .fail
def uQ(E:En):Option Nat->Bool | some d=>E.dB d | none=>true
def eU(E:En)(dr:Bool)(ops:List Oper)(ns:List Nat):List Oper->Nat->St->Bd->Tr St
 | [],_,base,bs=> .ret (jX (bw ops) (aE base bs))
 | o::r,i,base,bs=>match o.guard with
   | none=>(match o.dst with
     | some d=>(match w9 E (ns.getD i cy) o d base bs (dr&& !iK ns i)with
       | .fail=>bif (!dr||iK ns i)&&uQ E o.dst then (yS E (jX (bw ops) (aE base bs)) o.dst o.op).bind fun st'=>eU E dr ops ns r (i+1) st' []else .fail
       | t=>t.bind fun p=>eU E dr ops ns r (i+1) base ((i,d,p)::bs))
     | none=>bif !dr||iK ns i then (yS E (jX (bw ops) (aE base bs)) none o.op).bind fun st'=>eU E dr ops ns r (i+1) st' []else .fail)
   | some (j,want)=>match kO ops j,o.dst with
     | some g,some d=>bif E.dB d&&nw base d&&base.free d&& !j8 d bs&& !nV o.op then (match (view base (ns.getD i cy) bs).tv g with
       | some (.v (.lb x))=>bif bS x want then (wX E (view base (ns.getD i cy) bs) d o.op).bind fun p=>eU E dr ops ns r (i+1) base ((i,d,p)::bs)
          else eU E dr ops ns r (i+1) base ((i,d,(.tup [],none))::bs)
       | some (.v (.d .bool x))=>(match (bif MW ops i then none else CN g want x (wX E ((view base (ns.getD i cy) bs).under g want) d o.op))with
          | some tv=>eU E dr ops ns r (i+1) base ((i,d,(tv,none))::bs)
          | none=>bif j8 g bs then .br x
            (match want with
              | true=>(wX E (view base (ns.getD i cy) (fS g true bs)) d o.op).bind fun p=>eU E dr ops ns r (i+1) base ((i,d,p)::fS g true bs)
              | false=>eU E dr ops ns r (i+1) base ((i,d,(.tup [],none))::fS g true bs))
            (match want with
              | false=>(wX E (view base (ns.getD i cy) (fS g false bs)) d o.op).bind fun p=>eU E dr ops ns r (i+1) base ((i,d,p)::fS g false bs)
              | true=>eU E dr ops ns r (i+1) base ((i,d,(.tup [],none))::fS g false bs))else .fail)
       | some (.tup [])=>eU E dr ops ns r (i+1) base ((i,d,(.tup [],none))::bs)
       | _=> .fail)else .fail
     | _,_=> .fail
inductive Ou where
 | nrm (st:St)
 | ext (id:Nat) (st:St)
 | ret (st:St)
def cD(E:En):Code->St->Tr Ou
 | .skip,st=> .ret (.nrm st)
 | .region id ops false,st=>match E.rg id with
   | some F=>(F st).bind fun st'=> .ret (.nrm st')
   | none=>(eU E false ops.toList [] ops.toList 0 st []).bind fun st'=> .ret (.nrm st')
 | .region id ops true,st=>match E.rg id with
   | some F=>(F st).bind fun st'=> .ret (.nrm st')
   | none=>bif iO ops.toList 0 then (eU E true ops.toList (bq ops.toList []) ops.toList 0 st []).bind fun st'=> .ret (.nrm st')else .fail
 | .seq a b,st=>(cD E a st).bind fun o=>match o with | .nrm st'=>cD E b st' | o=> .ret o
 | .cond c a b,st=>match st.get c,c with
   | some (.v (.lb true)),_=>cD E a st
   | some (.v (.lb false)),_=>cD E b st
   | some (.v (.d .bool x)),.tmp t=> .br x (cD E a (st.KM t true)) (cD E b (st.KM t false))
   | _,_=> .fail
 | .block id c,st=>match E.lo id with
   | some L=>Tr.bQ (dec L.σ st) fun x=> .alt (L.f x) (fun y=> .ret (.nrm (enc L.σ y))) fun z=> .ret (.ret (enc E.ρ z))
   | none=>(cD E c st).bind fun o=>match o with
     | .ext id' st'=>bif Nat.beq id' id then .ret (.nrm st')else .ret (.ext id' st')
     | o=> .ret o
 | .exit id,st=> .ret (.ext id st)
 | .ret,st=> .ret (.ret st)
 | .loop c,st=>(cD E c st).bind fun o=>match o with | .nrm _=> .fail | o=> .ret o
 | _,_=> .fail
def lZ(E:En)(id:Nat)(σ:List SE)(body:Code)(x:ej σ):Tr (Sum (ej σ) (Sum (ej σ) (ej E.ρ))) :=
 (cD E body (enc σ x)).bind fun o=>match o with
   | .nrm st=>Tr.bQ (dec σ st) fun y=> .ret (.inl y)
   | .ext id' st=>bif Nat.beq id' id then Tr.bQ (dec σ st) fun y=> .ret (.inr (.inl y))else .fail
   | .ret st=>Tr.bQ (dec E.ρ st) fun y=> .ret (.inr (.inr y))
def iter{X Y:Type}(step:X->Option (Sum X Y)):Nat->X->Option Y
 | 0,_=>none
 | n+1,x=>match step x with
   | some (.inl x')=>iter step n x'
   | some (.inr y)=>some y
   | none=>none
def nb:(ps:List PK)->PT ps->Nat->List (Nat×TV)
 | [],_,_=>[]
 | .c g ks::ps,x,i=>(i,eN g (e8 0 false ks x.1 0))::nb ps x.2 (i+1)
 | .pt ks::ps,x,i=>(i,.v (.rp none 0 ks [x.1] 0 0))::nb ps x.2 (i+1)
 | .nil::ps,x,i=>(i,.v .nil)::nb ps x (i+1)
 | .fn f caps::ps,x,i=>(i,.fn f (rT caps x.1))::nb ps x.2 (i+1)
 | .io g ks::ps,x,i=>(i,eN g (e8 (cn i) true ks x.1 0))::nb ps x.2 (i+1)
 | .mv k::ps,x,i=>(i,.v (.ref (cn i) 0 0))::nb ps x.2 (i+1)
 | .pw _::ps,x,i=>(i,.v (bif Nat.blt i 100000 then .ptr i 0 else .dead))::nb ps x.2 (i+1)
def e9:(ps:List PK)->PT ps->Nat->List (Nat×Rt)
 | [],_,_=>[]
 | .c _ _::ps,x,i=>e9 ps x.2 (i+1)
 | .pt _::ps,x,i=>e9 ps x.2 (i+1)
 | .nil::ps,x,i=>e9 ps x (i+1)
 | .fn _ _::ps,x,i=>e9 ps x.2 (i+1)
 | .io _ ks::ps,x,i=>(cn i,⟨false,kF ks x.1⟩)::e9 ps x.2 (i+1)
 | .mv k::ps,x,i=>(cn i,⟨false,[⟨0,0,.own k x.1⟩]⟩)::e9 ps x.2 (i+1)
 | .pw cs::ps,x,i=>bif Nat.blt i 100000 then (i,⟨true,bK cs x.1⟩)::e9 ps x.2 (i+1)else e9 ps x.2 (i+1)
def start(ps:List PK)(x:PT ps):St:=⟨nb ps x 0,e9 ps x 0⟩
def la(E:En)(st:St):List ResultVar->Option (List (Bool×List AV))
 | []=>some []
 | .tmp t::r=>match st.tv t,la E st r with
   | some tv,some l=>(match tv.cH with | some p=>some (p::l) | none=>none)
   | _,_=>none
 | .cell t ty::r=>match st.tv t,E.ti ty,la E st r with
   | some (.v (.ptr r' j)),some ti,some l=>(match st.load ti.ks.length (.ptr r' j)with | some cs=>some ((ti.agg,cs)::l) | none=>none)
   | _,_,_=>none
def xu(st:St)(fresh:Bool):(rs:List (Bool×List K))->List (Bool×List AV)->Option (St×CT rs)
 | [],[]=>some (st,())
 | (g,ks)::rs,(g',l)::r=>bif bS g g' then (match iH st fresh ks l with
   | some (st',x)=>(match xu st' fresh rs r with | some y=>some (y.1,(x,y.2)) | none=>none)
   | none=>none)else none
 | _,_=>none
def fN(st:St):(ks:List K)->List AV->Option (Tl ks)
 | [],[]=>some ()
 | .sl e ks'::ks,.ref r j s::l=>(match st.cell r j,fN st ks l with
   | some ⟨s',_,.own k' x⟩,some y=>bif Nat.beq s' s then (match fD k' (.sl e ks') x with | some x'=>some (x',y) | none=>none)else none
   | _,_=>none)
 | k::ks,a::l=>bif qT k then none else (match st.bo k a,a.bE,fN st ks l with | some x,true,some y=>some (x,y) | _,_,_=>none)
 | _,_=>none
def fO:List AV->List (Nat×Nat)
 | []=>[]
 | .ref r j _::l=>(r,j)::fO l
 | _::l=>fO l
def hasName(r j:Nat):List (Nat×Nat)->Bool
 | []=>false
 | n::l=>(Nat.beq n.1 r&&Nat.beq n.2 j)||hasName r j l
def wZ:List (Nat×Nat)->Bool
 | []=>true
 | n::l=> !hasName n.1 n.2 l&&wZ l
def df(r:Nat):List (Bool×K)->Nat->List (Nat×Nat)
 | [],_=>[]
 | _::cs,j=>(r,j)::df r cs (j+1)
def kd(st:St):List PK->Nat->List (Nat×Nat)
 | [],_=>[]
 | .io _ _::ps,i=>(match look st.tm i with | some tv=>(match tv.cH with | some p=>fO p.2 | none=>[]) | none=>[])++kd st ps (i+1)
 | .mv _::ps,i=>(300000+i,0)::kd st ps (i+1)
 | .c _ _::ps,i=>kd st ps (i+1)
 | .pt _::ps,i=>kd st ps (i+1)
 | .nil::ps,i=>kd st ps (i+1)
 | .fn _ _::ps,i=>kd st ps (i+1)
 | .pw cs::ps,i=>(i,200000)::(df i cs 0++kd st ps (i+1))
def iV(pins:List Nat)(st:St):(ps:List PK)->Nat->Option (rm ps)
 | [],_=>some ()
 | .c _ _::ps,i=>iV pins st ps (i+1)
 | .pt _::ps,i=>iV pins st ps (i+1)
 | .nil::ps,i=>iV pins st ps (i+1)
 | .fn _ _::ps,i=>iV pins st ps (i+1)
 | .mv _::ps,i=>iV pins st ps (i+1)
 | .pw cs::ps,i=>match look st.tm i,look st.rt i with
   | some (.v (.ptr r 0)),some ⟨true,l⟩=>bif Nat.beq r i&&gW pins i then (match ea st cs l,iV pins st ps (i+1)with | some x,some y=>some (x,y) | _,_=>none)else none
   | _,_=>none
 | .io g ks::ps,i=>match look st.tm i with
   | some tv=>(match tv.cH with
     | some (g',l)=>bif bS g g'&&gW pins i then (match fN st ks l,iV pins st ps (i+1)with | some x,some y=>some (x,y) | _,_=>none)else none
     | none=>none)
   | none=>none
def qU(pins:List Nat)(st:St)(ps:List PK)(i:Nat):Option (rm ps):=bif wZ (kd st ps i)then iV pins st ps i else none
def Ei(E:En)(body:Code)(res:List ResultVar)(ps:List PK)(rs:List (Bool×List K))(fresh:Bool)(x:PT ps):Tr (rm ps×CT rs) :=
 (cD E body (start ps x)).bind fun o=>match o with
   | .ext _ _=> .fail
   | .nrm st=>Tr.bQ (la E st res) fun l=>Tr.bQ (xu st fresh rs l) fun p=>Tr.bQ (qU E.pins p.1 ps 0) fun z=> .ret (z,p.2)
   | .ret st=>Tr.bQ (la E st res) fun l=>Tr.bQ (xu st fresh rs l) fun p=>Tr.bQ (qU E.pins p.1 ps 0) fun z=> .ret (z,p.2)
structure Gh where
 be:Nat->Nat
 cv:Nat->Nat->Value
 fp:Nat->Nat->Nat->Prop
def bj(Z:Nat->Prop)(g:Gh)(st:St)(w:World):AV->Value->Prop
 | .dead,_=>True
 | .lb x,v=>v= .bool x
 | .d k x,v=>RO Z w k x v
 | .nil,v=>v= .slice none 0 0
 | .b r j s m k x,v=>∃ c,st.cell r j=some c/\s<=c.s/\m<=c.m/\(c.s=s->c.m=m->RO (fun q=>Z q∨g.fp r j q) w k x v)
 | .ref r j s,v=>∃ c,st.cell r j=some c/\s<=c.s/\(c.s=s->v=g.cv r j)
 | .cut r j s n,v=>∃ c,st.cell r j=some c/\s<=c.s/\(c.s=s->∃ a l cap,g.cv r j= .slice a l cap/\n<=l/\v= .slice a n cap)
 | .pre r j s n,v=>∃ c,st.cell r j=some c/\s<=c.s/\(c.s=s->∃ e ks xs,c.v= .own (.sl e ks) xs/\∃ a l cap,v= .slice a l cap/\n<=l/\l<=cap/\l=n+(aQ xs).length/\g.cv r j= .slice (if cap=n then a else a.map (·.add (n * ks.length))) (l-n) (cap-n))
 | .pref r j s m i q,v=>∃ c,st.cell r j=some c/\s<=c.s/\m<=c.m/\(c.s=s->c.m=m->∃ e ks xs,c.v= .own (.sl e ks) xs/\i<(aQ xs).length/\q<ks.length/\∃ b o l cap,g.cv r j= .slice (some ⟨b,o,none⟩) l cap/\w.cell? ⟨b,o+i * ks.length+q,none⟩=some v)
 | .ptr r j,v=>∃ R,look st.rt r=some R/\R.box=true/\v= .pointer (some ⟨g.be r,j,none⟩)
 | .pel r j s i q,v=>∃ c,st.cell r j=some c/\s<=c.s/\(c.s=s->∃ e ks xs,c.v= .own (.sl e ks) xs/\i<(aQ xs).length/\∃ b o l cap,g.cv r j= .slice (some ⟨b,o,none⟩) l cap/\v= .pointer (some ⟨b,o+i * ks.length+q,none⟩))
 | .brow r n,v=>∃ R,look st.rt r=some R/\R.box=true/\v= .slice (some ⟨g.be r,0,none⟩) n n
 | .rp none e ks xs i q,v=>i<xs.length/\∃ b o,Z b/\b<w.heap.size/\v= .pointer (some ⟨b,o+i * ks.length+q,none⟩)/\∀ i x,xs[i]? = some x->pz Z w ks x b (o+i * ks.length)
 | .rp (some (r,j,s,m)) e ks xs i q,v=>∃ c,st.cell r j=some c/\s<=c.s/\m<=c.m/\(c.s=s->c.m=m->i<xs.length/\∃ b o,(Z b∨g.fp r j b)/\b<w.heap.size/\v= .pointer (some ⟨b,o+i * ks.length+q,none⟩)/\∀ i x,xs[i]? = some x->pz (fun q=>Z q∨g.fp r j q) w ks x b (o+i * ks.length))
def aU(Z:Nat->Prop)(g:Gh)(st:St)(w:World):List AV->List Value->Prop
 | [],[]=>True
 | a::l,v::vs=>bj Z g st w a v/\aU Z g st w l vs
 | _,_=>False
def rW(Z:Nat->Prop)(g:Gh)(st:St)(w:World)(p:Bool×List AV)(v:Value):Prop :=
 match p with
 | (true,l)=>∃ vs:Array Value,v= .agg vs/\aU Z g st w l vs.toList
 | (false,[a])=>bj Z g st w a v
 | (false,_)=>False
def gH(Z:Nat->Prop)(g:Gh)(st:St)(w:World):List (Bool×List AV)->List Value->Prop
 | [],[]=>True
 | p::l,v::vs=>rW Z g st w p v/\gH Z g st w l vs
 | _,_=>False
def Sh(Z F:Nat->Prop)(w:World)(ks:List K)(xs:List (Tl ks))(v:Value):Prop :=
 ∃ a c,v= .slice a xs.length c/\xs.length<=c/\xs.length<=bG/\(a=none->c=0) /\
  ∀ a',a=some a'->∃ b o cs e fr,a'=⟨b,o,none⟩/\F b/\w.heap[b]? = some (.cells cs e fr)/\(∀ q,q<cs.size+TK ks->¬ (fr.1<=q/\q<fr.2))/\o+c * ks.length<=cs.size /\
   ∀ i x,xs[i]? = some x->pz (fun q=>Z q∨F q/\q≠b) w ks x b (o+i * ks.length)
theorem GP{w:World}{b:Nat}{o:Obj}(h:w.heap[b]? = some o):b<w.heap.size:=by
 rcases aeD b w.heap.size with h1 | h1
 . exact h1
 . simp[aeH h1]at h
theorem Sh.mono{Z Z' F F':Nat->Prop}{w w':World}{ks:List K}{xs:List (Tl ks)}{v:Value}(hs:w.heap.size<=w'.heap.size)(hZ:∀ b,Z b->b<w.heap.size->Z' b/\w'.heap[b]? = w.heap[b]?)(hF:∀ b,F b->b<w.heap.size->F' b/\w'.heap[b]? = w.heap[b]?)(h:Sh Z F w ks xs v):Sh Z' F' w' ks xs v:=by
 obtain⟨a,c,h1,h2,h3,h4,h5⟩:=h;refine⟨a,c,h1,h2,h3,h4,fun a' ha => ?_⟩;obtain⟨b,o,cs,e,fr,g1,g2,g3,g4,g5,g6⟩:=h5 a' ha;have hb:=hF b g2 (GP g3);exact⟨b,o,cs,e,fr,g1,hb.1,by rw[hb.2]; exact g3,g4,g5,fun i x hx=>pz.mono hs (fun q hq hlt=>by
  rcases hq with hq | hq
  . exact⟨.inl (hZ q hq hlt).1,(hZ q hq hlt).2⟩
  . exact⟨.inr ⟨(hF q hq.1 hlt).1,hq.2⟩,(hF q hq.1 hlt).2⟩) ks x b _ hb.2 (g6 i x hx)⟩
theorem Sh.ro{Z F:Nat->Prop}{w:World}{e:TypeId}{ks:List K}{xs:List (Tl ks)}{v:Value}(h:Sh Z F w ks xs v):RO (fun q=>Z q∨F q) w (.sl e ks) xs v:=by
 obtain⟨a,c,h1,h2,h3,h4,h5⟩:=h;refine⟨a,c,h1,h2,h3,h4,fun hne => ?_⟩;have hne:xs≠[]:=hne;cases a with
 | none => have:=h4 rfl;exact absurd (ae6.1 (by omega)) hne
 | some a' => obtain⟨b,o,cs,e,fr,g1,g2,g3,g4,g5,g6⟩:=h5 a' rfl;exact⟨b,o,by rw[g1],.inr g2,GP g3,fun i x hx=>pz.mono (oR _) (fun q hq _=>⟨hq.imp id And.left,rfl⟩) ks x b _ rfl (g6 i x hx)⟩
def bF(Z:Nat->Prop)(g:Gh)(st:St)(w:World):TV->Value->Prop
 | .v a,v=>bj Z g st w a v
 | .may _ want y gg l,v=>y=want->(match eN gg l with | .v a=>bj Z g st w a v | .agg l=>∃ vs:Array Value,v= .agg vs/\aU Z g st w l vs.toList | _=>True)
 | .agg l,v=>∃ vs:Array Value,v= .agg vs/\aU Z g st w l vs.toList
 | .tup l,v=>∃ vs:Array Value,v= .tuple vs/\gH Z g st w l vs.toList
 | .fn f caps,v=>∃ vs:Array Value,v= .func (.func f) #[] vs/\gH Z g st w caps vs.toList
 | .bc r j s m e ks x,v=>∃ c,st.cell r j=some c/\s<=c.s/\m<=c.m/\(c.s=s->c.m=m->Sh Z (g.fp r j) w ks x v)
structure GK (w w':World) (g g':Gh) (r j:Nat) (c c':RC):Prop where
 s:c.s<=c'.s
 m:c.m<=c'.m
 cv:c'.s=c.s->g'.cv r j=g.cv r j
 sl:c'.s=c.s->∀ e ks xs,c.v= .own (.sl e ks) xs->∃ xs',c'.v= .own (.sl e ks) xs'/\(aQ xs').length=(aQ xs).length
 all:c'.s=c.s->c'.m=c.m->c'.v=c.v/\∀ b,g.fp r j b->b<w.heap.size->g'.fp r j b/\w'.heap[b]? = w.heap[b]?
structure mA (Z Z':Nat->Prop) (w w':World) (g g':Gh) (st st':St):Prop where
 size:w.heap.size<=w'.heap.size
 z:∀ b,Z b->b<w.heap.size->Z' b/\w'.heap[b]? = w.heap[b]?
 root:∀ r R,look st.rt r=some R->∃ R',look st'.rt r=some R'/\R'.box=R.box/\(R.box=true->g'.be r=g.be r)
 cell:∀ r j c,st.cell r j=some c->∃ c',st'.cell r j=some c'/\GK w w' g g' r j c c'
 own:∀ r j b,g.fp r j b->b<w.heap.size
 block:∀ r j c e ks xs,st.cell r j=some c->c.v= .own (.sl e ks) xs->∀ b o l cap,g.cv r j= .slice (some ⟨b,o,none⟩) l cap->g.fp r j b
theorem GK.refl(w:World)(g:Gh)(r j:Nat)(c:RC):GK w w g g r j c c :=
 ⟨oR _,oR _,fun _=>rfl,fun _ e ks xs h=>⟨xs,h,rfl⟩,fun _ _=>⟨rfl,fun b h _=>⟨h,rfl⟩⟩⟩
theorem CA{w w':World}{b o:Nat}(h:w'.heap[b]? = w.heap[b]?):w'.cell? ⟨b,o,none⟩=w.cell? ⟨b,o,none⟩:=by simp only[World.cell?,h]
theorem DQ{w:World}{b o:Nat}{v:Value}(h:w.cell? ⟨b,o,none⟩=some v):b<w.heap.size:=by
 rcases aeD b w.heap.size with h1 | h1
 . exact h1
 . simp[World.cell?,aeH h1]at h
theorem bj.cg{Z Z':Nat->Prop}{w w':World}{g g':Gh}{st st':St}(k:mA Z Z' w w' g g' st st'):∀(a:AV) (v:Value),bj Z g st w a v->bj Z' g' st' w' a v
 | .dead,_,_=>trivial
 | .lb _,_,h=>h
 | .d kk x,v,h=>RO.mono k.size k.z kk x v h
 | .nil,_,h=>h
 | .b r j s m kk x,v,h=>by
   obtain⟨c,h1,h2,h3,h4⟩:=h;obtain⟨c',h1',kc⟩:=k.cell r j c h1;refine⟨c',h1',aeA h2 kc.s,aeA h3 kc.m,fun es em => ?_⟩;have e1:c.s=s:=afW (es ▸ kc.s) h2;have e2:c.m=m:=afW (em ▸ kc.m) h3;have ka:=kc.all (by omega) (by omega);exact RO.mono k.size (fun b hb hlt=>by
    rcases hb with hb | hb
    . exact⟨.inl (k.z b hb hlt).1,(k.z b hb hlt).2⟩
    . exact⟨.inr (ka.2 b hb hlt).1,(ka.2 b hb hlt).2⟩) kk x v (h4 e1 e2)
 | .ref r j s,v,h=>by obtain⟨c,h1,h2,h3⟩:=h;obtain⟨c',h1',kc⟩:=k.cell r j c h1;refine⟨c',h1',aeA h2 kc.s,fun es => ?_⟩;have e1:c.s=s:=afW (es ▸ kc.s) h2;rw[kc.cv (by omega)];exact h3 e1
 | .cut r j s n,v,h=>by obtain⟨c,h1,h2,h3⟩:=h;obtain⟨c',h1',kc⟩:=k.cell r j c h1;refine⟨c',h1',aeA h2 kc.s,fun es => ?_⟩;have e1:c.s=s:=afW (es ▸ kc.s) h2;rw[kc.cv (by omega)];exact h3 e1
 | .pre r j s n,v,h=>by obtain⟨c,h1,h2,h3⟩:=h;obtain⟨c',h1',kc⟩:=k.cell r j c h1;refine⟨c',h1',aeA h2 kc.s,fun es => ?_⟩;have e1:c.s=s:=afW (es ▸ kc.s) h2;obtain⟨e,ks,xs,g1,a,l,cap,g2,g3,g4,g5,g6⟩:=h3 e1;obtain⟨xs',g1',g2'⟩:=kc.sl (by omega) e ks xs g1;exact⟨e,ks,xs',g1',a,l,cap,g2,g3,g4,by omega,by rw[kc.cv (by omega)]; exact g6⟩
 | .pref r j s m i q,v,h=>by obtain⟨c,h1,h2,h3,h4⟩:=h;obtain⟨c',h1',kc⟩:=k.cell r j c h1;refine⟨c',h1',aeA h2 kc.s,aeA h3 kc.m,fun es em => ?_⟩;have e1:c.s=s:=afW (es ▸ kc.s) h2;have e2:c.m=m:=afW (em ▸ kc.m) h3;obtain⟨e,ks,xs,g1,g2,g3,b,o,l,cap,g4,g5⟩:=h4 e1 e2;have ka:=kc.all (by omega) (by omega);refine⟨e,ks,xs,by rw[ka.1]; exact g1,g2,g3,b,o,l,cap,by rw[kc.cv (by omega)]; exact g4,?_⟩;rw[CA (ka.2 b (k.block r j c e ks xs h1 g1 b o l cap g4) (DQ g5)).2];exact g5
 | .ptr r j,v,h=>by obtain⟨R,h1,h2,h3⟩:=h;obtain⟨R',h1',h2',h3'⟩:=k.root r R h1;exact⟨R',h1',by rw[h2',h2],by rw[h3' h2]; exact h3⟩
 | .pel r j s i q,v,h=>by obtain⟨c,h1,h2,h3⟩:=h;obtain⟨c',h1',kc⟩:=k.cell r j c h1;refine⟨c',h1',aeA h2 kc.s,fun es => ?_⟩;have e1:c.s=s:=afW (es ▸ kc.s) h2;obtain⟨e,ks,xs,g1,g2,b,o,l,cap,g4,g5⟩:=h3 e1;obtain⟨xs',g1',g2'⟩:=kc.sl (by omega) e ks xs g1;exact⟨e,ks,xs',g1',by omega,b,o,l,cap,by rw[kc.cv (by omega)]; exact g4,g5⟩
 | .brow r n,v,h=>by obtain⟨R,h1,h2,h3⟩:=h;obtain⟨R',h1',h2',h3'⟩:=k.root r R h1;exact⟨R',h1',by rw[h2',h2],by rw[h3' h2]; exact h3⟩
 | .rp none e ks xs i q,v,h=>by obtain⟨h0,b,o,h1,h2,h3,h4⟩:=h;exact⟨h0,b,o,(k.z b h1 h2).1,aeK h2 k.size,h3,fun i x hx=>pz.mono k.size k.z ks x b _ (k.z b h1 h2).2 (h4 i x hx)⟩
 | .rp (some (r,j,s,m)) e ks xs i q,v,h=>by
   obtain⟨c,h1,h2,h3,h4⟩:=h;obtain⟨c',h1',kc⟩:=k.cell r j c h1;refine⟨c',h1',aeA h2 kc.s,aeA h3 kc.m,fun es em => ?_⟩;have e1:c.s=s:=afW (es ▸ kc.s) h2;have e2:c.m=m:=afW (em ▸ kc.m) h3;have ka:=kc.all (by omega) (by omega);have hz:∀ b,(Z b∨g.fp r j b)->b<w.heap.size->(Z' b∨g'.fp r j b)/\w'.heap[b]? = w.heap[b]? := fun b hb hlt=>by
    rcases hb with hb | hb
    . exact⟨.inl (k.z b hb hlt).1,(k.z b hb hlt).2⟩
    . exact⟨.inr (ka.2 b hb hlt).1,(ka.2 b hb hlt).2⟩
   obtain⟨h0,b,o,g1,g2,g3,g4⟩:=h4 e1 e2;exact⟨h0,b,o,(hz b g1 g2).1,aeK g2 k.size,g3,fun i x hx=>pz.mono k.size hz ks x b _ (hz b g1 g2).2 (g4 i x hx)⟩
theorem aU.cg{Z Z':Nat->Prop}{w w':World}{g g':Gh}{st st':St}(k:mA Z Z' w w' g g' st st'):∀(l:List AV) (vs:List Value),aU Z g st w l vs->aU Z' g' st' w' l vs
 | [],[],_=>trivial
 | a::l,v::vs,h=>⟨bj.cg k a v h.1,aU.cg k l vs h.2⟩
 | [],_::_,h=>h.elim
 | _::_,[],h=>h.elim
theorem rW.cg{Z Z':Nat->Prop}{w w':World}{g g':Gh}{st st':St}(k:mA Z Z' w w' g g' st st')(p:Bool×List AV)(v:Value)(h:rW Z g st w p v):rW Z' g' st' w' p v:=by
 match p,h with
 | (true,l),⟨vs,e,h⟩=>exact⟨vs,e,aU.cg k l _ h⟩
 | (false,[a]),h=>exact bj.cg k a v h
theorem gH.cg{Z Z':Nat->Prop}{w w':World}{g g':Gh}{st st':St}(k:mA Z Z' w w' g g' st st'):∀(l:List (Bool×List AV)) (vs:List Value),gH Z g st w l vs->gH Z' g' st' w' l vs
 | [],[],_=>trivial
 | a::l,v::vs,h=>⟨rW.cg k a v h.1,gH.cg k l vs h.2⟩
 | [],_::_,h=>h.elim
 | _::_,[],h=>h.elim
theorem bF.cg{Z Z':Nat->Prop}{w w':World}{g g':Gh}{st st':St}(k:mA Z Z' w w' g g' st st'):∀(t:TV) (v:Value),bF Z g st w t v->bF Z' g' st' w' t v
 | .v a,v,h=>bj.cg k a v h
 | .may t want y gg l,v,h=>fun e=>by
   have:=h e;split at this
   . exact bj.cg k _ v this
   . obtain⟨vs,e,h⟩:=this;exact⟨vs,e,aU.cg k _ _ h⟩
   . trivial
 | .agg l,v,⟨vs,e,h⟩=>⟨vs,e,aU.cg k l _ h⟩
 | .tup l,v,⟨vs,e,h⟩=>⟨vs,e,gH.cg k l _ h⟩
 | .fn f caps,v,⟨vs,e,h⟩=>⟨vs,e,gH.cg k caps _ h⟩
 | .bc r j s m e ks x,v,⟨c,h1,h2,h3,h4⟩=>by obtain⟨c',h1',kc⟩:=k.cell r j c h1;refine⟨c',h1',aeA h2 kc.s,aeA h3 kc.m,fun es em => ?_⟩;have ka:=kc.all (by have:=kc.s; omega) (by have:=kc.m; omega);exact Sh.mono k.size k.z ka.2 (h4 (by have:=kc.s; omega) (by have:=kc.m; omega))
def jJ(Z:Nat->Prop)(g:Gh)(st:St)(w:World):RV->Value->(Nat->Prop)->Prop
 | .own k x,v,F=>cO w k x v F
 | .av a,v,_=>bj Z g st w a v
theorem jJ.cg{Z Z':Nat->Prop}{w w':World}{g g':Gh}{st st':St}(k:mA Z Z' w w' g g' st st')(rv:RV)(v:Value)(F F':Nat->Prop)(h:jJ Z g st w rv v F)
 (hF:∀ b,F b->F' b)(hw:∀ b,F b->b<w.heap.size->w'.heap[b]? = w.heap[b]?):jJ Z' g' st' w' rv v F':=by
 cases rv with
 | own kk x=>exact cO.frame kk x v F F' hF hw h
 | av a=>exact bj.cg k a v h
def Ww(k:IntKind)(zs:List Int)(o:Option Obj):Prop:=∃ e fr,o=some (.cells (zs.map fun z=>Value.int k z).toArray e fr)
def YN(o:Option Obj):Prop:=∃ m cs e fr,o=some (.cells cs e fr)/\cs[0]? = some (Value.int .i64 m)
def ifP(o:Option Obj):Prop:=∃ ev cs e fr,o=some (.cells cs e fr)/\cs[0]? = some ev/\(ev= .nilIface∨∃ te pe,ev= .iface te pe)
def gl0 : List (String × (Option Obj → Prop)) := [("internal/strconv.uint64pow10", Ww .u64 Lib.pow10Tab), ("internal/bytealg.MaxLen", YN), ("strconv.ErrSyntax", ifP), ("strconv.ErrRange", ifP)]
def Gl(P:Program)(w:World)(Z:Nat->Prop):Prop:=∀ t∈gl0,∀ g,P.globalNamed t.1=some g->t.2 w.heap[g]? /\ Z g/\g<w.heap.size
theorem Gl.mono{P:Program}{w w':World}{Z Z':Nat->Prop}(h:Gl P w Z)(hs:w.heap.size<=w'.heap.size)(hz:∀ b,Z b->b<w.heap.size->Z' b/\w'.heap[b]? = w.heap[b]?):Gl P w' Z':=fun t ht g hg=>by obtain⟨h1,h2,h3⟩:=h t ht g hg;obtain⟨h4,h5⟩:=hz g h2 h3;exact⟨h5 ▸ h1,h4,aeK h3 hs⟩
structure Cx (P:Program) where
 w0:World
 F0:Nat->Prop
 Z0:Nat->Prop
 pin:Nat->Option Value
 gl:Gl P w0 Z0
 z0F:∀ b,Z0 b->b<w0.heap.size->¬ F0 b
def jw{P:Program}(cx:Cx P)(a:Act)(d:Nat):Prop:=d<a.tmps.size/\cx.pin d=none
structure Rel {P:Program} (cx:Cx P) (Z:Nat->Prop) (g:Gh) (st:St) (a:Act) (w:World):Prop where
 os:w.os=cx.w0.os
 tape:w.tape=cx.w0.tape
 output:w.output=cx.w0.output
 size:cx.w0.heap.size<=w.heap.size
 block:∀ b,b<cx.w0.heap.size->¬ cx.F0 b->w.heap[b]? = cx.w0.heap[b]?
 bL:∀ b,Z b->b<w.heap.size/\(cx.Z0 b∨cx.w0.heap.size<=b)
 z0:∀ b,cx.Z0 b->b<cx.w0.heap.size->Z b
 fp:∀ r j b,g.fp r j b->b<w.heap.size/\(cx.F0 b∨cx.w0.heap.size<=b)/\¬ Z b/\∃ c k x,st.cell r j=some c/\c.v= .own k x
 disj:∀ r j r' j' b,g.fp r j b->g.fp r' j' b->r=r'/\j=j'
 box:∀ r R,look st.rt r=some R->R.box=true->(cx.F0 (g.be r)∨cx.w0.heap.size<=g.be r)/\¬ Z (g.be r)/\(∀ r' j',¬ g.fp r' j' (g.be r))/\(∀ r' R',look st.rt r'=some R'->R'.box=true->g.be r'=g.be r->r'=r) /\
  ∃ cs e fr,w.heap[g.be r]? = some (.cells cs e fr)/\(∀ q,q<cs.size->¬ (fr.1<=q/\q<fr.2))/\cs.size=R.cells.length/\∀ j,j<cs.size->cs[j]? = some (g.cv r j)
 cell:∀ r j c,st.cell r j=some c->jJ Z g st w c.v (g.cv r j) (g.fp r j)
 tm:∀ t tv,look st.tm t=some tv->t<a.tmps.size/\bF Z g st w tv (a.tmps.getD t undef)
 defers:a.defers=[]
 pin:∀ t v,cx.pin t=some v->a.tmps.getD t undef=v
theorem Rel.gl{P:Program}{cx:Cx P}{Z:Nat->Prop}{g:Gh}{st:St}{a:Act}{w:World}(h:Rel cx Z g st a w):Gl P w Z :=
 cx.gl.mono h.size fun b hb hl=>⟨h.z0 b hb hl,h.block b hl (cx.z0F b hb hl)⟩
def Cons(st:St):Prop:=∀ d t want y g l,look st.tm d=some (.may t want y g l)->∀ x,(look st.tm t=some (.v (.lb x))->x=y)/\(look st.tm t=some (.v (.d .bool x))->x=y)
theorem NR(s:ByteArray):eQ s.data.toList=s:=by cases s; simp[eQ]
theorem N5{Z:Nat->Prop}{g:Gh}{st:St}{w:World}{gg:Bool}{l:List AV}{v:Value}(h:match eN gg l with | .v a=>bj Z g st w a v | .agg l=>∃ vs:Array Value,v= .agg vs/\aU Z g st w l vs.toList | _=>True):bF Z g st w (eN gg l) v:=by
 unfold eN at *
 split <;> simp_all[bF]
section
variable{P:Program}{cx:Cx P}{Z:Nat->Prop}{g:Gh}{st:St}{a:Act}{w:World}
theorem ir(h:Rel cx Z g st a w)(hc:Cons st){t:Nat}{tv:TV}(ht:st.tv t=some tv):bF Z g st w tv (a.tmps.getD t undef):=by
 unfold St.tv at ht;cases hl:look st.tm t with
 | none=>simp[hl]at ht
 | some tv0 =>
   have h0:=(h.tm t tv0 hl).2;rw[hl]at ht;cases tv0 with
   | may q want y gg l =>
     simp only at ht;cases hq:look st.tm q with
     | none=>simp[hq]at ht
     | some tq =>
       simp only[hq]at ht;have hcq:=hc t q want y gg l hl;split at ht
       . rename_i x he;injection he with he
         subst he;have:=(hcq x).1 hq;subst this;split at ht
         . simp only[aen]at ht; subst ht; exact N5 (h0 rfl)
         . simp only[aen]at ht; subst ht; exact N5 (h0 rfl)
         . simp at ht
       . simp only[aen]at ht; subst ht; exact h0
       . simp_all
   | _=>simp only[aen]at ht; subst ht; exact h0
theorem tT:∀(vs:List Value) (l:List AV),cells vs=some l->aU Z g st w l vs
 | [],l,h=>by simp[cells]at h; subst h; trivial
 | v::r,l,h=>by
   simp only[cells]at h;split at h
   . rename_i a l' ha hl;simp only[aen]at h;subst h;refine⟨?_,tT r l' hl⟩;split at ha
     . rename_i k n;cases hk:(decide (k.min<=n)&&decide (n<=k.max))with
       | false=>simp[hk]at ha
       | true => simp only[hk,oT,aen]at ha;subst ha;simp only[aeo,afJ]at hk;exact⟨rfl,hk⟩
     . simp only[aen]at ha; subst ha; rfl
     . rename_i s;cases hk:Nat.ble s.data.toList.length bG with
       | false=>simp only[hk,oF,reduceCtorEq]at ha
       | true => simp only[hk,oT,aen]at ha;subst ha;exact⟨by rw[NR],aeJ hk⟩
     . simp only[aen]at ha; subst ha; rfl
     . simp at ha
   . simp at h
theorem Ic{v:Value}{tv:TV}(h:sa v=some tv):bF Z g st w tv v:=by
 unfold sa at h;split at h
 . rename_i cs;split at h
   . rename_i l hl;simp only[aen]at h;subst h;exact⟨cs,rfl,tT _ _ hl⟩
   . simp at h
 . rename_i vs;split at h
   . rename_i e;simp only[aen]at h;subst h;exact⟨vs,rfl,by rw[e]; trivial⟩
   . simp at h
 . rename_i f x y;split at h
   . rename_i e1 e2;simp only[aen]at h;subst h;obtain rfl:x = #[]:=by cases x; simp_all
     exact⟨y,rfl,by rw[e2]; trivial⟩
   . simp at h
 . split at h
   . rename_i a ha;simp only[aen]at h;subst h;exact(tT [v] _ ha).1
   . simp at h
theorem aX(h:Rel cx Z g st a w)(hc:Cons st){o:Operand}{tv:TV}(ht:st.get o=some tv):bF Z g st w tv (a.eval o):=by
 cases o with
 | tmp t=>exact ir h hc ht
 | const v=>exact Ic ht
 | global n=>simp[St.get]at ht
 | func f=>simp only[St.get,aen]at ht; subst ht; exact⟨#[],rfl,trivial⟩
theorem nS{Z:Nat->Prop}{w:World}:∀(ks:List K) (x:Tl ks) (b o c:Nat) (k:K) (y:T k),pz Z w ks x b o->cellAt ks x c=some ⟨k,y⟩->∃ v,w.cell? ⟨b,o+c,none⟩=some v/\RO Z w k y v
 | [],_,_,_,_,_,_,_,h=>by simp[cellAt]at h
 | k0::ks,x,b,o,0,k,y,h,hc=>by simp only[cellAt,aen,Sigma.mk.injEq]at hc;obtain⟨rfl,hc⟩:=hc;have:=agy hc;subst this;exact h.1
 | k0::ks,x,b,o,c+1,k,y,h,hc=>by obtain⟨v,h1,h2⟩:=nS ks x.2 b (o+1) c k y h.2 hc;exact⟨v,by rw[show o+(c+1)=o+1+c by omega]; exact h1,h2⟩
theorem zJ:∀(ks:List K) (x:Tl ks) (c:Nat) (k:K) (y:T k),cellAt ks x c=some ⟨k,y⟩->c<ks.length
 | [],_,_,_,_,h=>by simp[cellAt]at h
 | _::_,_,0,_,_,_=>by simp
 | _::ks,x,c+1,k,y,h=>by have:=zJ ks x.2 c k y h; simp; omega
theorem l5{e:TypeId}{ks:List K}(xs:T (.sl e ks)){i:Nat}(h:i<(aQ xs).length):(aQ xs)[i]? = some (gi xs i):=by simp[gi,List.getD,h]
def gM(w:World):Nat->Prop:=fun b=>b<w.heap.size
theorem RO.bL{Z Z':Nat->Prop}{w:World}{k:K}{x:T k}{v:Value}(h:RO Z w k x v)(hz:∀ b,Z b->b<w.heap.size->Z' b):RO Z' w k x v :=
 RO.mono (oR _) (fun b hb hl=>⟨hz b hb hl,rfl⟩) k x v h
theorem RO.all{Z:Nat->Prop}{w:World}{k:K}{x:T k}{v:Value}(h:RO Z w k x v):RO (gM w) w k x v:=h.bL fun _ _ h=>h
theorem Qj{Z:Nat->Prop}{w:World}{e:TypeId}{ks:List K}{xs:T (.sl e ks)}{a:Option Addr}{l cap n:Nat}(h:RO Z w (.sl e ks) xs (.slice a l cap))(hn:n<=l):RO Z w (.sl e ks) (List.take n (aQ xs)) (.slice a n cap):=by
 obtain⟨a',c',h1,h2,h3,h4,h5⟩:=h;simp only[afm]at h1;obtain⟨rfl,rfl,rfl⟩:=h1;have hlen:(aQ (e:=e) (ks:=ks) (List.take n (aQ xs))).length=n:=(afd (l:=aQ xs) (i:=n)).trans (ag3 hn);refine⟨a,cap,by rw[hlen],by omega,by omega,h4,fun hne => ?_⟩;have hne':aQ xs≠[]:=by intro h0;apply hne;show List.take n (aQ xs)=[];rw[h0]; exact List.take_nil
 obtain⟨b,o,g1,g2,g3,g4⟩:=h5 hne';refine⟨b,o,g1,g2,g3,fun i x hx=>g4 i x ?_⟩;have hx':(List.take n (aQ xs))[i]? = some x:=hx;rw[aft]at hx';split at hx'
 . exact hx'
 . simp at hx'
theorem et(h:Rel cx Z g st a w){r j:Nat}{c:RC}{k:K}{x:T k}(hc:st.cell r j=some c)(hv:c.v= .own k x):cO w k x (g.cv r j) (g.fp r j):=by have:=h.cell r j c hc;rw[hv]at this;exact this
theorem vp(h:Rel cx Z g st a w){r j:Nat}{c:RC}{x:AV}(hc:st.cell r j=some c)(hv:c.v= .av x):bj Z g st w x (g.cv r j):=by have:=h.cell r j c hc;rw[hv]at this;exact this
theorem Ag{w:World}{e:TypeId}{ks:List K}{xs:T (.sl e ks)}{v:Value}{F:Nat->Prop}{b o l cap:Nat}(h:cO w (.sl e ks) xs v F)(hv:v= .slice (some ⟨b,o,none⟩) l cap):F b/\l=(aQ xs).length:=by obtain⟨a,c,h1,h2,h3,h4,h5⟩:=h;rw[hv]at h1;simp only[afm]at h1;obtain⟨rfl,rfl,rfl⟩:=h1;obtain⟨b',o',cs,e',fr,g1,g2,_⟩:=h5 _ rfl;simp only[afK,afQ]at g1;obtain⟨rfl,rfl⟩:=g1;exact⟨g2,rfl⟩
theorem AE(h:Rel cx Z g st a w){x:AV}{v:Value}(hr:bj Z g st w x v){k:K}{y:T k}(hy:st.read x=some ⟨k,y⟩):RO (gM w) w k y v:=by
 cases x with
 | dead=>simp[St.read]at hy
 | lb b=>simp only[St.read,aen]at hy; cases hy; exact hr
 | d k' x'=>simp only[St.read,aen]at hy; cases hy; exact RO.all hr
 | nil=>simp[St.read]at hy
 | pre=>simp[St.read]at hy
 | b r j s m k' x' =>
   obtain⟨c,h1,h2,h3,h4⟩:=hr;simp only[St.read,h1]at hy;cases hb:Nat.beq c.s s&&Nat.beq c.m m with
   | false=>simp[hb]at hy
   | true => simp only[hb,oT,aen]at hy;cases hy;simp only[aeo]at hb;exact RO.all (h4 (afC hb.1) (afC hb.2))
 | ref r j s =>
   obtain⟨c,h1,h2,h3⟩:=hr;obtain⟨cs,cm,cv⟩:=c;cases cv with
   | av _=>simp[St.read,h1]at hy
   | own k' x' =>
     simp only[St.read,h1]at hy;cases hb:Nat.beq cs s with
     | false=>simp[hb]at hy
     | true => simp only[hb,oT,aen]at hy;cases hy;rw[h3 (afC hb)];exact cO.ro _ _ _ _ (fun b hb=>(h.fp r j b hb).1) (et h h1 rfl)
 | cut r j s n =>
   obtain⟨c,h1,h2,h3⟩:=hr;obtain⟨cs,cm,cv⟩:=c;cases cv with
   | av _=>simp[St.read,h1]at hy
   | own k' x' =>
     cases k' with
     | int _=>simp[St.read,h1]at hy
     | bool=>simp[St.read,h1]at hy
     | str=>simp[St.read,h1]at hy
     | sl e ks =>
       simp only[St.read,h1]at hy;cases hb:Nat.beq cs s with
       | false=>simp[hb]at hy
       | true => simp only[hb,oT,aen]at hy;cases hy;obtain⟨aa,l,cap,e1,e2,rfl⟩:=h3 (afC hb);have:=cO.ro (Z:=gM w) _ _ _ _ (fun b hb=>(h.fp r j b hb).1) (et h h1 rfl);rw[e1]at this;exact Qj this e2
 | pref r j s m i q =>
   obtain⟨c,h1,h2,h3,h4⟩:=hr;obtain⟨cs,cm,cv⟩:=c;cases cv with
   | av _=>simp[St.read,h1]at hy
   | own k' x' =>
     cases k' with
     | int _=>simp[St.read,h1]at hy
     | bool=>simp[St.read,h1]at hy
     | str=>simp[St.read,h1]at hy
     | sl e ks =>
       simp only[St.read,h1]at hy;cases hb:Nat.beq cs s&&Nat.beq cm m with
       | false=>simp[hb]at hy
       | true => simp only[hb,oT]at hy;simp only[aeo]at hb;obtain⟨e',ks',xs',g1,g2,g3,b,o,l,cap,g4,g5⟩:=h4 (afC hb.1) (afC hb.2);simp only[RV.own.injEq,K.sl.injEq]at g1;obtain⟨⟨rfl,rfl⟩,g1⟩:=g1;have:=agy g1;subst this;have hro:=cO.ro (Z:=gM w) _ _ _ _ (fun b hb=>(h.fp r j b hb).1) (et h h1 rfl);rw[g4]at hro;obtain⟨aa,c',u1,u2,u3,u4,u5⟩:=hro;simp only[afm]at u1;obtain⟨rfl,rfl,rfl⟩:=u1;obtain⟨b',o',v1,v2,v3,v4⟩:=u5 (by intro h0; rw[h0]at g2; simp at g2);simp only[aen,afK,afQ]at v1;obtain⟨rfl,rfl⟩:=v1;obtain⟨v',hv1,hv2⟩:=nS ks _ b _ q k y (v4 i _ (l5 x' g2)) hy;rw[g5]at hv1;simp only[aen]at hv1;subst hv1;exact hv2
 | ptr _ _=>simp[St.read]at hy
 | pel _ _ _ _ _=>simp[St.read]at hy
 | brow _ _=>simp[St.read]at hy
 | rp _ _ _ _ _ _=>simp[St.read]at hy
theorem KZ{Z:Nat->Prop}{w:World}(e:TypeId)(ks:List K):RO Z w (.sl e ks) ([]:List (Tl ks)) (.slice none 0 0) :=
 ⟨none,0,rfl,oR _,aeC _,fun _=>rfl,fun h=>absurd rfl h⟩
theorem jC{F:Nat->Prop}{w:World}(e:TypeId)(ks:List K):cO w (.sl e ks) ([]:List (Tl ks)) (.slice none 0 0) F :=
 ⟨none,0,rfl,oR _,aeC _,fun _=>rfl,fun a' h=>by simp at h⟩
theorem mg(h:Rel cx Z g st a w){x:AV}{v:Value}(hr:bj Z g st w x v){k:K}{y:T k}(hy:st.bo k x=some y):RO (gM w) w k y v:=by
 unfold St.bo at hy;split at hy
 . rename_i ks;cases hy;have:v= .slice none 0 0:=hr;subst this;exact KZ _ _
 . split at hy
   . rename_i k' x' hx;obtain⟨e,hy⟩:=cq hy;subst e;subst hy;exact AE h hr hx
   . simp at hy
theorem bV(h:Rel cx Z g st a w){x:AV}{v:Value}(hr:bj Z g st w x v)(hf:x.bE=true){k:K}{y:T k}(hy:st.bo k x=some y):RO Z w k y v:=by
 unfold St.bo at hy;split at hy
 . cases hy;have:v= .slice none 0 0:=hr;subst this;exact KZ _ _
 . split at hy
   . rename_i k' x' hx;obtain⟨e,hy⟩:=cq hy;subst e;subst hy;cases x with
     | lb b=>simp only[St.read,aen]at hx; cases hx; exact hr
     | d k' x'=>simp only[St.read,aen]at hx; cases hx; exact hr
     | nil=>simp[St.read]at hx
     | _=>simp[AV.bE]at hf
   . simp at hy
def qc(Z:Nat->Prop)(w:World):(ks:List K)->Tl ks->List Value->Prop
 | [],_,[]=>True
 | k::ks,x,v::vs=>RO Z w k x.1 v/\qc Z w ks x.2 vs
 | _,_,_=>False
theorem wU(h:Rel cx Z g st a w):∀(ks:List K) (l:List AV) (vs:List Value) (y:Tl ks),aU Z g st w l vs->st.readAll ks l=some y->qc (gM w) w ks y vs
 | [],[],[],_,_,_=>trivial
 | [],[],_::_,_,h1,_=>h1.elim
 | k::ks,x::l,[],_,h1,_=>h1.elim
 | k::ks,x::l,v::vs,y,h1,h2=>by
   unfold St.readAll at h2;split at h2
   . rename_i z zs hz hzs;cases h2;exact⟨mg h h1.1 hz,wU h ks l vs zs h1.2 hzs⟩
   . simp at h2
 | [],_::_,_,_,_,h2=>by simp[St.readAll]at h2
 | _::_,[],_,_,_,h2=>by simp[St.readAll]at h2
theorem cT(h:Rel cx Z g st a w):∀(ks:List K) (l:List AV) (vs:List Value) (y:Tl ks),aU Z g st w l vs->l.all AV.bE=true->st.readAll ks l=some y->qc Z w ks y vs
 | [],[],[],_,_,_,_=>trivial
 | [],[],_::_,_,h1,_,_=>h1.elim
 | k::ks,x::l,[],_,h1,_,_=>h1.elim
 | k::ks,x::l,v::vs,y,h1,hf,h2=>by
   simp only[afe,aeo]at hf;unfold St.readAll at h2;split at h2
   . rename_i z zs hz hzs;cases h2;exact⟨bV h h1.1 hf.1 hz,cT h ks l vs zs h1.2 hf.2 hzs⟩
   . simp at h2
 | [],_::_,_,_,_,_,h2=>by simp[St.readAll]at h2
 | _::_,[],_,_,_,_,h2=>by simp[St.readAll]at h2
end
theorem aK{β:Type}(m:Nat)(x:β)(r:List (Nat×β))(n:Nat):look ((m,x)::r) n=if m=n then some x else look r n:=by
 simp only[look];cases h:Nat.beq m n with
 | true=>simp[afC h]
 | false=>simp[afx h]
theorem beq_eq{a b:Nat}(h:Nat.beq a b=true):a=b:=afC h
theorem Lg(a:Act)(d:Nat)(v:Value):(a.put (some d) v).tmps=a.tmps.setIfInBounds d v:=rfl
theorem put_defers(a:Act)(d:Option Nat)(v:Value):(a.put d v).defers=a.defers:=by cases d <;> rfl
theorem sv(a:Act)(d:Option Nat)(v:Value):(a.put d v).tmps.size=a.tmps.size:=by cases d <;> simp[Act.put]
theorem AG(a:Act)(d t:Nat)(v:Value)(hd:d<a.tmps.size):(a.put (some d) v).tmps.getD t undef=if d=t then v else a.tmps.getD t undef:=by
 simp only[Lg,aev,afj];by_cases h:d=t
 . subst h; simp[hd]
 . simp[h]
section
variable{P:Program}{cx:Cx P}{Z:Nat->Prop}{g:Gh}{st:St}{a:Act}{w:World}
theorem fb(h:Rel cx Z g st a w){st':St}{w':World}(hs:st'.rt=st.rt)(hw:w'.heap=w.heap):mA Z Z w w' g g st st' where
 size:=by rw[hw]; exact oR _
 z:=fun b hb _=>⟨hb,by rw[hw]⟩
 root:=fun r R hR=>⟨R,by rw[hs]; exact hR,rfl,fun _=>rfl⟩
 cell:=fun r j c hc=>⟨c,by simp only[St.cell,hs]; exact hc,oR _,oR _,fun _=>rfl,fun _ e ks xs hh=>⟨xs,hh,rfl⟩,fun _ _=>⟨rfl,fun b hb _=>⟨hb,by rw[hw]⟩⟩⟩
 own:=fun r j b hb=>(h.fp r j b hb).1
 block:=fun r j c e ks xs hc hv b o l cap hg=>by have:=et h hc hv;rw[hg]at this;exact(Ag this rfl).1
theorem Hp(h:Rel cx Z g st a w){d:Nat}(hd:jw cx a d)(u:Value):∀ t v,cx.pin t=some v->(a.put (some d) u).tmps.getD t undef=v:=fun t v ht=>by rw[AG _ _ _ _ hd.1,if_neg (fun e=>by subst e; rw[hd.2]at ht; simp at ht)];exact h.pin t v ht
theorem Rel.mm(h:Rel cx Z g st a w){d:Nat}{tv:TV}{v:Value}(hd:jw cx a d)(ht:bF Z g st w tv v):Rel cx Z g (st.aT d (tv,none)) (a.put (some d) v) w:=by
 have k:=fb h (st':=st.aT d (tv,none)) (w':=w) rfl rfl
 exact { os:=h.os,tape:=h.tape,output:=h.output,size:=h.size,block:=h.block,bL:=h.bL,z0:=h.z0
         fp:=h.fp,disj:=h.disj,box:=h.box
         cell:=fun r j c hc=>jJ.cg k _ _ _ _ (h.cell r j c hc) (fun _ h=>h) (fun _ _ _=>rfl)
         tm:=fun t tv' ht'=>by
          have ht'':look ((d,tv)::st.tm) t=some tv':=ht';rw[aK]at ht'';rw[sv,AG _ _ _ _ hd.1];by_cases hh:d=t
          . rw[if_pos hh]at ht'' ⊢;cases ht'';exact⟨hh ▸ hd.1,bF.cg k _ _ ht⟩
          . rw[if_neg hh]at ht'' ⊢;exact⟨(h.tm t tv' ht'').1,bF.cg k _ _ (h.tm t tv' ht'').2⟩
         defers:=by rw[put_defers]; exact h.defers
         pin:=Hp h hd v }
theorem Rel.world(h:Rel cx Z g st a w){w':World}(hw:w'.heap=w.heap)(h1:w'.os=w.os)(h2:w'.tape=w.tape)(h3:w'.output=w.output):Rel cx Z g st a w':=by
 have k:=fb h (st':=st) (w':=w') rfl hw
 exact { os:=h1.trans h.os,tape:=h2.trans h.tape,output:=h3.trans h.output,size:=by rw[hw]; exact h.size
         block:=fun b hb hf=>by rw[hw]; exact h.block b hb hf
         bL:=fun b hb=>by rw[hw]; exact h.bL b hb
         z0:=h.z0
         fp:=fun r j b hb=>by rw[hw]; exact h.fp r j b hb
         disj:=h.disj
         box:=fun r R hR hb=>by rw[hw]; exact h.box r R hR hb
         cell:=fun r j c hc=>jJ.cg k _ _ _ _ (h.cell r j c hc) (fun _ h=>h) (fun b _ _=>by rw[hw])
         tm:=fun t tv ht=>⟨(h.tm t tv ht).1,bF.cg k _ _ (h.tm t tv ht).2⟩
         defers:=h.defers,pin:=h.pin }
structure aaj (Z Z':Nat->Prop) (w w':World) (g':Gh) (st':St) (d:Nat) (R:Rt):Prop where
 os:w'.os=w.os
 tape:w'.tape=w.tape
 output:w'.output=w.output
 size:w.heap.size<=w'.heap.size
 block:∀ b,b<w.heap.size->w'.heap[b]? = w.heap[b]?
 bL:∀ b,Z' b->Z b∨(w.heap.size<=b/\b<w'.heap.size)
 zle:∀ b,Z b->Z' b
 fp:∀ j b,g'.fp d j b->w.heap.size<=b/\b<w'.heap.size/\¬ Z' b/\∃(c:RC) (k:K) (x:T k),R.cells[j]? = some c/\c.v= .own k x
 disj:∀ j j' b,g'.fp d j b->g'.fp d j' b->j=j'
 box:R.box=true->w.heap.size<=g'.be d/\¬ Z' (g'.be d)/\(∀ j,¬ g'.fp d j (g'.be d)) /\
  ∃ cs e fr,w'.heap[g'.be d]? = some (.cells cs e fr)/\(∀ q,q<cs.size->¬ (fr.1<=q/\q<fr.2))/\cs.size=R.cells.length/\∀ j,j<cs.size->cs[j]? = some (g'.cv d j)
 cell:∀(j:Nat) (c:RC),R.cells[j]? = some c->jJ Z' g' st' w' c.v (g'.cv d j) (g'.fp d j)
theorem ju{d:Nat}(h:st.free d=true):look st.rt d=none:=by
 unfold St.free at h;split at h
 . assumption
 . simp at h
def Gh.at(g:Gh)(d:Nat)(be:Nat)(cv:Nat->Value)(fp:Nat->Nat->Prop):Gh :=
 ⟨fun r=>if r=d then be else g.be r,fun r j=>if r=d then cv j else g.cv r j,fun r j=>if r=d then fp j else g.fp r j⟩
theorem D6(h:Rel cx Z g st a w){d:Nat}{tv:TV}{R:Rt}{Z':Nat->Prop}{w':World}{be:Nat}{cv:Nat->Value}{fp:Nat->Nat->Prop}(hf:st.free d=true)
 (hs:w.heap.size<=w'.heap.size)(hb:∀ b,b<w.heap.size->w'.heap[b]? = w.heap[b]?)(hz:∀ b,Z b->Z' b) :
 mA Z Z' w w' g (g.at d be cv fp) st (st.aT d (tv,some R)) where
 size:=hs
 z:=fun b hb' hlt=>⟨hz b hb',hb b hlt⟩
 root:=fun r R' hR=>by
  have hne:d≠r:=fun e=>by rw[<- e,ju hf]at hR; simp at hR
  refine⟨R',?_,rfl,fun _=>by simp[Gh.at,Ne.symm hne]⟩;show look ((d,R)::st.rt) r=_;rw[aK,if_neg hne];exact hR
 cell:=fun r j c hc=>by
  have hne:d≠r:=fun e=>by simp only[St.cell,<- e,ju hf]at hc; simp at hc
  have hne':¬ r=d:=fun e=>hne e.symm
  refine⟨c,?_,oR _,oR _,fun _=>by simp[Gh.at,hne'],fun _ e ks xs hh=>⟨xs,hh,rfl⟩,fun _ _=>⟨rfl,fun b hb' hlt=>⟨by simp[Gh.at,hne']; exact hb',hb b hlt⟩⟩⟩;show(match look ((d,R)::st.rt) r with | some R=>R.cells[j]? | none=>none)=_;rw[aK,if_neg hne];exact hc
 own:=fun r j b hb'=>(h.fp r j b hb').1
 block:=fun r j c e ks xs hc hv b o l cap hg=>by have:=et h hc hv;rw[hg]at this;exact(Ag this rfl).1
theorem Rel.vA(h:Rel cx Z g st a w){d:Nat}{tv:TV}{R:Rt}{v:Value}{Z':Nat->Prop}{w':World}{be:Nat}{cv:Nat->Value}{fp:Nat->Nat->Prop}(hd:jw cx a d)(hf:st.free d=true)
 (hn:aaj Z Z' w w' (g.at d be cv fp) (st.aT d (tv,some R)) d R)(ht:bF Z' (g.at d be cv fp) (st.aT d (tv,some R)) w' tv v) :
 Rel cx Z' (g.at d be cv fp) (st.aT d (tv,some R)) (a.put (some d) v) w':=by
 have k:=D6 (tv:=tv) (R:=R) (be:=be) (cv:=cv) (fp:=fp) h hf hn.size hn.block hn.zle;have hlook:∀ r,look (st.aT d (tv,some R)).rt r=if d=r then some R else look st.rt r:=fun r=>aK _ _ _ _
 have hg1:∀ r j,r≠d->(g.at d be cv fp).fp r j=g.fp r j:=fun r j hr=>by simp[Gh.at,hr]
 have hg2:∀ r j,r≠d->(g.at d be cv fp).cv r j=g.cv r j:=fun r j hr=>by simp[Gh.at,hr]
 have hg3:∀ r,r≠d->(g.at d be cv fp).be r=g.be r:=fun r hr=>by simp[Gh.at,hr]
 have hcell:∀ r j,(st.aT d (tv,some R)).cell r j=if d=r then R.cells[j]? else st.cell r j:=fun r j=>by simp only[St.cell,hlook];by_cases hh:d=r <;> simp[hh]
 refine { os:=hn.os.trans h.os,tape:=hn.tape.trans h.tape,output:=hn.output.trans h.output,size:=aeA h.size hn.size,block := ?_,bL := ?_,z0:=fun b h1 h2=>hn.zle b (h.z0 b h1 h2),fp := ?_,disj := ?_,box := ?_,cell := ?_,tm := ?_,defers:=by rw[put_defers]; exact h.defers,pin:=Hp h hd v }
 . exact fun b hb hfb=>(hn.block b (aeK hb h.size)).trans (h.block b hb hfb)
 . intro b hb;rcases hn.bL b hb with h1 | ⟨h1,h2⟩
   . exact⟨aeK (h.bL b h1).1 hn.size,(h.bL b h1).2⟩
   . exact⟨h2,.inr (aeA h.size h1)⟩
 . intro r j b hb;by_cases hr:r=d
   . subst hr;obtain⟨h1,h2,h3,c,kk,x,h4,h5⟩:=hn.fp j b hb;exact⟨h2,.inr (aeA h.size h1),h3,c,kk,x,by rw[hcell,if_pos rfl]; exact h4,h5⟩
   . rw[hg1 r j hr]at hb;obtain⟨h1,h2,h3,c,kk,x,h4,h5⟩:=h.fp r j b hb;refine⟨aeK h1 hn.size,h2,fun hz => ?_,c,kk,x,by rw[hcell,if_neg (fun e=>hr e.symm)]; exact h4,h5⟩;rcases hn.bL b hz with hz | ⟨hz,_⟩
     . exact h3 hz
     . omega
 . intro r j r' j' b h1 h2;by_cases hr:r=d
   . by_cases hr':r'=d
     . subst hr; subst hr';exact⟨rfl,hn.disj j j' b h1 h2⟩
     . subst hr;rw[hg1 r' j' hr']at h2;have:=(hn.fp j b h1).1;have:=(h.fp r' j' b h2).1;omega
   . by_cases hr':r'=d
     . subst hr';rw[hg1 r j hr]at h1;have:=(hn.fp j' b h2).1;have:=(h.fp r j b h1).1;omega
     . rw[hg1 r j hr]at h1;rw[hg1 r' j' hr']at h2;exact h.disj r j r' j' b h1 h2
 . intro r R' hR hb;rw[hlook]at hR;by_cases hr:r=d
   . subst hr;rw[if_pos rfl]at hR;simp only[aen]at hR;subst hR;obtain⟨b1,b2,b3,b4⟩:=hn.box hb;refine⟨.inr (aeA h.size b1),b2,fun r' j' hfp => ?_,fun r' R'' hR'' hb'' he => ?_,b4⟩
     . by_cases hr':r'=r
       . subst hr'; exact b3 j' hfp
       . rw[hg1 r' j' hr']at hfp;have:=(h.fp r' j' _ hfp).1;omega
     . rw[hlook]at hR'';by_cases hr':r=r'
       . exact hr'.symm
       . rw[if_neg hr']at hR'';rw[hg3 r' (fun e=>hr' e.symm)]at he;obtain⟨_,_,_,_,cs,e,fr,hblk,_⟩:=h.box r' R'' hR'' hb'';have:g.be r'<w.heap.size:=by
          rcases aeD (g.be r') w.heap.size with hh | hh
          . exact hh
          . simp[aeH hh]at hblk
         omega
   . rw[if_neg (fun e=>hr e.symm)]at hR;obtain⟨b1,b2,b3,b4,cs,e,fr,b5,b6⟩:=h.box r R' hR hb;have hlt:g.be r<w.heap.size:=by
      rcases aeD (g.be r) w.heap.size with hh | hh
      . exact hh
      . simp[aeH hh]at b5
     rw[hg3 r hr];refine⟨b1,fun hz => ?_,fun r' j' hfp => ?_,fun r' R'' hR'' hb'' he => ?_,cs,e,fr,by rw[hn.block _ hlt]; exact b5,b6.1,b6.2.1,fun j hj=>by rw[hg2 r j hr]; exact b6.2.2 j hj⟩
     . rcases hn.bL _ hz with hz | ⟨hz,_⟩
       . exact b2 hz
       . omega
     . by_cases hr':r'=d
       . subst hr';have:=(hn.fp j' _ hfp).1;omega
       . rw[hg1 r' j' hr']at hfp;exact b3 r' j' hfp
     . rw[hlook]at hR'';by_cases hr':d=r'
       . subst hr';rw[if_pos rfl]at hR'';simp only[aen]at hR'';subst hR'';have:=(hn.box hb'').1;omega
       . rw[if_neg hr']at hR'';rw[hg3 r' (fun e=>hr' e.symm)]at he;exact b4 r' R'' hR'' hb'' he
 . intro r j c hc;rw[hcell]at hc;by_cases hr:d=r
   . subst hr;rw[if_pos rfl]at hc;exact hn.cell j c hc
   . rw[if_neg hr]at hc;have hr':r≠d:=fun e=>hr e.symm
     rw[hg2 r j hr',hg1 r j hr'];exact jJ.cg k _ _ _ _ (h.cell r j c hc) (fun _ h=>h) (fun b _ hlt=>hn.block b hlt)
 . intro t tv' ht';have ht'':look ((d,tv)::st.tm) t=some tv':=ht';rw[aK]at ht'';rw[sv,AG _ _ _ _ hd.1];by_cases hh:d=t
   . rw[if_pos hh]at ht'' ⊢;cases ht'';exact⟨hh ▸ hd.1,ht⟩
   . rw[if_neg hh]at ht'' ⊢;exact⟨(h.tm t tv' ht'').1,bF.cg k _ _ (h.tm t tv' ht'').2⟩
theorem Rel.A5(h:Rel cx Z g st a w){Z':Nat->Prop}{w':World}(h1:w'.os=w.os)(h2:w'.tape=w.tape)(h3:w'.output=w.output)(hs:w.heap.size<=w'.heap.size)
 (hb:∀ b,b<w.heap.size->w'.heap[b]? = w.heap[b]?)(hz:∀ b,Z b->Z' b)(hz':∀ b,Z' b->Z b∨(w.heap.size<=b/\b<w'.heap.size)):Rel cx Z' g st a w':=by
 have k:mA Z Z' w w' g g st st :=
  { size:=hs,z:=fun b hb' hlt=>⟨hz b hb',hb b hlt⟩,root:=fun r R hR=>⟨R,hR,rfl,fun _=>rfl⟩
    cell:=fun r j c hc=>⟨c,hc,oR _,oR _,fun _=>rfl,fun _ e ks xs hh=>⟨xs,hh,rfl⟩,fun _ _=>⟨rfl,fun b hb' hlt=>⟨hb',hb b hlt⟩⟩⟩
    own:=fun r j b hb'=>(h.fp r j b hb').1
    block:=(fb h (st':=st) (w':=w) rfl rfl).block }
 refine { os:=h1.trans h.os,tape:=h2.trans h.tape,output:=h3.trans h.output,size:=aeA h.size hs,block := ?_,bL := ?_,z0:=fun b h1 h2=>hz b (h.z0 b h1 h2),fp := ?_,disj:=h.disj,box := ?_,cell := ?_,tm := ?_,defers:=h.defers,pin:=h.pin }
 . exact fun b hb' hfb=>(hb b (aeK hb' h.size)).trans (h.block b hb' hfb)
 . intro b hb';rcases hz' b hb' with h1 | ⟨h1,h2⟩
   . exact⟨aeK (h.bL b h1).1 hs,(h.bL b h1).2⟩
   . exact⟨h2,.inr (aeA h.size h1)⟩
 . intro r j b hb';obtain⟨h1,h2,h3,h4⟩:=h.fp r j b hb';refine⟨aeK h1 hs,h2,fun hzz => ?_,h4⟩;rcases hz' b hzz with hzz | ⟨hzz,_⟩
   . exact h3 hzz
   . omega
 . intro r R hR hbx;obtain⟨b1,b2,b3,b4,cs,e,fr,b5,b6⟩:=h.box r R hR hbx;have hlt:g.be r<w.heap.size:=by
    rcases aeD (g.be r) w.heap.size with hh | hh
    . exact hh
    . simp[aeH hh]at b5
   refine⟨b1,fun hzz => ?_,b3,b4,cs,e,fr,by rw[hb _ hlt]; exact b5,b6⟩;rcases hz' _ hzz with hzz | ⟨hzz,_⟩
   . exact b2 hzz
   . omega
 . intro r j c hc;exact jJ.cg k _ _ _ _ (h.cell r j c hc) (fun _ h=>h) (fun b _ hlt=>hb b hlt)
 . exact fun t tv ht=>⟨(h.tm t tv ht).1,bF.cg k _ _ (h.tm t tv ht).2⟩
end
def zV:K->Value
 | .int k=> .int k 0
 | .bool=> .bool false
 | .str=> .string (eQ [])
 | .sl _ _=> .slice none 0 0
def iz(P:Program)(ti:TI):TypeDesc->Prop
 | .struct fs=>ti.agg=true/\(∀ f o u,H6 ti.flds f=some (o,u)->∃ fi,fs[f]? = some fi/\fi.offset=o/\fi.type=u)/\(∀ fi,fi∈fs.toList->∃ i,P.info? fi.type=some i/\i.size≠0)
 | .slice e=>ti.agg=false/\∃ ks,ti.ks=[.sl e ks]/\ti.elem=e
 | .int k=>ti.agg=false/\ti.ks=[.int k]
 | .bool=>ti.agg=false/\ti.ks=[.bool]
 | .string=>ti.agg=false/\ti.ks=[.str]
 | _=>False
structure pk (P:Program) (t:Nat) (ti:TI):Prop where
 info:∃ i,P.info? t=some i/\i.size=ti.ks.length/\i.bytes=ti.bytes/\∃ z,i.zero=some z/\z.cells.toList=ti.ks.map zV
 desc:∃ d,P.underlying t=some d/\iz P ti d
def cf(P:Program)(E:En):Prop:=∀ t ti,E.ti t=some ti->pk P t ti
section
variable{P:Program}{cx:Cx P}{Z:Nat->Prop}{g:Gh}{st:St}{a:Act}{w:World}{E:En}
theorem cJ{t:TypeId}{ti:TI}(h:pk P t ti)(w:World):(sizeOf t).run P w= .ok ti.ks.length w:=by obtain⟨i,h1,h2,_⟩:=h.info;simp[sizeOf,typeInfo,h1,h2]
theorem yT{t:TypeId}{ti:TI}(h:pk P t ti)(w:World):∃ i,(typeInfo t).run P w= .ok i w/\i.size=ti.ks.length/\i.bytes=ti.bytes:=by obtain⟨i,h1,h2,h3,_⟩:=h.info;exact⟨i,by simp[typeInfo,h1],h2,h3⟩
theorem se{t:TypeId}{ti:TI}(h:pk P t ti)(w:World):∃ z,(zeroValue t).run P w= .ok z w/\z.cells.toList=ti.ks.map zV:=by obtain⟨i,h1,h2,h3,z,h4,h5⟩:=h.info;exact⟨z,by simp[zeroValue,typeInfo,h1,h4],h5⟩
theorem oQ{t:TypeId}{ti:TI}(h:pk P t ti)(w:World):(isAgg t).run P w= .ok ti.agg w:=by obtain⟨d,h1,h2⟩:=h.desc;cases d <;> simp only[iz]at h2 <;> simp[isAgg,aeR h1,h2.1]
theorem fL(b o n:Nat):(⟨b,o,none⟩:Addr).add n=⟨b,o+n,none⟩:=by
 unfold Addr.add;split
 . rename_i h; subst h; rfl
 . rfl
def kg(w:World)(b o:Nat)(vs:List Value):Prop:=∀(j:Nat) (v:Value),vs[j]? = some v->w.cell? ⟨b,o+j,none⟩=some v
theorem kg.cons{w:World}{b o:Nat}{v:Value}{vs:List Value}(h1:w.cell? ⟨b,o,none⟩=some v)(h2:kg w b (o+1) vs):kg w b o (v::vs):=fun j u hj=>by
 cases j with
 | zero=>simp at hj; subst hj; exact h1
 | succ j=>simp at hj; rw[show o+(j+1)=o+1+j by omega]; exact h2 j u hj
theorem uy{t:TypeId}{ti:TI}(h:pk P t ti){w:World}{b o:Nat}{vs:List Value}(hl:vs.length=ti.ks.length)(hc:kg w b o vs) :
 ∃ v,(loadVar t ⟨b,o,none⟩).run P w= .ok v w/\(match ti.agg with | true=>v= .agg vs.toArray | false=>vs=[v]):=by
 cases hagg:ti.agg with
 | true => refine⟨.agg vs.toArray,?_,rfl⟩;have hr:=oQ h w;rw[hagg]at hr;have hll:=run_loadCells_list (P:=P) w ⟨b,o,none⟩ vs (fun j v hj=>by rw[fL]; exact hc j v hj);rw[hl]at hll;simp[loadVar,hr,cJ h w,hll]
 | false =>
   have hr:=oQ h w;rw[hagg]at hr;obtain⟨d,h1,h2⟩:=h.desc;have hone:ti.ks.length=1:=by
    cases d <;> simp only[iz]at h2
    all_goals first
     | (simp[h2.2]; done)
     | (obtain⟨_,ks,e,_⟩:=h2; simp[e]; done)
     | (rw[h2.1]at hagg; simp at hagg; done)
   match vs,hl with
   | [],hl=>simp[hone]at hl
   | [v],hl => have:=hc 0 v rfl;simp only[aeQ]at this;exact⟨v,by simp[loadVar,hr,this],rfl⟩
   | _::_::_,hl=>simp[hone]at hl
theorem Fp{Z:Nat->Prop}{w:World}{ks:List K}{x:Tl ks}{b o c:Nat}{sl:(k:K)->T k->AV}{av:AV}(h:pz Z w ks x b o)(hc:E7 ks x c sl=some av) :
 ∃ v k y,w.cell? ⟨b,o+c,none⟩=some v/\cellAt ks x c=some ⟨k,y⟩/\RO Z w k y v/\((∃ e ks',k= .sl e ks')/\av=sl k y∨(qT k=false)/\av= .d k y):=by
 unfold E7 at hc;split at hc
 . rename_i e ks' y hy;simp only[aen]at hc;obtain⟨v,h1,h2⟩:=nS ks x b o c _ _ h hy;exact⟨v,_,_,h1,hy,h2,.inl ⟨⟨e,ks',rfl⟩,hc.symm⟩⟩
 . rename_i k y hns hy;simp only[aen]at hc;obtain⟨v,h1,h2⟩:=nS ks x b o c _ _ h hy;refine⟨v,k,y,h1,hy,h2,.inr ⟨?_,hc.symm⟩⟩;cases k with
   | sl e ks'=>exact(hns e ks' y rfl HEq.rfl).elim
   | _=>rfl
 . simp at hc
theorem fG{Z Z':Nat->Prop}{w:World}{k:K}{y:T k}{v:Value}(hk:qT k=false)(h:RO Z w k y v):RO Z' w k y v:=by
 cases k with
 | sl e ks=>simp[qT]at hk
 | _=>exact h
theorem yq(h:Rel cx Z g st a w){p:AV}{v:Value}{n:Nat}{l:List AV}(hp:bj Z g st w p v)(hl:st.load n p=some l) :
 ∃ b o vs,v= .pointer (some ⟨b,o,none⟩)/\vs.length=n/\kg w b o vs/\aU Z g st w l vs:=by
 have els_go:∀(ks:List K) (x:Tl ks) (b o:Nat) (Z':Nat->Prop) (sl:Nat->(k:K)->T k->AV),pz Z' w ks x b o ->
  (∀ c k y v,cellAt ks x c=some ⟨k,y⟩->w.cell? ⟨b,o+c,none⟩=some v->RO Z' w k y v->bj Z g st w (sl c k y) v) ->
  ∀(n c:Nat) (l:List AV),mL ks x sl c n=some l->∃ vs,vs.length=n/\kg w b (o+c) vs/\aU Z g st w l vs:=by
  intro ks x b o Z' sl hro hsl n;induction n with
  | zero=>intro c l hl; simp only[mL,aen]at hl; subst hl; exact⟨[],rfl,fun j v hj=>by simp at hj,trivial⟩
  | succ n ih =>
    intro c l hl;simp only[mL]at hl;split at hl
    . rename_i av l' h1 h2;simp only[aen]at hl;subst hl;obtain⟨vs,e1,e2,e3⟩:=ih (c+1) l' h2;obtain⟨v,k,y,g1,g2,g3,g4⟩:=Fp hro h1;refine⟨v::vs,by simp[e1],kg.cons g1 (by rw[show o+c+1=o+(c+1)by omega]; exact e2),?_,e3⟩;rcases g4 with ⟨_,rfl⟩ | ⟨hk,rfl⟩
      . exact hsl c k y v g2 g1 g3
      . exact fG hk g3
    . simp at hl
 cases p with
 | ptr r j =>
   obtain⟨R,h1,h2,rfl⟩:=hp;obtain⟨_,_,_,_,cs,e,fr,b1,b2,b3,b4⟩:=h.box r R h1 h2;refine⟨g.be r,j,?_⟩;simp only[St.load]at hl;have key:∀(n j:Nat) (l:List AV),st.de r j n=some l->∃ vs,vs.length=n/\kg w (g.be r) j vs/\aU Z g st w l vs:=by
    intro n;induction n with
    | zero=>intro j l hl; simp only[St.de,aen]at hl; subst hl; exact⟨[],rfl,fun j v hj=>by simp at hj,trivial⟩
    | succ n ih =>
      intro j l hl;simp only[St.de]at hl;split at hl
      . rename_i av l' g1 g2;simp only[aen]at hl;subst hl;obtain⟨vs,e1,e2,e3⟩:=ih (j+1) l' g2;unfold St.jr at g1;cases hc:st.cell r j with
        | none=>simp[hc]at g1
        | some c =>
          have hcj:R.cells[j]? = some c:=by simpa[St.cell,h1]using hc
          have hjlt:j<cs.size:=by
           rw[b3];rcases aeD j R.cells.length with hh | hh
           . exact hh
           . simp[aeE hh]at hcj
          refine⟨g.cv r j::vs,by simp[e1],kg.cons (by simp[World.cell?,b1,b4 j hjlt]) e2,?_,e3⟩;obtain⟨cs',cm,cv⟩:=c;cases cv with
          | own k x => simp only[hc,aen]at g1;subst g1;exact⟨_,hc,oR _,fun _=>rfl⟩
          | av x => simp only[hc,aen]at g1;subst g1;exact vp h hc rfl
      . simp at hl
   obtain⟨vs,e1,e2,e3⟩:=key n j l hl;exact⟨vs,rfl,e1,e2,e3⟩
 | pel r j s i q =>
   obtain⟨c,h1,h2,h3⟩:=hp;obtain⟨cs,cm,cv⟩:=c;cases cv with
   | av _=>simp[St.load,h1]at hl
   | own k x =>
     cases k with
     | int _=>simp[St.load,h1]at hl
     | bool=>simp[St.load,h1]at hl
     | str=>simp[St.load,h1]at hl
     | sl e ks =>
       simp only[St.load,h1]at hl;cases hb:Nat.beq cs s with
       | false=>simp[hb]at hl
       | true => simp only[hb,oT]at hl;obtain⟨e',ks',xs',g1,g2,b,o,len,cap,g4,rfl⟩:=h3 (beq_eq hb);simp only[RV.own.injEq,K.sl.injEq]at g1;obtain⟨⟨rfl,rfl⟩,g1⟩:=g1;cases g1;have hro:=cO.ro (Z:=gM w) _ _ _ _ (fun b hb=>(h.fp r j b hb).1) (et h h1 rfl);rw[g4]at hro;obtain⟨aa,c',u1,u2,u3,u4,u5⟩:=hro;simp only[afm]at u1;obtain⟨rfl,rfl,rfl⟩:=u1;obtain⟨b',o',v1,v2,v3,v4⟩:=u5 (by intro h0; rw[h0]at g2; simp at g2);simp only[aen,afK,afQ]at v1;obtain⟨rfl,rfl⟩:=v1;obtain⟨vs,e1,e2,e3⟩:=els_go ks (gi x i) b (o+i * ks.length) (gM w) (fun c' _ _=> .pref r j s cm i c') (v4 i _ (l5 x g2)) (fun c k y v hy hv hr=>⟨_,h1,by rw[beq_eq hb]; exact oR _,oR _,fun _ _=>⟨e,ks,x,rfl,g2,zJ _ _ _ _ _ hy,b,o,_,cap,g4,hv⟩⟩) n q l hl;exact⟨b,o+i * ks.length+q,vs,rfl,e1,e2,e3⟩
 | rp dep e ks xs i q =>
   cases dep with
   | none =>
     obtain⟨h0,b,o,g1,g2,rfl,g4⟩:=hp;simp only[St.load]at hl;have hx:xs[i]? = some (xs.getD i (iq ks)):=by simp[List.getD,h0]
     obtain⟨vs,e1,e2,e3⟩:=els_go ks _ b (o+i * ks.length) Z (fun _ k y=> .d k y) (g4 i _ hx) (fun c k y v _ _ hr=>hr) n q l hl;exact⟨b,o+i * ks.length+q,vs,rfl,e1,e2,e3⟩
   | some dd =>
     obtain⟨r,j,s,m⟩:=dd;obtain⟨c,h1,h2,h3,h4⟩:=hp;simp only[St.load,h1]at hl;cases hb:Nat.beq c.s s&&Nat.beq c.m m with
     | false=>simp[hb]at hl
     | true =>
       simp only[hb,oT]at hl;simp only[aeo]at hb;obtain⟨h0,b,o,g1,g2,rfl,g4⟩:=h4 (beq_eq hb.1) (beq_eq hb.2);have hx:xs[i]? = some (xs.getD i (iq ks)):=by simp[List.getD,h0]
       obtain⟨vs,e1,e2,e3⟩:=els_go ks _ b (o+i * ks.length) _ (fun _ k y=> .b r j s m k y) (g4 i _ hx) (fun c' k y v _ _ hr=>⟨c,h1,h2,h3,fun _ _=>hr⟩) n q l hl;exact⟨b,o+i * ks.length+q,vs,rfl,e1,e2,e3⟩
 | _=>simp[St.load]at hl
end
theorem gv(k:IntKind)(n:Int):nB k (k.wrap n):=by
 unfold nB
 cases k <;> simp only[IntKind.wrap,IntKind.min,IntKind.max,IntKind.signed,IntKind.bits,agh,Bool.false_and,if_true] <;> (try simp only[ae5,afE]) <;>
  (constructor <;> (try split) <;> simp_all <;> omega)
theorem HK{k:IntKind}{n:Int}(h:nB k n):k.wrap n=n:=by
 unfold nB at h
 cases k <;> simp only[IntKind.wrap,IntKind.min,IntKind.max,IntKind.signed,IntKind.bits,agh,Bool.false_and,if_true,ae5,afE]at h ⊢ <;>
  (try split) <;> simp_all <;> omega
theorem uz{k:IntKind}{n m:Int}(h:nB k m)(h1:(m<=n/\n<=0)∨(0<=n/\n<=m)∨(m<=n/\n <= -1)):nB k n:=by
 unfold nB at *
 cases k <;> simp only[IntKind.min,IntKind.max,IntKind.signed,IntKind.bits,if_true,ae5,afE]at h ⊢ <;> simp at h ⊢ <;> omega
theorem Nk{k:IntKind}{m:Int}(b:Int)(h:nB k m):nB k (m.tmod b):=by
 refine uz h ?_;rcases Int.le_total 0 m with h1 | h1
 . have:=Int.tmod_nonneg b h1;have h2:m.tmod b<=m:=by
    have e:=afG (b:=b) h1;rw[e];rcases Int.lt_trichotomy b 0 with hb | hb | hb
    . have h3:=Int.emod_neg m b;have:=Int.emod_nonneg m (show -b≠0 by omega);have h5:=agl m (-b);have h6:0<=m / (-b):=agz h1 (by omega);have h7:0<=(-b) * (m / (-b)):=agT (by omega) h6;omega
    . subst hb; simp
    . have h5:=agl m b;have h6:0<=m / b:=agz h1 (by omega);have h7:0<=b * (m / b):=agT (by omega) h6;omega
   exact .inr (.inl ⟨this,h2⟩)
 . refine .inl ?_;have e:m.tmod b = -((-m).tmod b):=by rw[Int.neg_tmod,Int.neg_neg]
   have h1':0 <= -m:=by omega
   have:=Int.tmod_nonneg b h1';have h2:(-m).tmod b <= -m:=by
    have e:=afG (b:=b) h1';rw[e];rcases Int.lt_trichotomy b 0 with hb | hb | hb
    . have h3:=Int.emod_neg (-m) b;have h5:=agl (-m) (-b);have h6:0<=(-m) / (-b):=agz h1' (by omega);have h7:0<=(-b) * ((-m) / (-b)):=agT (by omega) h6;omega
    . subst hb; simp
    . have h5:=agl (-m) b;have h6:0<=(-m) / b:=agz h1' (by omega);have h7:0<=b * ((-m) / b):=agT (by omega) h6;omega
   omega
theorem Mk{k:IntKind}{m:Int}(n:Nat)(h:nB k m):nB k (m.fdiv (2 ^ n)):=by
 refine uz h ?_;have hp:(0:Int)<2 ^ n:=Int.pow_pos (by decide);have hp1:(1:Int)<=2 ^ n:=hp;have e:m.fdiv (2 ^ n)=m / 2 ^ n:=Int.fdiv_eq_ediv_of_nonneg m (by omega);rw[e];generalize (2:Int) ^ n=q at *
 have h5:=agl m q;have h6:=Int.emod_nonneg m (show q≠0 by omega);have h7:=Int.emod_lt_of_pos m hp;rcases Int.le_total 0 m with h1 | h1
 . have h8:0<=m / q:=agz h1 (by omega);have h9:m / q<=q * (m / q):=by
    have:=Int.mul_le_mul_of_nonneg_right hp1 h8;simpa using this
   exact .inr (.inl ⟨h8,by omega⟩)
 . rcases Int.lt_or_le (m / q) 0 with h8 | h8
   . refine .inr (.inr ⟨?_,by omega⟩);rcases Int.lt_or_le (m / q) m with h9 | h9
     . exfalso;have h10:q * (m / q)<=q * (m-1):=agC (by omega) (by omega);have h11:q * (m-1)<=1 * (m-1):=by
        have:=Int.mul_le_mul_of_nonpos_right hp1 (show m-1<=0 by omega);simpa using this
       have h12:q * (m-1)=q * m-q:=by rw[Int.mul_sub,Int.mul_one]
       have h13:q * m<=1 * m:=Int.mul_le_mul_of_nonpos_right hp1 h1;omega
     . exact h9
   . have h10:0<=q * (m / q):=agT (by omega) h8;exact .inl ⟨by omega,by
      rcases Int.lt_or_le 0 (m / q)with h11 | h11
      . have h12:q * 1<=q * (m / q):=agC (by omega) (by omega);omega
      . exact h11⟩
section
variable{P:Program}{cx:Cx P}{Z:Nat->Prop}{g:Gh}{st:St}{a:Act}{w:World}{E:En}
theorem fB{tv:TV}{v:Value}{k:IntKind}{n:Int}(h:bF Z g st w tv v)(hi:tv.int? = some (k,n)):v= .int k n/\nB k n:=by
 cases tv with
 | v a =>
   cases a with
   | d kk x =>
     cases kk with
     | int k' => simp only[TV.int?,AV.int?,aen,aeT]at hi;obtain⟨rfl,rfl⟩:=hi;exact h
     | _=>simp[TV.int?,AV.int?]at hi
   | _=>simp[TV.int?,AV.int?]at hi
 | _=>simp[TV.int?]at hi
theorem sV{tv:TV}{v:Value}{x:Bool}(h:bF Z g st w tv v)(hi:tv.bool? = some x):v= .bool x:=by
 cases tv with
 | v a =>
   cases a with
   | lb y=>simp only[TV.bool?,AV.bool?,aen]at hi; subst hi; exact h
   | d kk y =>
     cases kk with
     | bool=>simp only[TV.bool?,AV.bool?]at hi; cases hi; exact h
     | _=>simp[TV.bool?,AV.bool?]at hi
   | _=>simp[TV.bool?,AV.bool?]at hi
 | _=>simp[TV.bool?]at hi
theorem mF{tv:TV}{v:Value}{s:S8}(h:bF Z g st w tv v)(hi:tv.mZ = some s):v= .string (eQ s)/\s.length<=bG:=by
 cases tv with
 | v a =>
   cases a with
   | d kk y =>
     cases kk with
     | str=>simp only[TV.mZ,AV.mZ]at hi; cases hi; exact h
     | _=>simp[TV.mZ,AV.mZ]at hi
   | _=>simp[TV.mZ,AV.mZ]at hi
 | _=>simp[TV.mZ]at hi
theorem MR{r j s m:Nat}{e:TypeId}{ks:List K}{x:List (Tl ks)}{v:Value}(h:bF Z g st w (.bc r j s m e ks x) v):bj Z g st w (.b r j s m (.sl e ks) x) v:=by obtain⟨c,h1,h2,h3,h4⟩:=h;exact⟨c,h1,h2,h3,fun e1 e2=>(h4 e1 e2).ro⟩
theorem rD{tv:TV}{v:Value}{x:AV}(h:bF Z g st w tv v)(hi:tv.Eg = some x):bj Z g st w x v:=by
 cases tv with
 | v a=>simp only[TV.Eg,aen]at hi; subst hi; exact h
 | bc r j s m e ks x=>simp only[TV.Eg,aen]at hi; subst hi; exact MR h
 | _=>simp[TV.Eg]at hi
theorem jM(s:S8):(eQ s).size=s.length:=by simp[eQ,ByteArray.size]
theorem Ep(s t:S8):eQ s++eQ t=eQ (s++t):=by apply ahb;simp[eQ]
theorem jm(s:S8):(eQ s).toList=s:=ByteArray.toList_mk s
theorem IA{op:BinOp}{k:IntKind}{x y:Int}{av:AV}(hx:nB k x)(hs:vy op=false)(h:(Ol op k x y).run=some av)(t:TypeId)(ox oy:Operand)(w:World) :
 ∃ v,((do eqGuard op t ox oy (.int k x) (.int k y); binOp op t (.int k x) (.int k y)):Sem Value).run P w= .ok v w/\bj Z g st w av v/\v.oneCell'=true:=by
 have hg:∀ w,(eqGuard op t ox oy (.int k x) (.int k y)).run P w= .ok () w:=fun w=>by unfold eqGuard;cases op <;> simp
 cases op <;> simp only[vy,Bool.true_eq_false,ae5]at hs <;> simp only[Ol,Tr.run,aen,reduceCtorEq]at h
 case add=>subst h; exact⟨.int k (k.wrap (x+y)),by simp[hg,binOp,Op.intArith],⟨rfl,gv _ _⟩,rfl⟩
 case sub=>subst h; exact⟨.int k (k.wrap (x-y)),by simp[hg,binOp,Op.intArith],⟨rfl,gv _ _⟩,rfl⟩
 case mul=>subst h; exact⟨.int k (k.wrap (x * y)),by simp[hg,binOp,Op.intArith],⟨rfl,gv _ _⟩,rfl⟩
 case quo =>
  obtain⟨h0,h⟩:=Tr.bB h;simp only[Tr.run,aen]at h;subst h;have hy:y≠0:=by simpa[aj]using h0
  exact⟨.int k (k.wrap (x.tdiv y)),by simp[hg,binOp,Op.intDiv,hy],⟨rfl,gv _ _⟩,rfl⟩
 case rem =>
  obtain⟨h0,h⟩:=Tr.bB h;simp only[Tr.run,aen]at h;subst h;have hy:y≠0:=by simpa[aj]using h0
  exact⟨.int k (x.tmod y),by simp[hg,binOp,Op.intDiv,hy],⟨rfl,Nk _ hx⟩,rfl⟩
 case and=>subst h; exact⟨.int k (k.wrap ((BitVec.ofInt k.bits x &&& BitVec.ofInt k.bits y).toNat:Int)),by simp[hg,binOp,Op.intBits],⟨rfl,gv _ _⟩,rfl⟩
 case or=>subst h; exact⟨.int k (k.wrap ((BitVec.ofInt k.bits x ||| BitVec.ofInt k.bits y).toNat:Int)),by simp[hg,binOp,Op.intBits],⟨rfl,gv _ _⟩,rfl⟩
 case xor=>subst h; exact⟨.int k (k.wrap ((BitVec.ofInt k.bits x ^^^ BitVec.ofInt k.bits y).toNat:Int)),by simp[hg,binOp,Op.intBits],⟨rfl,gv _ _⟩,rfl⟩
 case eql=>subst h; exact⟨.bool (x == y),by simp[hg,binOp,Op.intCmp],rfl,rfl⟩
 case neq=>subst h; exact⟨.bool (x != y),by simp[hg,binOp,Op.intCmp],rfl,rfl⟩
 case lss=>subst h; exact⟨.bool (decide (x<y)),by simp[hg,binOp,Op.intCmp],rfl,rfl⟩
 case leq=>subst h; exact⟨.bool (decide (x<=y)),by simp[hg,binOp,Op.intCmp],rfl,rfl⟩
 case gtr=>subst h; exact⟨.bool (decide (x > y)),by simp[hg,binOp,Op.intCmp],rfl,rfl⟩
 case geq=>subst h; exact⟨.bool (decide (x ≥ y)),by simp[hg,binOp,Op.intCmp],rfl,rfl⟩
theorem Df{op:BinOp}{k k':IntKind}{x y:Int}{av:AV}(hx:nB k x)(h:(A6 op k x y).run=some av)(t:TypeId)(ox oy:Operand)(w:World) :
 ∃ v,((do eqGuard op t ox oy (.int k x) (.int k' y); binOp op t (.int k x) (.int k' y)):Sem Value).run P w= .ok v w/\bj Z g st w av v/\v.oneCell'=true:=by
 have hg:∀ w,(eqGuard op t ox oy (.int k x) (.int k' y)).run P w= .ok () w:=fun w=>by unfold eqGuard;cases op <;> simp
 cases op <;> simp only[A6,Tr.run,aen,reduceCtorEq]at h
 case shl =>
  obtain⟨h0,h⟩:=Tr.bB h;simp only[Tr.run,aen]at h;subst h
  have hy:¬ y<0:=by have:0<=y:=by simpa using h0
                    omega
  exact⟨.int k (k.wrap (x * 2 ^ min y.toNat k.bits)),by simp[hg,binOp,Op.shift,hy],⟨rfl,gv _ _⟩,rfl⟩
 case shr =>
  obtain⟨h0,h⟩:=Tr.bB h;simp only[Tr.run,aen]at h;subst h
  have hy:¬ y<0:=by have:0<=y:=by simpa using h0
                    omega
  exact⟨.int k (x.fdiv (2 ^ min y.toNat k.bits)),by simp[hg,binOp,Op.shift,hy],⟨rfl,Mk _ hx⟩,rfl⟩
theorem I6{op:BinOp}{s u:S8}{av:AV}(h:(J5 op s u).run=some av)(t:TypeId)(ox oy:Operand)(w:World) :
 ∃ v,((do eqGuard op t ox oy (.string (eQ s)) (.string (eQ u)); binOp op t (.string (eQ s)) (.string (eQ u))):Sem Value).run P w= .ok v w/\bj Z g st w av v/\v.oneCell'=true:=by
 have hg:∀ w,(eqGuard op t ox oy (.string (eQ s)) (.string (eQ u))).run P w= .ok () w:=fun w=>by unfold eqGuard;cases op <;> simp
 cases op <;> simp only[J5,Tr.run,aen,reduceCtorEq]at h
 case add =>
  obtain⟨h0,h⟩:=Tr.bB h;simp only[Tr.run,aen]at h;subst h;have hb:s.length+u.length<=bG:=aeJ h0;have hb':¬ ((((eQ s).size+(eQ u).size:Nat):Int) > IntKind.i64.max):=by
   rw[jM,jM];have:IntKind.i64.max=9223372036854775807:=by rfl
   rw[this];unfold bG at hb;omega
  exact⟨.string (eQ (s++u)),by simp only[aeN,hg,aez,binOp,Op.stringOp,hb',afE,Ep]; rfl,⟨rfl,by show(s++u).length<=bG; rw[aep]; exact hb⟩,rfl⟩
 case eql=>subst h; exact⟨.bool (s == u),by simp[hg,binOp,Op.stringOp,jm],rfl,rfl⟩
 case neq=>subst h; exact⟨.bool (!(s == u)),by simp[hg,binOp,Op.stringOp,jm],rfl,rfl⟩
 case lss=>subst h; exact⟨.bool (Op.bytesLess s u),by simp[hg,binOp,Op.stringOp,jm],rfl,rfl⟩
 case leq=>subst h; exact⟨.bool (Op.bytesLess s u||s == u),by simp[hg,binOp,Op.stringOp,jm],rfl,rfl⟩
 case gtr=>subst h; exact⟨.bool (!(Op.bytesLess s u||s == u)),by simp[hg,binOp,Op.stringOp,jm],rfl,rfl⟩
 case geq=>subst h; exact⟨.bool (!(Op.bytesLess s u)),by simp[hg,binOp,Op.stringOp,jm],rfl,rfl⟩
end
def dk(P:Program)(cx:Cx P)(st:St)(a:Act)(w:World)(o:Oper)(d:Nat)(p:TV×Option Rt):Prop :=
 ∀(next:Act->World->Prop) (Q:Exit->Act->World->Prop),(∀ Z' g' v w',Rel cx Z' g' (st.aT d p) (a.put (some d) v) w'->next (a.put (some d) v) w')->o.wp P a w next Q
theorem nM{Z:Nat->Prop}{w:World}{k:K}{x:T k}{v:Value}(h:RO Z w k x v):v.cells = #[v]/\v.oneCell'=true:=by
 cases k with
 | int _=>obtain⟨rfl,_⟩:=h; exact⟨rfl,rfl⟩
 | bool=>cases h; exact⟨rfl,rfl⟩
 | str=>obtain⟨rfl,_⟩:=h; exact⟨rfl,rfl⟩
 | sl e ks=>obtain⟨a,c,rfl,_⟩:=h; exact⟨rfl,rfl⟩
theorem BH{w:World}{k:K}{x:T k}{v:Value}{F:Nat->Prop}(h:cO w k x v F):v.cells = #[v]/\v.oneCell'=true:=by
 cases k with
 | int _=>obtain⟨rfl,_⟩:=h; exact⟨rfl,rfl⟩
 | bool=>cases h; exact⟨rfl,rfl⟩
 | str=>obtain⟨rfl,_⟩:=h; exact⟨rfl,rfl⟩
 | sl e ks=>obtain⟨a,c,rfl,_⟩:=h; exact⟨rfl,rfl⟩
section
variable{P:Program}{cx:Cx P}{Z:Nat->Prop}{g:Gh}{st:St}{a:Act}{w:World}{E:En}
theorem cj(h:Rel cx Z g st a w){o:Oper}{d:Nat}(hd:o.dst=some d)(hdn:jw cx a d){v:Value}{tv:TV}(hrun:(execOp a.eval o).run P w= .ok (.value v) w)(ht:bF Z g st w tv v) :
 dk P cx st a w o d (tv,none):=by
 intro next Q hk;unfold Oper.wp;rw[hrun,afo,hd];exact hk _ _ _ _ (h.mm hdn ht)
theorem Rel.BL(h:Rel cx Z g st a w){d:Nat}(hdn:jw cx a d)(hf:st.free d=true){cs:Array Value}{e:TypeId}{l:List RC}(hl:l.length=cs.size)
 (hc:∀(j:Nat) (c:RC) (v:Value),l[j]? = some c->cs[j]? = some v->(∃ k0,c=mM k0/\v=zV k0)∨(∃ av,c.v= .av av/\bj Z g st w av v)){tv:TV}{v:Value}
 (ht:(tv= .v (.ptr d 0)/\v= .pointer (some ⟨w.heap.size,0,none⟩))∨(∃ n,tv= .v (.brow d n)/\v= .slice (some ⟨w.heap.size,0,none⟩) n n)) :
 ∃ g',Rel cx Z g' (st.aT d (tv,some ⟨true,l⟩)) (a.put (some d) v) (w.alloc (.cells cs e (0,0)))/\mA Z Z w (w.alloc (.cells cs e (0,0))) g g' st (st.aT d (tv,some ⟨true,l⟩))/\g'.be d=w.heap.size:=by
 have hheap:(w.alloc (.cells cs e (0,0))).heap=w.heap.push (.cells cs e (0,0)):=rfl;have hsz:(w.alloc (.cells cs e (0,0))).heap.size=w.heap.size+1:=by rw[hheap,afN]
 have hold:∀ b,b<w.heap.size->(w.alloc (.cells cs e (0,0))).heap[b]? = w.heap[b]? := fun b hb=>by rw[hheap,ae1,if_neg (by omega)]
 have hk:=D6 (tv:=tv) (R:=⟨true,l⟩) (be:=w.heap.size) (cv:=fun j=>cs.getD j undef) (fp:=fun _ _=>False) (Z':=Z) (w':=w.alloc (.cells cs e (0,0))) h hf (by omega) hold (fun _ h=>h);refine⟨g.at d w.heap.size (fun j=>cs.getD j undef) (fun _ _=>False),Rel.vA h hdn hf ?_ ?_,hk,by simp[Gh.at]⟩
 . refine { os:=rfl,tape:=rfl,output:=rfl,size:=by omega,block:=hold,bL:=fun b hb=> .inl hb,zle:=fun b hb=>hb,fp := ?_,disj := ?_,box := ?_,cell := ?_ }
   . intro j b hb; simp[Gh.at]at hb
   . intro j j' b hb; simp[Gh.at]at hb
   . intro _;refine⟨by simp[Gh.at],fun hz => ?_,fun j hb=>by simp[Gh.at]at hb,cs,e,(0,0),?_,fun q _=>by simp,hl.symm,fun j hj => ?_⟩
     . have:=(h.bL _ hz).1;simp[Gh.at]at this
     . simp only[Gh.at,if_true];rw[hheap,ae1,if_pos rfl]
     . simp[Gh.at,aev,hj]
   . intro j c hj;have hjl:j<cs.size:=by
      rw[<- hl];rcases aeD j l.length with hh | hh
      . exact hh
      . simp[aeE hh]at hj
     have hcv:(g.at d w.heap.size (fun j=>cs.getD j undef) (fun _ _=>False)).cv d j=cs[j]:=by simp[Gh.at,aev,hjl]
     rw[hcv];rcases hc j c cs[j] hj (by simp[hjl])with ⟨k0,rfl,hv⟩ | ⟨av,hav,hr⟩
     . rw[hv];cases k0 with
       | int k=>exact⟨rfl,by have:=gv k 0; unfold nB; cases k <;> simp[IntKind.min,IntKind.max,IntKind.signed,IntKind.bits]⟩
       | bool=>rfl
       | str=>exact⟨rfl,aeC _⟩
       | sl e ks=>exact jC e ks
     . rw[hav];exact bj.cg hk av _ hr
 . rcases ht with ⟨rfl,rfl⟩ | ⟨n,rfl,rfl⟩
   . exact⟨⟨true,l⟩,by show look ((d,_)::st.rt) d=_; rw[aK,if_pos rfl],rfl,by simp[Gh.at]⟩
   . exact⟨⟨true,l⟩,by show look ((d,_)::st.rt) d=_; rw[aK,if_pos rfl],rfl,by simp[Gh.at]⟩
theorem Rel.newRow(h:Rel cx Z g st a w){d:Nat}(hdn:jw cx a d)(hf:st.free d=true){w':World}{cs:Array Value}{e0:TypeId}{fr:Nat×Nat}(h1:w'.os=w.os)(h2:w'.tape=w.tape)(h3:w'.output=w.output)
 (hh:w'.heap=w.heap.push (.cells cs e0 fr)){k:K}{x:T k}{v:Value}(ho:cO w' k x v (fun b=>b=w.heap.size)) :
 ∃ g',Rel cx Z g' (st.aT d (.v (.ref d 0 0),some ⟨false,[⟨0,0,.own k x⟩]⟩)) (a.put (some d) v) w':=by
 have hsz:w'.heap.size=w.heap.size+1:=by rw[hh,afN]
 have hold:∀ b,b<w.heap.size->w'.heap[b]? = w.heap[b]? := fun b hb=>by rw[hh,ae1,if_neg (by omega)]
 refine⟨g.at d 0 (fun _=>v) (fun j b=>j=0/\b=w.heap.size),Rel.vA h hdn hf ?_ ?_⟩
 . refine { os:=h1,tape:=h2,output:=h3,size:=by omega,block:=hold,bL:=fun b hb=> .inl hb,zle:=fun b hb=>hb,fp := ?_,disj := ?_,box:=fun hb=>by simp at hb,cell := ?_ }
   . intro j b hb;simp only[Gh.at,if_true]at hb;obtain⟨rfl,rfl⟩:=hb;exact⟨oR _,by omega,fun hz=>by have:=(h.bL _ hz).1; omega,_,k,x,rfl,rfl⟩
   . intro j j' b hb hb';simp only[Gh.at,if_true]at hb hb';rw[hb.1,hb'.1]
   . intro j c hj
     match j with
     | 0 =>
       simp only[aeu,aen]at hj;subst hj;have e1:(g.at d 0 (fun _=>v) (fun j b=>j=0/\b=w.heap.size)).cv d 0=v:=by simp[Gh.at]
       have e2:(g.at d 0 (fun _=>v) (fun j b=>j=0/\b=w.heap.size)).fp d 0=fun b=>b=w.heap.size:=by funext b; simp[Gh.at]
       rw[e1,e2];exact ho
     | j+1=>simp at hj
 . exact⟨⟨0,0,.own k x⟩,by show(match look ((d,_)::st.rt) d with | some R=>R.cells[0]? | none=>none)=_; rw[aK,if_pos rfl]; rfl,oR _,fun _=>by simp[Gh.at]⟩
theorem Fl(h:Rel cx Z g st a w)(hc:Cons st){o:Oper}{d:Nat}(hd:o.dst=some d)(hdn:jw cx a d){x:Operand}(ho:o.op= .move x∨o.op= .assign x){tv:TV}(hq:st.get x=some tv):dk P cx st a w o d (tv,none) :=
 cj h hd hdn (v:=a.eval x) (by rcases ho with ho | ho <;> simp[execOp,ho]) (aX h hc hq)
theorem aap(hT:cf P E)(h:Rel cx Z g st a w)(hc:Cons st){o:Oper}{d:Nat}(hd:o.dst=some d)(hdn:jw cx a d){op:BinOp}{t t':TypeId}{x y:Operand}(ho:o.op= .binOp op t x y t'){tx ty:TV}{av:AV}
 (hx:st.get x=some tx)(hy:st.get y=some ty)(hb:(Ua (E.bool t) op tx ty).run=some av):dk P cx st a w o d (.v av,none):=by
 have rx:=aX h hc hx;have ry:=aX h hc hy;have key:∃ v,((do eqGuard op t x y (a.eval x) (a.eval y); binOp op t (a.eval x) (a.eval y)):Sem Value).run P w= .ok v w/\bj Z g st w av v:=by
  unfold Ua at hb;split at hb
  . rename_i k n k' m hix hiy;obtain⟨ex,rix⟩:=fB rx hix;obtain⟨ey,riy⟩:=fB ry hiy;rw[ex,ey];cases hs:vy op with
    | true => simp only[hs,oT]at hb;obtain⟨v,e1,e2,_⟩:=Df (P:=P) (Z:=Z) (g:=g) (st:=st) (k':=k') rix hb t x y w;exact⟨v,e1,e2⟩
    | false =>
      simp only[hs,oF]at hb;cases hk:(k == k')with
      | false=>simp[hk,Tr.run]at hb
      | true =>
        simp only[hk,oT]at hb;have:k=k':=by simpa using hk
        subst this;obtain⟨v,e1,e2,_⟩:=IA (P:=P) (Z:=Z) (g:=g) (st:=st) rix hs hb t x y w;exact⟨v,e1,e2⟩
  . split at hb
    . rename_i s u hsx hsy;obtain⟨ex,_⟩:=mF rx hsx;obtain⟨ey,_⟩:=mF ry hsy;rw[ex,ey];obtain⟨v,e1,e2,_⟩:=I6 (P:=P) (Z:=Z) (g:=g) (st:=st) hb t x y w;exact⟨v,e1,e2⟩
    . split at hb
      . rename_i p q hbx hby;have ex:=sV rx hbx;have ey:=sV ry hby;rw[ex,ey];cases hB:E.bool t with
        | false=>simp[hB,Tr.run]at hb
        | true =>
          simp only[hB,oN,oF]at hb;unfold En.bool at hB;split at hB
          . rename_i el by' fl hti
            obtain⟨dd,hu,hdd⟩:=(hT t _ hti).desc;have hu':P.underlying t=some .bool:=by cases dd <;> simp[iz]at hdd;exact hu
            have hg:∀ w,(eqGuard op t x y (.bool p) (.bool q)).run P w= .ok () w:=fun w=>by unfold eqGuard;cases op <;> simp
            have he:∀ w,(Op.equal t (.bool p) (.bool q)).run P w= .ok (p == q) w:=fun w=>by show(Op.equalIn (9999+1) t (.bool p) (.bool q)).run P w=_;unfold Op.equalIn;simp[aeR hu']
            split at hb
            . simp only[Tr.run,aen]at hb;subst hb;exact⟨.bool (p == q),by simp[hg,binOp,he],rfl⟩
            . simp only[Tr.run,aen]at hb;subst hb;exact⟨.bool (!(p == q)),by simp[hg,binOp,he],rfl⟩
            . simp[Tr.run]at hb
          . simp at hB
      . simp[Tr.run]at hb
 obtain⟨v,e1,e2⟩:=key;exact cj h hd hdn (v:=v) (by simp only[execOp,ho,aeN,e1,aez]; rfl) e2
theorem AL{op:UnOp}{tx:TV}{vx:Value}(rx:bF Z g st w tx vx){av:AV}(hb:(Y3 op tx).run=some av):∃ v,(Op.unary op vx).run P w= .ok v w/\bj Z g st w av v:=by
 unfold Y3 at hb;split at hb
 . rename_i p hbx;rw[sV rx hbx];simp only[Tr.run,aen]at hb;subst hb;exact⟨.bool (!p),by simp[Op.unary],rfl⟩
 . rename_i k n hix;rw[(fB rx hix).1];simp only[Tr.run,aen]at hb;subst hb;exact⟨.int k (k.wrap (0-n)),by simp[Op.unary,Op.intArith],rfl,gv _ _⟩
 . simp[Tr.run]at hb
theorem ab0(h:Rel cx Z g st a w)(hc:Cons st){o:Oper}{d:Nat}(hd:o.dst=some d)(hdn:jw cx a d){op:UnOp}{t:TypeId}{x:Operand}(ho:o.op= .unOp op t x){tx:TV}{av:AV}
 (hx:st.get x=some tx)(hb:(match op with | .not=>UG tx | _=>Y3 op tx).run=some av):dk P cx st a w o d (.v av,none):=by
 have rx:=aX h hc hx;have key:∃ v,(Op.unary op (a.eval x)).run P w= .ok v w/\bj Z g st w av v:=by
  cases op with
  | not =>
    simp only at hb;unfold UG at hb;split at hb
    . rename_i p;simp only[Tr.run,aen]at hb;subst hb;have:a.eval x= .bool p:=rx;rw[this];exact⟨.bool (!p),by simp[Op.unary],rfl⟩
    . exact AL rx hb
  | neg=>exact AL rx hb
  | xor=>exact AL rx hb
  | plus=>exact AL rx hb
 obtain⟨v,e1,e2⟩:=key;exact cj h hd hdn (v:=v) (by simp[execOp,ho,e1]) e2
theorem VC(hT:cf P E)(h:Rel cx Z g st a w)(hc:Cons st){o:Oper}{d:Nat}(hd:o.dst=some d)(hdn:jw cx a d){t:TypeId}{x:Operand}(ho:o.op= .load t x){ti:TI}{tx:TV}{p:AV}{l:List AV}{tv:TV}
 (hti:E.ti t=some ti)(hx:st.get x=some tx)(hp:tx.Eg = some p)(hl:st.load ti.ks.length p=some l)(hw:gG ti.agg l=some tv):dk P cx st a w o d (tv,none):=by
 obtain⟨b,of,vs,e1,e2,e3,e4⟩:=yq h (rD (aX h hc hx) hp) hl;obtain⟨v,e5,e6⟩:=uy (hT t ti hti) e2 e3;refine cj h hd hdn (v:=v) (by simp[execOp,ho,e1,Instr.loadAt,Instr.sureAddr,e5]) ?_;unfold gG at hw;split at hw
 . rename_i l' hag;simp only[aen]at hw;subst hw;rw[hag]at e6;exact⟨vs.toArray,e6,by simpa using e4⟩
 . rename_i av hag;simp only[aen]at hw;subst hw;rw[hag]at e6;subst e6;exact e4.1
 . simp at hw
theorem dW:∀ {l:List AV} {vs:List Value},aU Z g st w l vs->l.length=vs.length
 | [],[],_=>rfl
 | _::l,_::vs,h=>by simp[dW h.2]
 | [],_::_,h=>h.elim
 | _::_,[],h=>h.elim
theorem pP:∀ {l:List AV} {vs:List Value},aU Z g st w l vs->∀(j:Nat) (x:AV) (v:Value),l[j]? = some x->vs[j]? = some v->bj Z g st w x v
 | [],[],_,_,_,_,h,_=>by simp at h
 | _::l,_::vs,h,j,x,v,h1,h2=>by
   cases j with
   | zero=>simp at h1 h2; subst h1; subst h2; exact h.1
   | succ j=>simp at h1 h2; exact pP h.2 j x v h1 h2
 | [],_::_,h,_,_,_,_,_=>h.elim
 | _::_,[],h,_,_,_,_,_=>h.elim
theorem kn:∀ {l:List AV} {vs:List Value},l.length=vs.length->(∀(j:Nat) (x:AV) (v:Value),l[j]? = some x->vs[j]? = some v->bj Z g st w x v)->aU Z g st w l vs
 | [],[],_,_=>trivial
 | x::l,v::vs,hl,h=>⟨h 0 x v rfl rfl,kn (by simpa using hl) (fun j y u h1 h2=>h (j+1) y u (by simpa using h1) (by simpa using h2))⟩
 | [],_::_,hl,_=>by simp at hl
 | _::_,[],hl,_=>by simp at hl
theorem sY(h:Rel cx Z g st a w){x:AV}{v:Value}(hr:bj Z g st w x v)(hl:st.live x=true):v.cells = #[v]/\v.oneCell'=true:=by
 cases x with
 | dead=>simp[St.live]at hl
 | pre=>simp[St.live]at hl
 | lb b=>cases hr; exact⟨rfl,rfl⟩
 | d k y=>exact nM hr
 | nil=>cases hr; exact⟨rfl,rfl⟩
 | b r j s m k y => obtain⟨c,h1,h2,h3,h4⟩:=hr;simp only[St.live,h1,aeo]at hl;exact nM (h4 (beq_eq hl.1) (beq_eq hl.2))
 | ref r j s =>
   obtain⟨c,h1,h2,h3⟩:=hr;obtain⟨cs,cm,cv⟩:=c;cases cv with
   | av _=>simp[St.live,h1]at hl
   | own k y =>
     cases k with
     | sl e ks => simp only[St.live,h1]at hl;rw[h3 (beq_eq hl)];exact BH (et h h1 rfl)
     | _=>simp[St.live,h1]at hl
 | cut r j s n =>
   obtain⟨c,h1,h2,h3⟩:=hr;obtain⟨cs,cm,cv⟩:=c;cases cv with
   | av _=>simp[St.live,h1]at hl
   | own k y =>
     cases k with
     | sl e ks => simp only[St.live,h1]at hl;obtain⟨_,_,_,_,_,rfl⟩:=h3 (beq_eq hl);exact⟨rfl,rfl⟩
     | _=>simp[St.live,h1]at hl
 | pref r j s m i c =>
   have hr':=hr;obtain⟨cc,h1,_⟩:=hr;obtain⟨cs,cm,cv⟩:=cc;cases cv with
   | av _=>simp[St.live,h1]at hl
   | own k y =>
     cases k with
     | sl e ks =>
       simp only[St.live,h1,aeo]at hl;obtain⟨⟨e1,e2⟩,e3⟩:=hl;obtain⟨⟨k,z⟩,hz⟩:=Option.isSome_iff_exists.1 e3;refine nM (AE h (x:= .pref r j s m i c) (k:=k) (y:=z) ?_ ?_)
       . exact hr'
       . simp only[St.read,h1,e1,e2,Bool.and_self,oT,hz]
     | _=>simp[St.live,h1]at hl
 | ptr r j=>obtain⟨_,_,_,rfl⟩:=hr; exact⟨rfl,rfl⟩
 | brow r n=>obtain⟨_,_,_,rfl⟩:=hr; exact⟨rfl,rfl⟩
 | pel r j s i c => obtain⟨cc,h1,_,h3⟩:=hr;simp only[St.live,h1]at hl;obtain⟨_,_,_,_,_,_,_,_,_,_,rfl⟩:=h3 (beq_eq hl);exact⟨rfl,rfl⟩
 | rp dep e ks xs i c =>
   cases dep with
   | none=>obtain⟨_,_,_,_,_,rfl,_⟩:=hr; exact⟨rfl,rfl⟩
   | some dd => obtain⟨r,j,s,m⟩:=dd;obtain⟨cc,h1,_,_,h3⟩:=hr;simp only[St.live,h1,aeo]at hl;obtain⟨_,_,_,_,_,rfl,_⟩:=h3 (beq_eq hl.1) (beq_eq hl.2);exact⟨rfl,rfl⟩
theorem zB{x:AV}{c:RC}(h:st.jo x=some c):st.live x=true:=by
 cases x with
 | lb _=>rfl
 | d _ _=>rfl
 | nil=>rfl
 | b r j s m k y =>
   simp only[St.jo]at h;cases hl:st.live (.b r j s m k y)with
   | true=>rfl
   | false=>simp[hl]at h
 | pref r j s m i c =>
   simp only[St.jo]at h;cases hl:st.live (.pref r j s m i c)with
   | true=>rfl
   | false=>simp[hl]at h
 | _=>simp[St.jo]at h
theorem KT(h:Rel cx Z g st a w){x:AV}{v:Value}{c:RC}(hr:bj Z g st w x v)(hc:st.jo x=some c):∃ av,c.v= .av av/\bj Z g st w av v:=by
 cases x with
 | lb _=>simp only[St.jo,aen]at hc; subst hc; exact⟨_,rfl,hr⟩
 | d _ _=>simp only[St.jo,aen]at hc; subst hc; exact⟨_,rfl,hr⟩
 | nil=>simp only[St.jo,aen]at hc; subst hc; exact⟨_,rfl,hr⟩
 | b r j s m k y =>
   simp only[St.jo]at hc;cases hl:st.live (.b r j s m k y)with
   | true=>simp only[hl,oT,aen]at hc; subst hc; exact⟨_,rfl,hr⟩
   | false=>simp[hl]at hc
 | pref r j s m i q =>
   simp only[St.jo]at hc;cases hl:st.live (.pref r j s m i q)with
   | true=>simp only[hl,oT,aen]at hc; subst hc; exact⟨_,rfl,hr⟩
   | false=>simp[hl]at hc
 | _=>simp[St.jo]at hc
theorem ub(h:Rel cx Z g st a w):∀(l:List AV) (vs:List Value) (cs:List RC),aU Z g st w l vs->st.kP l=some cs->cs.length=vs.length/\(∀ v∈vs,v.cells = #[v]/\v.oneCell'=true) /\
 ∀(j:Nat) (c:RC) (v:Value),cs[j]? = some c->vs[j]? = some v->∃ av,c.v= .av av/\bj Z g st w av v
 | [],[],cs,_,hc=>by simp only[St.kP,aen]at hc; subst hc; exact⟨rfl,by simp,by simp⟩
 | x::l,v::vs,cs,hr,hc=>by
   simp only[St.kP]at hc;split at hc
   . rename_i c cs' h1 h2;simp only[aen]at hc;subst hc;obtain⟨e1,e2,e3⟩:=ub h l vs cs' hr.2 h2;refine⟨by simp[e1],?_,?_⟩
     . intro u hu;rcases aew.1 hu with rfl | hu
       . exact sY h hr.1 (zB h1)
       . exact e2 u hu
     . intro j c' u hj hu;cases j with
       | zero=>simp at hj hu; subst hj; subst hu; exact KT h hr.1 h1
       | succ j=>simp at hj hu; exact e3 j c' u hj hu
   . simp at hc
 | [],_::_,_,hr,_=>hr.elim
 | _::_,[],_,hr,_=>hr.elim
theorem lL(h:Rel cx Z g st a w){tv:TV}{v:Value}{p:Bool×List AV}(hr:bF Z g st w tv v)(hp:tv.cH = some p)(hl:p.2.all st.live=true):aU Z g st w p.2 v.cells.toList/\v.cells.size=p.2.length:=by
 cases tv with
 | v x => simp only[TV.cH,aen]at hp;subst hp;simp only[afe,List.all_nil,ag1]at hl;have:=(sY h hr hl).1;rw[this];exact⟨⟨hr,trivial⟩,rfl⟩
 | agg l => simp only[TV.cH,aen]at hp;subst hp;obtain⟨vs,rfl,hr⟩:=hr;exact⟨hr,by show vs.size=l.length; have:=dW hr; simpa using this.symm⟩
 | bc r j s m e ks x => simp only[TV.cH,aen]at hp;subst hp;simp only[afe,List.all_nil,ag1]at hl;have:=(sY h (MR hr) hl).1;rw[this];exact⟨⟨MR hr,trivial⟩,rfl⟩
 | _=>simp[TV.cH]at hp
theorem x4:∀(l:List AV) (cs:List RC),st.kP l=some cs->l.all st.live=true
 | [],_,_=>rfl
 | x::l,cs,hc=>by
   simp only[St.kP]at hc;split at hc
   . rename_i c cs' h1 h2;simp[zB h1,x4 l cs' h2]
   . simp at hc
theorem Qc(hT:cf P E)(h:Rel cx Z g st a w){o:Oper}{d:Nat}(hd:o.dst=some d)(hdn:jw cx a d)(hf:st.free d=true){t:TypeId}(ho:o.op= .alloc t){ti:TI}(hti:E.ti t=some ti) :
 dk P cx st a w o d (.v (.ptr d 0),some ⟨true,ti.ks.map mM⟩):=by
 obtain⟨z,hz,hzc⟩:=se (hT t ti hti) w;intro next Q hk;have hrun:(execOp a.eval o).run P w= .ok (.value (.pointer (some ⟨w.heap.size,0,none⟩))) (w.alloc (.cells z.cells t (0,0))):=by simp[execOp,ho,Instr.alloc,hz,newVar,newRow]
 unfold Oper.wp;rw[hrun,afo,hd];obtain⟨g',hg,_⟩:=h.BL (d:=d) hdn hf (cs:=z.cells) (e:=t) (l:=ti.ks.map mM) (by rw[<- aeY,hzc]; simp) (fun j c v hj hv=>by left;rw[<- aer,hzc]at hv;simp only[ae2,afS]at hj hv;obtain⟨k0,e1,rfl⟩:=hj;obtain⟨k1,e2,rfl⟩:=hv;rw[e1]at e2;simp only[aen]at e2;subst e2;exact⟨k0,rfl,rfl⟩) (tv:= .v (.ptr d 0)) (v:= .pointer (some ⟨w.heap.size,0,none⟩)) (.inl ⟨rfl,rfl⟩);exact hk _ _ _ _ hg
theorem aaZ(hT:cf P E)(h:Rel cx Z g st a w)(hc:Cons st){o:Oper}{d:Nat}(hd:o.dst=some d)(hdn:jw cx a d)(hf:st.free d=true){t:TypeId}{x:Operand}(ho:o.op= .box t x){tv:TV}{p:Bool×List AV}{l:List RC}
 (hx:st.get x=some tv)(hp:tv.cH = some p)(hl:st.kP p.2=some l):dk P cx st a w o d (.v (.ptr d 0),some ⟨true,l⟩):=by
 have hr:=aX h hc hx;obtain⟨h1,h2⟩:=lL h hr hp (x4 _ _ hl);obtain⟨e1,e2,e3⟩:=ub h _ _ _ h1 hl;intro next Q hk;have hrun:(execOp a.eval o).run P w= .ok (.value (.pointer (some ⟨w.heap.size,0,none⟩))) (w.alloc (.cells (a.eval x).cells t (0,0))):=by simp[execOp,ho,Instr.box,newVar,newRow]
 unfold Oper.wp;rw[hrun,afo,hd];obtain⟨g',hg,_⟩:=h.BL (d:=d) hdn hf (cs:=(a.eval x).cells) (e:=t) (l:=l) (by rw[e1]; simp) (fun j c v hj hv=> .inr (e3 j c v hj (by rw[aer]; exact hv))) (tv:= .v (.ptr d 0)) (v:= .pointer (some ⟨w.heap.size,0,none⟩)) (.inl ⟨rfl,rfl⟩);exact hk _ _ _ _ hg
theorem xR(h:Rel cx Z g st a w)(hc:Cons st){o:Oper}{d:Nat}(hd:o.dst=some d)(hdn:jw cx a d){x:Operand}(ho:o.op= .nilCheck x){av:AV}(hx:st.get x=some (.v av))(hp:(∃ r j,av= .ptr r j)∨(∃ r j s i c,av= .pel r j s i c)/\st.live av=true) :
 dk P cx st a w o d (.v av,none):=by
 have hr:bj Z g st w av (a.eval x):=aX h hc hx;have:∃ ad,a.eval x= .pointer (some ad):=by
  rcases hp with ⟨r,j,rfl⟩ | ⟨⟨r,j,s,i,c,rfl⟩,hl⟩
  . obtain⟨_,_,_,e⟩:=hr; exact⟨_,e⟩
  . obtain⟨cc,h1,_,h3⟩:=hr;simp only[St.live,h1]at hl;obtain⟨_,_,_,_,_,_,_,_,_,_,e⟩:=h3 (beq_eq hl);exact⟨_,e⟩
 obtain⟨ad,e⟩:=this;exact cj h hd hdn (v:=a.eval x) (by simp[execOp,ho,e]) hr
theorem Ji{x y:AV}{n:Nat}{v:Value}(hr:bj Z g st w x v)(hy:xt n x=some y)(hl:st.live x=true):∃ b o,v= .pointer (some ⟨b,o,none⟩)/\bj Z g st w y (.pointer (some ⟨b,o+n,none⟩)):=by
 cases x with
 | ptr r j => simp only[xt,aen]at hy;subst hy;obtain⟨R,h1,h2,rfl⟩:=hr;exact⟨_,_,rfl,R,h1,h2,rfl⟩
 | pel r j s i c => simp only[xt,aen]at hy;subst hy;obtain⟨cc,h1,h2,h3⟩:=hr;simp only[St.live,h1]at hl;obtain⟨e,ks,xs,g1,g2,b,o,len,cap,g4,rfl⟩:=h3 (beq_eq hl);exact⟨_,_,rfl,cc,h1,h2,fun _=>⟨e,ks,xs,g1,g2,b,o,len,cap,g4,by rw[afq]⟩⟩
 | rp dep e ks xs i c =>
   simp only[xt,aen]at hy;subst hy;cases dep with
   | none => obtain⟨h0,b,o,h1,h2,rfl,h4⟩:=hr;exact⟨_,_,rfl,h0,b,o,h1,h2,by rw[afq],h4⟩
   | some dd => obtain⟨r,j,s,m⟩:=dd;obtain⟨cc,h1,h2,h3,h4⟩:=hr;simp only[St.live,h1,aeo]at hl;obtain⟨h0,b,o,g1,g2,rfl,g4⟩:=h4 (beq_eq hl.1) (beq_eq hl.2);exact⟨_,_,rfl,cc,h1,h2,h3,fun _ _=>⟨h0,b,o,g1,g2,by rw[afq],g4⟩⟩
 | _=>simp[xt]at hy
theorem uG(hT:cf P E){t:TypeId}{ti:TI}(hti:E.ti t=some ti){f o u:Nat}(hf:H6 ti.flds f=some (o,u))(hag:ti.agg=true) :
 ∃ fs fi,P.underlying t=some (.struct fs)/\fs[f]? = some fi/\fi.offset=o/\fi.type=u/\∃ i,P.info? u=some i/\i.size≠0:=by
 obtain⟨dd,hu,hdd⟩:=(hT t ti hti).desc;cases dd with
 | struct fs => obtain⟨_,h1,h2⟩:=hdd;obtain⟨fi,e1,e2,e3⟩:=h1 f o u hf;obtain⟨i,e4,e5⟩:=h2 fi (by rw[<- aer]at e1; exact aet e1);exact⟨fs,fi,hu,e1,e2,e3,i,by rw[<- e3]; exact e4,e5⟩
 | _=>simp[iz,hag]at hdd
theorem DF(hT:cf P E)(h:Rel cx Z g st a w)(hc:Cons st){o:Oper}{d:Nat}(hd:o.dst=some d)(hdn:jw cx a d){t:TypeId}{x:Operand}{f:Nat}(ho:o.op= .fieldAddr t x f){ti:TI}{p:Nat×Nat}{tv:TV}{av av':AV}
 (hti:E.ti t=some ti)(hag:ti.agg=true)(hf:H6 ti.flds f=some p)(hx:st.get x=some tv)(ha:tv.Eg = some av)(hl:st.live av=true)(ho':xt p.1 av=some av'):dk P cx st a w o d (.v av',none):=by
 obtain⟨b,of,e1,e2⟩:=Ji (rD (aX h hc hx) ha) ho' hl;obtain⟨fs,fi,hu,g1,g2,g3,i,g4,g5⟩:=uG hT hti (o:=p.1) (u:=p.2) hf hag;refine cj h hd hdn (v:= .pointer (some ⟨b,of+p.1,none⟩)) ?_ e2;have g4':P.info? fi.type=some i:=by rw[g3]; exact g4
 have hsz:∀ w,(sizeOf fi.type).run P w= .ok i.size w:=fun w=>by simp[sizeOf,typeInfo,g4']
 simp[execOp,ho,Instr.fieldAt,aeR hu,g1,e1,Instr.sureAddr,fieldPlace,hsz,g5,g2,fL]
theorem wk{l:List AV}{vs:List Value}(h:aU Z g st w l vs)(o n:Nat):aU Z g st w (pS l o n) ((vs.drop o).take n):=by
 refine kn ?_ ?_
 . simp[pS,dW h]
 . intro j x v hx hv;unfold pS at hx;rw[aft]at hx hv;split at hx
   . rename_i hj;rw[if_pos hj]at hv;rw[afu]at hx hv;exact pP h _ _ _ hx hv
   . simp at hx
theorem Pf(hT:cf P E)(h:Rel cx Z g st a w)(hc:Cons st){o:Oper}{d:Nat}(hd:o.dst=some d)(hdn:jw cx a d){t:TypeId}{x:Operand}{f:Nat}(ho:o.op= .field t x f){ti tf:TI}{p:Nat×Nat}{l:List AV}{tv:TV}
 (hti:E.ti t=some ti)(hag:ti.agg=true)(hf:H6 ti.flds f=some p)(htf:E.ti p.2=some tf)(hx:st.get x=some (.agg l))(hlen:p.1+tf.ks.length<=l.length)(hw:gG tf.agg (pS l p.1 tf.ks.length)=some tv):dk P cx st a w o d (tv,none):=by
 obtain⟨vs,e1,e2⟩:=aX h hc hx;obtain⟨fs,fi,hu,g1,g2,g3,i,g4,g5⟩:=uG hT hti (o:=p.1) (u:=p.2) hf hag;have hT2:=hT p.2 tf htf;have hl:=dW e2;have hs:=wk e2 p.1 tf.ks.length;unfold gG at hw;split at hw
 . rename_i l' hagg;simp only[aen]at hw;subst hw;have hia:=oQ hT2 w;rw[hagg]at hia;refine cj h hd hdn (v:= .agg (vs.extract p.1 (p.1+tf.ks.length))) ?_ ⟨_,rfl,?_⟩
   . simp[execOp,ho,Instr.field,aeR hu,g1,e1,asAgg,part,g3,hia,cJ hT2 w,g2]
   . rw[Array.toList_extract];simpa[List.extract,afa]using hs
 . rename_i av hagg hss;simp only[aen]at hw;subst hw;have hia:=oQ hT2 w;rw[hagg]at hia;rw[hss]at hs;have h1:tf.ks.length=1:=by
    have:=aeU List.length hss;simp[pS]at this;omega
   have hlt:p.1<vs.size:=by
    have:l.length=vs.size:=by simpa using hl
    omega
   have hv:(vs.toList.drop p.1).take tf.ks.length=[vs[p.1]]:=by rw[h1];rw[agt (by simpa using hlt)];simp
   rw[hv]at hs;refine cj h hd hdn (v:=vs[p.1]) ?_ hs.1;simp[execOp,ho,Instr.field,aeR hu,g1,e1,asAgg,part,g3,hia,g2,hlt]
 . simp at hw
end
theorem yY{α:Type}(l:List α)(n:Nat)(c:α)(h:n<l.length):(l.set n c).take (n+1)=l.take n++[c]:=by rw[List.take_succ_eq_append_getElem (by simpa using h)];rw[List.take_set,List.set_eq_of_length_le (by rw[afd]; omega)];simp
theorem zC:∀(p:List Value) (s off:Nat) (cs:Array Value),off+s+p.length<=cs.size ->
 ((p.zipIdx s).foldl (fun(cs:Array Value) (x:Value×Nat)=>cs.setIfInBounds (off+x.2) x.1) cs).toList=cs.toList.take (off+s)++p++cs.toList.drop (off+s+p.length)
 | [],s,off,cs,_=>by simp
 | c::r,s,off,cs,h=>by simp only[aeF]at h;rw[List.zipIdx_cons,afb];rw[zC r (s+1) off _ (by simp; omega)];simp only[Array.toList_setIfInBounds];rw[show off+(s+1)=off+s+1 by omega,yY _ _ _ (by simp; omega)];rw[List.drop_set,if_pos (by omega)];simp only[aeF,aeV,List.cons_append,af4];rw[show off+s+1+r.length=off+s+(r.length+1)by omega]
section
variable{P:Program}{cx:Cx P}{Z:Nat->Prop}{g:Gh}{st:St}{a:Act}{w:World}{E:En}
theorem jx:∀ {l l':List AV} {vs vs':List Value},aU Z g st w l vs->aU Z g st w l' vs'->aU Z g st w (l++l') (vs++vs')
 | [],_,[],_,_,h=>h
 | _::l,_,_::vs,_,h1,h2=>⟨h1.1,jx h1.2 h2⟩
 | [],_,_::_,_,h,_=>h.elim
 | _::_,_,[],_,h,_=>h.elim
theorem nO{l:List AV}{vs:List Value}(h:aU Z g st w l vs)(n:Nat):aU Z g st w (l.take n) (vs.take n):=by have:=wk h 0 n;simpa[pS]using this
theorem lO:∀ {l:List AV} {vs:List Value},aU Z g st w l vs->∀ n,aU Z g st w (l.drop n) (vs.drop n)
 | l,vs,h,0=>by simpa using h
 | [],[],_,n+1=>by simp; trivial
 | _::l,_::vs,h,n+1=>by simpa using lO h.2 n
 | [],_::_,h,_+1=>h.elim
 | _::_,[],h,_+1=>h.elim
theorem Jh{l p:List AV}{vs ps:List Value}(h1:aU Z g st w l vs)(h2:aU Z g st w p ps)(o:Nat):aU Z g st w (putAt l o p) (vs.take o++ps++vs.drop (o+ps.length)):=by unfold putAt;rw[dW h2];exact jx (jx (nO h1 o) h2) (lO h1 _)
theorem xo(h:Rel cx Z g st a w)(hc:Cons st){place:Nat->Option (Nat×Nat)}{step:List AV->Nat×Operand->Option (List AV)}
 (hstep:∀ l l' i x,step l (i,x)=some l'->∃ tv p o,st.get x=some tv/\tv.cH = some p/\p.2.all st.live=true/\place i=some (o,p.2.length)/\o+p.2.length<=l.length/\l'=putAt l o p.2) :
 ∀(parts:List (Nat×Operand)) (l l':List AV) (cs:Array Value),aU Z g st w l cs.toList->jH step l parts=some l'->∃ cs',Instr.fill place cs (parts.map fun q=>(q.1,a.eval q.2))=some cs'/\aU Z g st w l' cs'.toList
 | [],l,l',cs,hr,hf=>by simp only[jH,aen]at hf;subst hf;exact⟨cs,rfl,hr⟩
 | (i,x)::r,l,l',cs,hr,hf=>by
   simp only[jH]at hf;cases hs:step l (i,x)with
   | none=>simp[hs]at hf
   | some l1 =>
     simp only[hs]at hf;obtain⟨tv,p,o,e1,e2,e3,e4,e5,rfl⟩:=hstep l l1 i x hs;obtain⟨hv,hsz⟩:=lL h (aX h hc e1) e2 e3;have hlen:l.length=cs.size:=by simpa using dW hr
     have hput:=zC (a.eval x).cells.toList 0 o cs (by simp only[aeY]; omega);have hrel:=Jh hr hv o;have harr:((a.eval x).cells.zipIdx.foldl (fun(cs:Array Value) (x:Value×Nat)=>cs.setIfInBounds (o+x.2) x.1) cs).toList=cs.toList.take o++(a.eval x).cells.toList++cs.toList.drop (o+(a.eval x).cells.toList.length):=by rw[aeQ]at hput;rw[<- hput,<- Array.foldl_toList,Array.toList_zipIdx]
     obtain⟨cs',e6,e7⟩:=xo h hc hstep r _ l' ((a.eval x).cells.zipIdx.foldl (fun(cs:Array Value) (x:Value×Nat)=>cs.setIfInBounds (o+x.2) x.1) cs) (by rw[harr]; exact hrel) hf;refine⟨cs',?_,e7⟩;simp only[aff,Instr.fill,e4];rw[if_neg (by simp[hsz]; omega)];exact e6
theorem PM(hT:cf P E)(h:Rel cx Z g st a w)(hc:Cons st){o:Oper}{d:Nat}(hd:o.dst=some d)(hdn:jw cx a d){t:TypeId}{parts:Array (Nat×Operand)}(ho:o.op= .build t parts){ti:TI}{l:List AV}
 (hti:E.ti t=some ti)(hag:ti.agg=true)(hl:jH (rR E st ti.flds) (ti.ks.map lU) parts.toList=some l):dk P cx st a w o d (.agg l,none):=by
 have hTi:=hT t ti hti;obtain⟨i,e1,e2,e3,z,e4,e5⟩:=hTi.info;obtain⟨dd,hu,hdd⟩:=hTi.desc;cases dd with
 | struct fs =>
   obtain⟨_,h1,h2⟩:=hdd;have hm:∀(L:List Go.Field),(∀ fi∈L,∃ i,P.info? fi.type=some i/\i.size≠0)->∃ places,L.mapM (fun f=>(P.info? f.type).map fun i=>(f.offset,i.size))=some places/\∀(j:Nat) (fi:Go.Field) (i:TypeInfo),L[j]? = some fi->P.info? fi.type=some i->places[j]? = some (fi.offset,i.size):=by
    intro L;induction L with
    | nil=>intro _; exact⟨[],by simp,by simp⟩
    | cons fi L ih =>
      intro hL;obtain⟨i,g1,_⟩:=hL fi (by simp);obtain⟨places,g2,g3⟩:=ih (fun f hf=>hL f (by simp[hf]));refine⟨(fi.offset,i.size)::places,by simp[List.mapM_cons,g1,g2],?_⟩;intro j f' i' hj hi';cases j with
      | zero=>simp at hj; subst hj; rw[g1]at hi'; simp at hi'; subst hi'; rfl
      | succ j=>simp at hj ⊢; exact g3 j f' i' hj hi'
   obtain⟨places,hp1,hp2⟩:=hm fs.toList h2;have hz:aU Z g st w (ti.ks.map lU) z.cells.toList:=by
    rw[e5];refine kn (by simp) ?_;intro j x v hx hv;simp only[ae2,afS]at hx hv;obtain⟨k0,q1,rfl⟩:=hx;obtain⟨k1,q2,rfl⟩:=hv;rw[q1]at q2;simp only[aen]at q2;subst q2;cases k0 with
    | int k=>exact⟨rfl,by unfold nB; cases k <;> simp[IntKind.min,IntKind.max,IntKind.signed,IntKind.bits]⟩
    | bool=>rfl
    | str=>exact⟨rfl,aeC _⟩
    | sl e ks=>rfl
   obtain⟨cs',q1,q2⟩:=xo h hc (place:=(places.toArray[·]?)) (step:=rR E st ti.flds) (fun l l' i x hs=>by
    unfold rR at hs;split at hs
    . rename_i of u tv hf hg;split at hs
      . rename_i gg p tu hp htu;cases hb:Nat.beq p.length tu.ks.length&&p.all st.live&&Nat.ble (of+p.length) l.length with
        | false=>simp[hb]at hs
        | true => simp only[hb,oT,aen]at hs;simp only[aeo]at hb;obtain⟨fi,s1,s2,s3⟩:=h1 _ _ _ hf;obtain⟨iu,t1,t2,_⟩:=(hT u tu htu).info;have:places[i]? = some (fi.offset,iu.size):=hp2 i fi iu (by rw[aer]; exact s1) (by rw[s3]; exact t1);refine⟨tv,(gg,p),of,hg,hp,hb.1.2,?_,aeJ hb.2,hs.symm⟩;simp only[aeZ,this,s2,t2];rw[beq_eq hb.1.1]
      . simp at hs
    . simp at hs) parts.toList _ l z.cells hz hl
   have hb:P.built t (parts.map fun q=>(q.1,a.eval q.2)).toList=some cs':=by simp only[Program.built,e1,hu,e4,hp1,Array.toList_map];exact q1
   have hrun:=run_build (P:=P) w t (parts.map fun q=>(q.1,a.eval q.2)) cs' hb;exact cj h hd hdn (v:= .agg cs') (by simp only[execOp,ho]; simp[hrun]) ⟨cs',rfl,q2⟩
 | _=>simp[iz,hag]at hdd
end
theorem sK{α:Type}:∀(n:Nat) (l:List α),(pj n l).length=n * l.length
 | 0,_=>by simp[pj]
 | n+1,l=>by simp[pj,sK n l,Nat.succ_mul]; omega
theorem yh{α:Type}:∀(n:Nat) (l:List α) (i:Nat),i<n * l.length->(pj n l)[i]? = l[i % l.length]?
 | 0,_,_,h=>by simp at h
 | n+1,l,i,h=>by
   simp only[pj];by_cases hi:i<l.length
   . rw[ae4 hi,agH hi]
   . rw[ae3 (by omega),yh n l (i-l.length) (by rw[ae0,agZ]at h; omega)];rw[<- Nat.mod_eq_sub_mod (by omega)]
theorem sA(n:Nat)(z:Array Value):((Array.range (n * z.size)).map fun i=>z[i % z.size]!).toList=pj n z.toList:=by
 apply agW;intro i;by_cases hi:i<n * z.size
 . rw[yh n z.toList i (by simpa using hi)];have hz:0<z.size:=by
    rcases aga z.size with h | h
    . rw[h,Nat.mul_zero]at hi; omega
    . exact h
   have hm:i % z.size<z.size:=Nat.mod_lt _ hz;simp only[Array.toList_map,ae2,aer,aeY];rw[agu (by simpa using hi),agu hm];simp[hm]
 . rw[aeE (by simp; omega),aeE (by rw[sK]; simpa using hi)]
section
variable{P:Program}{cx:Cx P}{Z:Nat->Prop}{g:Gh}{st:St}{a:Act}{w:World}{E:En}
theorem Oe(ks:List K):aU Z g st w (ks.map lU) (ks.map zV):=by
 refine kn (by simp) ?_;intro j x v hx hv;simp only[ae2,afS]at hx hv;obtain⟨k0,q1,rfl⟩:=hx;obtain⟨k1,q2,rfl⟩:=hv;rw[q1]at q2;simp only[aen]at q2;subst q2;cases k0 with
 | int k=>exact⟨rfl,by unfold nB; cases k <;> simp[IntKind.min,IntKind.max,IntKind.signed,IntKind.bits]⟩
 | bool=>rfl
 | str=>exact⟨rfl,aeC _⟩
 | sl e ks=>rfl
theorem DD{l:List AV}{vs:List Value}(h:aU Z g st w l vs):∀ n,aU Z g st w (pj n l) (pj n vs)
 | 0=>trivial
 | n+1=>jx h (DD h n)
theorem pY:∀(n:Nat) (ks:List K) (l:List AV) (xs:List (Tl ks)),chunks st ks n l=some xs->l.length=n * ks.length->xs.length=n/\∀(i:Nat) (x:Tl ks),xs[i]? = some x->st.readAll ks ((l.drop (i * ks.length)).take ks.length)=some x
 | 0,ks,l,xs,h,hl=>by have hl0:l=[]:=ae6.1 (by simpa using hl);subst hl0;simp only[chunks,aen]at h;subst h;exact⟨rfl,by simp⟩
 | n+1,ks,l,xs,h,hl=>by
   simp only[chunks]at h;split at h
   . rename_i x r h1 h2;simp only[aen]at h;subst h;obtain⟨e1,e2⟩:=pY n ks _ r h2 (by rw[af9,hl,Nat.succ_mul]; omega);refine⟨by simp[e1],fun i y hi => ?_⟩;cases i with
     | zero=>simp at hi; subst hi; simpa using h1
     | succ i => simp at hi;have:=e2 i y hi;rw[List.drop_drop]at this;rw[show(i+1) * ks.length=ks.length+i * ks.length by rw[Nat.succ_mul]; omega];exact this
   . simp at h
theorem Af{Z Z':Nat->Prop}{w w':World}(hs:w.heap.size<=w'.heap.size)(hZ:∀ b,Z b->b<w.heap.size->Z' b/\w'.heap[b]? = w.heap[b]?):∀(ks:List K) (x:Tl ks) (vs:List Value) (b o:Nat),qc Z w ks x vs->(∀(j:Nat) (v:Value),vs[j]? = some v->w'.cell? ⟨b,o+j,none⟩=some v)->pz Z' w' ks x b o
 | [],_,_,_,_,_,_=>trivial
 | k::ks,x,[],_,_,h,_=>h.elim
 | k::ks,x,v::vs,b,o,h,hc=>⟨⟨v,hc 0 v rfl,RO.mono hs hZ k _ v h.1⟩,Af hs hZ ks x.2 vs b (o+1) h.2 (fun j u hj=>by rw[show o+1+j=o+(j+1)by omega]; exact hc (j+1) u (by simpa using hj))⟩
theorem zf(h:Rel cx Z g st a w){w':World}(hs:w.heap.size<=w'.heap.size){F:Nat->Nat->Prop}:∀(ks:List K) (l:List AV) (vs:List Value) (x:Tl ks) (j:Nat) (cs:Array Value) (o:Nat),(flat ks=true∨l.all oJ=true)->aU Z g st w l vs->st.readAll ks l=some x ->
 (∀(i:Nat) (v:Value),vs[i]? = some v->cs[o+i]? = some v)->fA w' ks x j F cs o
 | [],_,_,_,_,_,_,_,_,_,_=>trivial
 | k::ks,[],_,_,_,_,_,_,_,hx,_=>by simp[St.readAll]at hx
 | k::ks,av::l,[],_,_,_,_,_,hr,_,_=>hr.elim
 | k::ks,av::l,v::vs,x,j,cs,o,hf,hr,hx,hc=>by
   unfold St.readAll at hx;split at hx
   . rename_i y z hy hz;cases hx;refine⟨⟨v,hc 0 v rfl,?_⟩,zf h hs ks l vs z (j+1) cs (o+1) ?_ hr.2 hz (fun i u hi=>by rw[show o+1+i=o+(i+1)by omega]; exact hc (i+1) u (by simpa using hi))⟩
     . have hro:=mg h hr.1 hy;cases k with
       | int _=>exact hro
       | bool=>exact hro
       | str=>exact hro
       | sl e ks' =>
         rcases hf with hf | hf
         . simp[flat]at hf
         . simp only[afe,aeo]at hf;cases av with
           | nil => simp only[St.bo,aen]at hy;cases hy;have:v= .slice none 0 0:=hr.1;subst this;exact jC e ks'
           | d k' y' => simp only[oJ,ae8]at hf;simp only[St.bo,St.read]at hy;obtain⟨e1,_⟩:=cq hy;rw[e1]at hf;simp[qT]at hf
           | lb b=>simp only[St.bo,St.read]at hy; obtain⟨e1,_⟩:=cq hy; cases e1
           | _=>simp[oJ]at hf
     . rcases hf with hf | hf
       . cases k <;> simp[flat]at hf <;> exact .inl hf
       . simp only[afe,aeo]at hf; exact .inr hf.2
   . simp at hx
theorem vS{size:Nat}(l l':List AV)(i:Nat)(x:Operand)(hs:mi st size l (i,x)=some l'):∃ tv p o,st.get x=some tv/\tv.cH = some p/\p.2.all st.live=true/\(fun i=>some (i * size,size)) i=some (o,p.2.length)/\o+p.2.length<=l.length/\l'=putAt l o p.2:=by
 unfold mi at hs;split at hs
 . rename_i tv hg;split at hs
   . rename_i gg p hp;cases hb:Nat.beq p.length size&&p.all st.live&&Nat.ble (i * size+p.length) l.length with
     | false=>simp[hb]at hs
     | true => simp only[hb,oT,aen]at hs;simp only[aeo]at hb;exact⟨tv,(gg,p),i * size,hg,hp,hb.1.2,by rw[beq_eq hb.1.1],aeJ hb.2,hs.symm⟩
   . simp at hs
 . simp at hs
theorem zW{step:List AV->Nat×Operand->Option (List AV)}(hstep:∀ l l' q,step l q=some l'->l'.length=l.length):∀(parts:List (Nat×Operand)) (l l':List AV),jH step l parts=some l'->l'.length=l.length
 | [],l,l',h=>by simp only[jH,aen]at h; rw[h]
 | q::r,l,l',h=>by
   simp only[jH]at h;split at h
   . rename_i l1 h1;rw[zW hstep r l1 l' h,hstep l l1 q h1]
   . simp at h
theorem kU(hT:cf P E)(h:Rel cx Z g st a w)(hc:Cons st){o:Oper}{t:TypeId}{n:Nat}{parts:Array (Nat×Operand)}(ho:o.op= .buildSlice t n parts){te:TI}{l:List AV}(hsl:∃ ti ks,E.ti t=some ti/\ti.agg=false/\ti.ks=[.sl ti.elem ks]/\E.ti ti.elem=some te)
 (hl:jH (mi st te.ks.length) (pj n (te.ks.map lU)) parts.toList=some l)(hn:n * te.ks.length<=1000) :
 ∃ cs e0,(execOp a.eval o).run P w= .ok (.value (.slice (some ⟨w.heap.size,0,none⟩) n n)) (w.alloc (.cells cs e0 (0,0)))/\aU Z g st w l cs.toList/\l.length=n * te.ks.length:=by
 obtain⟨ti,ks,hti,hag,hks,hte⟩:=hsl;obtain⟨dd,hu,hdd⟩:=(hT t ti hti).desc;have hu':P.underlying t=some (.slice ti.elem):=by cases dd <;> simp[iz,hag,hks]at hdd;rename_i e;rw[hdd];exact hu
 obtain⟨z,hz,hzc⟩:=se (hT _ te hte) w;have hzs:z.cells.size=te.ks.length:=by rw[<- aeY,hzc]; simp
 have hrel0:aU Z g st w (pj n (te.ks.map lU)) ((Array.range (n * z.cells.size)).map fun i=>z.cells[i % z.cells.size]!).toList:=by rw[sA,hzc];exact DD (Oe te.ks) n
 obtain⟨cs',q1,q2⟩:=xo h hc (place:=fun i=>some (i * te.ks.length,te.ks.length)) (step:=mi st te.ks.length) (fun l l' i x hs=>vS l l' i x hs) parts.toList _ l _ hrel0 hl;refine⟨cs',ti.elem,?_,q2,?_⟩
 . have hcells:(if n * te.ks.length=0 then (#[]:Array Value)else z.cells)=(if n * te.ks.length=0 then #[]else z.cells):=rfl;have h24:¬ (n * te.ks.length > 2 ^ 24):=by omega
   simp only[execOp,ho,Instr.buildSlice,aeN,aeR hu',aez,cJ (hT _ te hte),if_neg h24];by_cases h0:n * te.ks.length=0
   . have hn0:n * z.cells.size=0:=by rw[hzs]; exact h0
     have q1':=q1;rw[hn0]at q1';simp only[h0,if_true,aeX,aez,aeN];have e1:((Array.range 0).map fun i=>(#[]:Array Value)[i % (#[]:Array Value).size]!)=((Array.range 0).map fun i=>z.cells[i % z.cells.size]!):=by simp
     have e2:(Array.map (fun x=>(x.1,a.eval x.2)) parts).toList=parts.toList.map fun q=>(q.1,a.eval q.2):=by simp
     simp only[e1,e2,q1'];simp[newRow]
   . have e2:(Array.map (fun x=>(x.1,a.eval x.2)) parts).toList=parts.toList.map fun q=>(q.1,a.eval q.2):=by simp
     rw[hzs]at q1;simp only[h0,afE,aeN,hz,aez,aeX,e2,hzs,q1];simp[newRow]
 . rw[zW (fun l l' q hs=>by
    obtain⟨tv,p,o,_,_,_,_,hle,rfl⟩:=vS l l' q.1 q.2 hs;simp only[putAt,aep,afd,af9];omega) parts.toList _ l hl,sK]
   simp
theorem iv(w:World)(o:Obj):(w.alloc o).heap=w.heap.push o:=rfl
theorem alloc_old(w:World)(o:Obj)(b:Nat)(h:b<w.heap.size):(w.alloc o).heap[b]? = w.heap[b]? := by rw[iv,ae1,if_neg (by omega)]
theorem uk(w:World)(o:Obj):(w.alloc o).heap[w.heap.size]? = some o:=by rw[iv,ae1,if_pos rfl]
theorem DY(hT:cf P E)(h:Rel cx Z g st a w)(hc:Cons st){o:Oper}{d:Nat}(hd:o.dst=some d)(hdn:jw cx a d)(hf:st.free d=true){t:TypeId}{n:Nat}{parts:Array (Nat×Operand)}(ho:o.op= .buildSlice t n parts){ti te:TI}{l:List AV}{xs:List (Tl te.ks)}
 (hti:∃ ks,E.ti t=some ti/\ti.agg=false/\ti.ks=[.sl ti.elem ks]/\E.ti ti.elem=some te)(hl:jH (mi st te.ks.length) (pj n (te.ks.map lU)) parts.toList=some l)(hn:n * te.ks.length<=1000)
 (hx:chunks st te.ks n l=some xs)(hfl:flat te.ks=true∨l.all oJ=true)(hbig:n<=bG):dk P cx st a w o d (.v (.ref d 0 0),some ⟨false,[⟨0,0,.own (.sl ti.elem te.ks) xs⟩]⟩):=by
 obtain⟨ks,h1,h2,h3,h4⟩:=hti;obtain⟨cs,e0,hrun,hrel,hlen⟩:=kU hT h hc ho ⟨ti,ks,h1,h2,h3,h4⟩ hl hn;obtain⟨c1,c2⟩:=pY n te.ks l xs hx hlen;have hcsz:cs.size=n * te.ks.length:=by have:=dW hrel; simp at this; omega
 intro next Q hk;unfold Oper.wp;rw[hrun,afo,hd];have hown:cO (w.alloc (.cells cs e0 (0,0))) (.sl ti.elem te.ks) xs (.slice (some ⟨w.heap.size,0,none⟩) n n) (fun b=>b=w.heap.size):=by
  refine⟨some ⟨w.heap.size,0,none⟩,n,by rw[show(aQ (e:=ti.elem) xs).length=n from c1],by rw[show(aQ (e:=ti.elem) xs).length=n from c1]; exact oR _,by rw[show(aQ (e:=ti.elem) xs).length=n from c1]; exact hbig,by simp,fun a' ha' => ?_⟩;simp only[aen]at ha';subst ha';refine⟨w.heap.size,0,cs,e0,(0,0),rfl,rfl,uk _ _,by simp,by rw[hcsz]; omega,fun _ _ _=>False,fun _ _ _ hh=>hh.elim,fun _ _ _ _ _ hh=>hh.elim,fun i x hi => ?_⟩;have hil:i<n:=by
   rcases aeD i n with hh | hh
   . exact hh
   . have:xs[i]? = none:=aeE (by omega);rw[show(aQ (e:=ti.elem) xs)[i]? = xs[i]? from rfl,this]at hi;simp at hi
  have hm:=aeS te.ks.length hil;rw[Nat.succ_mul]at hm;refine zf h (by rw[iv,afN]; omega) te.ks _ (((cs.toList.drop (i * te.ks.length)).take te.ks.length)) x 0 cs _ ?_ (nO (lO hrel _) _) (c2 i x hi) ?_
  . rcases hfl with hh | hh
    . exact .inl hh
    . right;rw[aeG]at hh ⊢;exact fun y hy=>hh y (agI (ag4 hy))
  . intro j v hj;rw[aft]at hj;split at hj
    . rw[afu,aer]at hj;rw[aex];exact hj
    . simp at hj
 obtain⟨g',hg⟩:=h.newRow (d:=d) hdn hf (w':=w.alloc (.cells cs e0 (0,0))) rfl rfl rfl (iv _ _) hown;exact hk _ _ _ _ hg
theorem FF(hT:cf P E)(h:Rel cx Z g st a w)(hc:Cons st){o:Oper}{d:Nat}(hd:o.dst=some d)(hdn:jw cx a d){t:TypeId}{n:Nat}{parts:Array (Nat×Operand)}(ho:o.op= .buildSlice t n parts){ti te:TI}{l:List AV}{xs:List (Tl te.ks)}
 (hti:∃ ks,E.ti t=some ti/\ti.agg=false/\ti.ks=[.sl ti.elem ks]/\E.ti ti.elem=some te)(hl:jH (mi st te.ks.length) (pj n (te.ks.map lU)) parts.toList=some l)(hn:n * te.ks.length<=1000)
 (hx:chunks st te.ks n l=some xs)(hfl:l.all AV.bE=true)(hbig:n<=bG):dk P cx st a w o d (.v (.d (.sl ti.elem te.ks) xs),none):=by
 obtain⟨ks,h1,h2,h3,h4⟩:=hti;obtain⟨cs,e0,hrun,hrel,hlen⟩:=kU hT h hc ho ⟨ti,ks,h1,h2,h3,h4⟩ hl hn;obtain⟨c1,c2⟩:=pY n te.ks l xs hx hlen;have hcsz:cs.size=n * te.ks.length:=by have:=dW hrel; simp at this; omega
 intro next Q hk;unfold Oper.wp;rw[hrun,afo,hd];have hs:w.heap.size<=(w.alloc (.cells cs e0 (0,0))).heap.size:=by rw[iv,afN]; omega
 have hs':(w.alloc (.cells cs e0 (0,0))).heap.size=w.heap.size+1:=by rw[iv,afN]
 have hz:=h.A5 (Z':=fun b=>Z b∨b=w.heap.size) (w':=w.alloc (.cells cs e0 (0,0))) rfl rfl rfl hs (fun b hb=>alloc_old _ _ _ hb) (fun b hb=> .inl hb) (fun b hb=>hb.imp id (fun e=>⟨by omega,by omega⟩));refine hk _ _ _ _ (hz.mm hdn ?_);show RO _ _ _ _ _;refine⟨some ⟨w.heap.size,0,none⟩,n,by rw[show(aQ (e:=ti.elem) xs).length=n from c1],by rw[show(aQ (e:=ti.elem) xs).length=n from c1]; exact oR _,by rw[show(aQ (e:=ti.elem) xs).length=n from c1]; exact hbig,by simp,fun _=>⟨w.heap.size,0,rfl,.inr rfl,by omega,fun i x hi => ?_⟩⟩;refine Af (Z:=Z) hs (fun b hb hlt=>⟨.inl hb,alloc_old _ _ _ hlt⟩) te.ks x ((cs.toList.drop (i * te.ks.length)).take te.ks.length) _ _ (cT h te.ks _ _ x (nO (lO hrel _) _) ?_ (c2 i x hi)) ?_
 . rw[aeG]at hfl ⊢;exact fun y hy=>hfl y (agI (ag4 hy))
 . intro j v hj;rw[aft]at hj;split at hj
   . rw[afu,aer]at hj;simp only[World.cell?,uk,aex];simpa using hj
   . simp at hj
theorem Aw(hT:cf P E)(h:Rel cx Z g st a w)(hc:Cons st){o:Oper}{d:Nat}(hd:o.dst=some d)(hdn:jw cx a d)(hf:st.free d=true){t:TypeId}{n:Nat}{parts:Array (Nat×Operand)}(ho:o.op= .buildSlice t n parts){ti te:TI}{l:List AV}
 (hti:∃ ks,E.ti t=some ti/\ti.agg=false/\ti.ks=[.sl ti.elem ks]/\E.ti ti.elem=some te)(hl:jH (mi st te.ks.length) (pj n (te.ks.map lU)) parts.toList=some l)(hn:n * te.ks.length<=1000) :
 dk P cx st a w o d (.v (.brow d n),some ⟨true,l.map fun a=>⟨0,0,.av a⟩⟩):=by
 obtain⟨ks,h1,h2,h3,h4⟩:=hti;obtain⟨cs,e0,hrun,hrel,hlen⟩:=kU hT h hc ho ⟨ti,ks,h1,h2,h3,h4⟩ hl hn;intro next Q hk;unfold Oper.wp;rw[hrun,afo,hd];obtain⟨g',hg,_⟩:=h.BL (d:=d) hdn hf (cs:=cs) (e:=e0) (l:=l.map fun a=>⟨0,0,.av a⟩) (by have:=dW hrel; simpa using this) (fun j c v hj hv=>by right;simp only[ae2,afS]at hj;obtain⟨av,e1,rfl⟩:=hj;exact⟨av,rfl,pP hrel j av v e1 (by rw[aer]; exact hv)⟩) (tv:= .v (.brow d n)) (v:= .slice (some ⟨w.heap.size,0,none⟩) n n) (.inr ⟨n,rfl,rfl⟩);exact hk _ _ _ _ hg
theorem o9{w:World}{F:Nat->Nat->Prop}:∀(ks:List K) (j:Nat) (cs:Array Value) (o:Nat),(∀(i:Nat) (v:Value),(ks.map zV)[i]? = some v->cs[o+i]? = some v)->fA w ks (iq ks) j F cs o
 | [],_,_,_,_=>trivial
 | k::ks,j,cs,o,h=>by
   refine⟨⟨zV k,h 0 _ rfl,?_⟩,o9 ks (j+1) cs (o+1) (fun i v hi=>by rw[show o+1+i=o+(i+1)by omega]; exact h (i+1) v (by simpa using hi))⟩;cases k with
   | int k=>exact⟨rfl,by unfold nB; cases k <;> simp[iq,dfl,IntKind.min,IntKind.max,IntKind.signed,IntKind.bits]⟩
   | bool=>rfl
   | str=>exact⟨rfl,aeC _⟩
   | sl e ks=>exact jC e ks
theorem Cr(hT:cf P E)(h:Rel cx Z g st a w){o:Oper}{d:Nat}(hd:o.dst=some d)(hdn:jw cx a d)(hf:st.free d=true){t:TypeId}{xn xc:Operand}(ho:o.op= .makeSlice t xn xc){k k':IntKind}{n:Int}(h1:a.eval xn= .int k n)(h2:a.eval xc= .int k' n)
 {ti te:TI}(hti:∃ ks,E.ti t=some ti/\ti.agg=false/\ti.ks=[.sl ti.elem ks]/\E.ti ti.elem=some te)(h0:0<=n)(hb:n * te.bytes<=bG)(hby:0<te.bytes) :
 dk P cx st a w o d (.v (.ref d 0 0),some ⟨false,[⟨0,0,.own (.sl ti.elem te.ks) (List.replicate n.toNat (iq te.ks))⟩]⟩):=by
 obtain⟨ks,e1,e2,e3,e4⟩:=hti;obtain⟨dd,hu,hdd⟩:=(hT t ti e1).desc;have hu':P.underlying t=some (.slice ti.elem):=by cases dd <;> simp[iz,e2,e3]at hdd;rw[hdd];exact hu
 obtain⟨z,hz,hzc⟩:=se (hT _ te e4) w;have hzs:z.cells.size=te.ks.length:=by rw[<- aeY,hzc]; simp
 obtain⟨i,hi1,hi2,hi3⟩:=yT (hT _ te e4) w;have hnb:n<=bG:=by have:n * 1<=n * te.bytes:=agC (by omega) h0;omega
 have hbig:(bG:Int)=140737488355328:=rfl;have hwrap:IntKind.i64.wrap n=n:=HK (by unfold nB; simp[IntKind.min,IntKind.max,IntKind.signed,IntKind.bits]; omega);let m:=n.toNat;have hm:(m:Int)=n:=Int.toNat_of_nonneg h0;let cs:Array Value:=(Array.range (m * z.cells.size)).map fun i=>z.cells[i % z.cells.size]!
 have hcs:cs.toList=pj m (te.ks.map zV):=by show((Array.range (m * z.cells.size)).map _).toList=_; rw[sA,hzc]
 have hrun:(execOp a.eval o).run P w= .ok (.value (.slice (some ⟨w.heap.size,0,none⟩) m m)) (w.alloc (.cells cs ti.elem (0,0))):=by
  have hbt:¬ ((te.bytes:Int) * n > 2 ^ 48):=by rw[Int.mul_comm]; omega
  have hroom:¬ (n.toNat * te.bytes > roomBytes):=by
   have:((n.toNat * te.bytes:Nat):Int)<=bG:=by push_cast; rw[hm]; exact hb
   unfold roomBytes;unfold bG at this;omega
  simp only[execOp,ho,Instr.makeSlice,aeN,aeR hu',aez,h1,h2,asInt,asIntOf,aeX,hi1,hi3,hwrap];have c1:(decide (n<0))=false:=by simp; omega
  have c2:(decide ((te.bytes:Int) * n > 2 ^ 48))=false:=by simp only[agj]; exact hbt
  have c3:(decide (n > n))=false:=by simp
  simp only[c1,c2,c3,Bool.or_self,ae5,afE,askRoom,hroom,aeX,aez,cJ (hT _ te e4),aeN];by_cases h0':n.toNat * te.ks.length=0
  . have hn0:m * z.cells.size=0:=by rw[hzs]; exact h0'
    have:cs = #[]:=by show(Array.range (m * z.cells.size)).map _=_; rw[hn0]; simp
    simp[h0',newRow,this];exact⟨rfl,aeU (fun c=>w.alloc (Obj.cells c ti.elem (0,0))) (by simp)⟩
  . have hcs':((Array.range (n.toNat * te.ks.length)).map fun i=>z.cells[i % z.cells.size]!)=cs:=by show _=(Array.range (m * z.cells.size)).map _; rw[hzs]
    simp only[h0',afE,aeN,hz,aez,aeX,hcs'];simp[newRow];rfl
 intro next Q hk;unfold Oper.wp;rw[hrun,afo,hd];have hlen:(aQ (e:=ti.elem) (List.replicate n.toNat (iq te.ks))).length=m:=afv;have hown:cO (w.alloc (.cells cs ti.elem (0,0))) (.sl ti.elem te.ks) (List.replicate n.toNat (iq te.ks)) (.slice (some ⟨w.heap.size,0,none⟩) m m) (fun b=>b=w.heap.size):=by
  refine⟨some ⟨w.heap.size,0,none⟩,m,by rw[hlen],by rw[hlen]; exact oR _,by rw[hlen]; omega,by simp,fun a' ha' => ?_⟩;simp only[aen]at ha';subst ha';have hcsz:cs.size=m * te.ks.length:=by rw[<- aeY,hcs,sK]; simp
  refine⟨w.heap.size,0,cs,ti.elem,(0,0),rfl,rfl,uk _ _,by simp,by rw[hcsz]; omega,fun _ _ _=>False,fun _ _ _ hh=>hh.elim,fun _ _ _ _ _ hh=>hh.elim,fun i x hi => ?_⟩;have hi':(List.replicate n.toNat (iq te.ks))[i]? = some x:=hi;rw[agU]at hi';split at hi'
  . rename_i hlt;simp only[aen]at hi';subst hi';refine o9 te.ks 0 cs _ (fun j v hj => ?_);have hjl:j<te.ks.length:=by
     rcases aeD j te.ks.length with hh | hh
     . exact hh
     . simp[aeE hh]at hj
    have hmul:=aeS te.ks.length (show i+1<=m from hlt);rw[ae0,agZ]at hmul;rw[<- aer,hcs,yh m _ _ (by simp; omega)];simp only[afO,aex];rw[agP i,Nat.mul_add_mod,agH hjl];exact hj
  . simp at hi'
 obtain⟨g',hg⟩:=h.newRow (d:=d) hdn hf (w':=w.alloc (.cells cs ti.elem (0,0))) rfl rfl rfl (iv _ _) hown;exact hk _ _ _ _ hg
theorem iM(hT:cf P E){t:Nat}{te:TI}(h:E.sl t=some te):∃ ti ks,E.ti t=some ti/\ti.agg=false/\ti.ks=[.sl ti.elem ks]/\E.ti ti.elem=some te/\P.underlying t=some (.slice ti.elem):=by
 unfold En.sl at h;split at h
 . rename_i e0 ks e b fl hti;obtain⟨dd,hu,hdd⟩:=(hT t _ hti).desc;have:dd= .slice e/\e0=e:=by
    cases dd with
    | slice e' => obtain⟨_,ks',h1,h2⟩:=hdd;simp only[agM,K.sl.injEq,afQ]at h1;simp only at h2;rw[h2];exact⟨rfl,h1.1⟩
    | _=>simp[iz]at hdd
   rw[this.1]at hu;exact⟨_,ks,hti,rfl,by rw[this.2],h,hu⟩
 . simp at h
theorem ob(hT:cf P E){t:Nat}(h:E.str t=true):P.underlying t=some .string:=by
 unfold En.str at h;split at h
 . rename_i e b fl hti;obtain⟨dd,hu,hdd⟩:=(hT t _ hti).desc;cases dd <;> simp[iz]at hdd;exact hu
 . simp at h
theorem ql{Z:Nat->Prop}{w:World}{e:TypeId}{ks:List K}{xs:T (.sl e ks)}{v:Value}(h:RO Z w (.sl e ks) xs v):∃ a c,v= .slice a (aQ xs).length c/\(aQ xs).length<=c/\(aQ xs).length<=bG/\(a=none->c=0) /\
 (aQ xs≠[]->∃ b o,a=some ⟨b,o,none⟩/\Z b/\b<w.heap.size/\∀ i x,(aQ xs)[i]? = some x->pz Z w ks x b (o+i * ks.length)):=h
theorem kR{n:Int}{len:Nat}(h:nR n len=true):0<=n/\n<len/\n.toNat<len:=by simp only[nR,bM,aG,aeo,afJ]at h;exact⟨h.1,h.2,by omega⟩
theorem Ht(h:Rel cx Z g st a w){r j s m i q s' m':Nat}{e0:TypeId}{ks0:List K}{x0:T (.sl e0 ks0)}{k:K}{y:T k}{v:Value}(hr:bj Z g st w (.pref r j s m i q) v)(hc:st.cell r j=some ⟨s',m',.own (.sl e0 ks0) x0⟩)(es:s'=s)(em:m'=m)(hy:cellAt ks0 (gi x0 i) q=some ⟨k,y⟩) :
 RO (fun q=>Z q∨g.fp r j q) w k y v:=by
 obtain⟨cc,h1,h2,h3,h4⟩:=hr;rw[hc]at h1;simp only[aen]at h1;subst h1;obtain⟨e,ks,xs,g1,g2,g3,b,o,l,cap,g4,g5⟩:=h4 es em;simp only[RV.own.injEq,K.sl.injEq]at g1;obtain⟨⟨rfl,rfl⟩,g1⟩:=g1;cases g1;have hro:=cO.ro (Z:=fun q=>Z q∨g.fp r j q) _ _ _ _ (fun b hb=> .inr hb) (et h hc rfl);rw[g4]at hro;obtain⟨aa,c',u1,u2,u3,u4,u5⟩:=hro;simp only[afm]at u1;obtain⟨rfl,rfl,rfl⟩:=u1;obtain⟨b',o',v1,v2,v3,v4⟩:=u5 (by intro h0; rw[h0]at g2; simp at g2);simp only[aen,afK,afQ]at v1;obtain⟨rfl,rfl⟩:=v1;obtain⟨v',hv1,hv2⟩:=nS ks0 _ b _ q k y (v4 i _ (l5 x0 g2)) hy;rw[g5]at hv1;simp only[aen]at hv1;subst hv1;exact hv2
theorem D3{t:TypeId}{e:TypeId}{sz:Nat}(hu:P.underlying t=some (.slice e))(hs:∀ w,(sizeOf e).run P w= .ok sz w){b o len cap:Nat}{k:IntKind}{n:Int}(h0:0<=n)(hlt:n<len) :
 (Instr.indexAt t (.slice (some ⟨b,o,none⟩) len cap) (.int k n)).run P w= .ok (.pointer (some ⟨b,o+n.toNat * sz,none⟩)) w:=by
 have h1:(decide (0<=n/\n<(len:Int)))=true:=by simp; omega
 simp[Instr.indexAt,asIntOf,aeR hu,h0,hlt,hs,fL]
theorem CK(hT:cf P E)(h:Rel cx Z g st a w)(hc:Cons st){o:Oper}{d:Nat}(hd:o.dst=some d)(hdn:jw cx a d){t:TypeId}{x i:Operand}(ho:o.op= .indexAddr t x i){te:TI}{tv ti:TV}{p:IntKind×Int}{av:AV}
 (ht:E.sl t=some te)(hx:st.get x=some tv)(hi:st.get i=some ti)(hp:ti.int? = some p)(hq:(st.indexAddr te.ks.length tv p.2).run=some av):dk P cx st a w o d (.v av,none):=by
 obtain⟨tt,ks,t1,t2,t3,t4,hu⟩:=iM hT ht;have hs:=fun w=>cJ (hT _ te t4) (P:=P) w
 obtain⟨k,n⟩:=p;have hiv:=(fB (aX h hc hi) hp).1;have rx:=aX h hc hx;have fin:∀(b o' len cap:Nat),a.eval x= .slice (some ⟨b,o',none⟩) len cap->0<=n->n<len->bj Z g st w av (.pointer (some ⟨b,o'+n.toNat * te.ks.length,none⟩))->dk P cx st a w o d (.v av,none):=by intro b o' len cap e1 e2 e3 e4;refine cj h hd hdn (v:= .pointer (some ⟨b,o'+n.toNat * te.ks.length,none⟩)) ?_ e4;have:=D3 (P:=P) (w:=w) hu hs (b:=b) (o:=o') (cap:=cap) (k:=k) e2 e3;simp only[execOp,ho,e1,hiv];simp[this]
 unfold St.indexAddr at hq;split at hq
 . rename_i r j s;obtain⟨cc,h1,h2,h3⟩:=rx;split at hq
   . rename_i s' m e ks' xs hcell;rw[hcell]at h1;simp only[aen]at h1;subst h1;cases hb:Nat.beq s' s&&Nat.beq ks'.length te.ks.length with
     | false=>simp[hb,Tr.run]at hq
     | true =>
       simp only[hb,oT]at hq;simp only[aeo]at hb;obtain⟨hn,hq⟩:=Tr.bB hq;simp only[Tr.run,aen]at hq;subst hq;obtain⟨n0,n1,n2⟩:=kR hn;have hown:=et h hcell rfl;obtain⟨aa,c,u1,u2,u3,u4,u5⟩:=hown;cases aa with
       | none=>have:=u4 rfl; omega
       | some aa => obtain⟨b,o',_,_,_,rfl,_⟩:=u5 aa rfl;have ev:a.eval x=g.cv r j:=h3 (beq_eq hb.1);refine fin b o' _ c (by rw[ev,u1]) n0 n1 ⟨_,hcell,h2,fun _=>⟨e,ks',xs,rfl,n2,b,o',_,c,u1,by rw[<- beq_eq hb.2]; rfl⟩⟩
   . simp[Tr.run]at hq
 . rename_i e ks' xs;cases hb:Nat.beq ks'.length te.ks.length with
   | false=>simp[hb,Tr.run]at hq
   | true => simp only[hb,oT]at hq;obtain⟨hn,hq⟩:=Tr.bB hq;simp only[Tr.run,aen]at hq;subst hq;obtain⟨n0,n1,n2⟩:=kR hn;have rx':RO Z w (.sl e ks') xs (a.eval x):=rx;obtain⟨aa,c,u1,u2,u3,u4,u5⟩:=ql rx';obtain⟨b,o',rfl,v2,v3,v4⟩:=u5 (by intro h0; rw[h0]at n2; simp at n2);exact fin b o' _ c u1 n0 n1 ⟨n2,b,o',v2,v3,by rw[<- beq_eq hb]; rfl,v4⟩
 . rename_i r j s m e ks' xs;obtain⟨cc,h1,h2,h3,h4⟩:=rx;split at hq
   . rename_i rc hcell;rw[hcell]at h1;simp only[aen]at h1;subst h1;cases hb:Nat.beq rc.s s&&Nat.beq rc.m m&&Nat.beq ks'.length te.ks.length with
     | false=>simp[hb,Tr.run]at hq
     | true => simp only[hb,oT]at hq;simp only[aeo]at hb;obtain⟨hn,hq⟩:=Tr.bB hq;simp only[Tr.run,aen]at hq;subst hq;obtain⟨n0,n1,n2⟩:=kR hn;have rx':=h4 (beq_eq hb.1.1) (beq_eq hb.1.2);obtain⟨aa,c,u1,u2,u3,u4,u5⟩:=ql rx';obtain⟨b,o',rfl,v2,v3,v4⟩:=u5 (by intro h0; rw[h0]at n2; simp at n2);exact fin b o' _ c u1 n0 n1 ⟨rc,hcell,h2,h3,fun _ _=>⟨n2,b,o',v2,v3,by rw[<- beq_eq hb.2]; rfl,v4⟩⟩
   . simp[Tr.run]at hq
 . rename_i r j s m i' q;have rx0:bj Z g st w (.pref r j s m i' q) (a.eval x):=rx;obtain⟨cc,h1,h2,h3,h4⟩:=rx;split at hq
   . rename_i s' m' e0 ks0 x0 hcell;cases hb:Nat.beq s' s&&Nat.beq m' m with
     | false=>simp[hb,Tr.run]at hq
     | true =>
       simp only[hb,oT]at hq;simp only[aeo]at hb;split at hq
       . rename_i e ks' xs hy;cases hb2:Nat.beq ks'.length te.ks.length with
         | false=>simp[hb2,Tr.run]at hq
         | true => simp only[hb2,oT]at hq;obtain⟨hn,hq⟩:=Tr.bB hq;simp only[Tr.run,aen]at hq;subst hq;obtain⟨n0,n1,n2⟩:=kR hn;have rx':=Ht h rx0 hcell (beq_eq hb.1) (beq_eq hb.2) hy;obtain⟨aa,c,u1,u2,u3,u4,u5⟩:=ql rx';obtain⟨b,o',rfl,v2,v3,v4⟩:=u5 (by intro h0; rw[h0]at n2; simp at n2);rw[hcell]at h1;simp only[aen]at h1;subst h1;exact fin b o' _ c u1 n0 n1 ⟨_,hcell,h2,h3,fun _ _=>⟨n2,b,o',v2,v3,by rw[<- beq_eq hb2]; rfl,v4⟩⟩
       . simp[Tr.run]at hq
   . simp[Tr.run]at hq
 . simp[Tr.run]at hq
theorem IF{s:S8}{n:Nat}(h:n<s.length):(eQ s)[n]? = some (s.getD n 0):=by
 have hlt:n<(eQ s).size:=by rw[jM]; exact h
 rw[getElem?_pos (eQ s) n hlt];have h1:(eQ s)[n]=(eQ s).data[n]'hlt:=rfl;have h2:(eQ s).data[n]'hlt=s[n]'h:=by simp only[eQ,List.getElem_toArray]
 rw[h1,h2];simp only[List.getD,aeq h,afY]
theorem Ph(hT:cf P E)(h:Rel cx Z g st a w)(hc:Cons st){o:Oper}{d:Nat}(hd:o.dst=some d)(hdn:jw cx a d){t:TypeId}{x i:Operand}(ho:o.op= .index t x i){tv ti:TV}{p:IntKind×Int}{s:S8}
 (ht:E.str t=true)(hx:st.get x=some tv)(hi:st.get i=some ti)(hp:ti.int? = some p)(hs:tv.mZ = some s)(hn:nR p.2 s.length=true):dk P cx st a w o d (.v (.d (.int .u8) (CR s p.2.toNat)),none):=by
 have hu:=ob hT ht;have hiv:=(fB (aX h hc hi) hp).1;have hxv:=(mF (aX h hc hx) hs).1;obtain⟨n0,n1,n2⟩:=kR hn;refine cj h hd hdn (v:= .int .u8 ((s.getD p.2.toNat 0).toNat:Int)) ?_ ⟨rfl,?_⟩
 . simp[execOp,ho,hiv,hxv,Instr.index,asIntOf,aeR hu,n0,IF n2]
 . have:=(s.getD p.2.toNat 0).toNat_lt;have e1:IntKind.u8.min=0:=rfl;have e2:IntKind.u8.max=255:=rfl;unfold nB CR;rw[e1,e2];omega
end
theorem D4(s:S8)(l h:Nat):(eQ s).extract l h=eQ ((s.take h).drop l):=by apply ahb;rw[ByteArray.data_extract];apply Array.ext';simp only[eQ,Array.toList_extract,List.extract_eq_take_drop];rw[List.drop_take]
section
variable{P:Program}{cx:Cx P}{Z:Nat->Prop}{g:Gh}{st:St}{a:Act}{w:World}{E:En}
theorem ic{lo hi:Int}{len:Nat}(h:iF lo hi len=true):0<=lo/\lo<=hi/\hi<=len:=by simp only[iF,bM,aeo,afJ]at h;exact⟨h.1,h.2.1,h.2.2⟩
theorem pb{v:Value}{k:IntKind}{n:Int}{y:Nat}(hv:v= .int k n)(h0:0<=n)(h1:n<=y)(c:BoundsCode)(w:World):(Instr.sliceBound v y c).run P w= .ok n.toNat w:=by subst hv;have:0<=n/\n<=(y:Int):=⟨h0,h1⟩;simp only[Instr.sliceBound,asIntOf,aeN,aeX,aez,if_pos this]
theorem vO(h:Rel cx Z g st a w)(hc:Cons st){x:Operand}{n:Int}(hx:(match st.get x with | some tv=>(match tv.int? with | some (_,n)=>some n | none=>none) | none=>none)=some n):∃ k,a.eval x= .int k n:=by
 split at hx
 . rename_i tv hg;split at hx
   . rename_i k m hi;simp only[aen]at hx;subst hx;exact⟨k,(fB (aX h hc hg) hi).1⟩
   . simp at hx
 . simp at hx
theorem qk(h:Rel cx Z g st a w)(hc:Cons st){lo hi:Option Operand}{len cap:Nat}{p:Int×Int}(qT:Bool)(hl:nf st lo hi len=some p)(hk:iF p.1 p.2 len=true)(hcap:len<=cap) :
 (Instr.sliceBounds qT len cap (lo.map a.eval) (hi.map a.eval) none).run P w= .ok (p.1.toNat,p.2.toNat,cap) w:=by
 obtain⟨k0,k1,k2⟩:=ic hk;unfold nf at hl;split at hl
 . rename_i x y hx hy;simp only[aen]at hl;subst hl;simp only at k0 k1 k2;cases hi with
   | none =>
     simp only[aen]at hy;subst hy;cases lo with
     | none => simp only[aen]at hx;subst hx;simp[Instr.sliceBounds]
     | some l => obtain⟨k,hv⟩:=vO h hc hx;simp only[Instr.sliceBounds,aeM,agm,aeN,aeX,aez,pb hv k0 k1];simp
   | some u =>
     obtain⟨ku,hu⟩:=vO h hc hy;cases lo with
     | none => simp only[aen]at hx;subst hx;simp only[Instr.sliceBounds,aeM,agm,aeN,aeX,aez,pb (P:=P) (y:=cap) hu (by omega) (by omega)];simp
     | some l => obtain⟨k,hv⟩:=vO h hc hx;simp only[Instr.sliceBounds,aeM,agm,aeN,aeX,aez,pb (P:=P) (y:=cap) hu (by omega) (by omega),pb (P:=P) (y:=y.toNat) hv k0 (by omega)]
 . simp at hl
theorem HN{α:Type}(l:List α){lo hi:Int}(h:iF lo hi l.length=true):(sub l lo hi).length=hi.toNat-lo.toNat:=by obtain⟨k0,k1,k2⟩:=ic h;simp only[sub,af9,afd];omega
theorem A1{Z:Nat->Prop}{w:World}{e:TypeId}{ks:List K}{xs:T (.sl e ks)}{aa:Option Addr}{c:Nat}{lo hi:Int}(h:RO Z w (.sl e ks) xs (.slice aa (aQ xs).length c))(hk:iF lo hi (aQ xs).length=true) :
 RO Z w (.sl e ks) (sub (aQ xs) lo hi) (.slice (if c=lo.toNat then aa else aa.map (·.add (lo.toNat * ks.length))) (hi.toNat-lo.toNat) (c-lo.toNat)):=by
 obtain⟨k0,k1,k2⟩:=ic hk;obtain⟨aa',c',u1,u2,u3,u4,u5⟩:=h;simp only[afm]at u1;obtain⟨rfl,_,rfl⟩:=u1;have hl:(aQ (e:=e) (ks:=ks) (sub (aQ xs) lo hi)).length=hi.toNat-lo.toNat:=HN (aQ xs) hk;refine⟨_,c-lo.toNat,by rw[hl],by rw[hl]; omega,by rw[hl]; omega,fun hn => ?_,fun hne => ?_⟩
 . split at hn
   . omega
   . cases aa with
     | none=>have:=u4 rfl; omega
     | some _=>simp at hn
 . have hpos:0<hi.toNat-lo.toNat:=by
    rw[<- hl];exact ag7.2 hne
   have hne':aQ xs≠[]:=by intro h0;rw[h0]at k2;simp at k2;omega
   obtain⟨b,o,rfl,v2,v3,v4⟩:=u5 hne';refine⟨b,o+lo.toNat * ks.length,?_,v2,v3,fun i x hi' => ?_⟩
   . rw[if_neg (by omega)];simp[fL]
   . have hi'':(sub (aQ xs) lo hi)[i]? = some x:=hi';simp only[sub,afu,aft]at hi'';split at hi''
     . have:=v4 _ x hi'';rw[ae0]at this;rw[afq];exact this
     . simp at hi''
theorem z8{t e:TypeId}{sz:Nat}(hu:P.underlying t=some (.slice e))(hs:∀ w,(sizeOf e).run P w= .ok sz w){aa:Option Addr}{len cap:Nat}{lo hi:Option Value}{l hh:Nat}
 (hb:(Instr.sliceBounds true len cap lo hi none).run P w= .ok (l,hh,cap) w) :
 (Instr.sliceAt t (.slice aa len cap) lo hi none).run P w= .ok (.slice (if cap=l then aa else aa.map (·.add (l * sz))) (hh-l) (cap-l)) w:=by
 simp only[Instr.sliceAt,aeN,aeR hu,aez,Instr.slice,hb,hs,aeX]
theorem Rf(hT:cf P E)(h:Rel cx Z g st a w)(hc:Cons st){o:Oper}{d:Nat}(hd:o.dst=some d)(hdn:jw cx a d){t:TypeId}{x:Operand}{lo hi:Option Operand}(ho:o.op= .slice t x lo hi none){te:TI}{tv:TV}{av:AV}
 (ht:E.sl t=some te)(hx:st.get x=some tv)(hq:(st.nK te.ks.length tv lo hi).run=some av):dk P cx st a w o d (.v av,none):=by
 obtain⟨tt,ks,t1,t2,t3,t4,hu⟩:=iM hT ht;have hs:=fun w=>cJ (hT _ te t4) (P:=P) w
 have rx:=aX h hc hx
 have fin:∀(aa:Option Addr) (len cap:Nat) (p:Int×Int),a.eval x= .slice aa len cap->len<=cap->nf st lo hi len=some p->iF p.1 p.2 len=true ->
  bj Z g st w av (.slice (if cap=p.1.toNat then aa else aa.map (·.add (p.1.toNat * te.ks.length))) (p.2.toNat-p.1.toNat) (cap-p.1.toNat))->dk P cx st a w o d (.v av,none):=by
  intro aa len cap p e1 e2 e3 e4 e5;refine cj h hd hdn ?_ e5;simp only[execOp,ho,e1,agm,aeN,z8 hu hs (qk (P:=P) h hc true e3 e4 e2),aez];rfl
 unfold St.nK at hq;split at hq
 . obtain⟨p,hp,hq⟩:=Tr.af hq;obtain⟨hk,hq⟩:=Tr.bB hq;simp only[Tr.run,aen]at hq;subst hq;have ex:a.eval x= .slice none 0 0:=rx;obtain⟨k0,k1,k2⟩:=ic hk;refine fin none 0 0 p ex (oR _) hp hk ?_;have e1:p.1.toNat=0:=by omega
   have e2:p.2.toNat=0:=by omega
   rw[e1,e2];rfl
 . rename_i e ks' xs;cases hb:Nat.beq ks'.length te.ks.length with
   | false=>simp[hb,Tr.run]at hq
   | true => simp only[hb,oT]at hq;obtain⟨p,hp,hq⟩:=Tr.af hq;obtain⟨hk,hq⟩:=Tr.bB hq;simp only[Tr.run,aen]at hq;subst hq;have rx':RO Z w (.sl e ks') xs (a.eval x):=rx;have ⟨aa,c,u1,u2,_⟩:=ql rx';rw[u1]at rx';have:=A1 rx' hk;rw[beq_eq hb]at this;exact fin aa _ c p u1 u2 hp hk this
 . rename_i r j s m e ks' xs;obtain⟨cc,h1,h2,h3,h4⟩:=rx;split at hq
   . rename_i rc hcell;rw[hcell]at h1;simp only[aen]at h1;subst h1;cases hb:Nat.beq rc.s s&&Nat.beq rc.m m&&Nat.beq ks'.length te.ks.length with
     | false=>simp[hb,Tr.run]at hq
     | true => simp only[hb,oT]at hq;simp only[aeo]at hb;obtain⟨p,hp,hq⟩:=Tr.af hq;obtain⟨hk,hq⟩:=Tr.bB hq;simp only[Tr.run,aen]at hq;subst hq;have rx':=h4 (beq_eq hb.1.1) (beq_eq hb.1.2);have ⟨aa,c,u1,u2,_⟩:=ql rx';rw[u1]at rx';have:=A1 rx' hk;rw[beq_eq hb.2]at this;exact fin aa _ c p u1 u2 hp hk ⟨rc,hcell,h2,h3,fun _ _=>this⟩
   . simp[Tr.run]at hq
 . rename_i r j s m i' q;have rx0:bj Z g st w (.pref r j s m i' q) (a.eval x):=rx;obtain⟨cc,h1,h2,h3,h4⟩:=rx;split at hq
   . rename_i s' m' e0 ks0 x0 hcell;cases hb:Nat.beq s' s&&Nat.beq m' m with
     | false=>simp[hb,Tr.run]at hq
     | true =>
       simp only[hb,oT]at hq;simp only[aeo]at hb;split at hq
       . rename_i e ks' xs hy;cases hb2:Nat.beq ks'.length te.ks.length with
         | false=>simp[hb2,Tr.run]at hq
         | true => simp only[hb2,oT]at hq;obtain⟨p,hp,hq⟩:=Tr.af hq;obtain⟨hk,hq⟩:=Tr.bB hq;simp only[Tr.run,aen]at hq;subst hq;have rx':=Ht h rx0 hcell (beq_eq hb.1) (beq_eq hb.2) hy;have ⟨aa,c,u1,u2,_⟩:=ql rx';rw[u1]at rx';have:=A1 rx' hk;rw[beq_eq hb2]at this;rw[hcell]at h1;simp only[aen]at h1;subst h1;exact fin aa _ c p u1 u2 hp hk ⟨_,hcell,h2,h3,fun _ _=>this⟩
       . simp[Tr.run]at hq
   . simp[Tr.run]at hq
 . rename_i r j s;obtain⟨cc,h1,h2,h3⟩:=rx;split at hq
   . rename_i s' m e ks' xs hcell;rw[hcell]at h1;simp only[aen]at h1;subst h1;cases hb:Nat.beq s' s&&Nat.beq ks'.length te.ks.length with
     | false=>simp[hb,Tr.run]at hq
     | true =>
       simp only[hb,oT]at hq;simp only[aeo]at hb;obtain⟨p,hp,hq⟩:=Tr.af hq;obtain⟨hk,hq⟩:=Tr.bB hq;have ev:a.eval x=g.cv r j:=h3 (beq_eq hb.1);have hown:=et h hcell rfl;have hro:=cO.ro (Z:=fun q=>Z q∨g.fp r j q) _ _ _ _ (fun b hb=> .inr hb) hown;have ⟨aa,c,u1,u2,_⟩:=ql hro;rw[u1]at hro;split at hq
       . rename_i hlo;simp only[Tr.run,aen]at hq;subst hq;refine fin aa _ c p (by rw[ev,u1]) u2 hp hk ⟨_,hcell,h2,fun _=>⟨aa,_,c,u1,?_,?_⟩⟩
         . obtain⟨k0,k1,k2⟩:=ic hk;omega
         . have hp1:p.1=0:=by
            unfold nf at hp;simp only at hp;split at hp
            . rename_i y hy e1;simp only[aen]at hp e1;subst hp;simp_all
            . simp at hp
           rw[hp1];simp only[Int.toNat_zero,Nat.zero_mul,Nat.sub_zero];congr 1;split
           . rfl
           . cases aa with
             | none=>rfl
             | some q=>simp[Addr.add]
       . rename_i hlo;simp only[Tr.run,aen]at hq;subst hq;have:=A1 hro hk;rw[beq_eq hb.2]at this;exact fin aa _ c p (by rw[ev,u1]) u2 hp hk ⟨_,hcell,by rw[beq_eq hb.1]; exact oR _,oR _,fun _ _=>this⟩
   . simp[Tr.run]at hq
 . simp[Tr.run]at hq
theorem ML(hT:cf P E)(h:Rel cx Z g st a w)(hc:Cons st){o:Oper}{d:Nat}(hd:o.dst=some d)(hdn:jw cx a d){t:TypeId}{x:Operand}{lo hi:Option Operand}(ho:o.op= .slice t x lo hi none){tv:TV}{av:AV}
 (ht:E.str t=true)(hx:st.get x=some tv)(hq:(st.oh tv lo hi).run=some av):dk P cx st a w o d (.v av,none):=by
 have hu:=ob hT ht;unfold St.oh at hq;split at hq
 . rename_i s hs;obtain⟨ev,hb⟩:=mF (aX h hc hx) hs;obtain⟨p,hp,hq⟩:=Tr.af hq;obtain⟨hk,hq⟩:=Tr.bB hq;simp only[Tr.run,aen]at hq;subst hq;have hbd:=qk (P:=P) h hc false hp hk (oR _);refine cj h hd hdn (v:= .string (eQ (sub s p.1 p.2))) ?_ ⟨rfl,?_⟩
   . have hsz:(eQ s).size=s.length:=jM s;simp only[execOp,ho,ev,agm,Instr.sliceAt,aeN,aeR hu,aez,Instr.slice,hsz,hbd,afH,ae5,afE,aeX];rw[D4];rfl
   . have:=HN s hk;show(sub s p.1 p.2).length<=bG;obtain⟨k0,k1,k2⟩:=ic hk;omega
 . simp[Tr.run]at hq
theorem zy:∀ {l:List (Bool×List AV)} {vs:List Value},gH Z g st w l vs->∀(j:Nat) (p:Bool×List AV),l[j]? = some p->∃ v,vs[j]? = some v/\rW Z g st w p v
 | [],[],_,_,_,h=>by simp at h
 | _::l,v::vs,h,j,p,h1=>by
   cases j with
   | zero=>simp at h1; subst h1; exact⟨v,rfl,h.1⟩
   | succ j=>simp at h1 ⊢; exact zy h.2 j p h1
 | [],_::_,h,_,_,_=>h.elim
 | _::_,[],h,_,_,_=>h.elim
theorem Jk{gg:Bool}{l:List AV}{v:Value}{tv:TV}(h:rW Z g st w (gg,l) v)(hw:gG gg l=some tv):bF Z g st w tv v:=by
 unfold gG at hw;split at hw
 . simp only[aen]at hw; subst hw; exact h
 . simp only[aen]at hw; subst hw; exact h
 . simp at hw
theorem Ij(h:Rel cx Z g st a w)(hc:Cons st){o:Oper}{d:Nat}(hd:o.dst=some d)(hdn:jw cx a d){x:Operand}{i:Nat}(ho:o.op= .extract x i){l:List (Bool×List AV)}{gg:Bool}{l':List AV}{tv:TV}
 (hx:st.get x=some (.tup l))(hi:l[i]? = some (gg,l'))(hw:gG gg l'=some tv):dk P cx st a w o d (tv,none):=by
 obtain⟨vs,e1,e2⟩:=aX h hc hx;obtain⟨v,e3,e4⟩:=zy e2 i _ hi;refine cj h hd hdn (v:=v) ?_ (Jk e4 hw);rw[aer]at e3;simp[execOp,ho,e1,Instr.extract,e3]
theorem ki{tv:TV}{v:Value}{p:Bool×List AV}(hr:bF Z g st w tv v)(hp:tv.cH = some p):rW Z g st w p v:=by
 cases tv with
 | v a=>simp only[TV.cH,aen]at hp; subst hp; exact hr
 | agg l=>simp only[TV.cH,aen]at hp; subst hp; exact hr
 | bc r j s m e ks x=>simp only[TV.cH,aen]at hp; subst hp; exact MR hr
 | _=>simp[TV.cH]at hp
theorem uM(h:Rel cx Z g st a w)(hc:Cons st):∀(os:List Operand) (l:List TV) (r:List (Bool×List AV)),st.getAll os=some l->lists l=some r->gH Z g st w r (os.map a.eval)
 | [],l,r,h1,h2=>by simp only[St.getAll,aen]at h1;subst h1;simp only[lists,aen]at h2;subst h2;trivial
 | o::os,l,r,h1,h2=>by
   simp only[St.getAll]at h1;split at h1
   . rename_i x l' hx hl;simp only[aen]at h1;subst h1;simp only[lists]at h2;split at h2
     . rename_i p q hp hq;simp only[aen]at h2;subst h2;exact⟨ki (aX h hc hx) hp,uM h hc os l' q hl hq⟩
     . simp at h2
   . simp at h1
theorem E8(h:Rel cx Z g st a w)(hc:Cons st){o:Oper}{d:Nat}(hd:o.dst=some d)(hdn:jw cx a d){f:Nat}{first caps:Array Operand}(ho:o.op= .makeFunc (.func f) first caps){l:List TV}{r:List (Bool×List AV)}
 (hf:first.size=0)(hl:st.getAll caps.toList=some l)(hr:lists l=some r):dk P cx st a w o d (.fn f r,none):=by
 have h1:=uM h hc _ _ _ hl hr;have hf':first = #[]:=Array.eq_empty_of_size_eq_zero hf
 refine cj h hd hdn (v:= .func (.func f) #[] (caps.map a.eval)) ?_ ⟨_,rfl,by simpa using h1⟩;simp[execOp,ho,Instr.makeFunc,hf']
theorem Q2(h:Rel cx Z g st a w){isS:Bool}{tv:TV}{v:Value}(hr:bF Z g st w tv v){n:Int}(hn:st.len isS tv=some n):0<=n/\n<=bG/\(isS=false->∃ aa c,v= .slice aa n.toNat c)/\(isS=true->∃ s,v= .string (eQ s)/\(s.length:Int)=n):=by
 unfold St.len at hn;split at hn
 . cases isS with
   | true=>simp at hn
   | false => simp only[oF,aen]at hn;subst hn;cases hr;exact⟨by omega,by decide,fun _=>⟨none,0,rfl⟩,fun h=>(by simp at h)⟩
 . rename_i x _;cases hy:st.read x with
   | none=>rw[hy]at hn; cases isS <;> simp[lenOf]at hn
   | some y =>
     obtain⟨k,y⟩:=y;rw[hy]at hn;have hro:=AE h hr hy;cases isS with
     | false =>
       cases k with
       | sl e ks => simp only[lenOf,aen]at hn;subst hn;obtain⟨aa,c,u1,u2,u3,_⟩:=hro;exact⟨by omega,by omega,fun _=>⟨aa,c,by simpa using u1⟩,fun h=>(by simp at h)⟩
       | _=>simp[lenOf]at hn
     | true =>
       cases k with
       | str => simp only[lenOf,aen]at hn;subst hn;obtain⟨u1,u2⟩:=hro;exact⟨by omega,by exact_mod_cast u2,fun h=>(by simp at h),fun _=>⟨y,u1,rfl⟩⟩
       | _=>simp[lenOf]at hn
 . simp at hn
theorem Ri{n:Int}(n0:0<=n)(n1:n<=bG):nB .i64 n:=by have e1:IntKind.i64.min = -9223372036854775808:=rfl;have e2:IntKind.i64.max=9223372036854775807:=rfl;have e3:(bG:Int)=140737488355328:=rfl;unfold nB;rw[e1,e2];omega
theorem RH(hT:cf P E)(h:Rel cx Z g st a w)(hc:Cons st){o:Oper}{d:Nat}(hd:o.dst=some d)(hdn:jw cx a d){c:Call}(ho:o.op= .call c)(hcal:c.callee= .builtin .len){x:Operand}{t:Nat}{ts:List Nat}(hargs:c.args.toList=[x])(hts:c.argTypes.toList=t::ts){isS:Bool}{tv:TV}{n:Int}
 (ht:match isS with | true=>E.str t=true | false=>∃ te,E.sl t=some te)(hx:st.get x=some tv)(hn:st.len isS tv=some n):dk P cx st a w o d (.v (.d (.int .i64) n),none):=by
 obtain⟨n0,n1,n2,n3⟩:=Q2 h (aX h hc hx) hn;have hargs':c.args = #[x]:=by rw[<- afk (xs:=c.args),hargs]
 have hts0:c.argTypes[0]? = some t:=by rw[<- aer,hts]; rfl
 have hrun:(execOp a.eval o).run P w= .ok (.value (.int .i64 n)) w:=by
  have hb:(Builtin.len_ c.argTypes o.type (c.args.map a.eval)).run P w= .ok (.int .i64 n) w:=by
   cases isS with
   | true => have hu:=ob hT ht;obtain⟨s,ev,hs⟩:=n3 rfl;simp only[Builtin.len_,hts0,hargs',afZ,aff,agk,aeZ,aeu,aeN,aeR hu,aez,ev,aeX,goInt,jM,hs]
   | false => obtain⟨te,ht⟩:=ht;obtain⟨_,_,_,_,_,_,hu⟩:=iM hT ht;obtain⟨aa,cc,ev⟩:=n2 rfl;have:((n.toNat:Nat):Int)=n:=Int.toNat_of_nonneg n0;simp only[Builtin.len_,hts0,hargs',afZ,aff,agk,aeZ,aeu,aeN,aeR hu,aez,ev,aeX,goInt,this]
  simp only[execOp,ho,resolve,hcal,aeN,aeX,aez,invoke,builtin,hb]
 exact cj h hd hdn hrun ⟨rfl,Ri n0 n1⟩
theorem D5(h:Rel cx Z g st a w)(hc:Cons st){o:Oper}{d:Nat}(hd:o.dst=some d)(hdn:jw cx a d){c:Call}(ho:o.op= .call c){mn:Bool}(hcal:c.callee= .builtin (match mn with | true=> .min | false=> .max)){x y:Operand}(hargs:c.args.toList=[x,y]){tx ty:TV}{p q:IntKind×Int}
 (hx:st.get x=some tx)(hy:st.get y=some ty)(hp:tx.int? = some p)(hq:ty.int? = some q)(hk:p.1=q.1):dk P cx st a w o d (.v (.d (.int p.1) (match mn with | true=>Oz p.2 q.2 | false=>E1 p.2 q.2)),none):=by
 obtain⟨ex,rx⟩:=fB (aX h hc hx) hp;obtain⟨ey,ry⟩:=fB (aX h hc hy) hq;have hargs':c.args = #[x,y]:=by rw[<- afk (xs:=c.args),hargs]
 cases mn with
 | true =>
   refine cj h hd hdn (v:= .int p.1 (Oz p.2 q.2)) ?_ ⟨rfl,?_⟩
   . simp only[execOp,ho,resolve,hcal,hargs',aeN,aeX,aez,invoke,builtin,Builtin.min_,afZ,aff,agk,List.foldlM_cons,List.foldlM_nil,ex,ey,Builtin.min2,Oz]
   . show nB p.1 (Oz p.2 q.2);unfold Oz;split
     . rw[hk]; exact ry
     . exact rx
 | false =>
   refine cj h hd hdn (v:= .int p.1 (E1 p.2 q.2)) ?_ ⟨rfl,?_⟩
   . simp only[execOp,ho,resolve,hcal,hargs',aeN,aeX,aez,invoke,builtin,Builtin.max_,afZ,aff,agk,List.foldlM_cons,List.foldlM_nil,ex,ey,Builtin.max2,E1,gt_iff_lt]
   . show nB p.1 (E1 p.2 q.2);unfold E1;split
     . rw[hk]; exact ry
     . exact rx
def su(P:Program)(t:Nat)(ti:TI):K->Prop
 | .int k=>P.underlying t=some (.int k)
 | .bool=>P.underlying t=some .bool
 | .str=>P.underlying t=some .string
 | .sl e _=>P.underlying t=some (.slice e)/\ti.elem=e
theorem gk(hT:cf P E){t:Nat}{ti:TI}(hti:E.ti t=some ti)(hag:ti.agg=false){k:K}(hk:ti.ks=[k]):su P t ti k:=by
 obtain⟨dd,hu,hdd⟩:=(hT t _ hti).desc;cases dd with
 | struct fs=>simp[iz,hag]at hdd
 | int k' => obtain⟨_,h1⟩:=hdd;rw[hk]at h1;simp only[agM,afQ]at h1;subst h1;exact hu
 | bool => obtain⟨_,h1⟩:=hdd;rw[hk]at h1;simp only[agM,afQ]at h1;subst h1;exact hu
 | string => obtain⟨_,h1⟩:=hdd;rw[hk]at h1;simp only[agM,afQ]at h1;subst h1;exact hu
 | slice e => obtain⟨_,ks,h1,h2⟩:=hdd;rw[hk]at h1;simp only[agM,afQ]at h1;subst h1;exact⟨hu,h2⟩
 | _=>simp[iz]at hdd
theorem Hj(hT:cf P E){t:Nat}(h:E.u8 t=true):P.underlying t=some (.int .u8):=by
 unfold En.u8 at h;split at h
 . rename_i hti;exact gk hT hti rfl rfl
 . simp at h
theorem FO(hT:cf P E)(h:Rel cx Z g st a w)(hc:Cons st){o:Oper}{d:Nat}(hd:o.dst=some d)(hdn:jw cx a d){s t:TypeId}{x:Operand}(ho:o.op= .convert s t x){ts td:TI}{tv:TV}{p:IntKind×Int}{k k0:IntKind}
 (h1:E.ti s=some ts)(h2:E.ti t=some td)(a1:ts.agg=false)(a2:td.agg=false)(k1:ts.ks=[.int k0])(k2:td.ks=[.int k])(hx:st.get x=some tv)(hp:tv.int? = some p):dk P cx st a w o d (.v (.d (.int k) (k.wrap p.2)),none):=by
 have u1:su P s ts _:=gk hT h1 a1 k1;have u2:su P t td _:=gk hT h2 a2 k2;obtain⟨ev,_⟩:=fB (aX h hc hx) hp;refine cj h hd hdn (v:= .int k (k.wrap p.2)) ?_ ⟨rfl,gv _ _⟩;simp only[execOp,ho,convert,aeN,aeR u1,aeR u2,aez,ev,Conv.intToInt,aeX]
theorem PC{n:Int}(h0:0<=n)(h1:n<=127):Utf8.encode n=eQ (WV n):=by
 have hv:Utf8.valid n=true:=by unfold Utf8.valid;have e1:decide (0<=n)=true:=aes h0;have e2:decide (n<0xD800)=true:=aes (by omega);rw[e1,e2]; rfl
 unfold Utf8.encode;simp only[hv,if_true];rw[if_pos (by omega)]; rfl
theorem Ci(hT:cf P E)(h:Rel cx Z g st a w)(hc:Cons st){o:Oper}{d:Nat}(hd:o.dst=some d)(hdn:jw cx a d){s t:TypeId}{x:Operand}(ho:o.op= .convert s t x){ts td:TI}{tv:TV}{p:IntKind×Int}{k0:IntKind}
 (h1:E.ti s=some ts)(h2:E.ti t=some td)(a1:ts.agg=false)(a2:td.agg=false)(k1:ts.ks=[.int k0])(k2:td.ks=[.str])(hx:st.get x=some tv)(hp:tv.int? = some p)(hn:(bM 0 p.2&&bM p.2 127)=true):dk P cx st a w o d (.v (.d .str (WV p.2)),none):=by
 have u1:su P s ts _:=gk hT h1 a1 k1;have u2:su P t td _:=gk hT h2 a2 k2;obtain⟨ev,_⟩:=fB (aX h hc hx) hp;simp only[aeo]at hn;refine cj h hd hdn (v:= .string (eQ (WV p.2))) ?_ ⟨rfl,by show 1<=bG; unfold bG; omega⟩;simp only[execOp,ho,convert,aeN,aeR u1,aeR u2,aez,ev,Conv.intToString,PC (afD hn.1) (afD hn.2),aeX]
theorem Fw(hT:cf P E)(h:Rel cx Z g st a w)(hc:Cons st){o:Oper}{d:Nat}(hd:o.dst=some d)(hdn:jw cx a d){s t:TypeId}{x:Operand}(ho:o.op= .convert s t x){ts td:TI}{tv:TV}{u:S8}
 (h1:E.ti s=some ts)(h2:E.ti t=some td)(a1:ts.agg=false)(a2:td.agg=false)(k1:ts.ks=[.str])(k2:td.ks=[.str])(hx:st.get x=some tv)(hp:tv.mZ = some u):dk P cx st a w o d (.v (.d .str u),none):=by
 have u1:su P s ts _:=gk hT h1 a1 k1;have u2:su P t td _:=gk hT h2 a2 k2;obtain⟨ev,hb⟩:=mF (aX h hc hx) hp;refine cj h hd hdn (v:= .string (eQ u)) ?_ ⟨rfl,hb⟩;simp only[execOp,ho,convert,aeN,aeR u1,aeR u2,aez,ev,aeX]
def CO:List (Tl [.int .u8])->List Int
 | []=>[]
 | z::r=>z.1::CO r
theorem rB:∀(xs:List (Tl [.int .u8])),(CO xs).length=xs.length
 | []=>rfl
 | _::r=>aeU (· + 1) (rB r)
theorem yk:∀(xs:List (Tl [.int .u8])) (i:Nat) (hi:i<xs.length),(CO xs).getD i 0=(xs[i]).1
 | [],i,hi=>by simp at hi
 | _::r,0,hi=>rfl
 | _::r,i+1,hi=>yk r i (by simpa using hi)
theorem zi:∀(xs:List (Tl [.int .u8])),(CO xs).map (fun n=>UInt8.ofNat n.toNat)=strOf xs
 | []=>rfl
 | z::r=>aeU (UInt8.ofNat (Int.toNat z.1) :: ·) (zi r)
theorem AH(hT:cf P E)(h:Rel cx Z g st a w)(hc:Cons st){o:Oper}{d:Nat}(hd:o.dst=some d)(hdn:jw cx a d){s t:TypeId}{x:Operand}(ho:o.op= .convert s t x){ts td:TI}{tv:TV}{av:AV}{e:TypeId}{xs:T (.sl e [.int .u8])}
 (h1:E.ti s=some ts)(h2:E.ti t=some td)(a1:ts.agg=false)(a2:td.agg=false)(k1:ts.ks=[.sl e [.int .u8]])(k2:td.ks=[.str])(hu8:E.u8 ts.elem=true)(hx:st.get x=some tv)(hv:tv.Eg = some av)(hp:st.bo (.sl e [.int .u8]) av=some xs):dk P cx st a w o d (.v (.d .str (strOf (aQ xs))),none):=by
 obtain⟨u1,ue⟩:=gk hT h1 a1 k1;have u2:su P t td _:=gk hT h2 a2 k2;have u3:P.underlying e=some (.int .u8):=by rw[<- ue]; exact Hj hT hu8
 obtain⟨aa,c,e1,e2,e3,e4,e5⟩:=mg h (rD (aX h hc hx) hv) hp;have hlen:(strOf (aQ xs)).length=(aQ xs).length:=by simp[strOf]
 refine cj h hd hdn (v:= .string (eQ (strOf (aQ xs)))) ?_ ⟨rfl,by show(strOf (aQ xs)).length<=bG; omega⟩;have hconv:(convert s t (a.eval x)).run P w= .ok (.string (eQ (strOf (aQ xs)))) w:=by
  rw[e1];cases aa with
  | none => have h0:aQ xs=[]:=ae6.1 (by have:=e4 rfl; omega);rw[run_convert_bytes_nil w s e u1 u3 _ c t u2];rw[h0];rfl
  | some q =>
    by_cases hne:aQ xs=[]
    . have hq:∃ b o sp,q=⟨b,o,sp⟩:=⟨_,_,_,rfl⟩;have hl0:(aQ xs).length=0:=by rw[hne]; rfl
      have:=run_convert_bytes_string (P:=P) w s t e (some q) (aQ xs).length c u1 u3 u2;rw[this,hl0,hne];have hll:(loadCells q 0).run P w= .ok #[] w:=by simp[loadCells,loadCellsFrom]
      have:=run_bytesToString (P:=P) w q 0 c [] (by simpa using hll);rw[this];rfl
    . obtain⟨b,of,hq,_,_,hrow⟩:=e5 hne;simp only[aen]at hq;subst hq;rw[run_convert_bytes_arg w s e u1 u3 b of _ c (CO (aQ xs)) (rB _) (fun i hi => ?_) t u2]
      . rw[<- zi (aQ xs)];rfl
      . have hx':=hrow i _ (aeq hi);obtain⟨⟨vv,g1,g2,_⟩,_⟩:=hx';simp only[aeF,ae7,Nat.mul_one,aex]at g1;rw[g1,g2,yk _ i hi]
 simp only[execOp,ho,aeN,hconv,aez];rfl
theorem bytesOf_length(s:S8):(bytesOf s).length=s.length:=afO ..
theorem ow:∀(s:S8) (i:Nat) (x:Tl [.int .u8]),(bytesOf s)[i]? = some x->i<s.length/\x=(((s.getD i 0).toNat:Int),())
 | [],i,x,h=>by cases h
 | c::s,0,x,h=>by have h:some (((c.toNat:Int),()):Tl [.int .u8])=some x:=h;exact⟨by simp,(ae9 h).symm⟩
 | c::s,i+1,x,h=>by obtain⟨h1,h2⟩:=ow s i x h;exact⟨by simpa using h1,h2⟩
theorem yF(hT:cf P E)(h:Rel cx Z g st a w)(hc:Cons st){o:Oper}{d:Nat}(hd:o.dst=some d)(hdn:jw cx a d)(hf:st.free d=true){s t:TypeId}{x:Operand}(ho:o.op= .convert s t x){ts td:TI}{tv:TV}{u:S8}{e:TypeId}
 (h1:E.ti s=some ts)(h2:E.ti t=some td)(a1:ts.agg=false)(a2:td.agg=false)(k1:ts.ks=[.str])(k2:td.ks=[.sl e [.int .u8]])(hu8:E.u8 td.elem=true)(hx:st.get x=some tv)(hp:tv.mZ = some u) :
 dk P cx st a w o d (.v (.ref d 0 0),some ⟨false,[⟨0,0,.own (.sl e [.int .u8]) (bytesOf u)⟩]⟩):=by
 have u1:su P s ts _:=gk hT h1 a1 k1;obtain⟨u2,ue⟩:=gk hT h2 a2 k2;have u3:P.underlying e=some (.int .u8):=by rw[<- ue]; exact Hj hT hu8
 obtain⟨ev,hb⟩:=mF (aX h hc hx) hp;have hconv:=Lib.run_convert_string_bytes (P:=P) w s t e (eQ u) u1 u2 u3;intro next Q hk;unfold Oper.wp;simp only[execOp,ho,aeN,ev,hconv,aez];show o.upon P a next Q (.ok (.value _) _);rw[afo,hd];have hsz:(eQ u).size=u.length:=jM u;have hcap:u.length<=grownCap w (eQ u).size 0 e:=by rw[<- hsz];unfold grownCap;simp[Question.cut]
 have hbc:(Lib.bytesCells w e (eQ u)).size=grownCap w (eQ u).size 0 e:=by
  have:(eQ u).data.size=u.length:=by simp[eQ]
  simp only[Lib.bytesCells,ags,Array.size_map,Array.size_replicate,this];omega
 have hnew:=Lib.bytesWorld_at_new w e (eQ u);have hheap:(Lib.bytesWorld w e (eQ u)).heap=w.heap.push (.cells (Lib.bytesCells w e (eQ u)) e ((Lib.bytesCells w e (eQ u)).size,(Lib.bytesCells w e (eQ u)).size+1)):=by
  apply agb;intro i;rcases agX i w.heap.size with hi | hi | hi
  . rw[Lib.bytesWorld_at_old w e (eQ u) i hi,ae1,if_neg (by omega)]
  . subst hi;rw[hnew,ae1,if_pos rfl]
  . rw[aeH (by rw[Lib.bytesWorld_size]; omega),aeH (by rw[afN]; omega)]
 have hlen:(aQ (e:=e) (bytesOf u)).length=u.length:=bytesOf_length u;have hown:cO (Lib.bytesWorld w e (eQ u)) (.sl e [.int .u8]) (bytesOf u) (.slice (some ⟨w.heap.size,0,none⟩) (eQ u).size (grownCap w (eQ u).size 0 e)) (fun b=>b=w.heap.size):=by
  refine⟨_,_,by rw[hlen,hsz],by rw[hlen]; exact hcap,by rw[hlen]; exact hb,by simp,fun a' ha' => ?_⟩;simp only[aen]at ha';subst ha';refine⟨w.heap.size,0,_,e,_,rfl,rfl,hnew,?_,?_,fun _ _ _=>False,fun _ _ _ hh=>hh.elim,fun _ _ _ _ _ hh=>hh.elim,fun i x hi => ?_⟩
  . intro q hq hh;simp only[TK,aeQ]at hq;omega
  . rw[hbc];simp;rw[hsz];exact oR _
  . obtain⟨hi1,rfl⟩:=ow u i x hi;refine⟨⟨_,?_,rfl,?_⟩,trivial⟩
    . have hcell:=Lib.bytesWorld_cell w e (eQ u) i (by rw[hsz]; exact hi1);simp only[World.cell?,hnew]at hcell;have hd:(eQ u).data.toList=u:=by simp[eQ]
      rw[hd]at hcell;simpa using hcell
    . have:=(u.getD i 0).toNat_lt;have e1:IntKind.u8.min=0:=rfl;have e2:IntKind.u8.max=255:=rfl;unfold nB;rw[e1,e2];show 0<=((u.getD i 0).toNat:Int)/\((u.getD i 0).toNat:Int)<=255;omega
 obtain⟨g',hg⟩:=h.newRow (d:=d) hdn hf (w':=Lib.bytesWorld w e (eQ u)) rfl rfl rfl hheap hown;exact hk _ _ _ _ hg
end
theorem dL{a b:Bool}(h:bS a b=true):a=b:=by cases a <;> cases b <;> simp_all[bS]
theorem kq{gg:Bool}{l:List AV}{t:Nat}{want y:Bool}{g':Bool}{l':List AV}(h:eN gg l= .may t want y g' l'):False:=by unfold eN at h;split at h <;> simp at h
section
variable{P:Program}{cx:Cx P}{Z:Nat->Prop}{g:Gh}{st:St}{a:Act}{w:World}{E:En}
def fV(tq:TV)(y:Bool):Prop:=∀(Z:Nat->Prop) (g:Gh) (st:St) (w:World) (v:Value),bF Z g st w tq v->v= .bool y
def oD(st:St):Prop:=∀ d q want y g l,look st.tm d=some (.may q want y g l)->∀ tq,look st.tm q=some tq->fV tq y
theorem fV.lb{x y:Bool}(h:fV (.v (.lb x)) y):x=y:=by have:=h (fun _=>False) ⟨fun _=>0,fun _ _=>undef,fun _ _ _=>False⟩ ⟨[],[]⟩ default (.bool x) rfl;simpa using this
theorem fV.d{x y:Bool}(h:fV (.v (.d .bool x)) y):x=y:=by have:=h (fun _=>False) ⟨fun _=>0,fun _ _=>undef,fun _ _ _=>False⟩ ⟨[],[]⟩ default (.bool x) rfl;simpa using this
theorem oD.cons(hv:oD st):Cons st:=by intro d t want y gg l hl x;exact⟨fun h3=>(hv d t want y gg l hl _ h3).lb,fun h3=>(hv d t want y gg l hl _ h3).d⟩
theorem Hi{o:Operand}{t:Nat}{want y gg:Bool}{l:List AV}(h:st.get o=some (.may t want y gg l)):∃ d,look st.tm d=some (.may t want y gg l)/\o= .tmp d:=by
 cases o with
 | tmp d =>
   refine⟨d,?_,rfl⟩;have h:st.tv d=_:=h;unfold St.tv at h;cases hl:look st.tm d with
   | none=>simp[hl]at h
   | some tv0 =>
     rw[hl]at h;cases tv0 with
     | may q w' y' g' l' =>
       simp only at h;split at h
       . split at h
         . exact(kq (ae9 h)).elim
         . exact(kq (ae9 h)).elim
         . simp at h
       . exact h
       . simp at h
     | _=>simp at h
 | const v => exfalso;have h:sa v=_:=h;unfold sa at h;split at h <;> (try split at h) <;> simp at h
 | func f=>simp[St.get]at h
 | global n=>simp[St.get]at h
theorem zI(h:Rel cx Z g st a w){x:AV}{v:Value}(hr:bj Z g st w x v)(hf:x.bE=true){k:K}{y:T k}(hy:st.read x=some ⟨k,y⟩):RO Z w k y v:=by
 cases x with
 | lb b=>simp only[St.read,aen]at hy; cases hy; exact hr
 | d k' x'=>simp only[St.read,aen]at hy; cases hy; exact hr
 | nil=>simp[St.read]at hy
 | _=>simp[AV.bE]at hf
theorem Cj(h:Rel cx Z g st a w)(hv:oD st){c o:Operand}{want y:Bool}{k:K}{x:T k}(hs:st.side c want o=some ⟨k,x⟩)(hg:a.eval c= .bool want)(hcg:st.get c=some (.v (.d .bool y))):RO Z w k x (a.eval o):=by
 have hc:=hv.cons;unfold St.side at hs;split at hs
 . rename_i _ av hget;cases hf:av.bE with
   | false=>simp[hf]at hs
   | true => simp only[hf,oT]at hs;exact zI h (aX h hc hget) hf hs
 . rename_i t w' y' av t' hget;cases hb:Nat.beq t t'&&bS w' want&&av.bE with
   | false=>simp[hb]at hs
   | true =>
     simp only[hb,oT]at hs;simp only[aeo]at hb;obtain⟨⟨h1,h2⟩,h3⟩:=hb;have h1:=beq_eq h1;have h2:=dL h2;subst h1;subst h2;obtain⟨d,hd,rfl⟩:=Hi hget;obtain⟨tq,htq⟩:∃ tq,look st.tm t=some tq:=by
      have hcg:st.tv t=_:=hcg;unfold St.tv at hcg;cases hl:look st.tm t with
      | none=>simp[hl]at hcg
      | some tq=>exact⟨tq,rfl⟩
     have e1:=hv d _ _ _ _ _ hd tq htq _ _ _ _ _ (h.tm t tq htq).2;have hg:a.tmps.getD t undef=_:=hg;rw[hg]at e1;exact zI h (aX h hc hget (by simpa using e1.symm)) h3 hs
 . simp at hs
theorem UX(h:Rel cx Z g st a w)(hv:oD st){o:Oper}{d:Nat}(hd:o.dst=some d)(hdn:jw cx a d){c x y:Operand}(ho:o.op= .pick c x y){gd:Bool}(hg:st.get c=some (.v (.d .bool gd)))
 {k k':K}{p:T k}{q:T k'}{q':T k}(h1:st.side c true x=some ⟨k,p⟩)(h2:st.side c false y=some ⟨k',q⟩)(h3:fD k' k q=some q'):dk P cx st a w o d (.v (.d k (cond gd p q')),none):=by
 have hc:=hv.cons;have ec:a.eval c= .bool gd:=aX h hc hg;obtain⟨e,h3⟩:=cq h3;subst e;subst h3;cases gd with
 | true => refine cj h hd hdn (v:=a.eval x) (by simp[execOp,ho,ec,asBool]) ?_;exact Cj h hv h1 ec hg
 | false => refine cj h hd hdn (v:=a.eval y) (by simp[execOp,ho,ec,asBool]) ?_;exact Cj h hv h2 ec hg
theorem zr(h:Rel cx Z g st a w)(hv:oD st){o:Oper}{d:Nat}(hd:o.dst=some d)(hdn:jw cx a d){c x y:Operand}(ho:o.op= .pick c x y){gd:Bool}(hg:st.get c=some (.v (.lb gd)))
 {tv:TV}(h1:st.get (match gd with | true=>x | false=>y)=some tv):dk P cx st a w o d (tv,none):=by
 have hc:=hv.cons;have ec:a.eval c= .bool gd:=aX h hc hg;have:=aX h hc h1;cases gd with
 | true=>exact cj h hd hdn (v:=a.eval x) (by simp[execOp,ho,ec,asBool]) this
 | false=>exact cj h hd hdn (v:=a.eval y) (by simp[execOp,ho,ec,asBool]) this
end
structure Ext (st st':St):Prop where
 tm:∀ t tv,look st.tm t=some tv->look st'.tm t=some tv
 rt:∀ r R,look st.rt r=some R->look st'.rt r=some R
section
variable{st st':St}{E:En}
theorem Ext.cell(x:Ext st st'){r j:Nat}{c:RC}(h:st.cell r j=some c):st'.cell r j=some c:=by
 unfold St.cell at h ⊢;cases hl:look st.rt r with
 | none=>simp[hl]at h
 | some R=>rw[hl]at h; rw[x.rt r R hl]; exact h
theorem Ext.tv(x:Ext st st'){t:Nat}{tv:TV}(h:st.tv t=some tv):st'.tv t=some tv:=by
 unfold St.tv at h ⊢;cases hl:look st.tm t with
 | none=>simp[hl]at h
 | some tv0 =>
   rw[hl]at h;rw[x.tm t tv0 hl];cases tv0 with
   | may q w' y' g' l' =>
     simp only at h ⊢;cases hq:look st.tm q with
     | none=>simp[hq]at h
     | some tq=>rw[hq]at h; rw[x.tm q tq hq]; exact h
   | _=>exact h
theorem Ext.get(x:Ext st st'){o:Operand}{tv:TV}(h:st.get o=some tv):st'.get o=some tv:=by
 cases o with
 | tmp t=>exact x.tv h
 | _=>exact h
theorem Ext.getAll(x:Ext st st'):∀ {os:List Operand} {l:List TV},st.getAll os=some l->st'.getAll os=some l
 | [],l,h=>h
 | o::os,l,h=>by
   simp only[St.getAll]at h ⊢;split at h
   . rename_i a r h1 h2;rw[x.get h1,Ext.getAll x h2];exact h
   . simp at h
theorem Ext.read(x:Ext st st'){a:AV}{y:(k:K)×T k}(h:st.read a=some y):st'.read a=some y:=by
 cases a with
 | b r j s m k z =>
   simp only[St.read]at h ⊢;cases hc:st.cell r j with
   | none=>simp[hc]at h
   | some c=>rw[hc]at h; rw[x.cell hc]; exact h
 | ref r j s =>
   simp only[St.read]at h ⊢;cases hc:st.cell r j with
   | none=>simp[hc]at h
   | some c=>rw[hc]at h; rw[x.cell hc]; exact h
 | cut r j s n =>
   simp only[St.read]at h ⊢;cases hc:st.cell r j with
   | none=>simp[hc]at h
   | some c=>rw[hc]at h; rw[x.cell hc]; exact h
 | pref r j s m i c =>
   simp only[St.read]at h ⊢;cases hc:st.cell r j with
   | none=>simp[hc]at h
   | some c=>rw[hc]at h; rw[x.cell hc]; exact h
 | _=>exact h
theorem Ext.live(x:Ext st st'){a:AV}(h:st.live a=true):st'.live a=true:=by
 cases a with
 | b r j s m k z =>
   simp only[St.live]at h ⊢;cases hc:st.cell r j with
   | none=>simp[hc]at h
   | some c=>rw[hc]at h; rw[x.cell hc]; exact h
 | ref r j s =>
   simp only[St.live]at h ⊢;cases hc:st.cell r j with
   | none=>simp[hc]at h
   | some c=>rw[hc]at h; rw[x.cell hc]; exact h
 | cut r j s n =>
   simp only[St.live]at h ⊢;cases hc:st.cell r j with
   | none=>simp[hc]at h
   | some c=>rw[hc]at h; rw[x.cell hc]; exact h
 | pref r j s m i c =>
   simp only[St.live]at h ⊢;cases hc:st.cell r j with
   | none=>simp[hc]at h
   | some c=>rw[hc]at h; rw[x.cell hc]; exact h
 | pel r j s i c =>
   simp only[St.live]at h ⊢;cases hc:st.cell r j with
   | none=>simp[hc]at h
   | some c=>rw[hc]at h; rw[x.cell hc]; exact h
 | rp dep e ks xs i c =>
   cases dep with
   | none=>exact h
   | some p =>
     obtain⟨r,j,s,m⟩:=p;simp only[St.live]at h ⊢;cases hc:st.cell r j with
     | none=>simp[hc]at h
     | some c=>rw[hc]at h; rw[x.cell hc]; exact h
 | _=>exact h
theorem Ext.Hr(x:Ext st st'){l:List AV}(h:l.all st.live=true):l.all st'.live=true:=by rw[aeG]at h ⊢;exact fun a ha=>x.live (h a ha)
theorem Ext.bo(x:Ext st st'){k:K}{a:AV}{y:T k}(h:st.bo k a=some y):st'.bo k a=some y:=by
 have key:∀ z,(∀ s:St,s.bo k a=(match s.read a with | some ⟨k',x⟩=>fD k' k x | none=>none))->z=a->st'.bo k a=some y:=fun z e _=>by
  rw[e]at h ⊢;cases hr:st.read a with
  | none=>simp[hr]at h
  | some z=>rw[hr]at h; rw[x.read hr]; exact h
 cases a with
 | nil=>cases k <;> first | exact h | (simp[St.bo,St.read]at h)
 | _=>exact key _ (fun s=>by cases k <;> rfl) rfl
theorem Ext.readAll(x:Ext st st'):∀ {ks:List K} {l:List AV} {y:Tl ks},st.readAll ks l=some y->st'.readAll ks l=some y
 | [],[],_,h=>h
 | k::ks,a::l,y,h=>by
   unfold St.readAll at h ⊢;split at h
   . rename_i z zs hz hzs;rw[x.bo hz,Ext.readAll x hzs];exact h
   . simp at h
 | [],_::_,_,h=>by simp[St.readAll]at h
 | _::_,[],_,h=>by simp[St.readAll]at h
theorem Ext.jo(x:Ext st st'){a:AV}{c:RC}(h:st.jo a=some c):st'.jo a=some c:=by
 cases a with
 | pref r j s m i q =>
   simp only[St.jo]at h ⊢;cases hl:st.live (.pref r j s m i q)with
   | false=>simp[hl]at h
   | true=>rw[hl]at h; rw[x.live hl]; exact h
 | b r j s m k z =>
   simp only[St.jo]at h ⊢;cases hl:st.live (.b r j s m k z)with
   | false=>simp[hl]at h
   | true=>rw[hl]at h; rw[x.live hl]; exact h
 | _=>exact h
theorem Ext.kP(x:Ext st st'):∀ {l:List AV} {cs:List RC},st.kP l=some cs->st'.kP l=some cs
 | [],_,h=>h
 | a::l,cs,h=>by
   unfold St.kP at h ⊢;split at h
   . rename_i z zs hz hzs;rw[x.jo hz,Ext.kP x hzs];exact h
   . simp at h
theorem Ext.jr(x:Ext st st'){r j:Nat}{a:AV}(h:st.jr r j=some a):st'.jr r j=some a:=by
 unfold St.jr at h ⊢;cases hc:st.cell r j with
 | none=>simp[hc]at h
 | some c=>rw[hc]at h; rw[x.cell hc]; exact h
theorem Ext.de(x:Ext st st'):∀ {n j r:Nat} {l:List AV},st.de r j n=some l->st'.de r j n=some l
 | 0,_,_,_,h=>h
 | n+1,j,r,l,h=>by
   unfold St.de at h ⊢;split at h
   . rename_i z zs hz hzs;rw[x.jr hz,Ext.de x hzs];exact h
   . simp at h
theorem Ext.load(x:Ext st st'){n:Nat}{a:AV}{l:List AV}(h:st.load n a=some l):st'.load n a=some l:=by
 cases a with
 | ptr r j=>exact x.de h
 | pel r j s i c =>
   simp only[St.load]at h ⊢;cases hc:st.cell r j with
   | none=>simp[hc]at h
   | some c=>rw[hc]at h; rw[x.cell hc]; exact h
 | rp dep e ks xs i c =>
   cases dep with
   | none=>exact h
   | some p =>
     obtain⟨r,j,s,m⟩:=p;simp only[St.load]at h ⊢;cases hc:st.cell r j with
     | none=>simp[hc]at h
     | some c=>rw[hc]at h; rw[x.cell hc]; exact h
 | _=>exact h
theorem th{α β:Type}{f f':α->β->Option α}(hf:∀ l q l',f l q=some l'->f' l q=some l'):∀ {r:List β} {l l':α},jH f l r=some l'->jH f' l r=some l'
 | [],_,_,h=>h
 | q::r,l,l',h=>by
   unfold jH at h ⊢;cases hl:f l q with
   | none=>simp[hl]at h
   | some l1=>rw[hl]at h; rw[hf _ _ _ hl]; exact th hf h
theorem Ext.rR(x:Ext st st'){flds:List (Nat×Nat)}{l l':List AV}{q:Nat×Operand}(h:rR E st flds l q=some l'):Av.rR E st' flds l q=some l':=by
 unfold Av.rR at h ⊢;split at h
 . rename_i o t tv h1 h2;rw[h1,x.get h2];simp only;split at h
   . rename_i p ti h3 h4;cases hb:Nat.beq p.length ti.ks.length&&p.all st.live&&Nat.ble (o+p.length) l.length with
     | false=>simp[hb]at h
     | true => rw[hb]at h;simp only[aeo]at hb;rw[hb.1.1,x.Hr hb.1.2,hb.2];exact h
   . simp at h
 . simp at h
theorem Ext.mi(x:Ext st st'){n:Nat}{l l':List AV}{q:Nat×Operand}(h:mi st n l q=some l'):Av.mi st' n l q=some l':=by
 unfold Av.mi at h ⊢;split at h
 . rename_i tv h2;rw[x.get h2];simp only;split at h
   . rename_i p h3;cases hb:Nat.beq p.length n&&p.all st.live&&Nat.ble (q.1 * n+p.length) l.length with
     | false=>simp[hb]at h
     | true => rw[hb]at h;simp only[aeo]at hb;rw[hb.1.1,x.Hr hb.1.2,hb.2];exact h
   . simp at h
 . simp at h
theorem Ext.chunks(x:Ext st st'){ks:List K}:∀ {n:Nat} {l:List AV} {r:List (Tl ks)},chunks st ks n l=some r->Av.chunks st' ks n l=some r
 | 0,[],_,h=>h
 | 0,_::_,_,h=>by simp[Av.chunks]at h
 | n+1,l,r,h=>by
   unfold Av.chunks at h ⊢;split at h
   . rename_i z zs hz hzs;rw[x.readAll hz,Ext.chunks x hzs];exact h
   . simp at h
theorem Ext.len(x:Ext st st'){b:Bool}{tv:TV}{n:Int}(h:st.len b tv=some n):st'.len b tv=some n:=by
 cases tv with
 | v a =>
   have key:∀ z,(∀ s:St,s.len b (.v a)=lenOf (s.read a) b)->z=a->st'.len b (.v a)=some n:=fun z e _=>by
    rw[e]at h ⊢;cases hr:st.read a with
    | none=>rw[hr]at h; cases b <;> simp[lenOf]at h
    | some z=>rw[hr]at h; rw[x.read hr]; exact h
   cases a with
   | nil=>exact h
   | _=>exact key _ (fun s=>rfl) rfl
 | _=>exact h
theorem Ext.nf(x:Ext st st'){lo hi:Option Operand}{n:Nat}{p:Int×Int}(h:nf st lo hi n=some p):Av.nf st' lo hi n=some p:=by
 have aux:∀ o,st.get o=none∨st'.get o=st.get o:=fun o=>by
  cases hg:st.get o with
  | none=>exact .inl rfl
  | some tv=>exact .inr (x.get hg)
 unfold Av.nf at h ⊢;cases lo with
 | none=>cases hi with
   | none=>exact h
   | some o =>
     rcases aux o with e | e
     . simp[e]at h
     . simp only[e]at h ⊢; exact h
 | some q =>
   rcases aux q with e0 | e0
   . simp[e0]at h
   . cases hi with
     | none=>simp only[e0]at h ⊢; exact h
     | some o =>
       rcases aux o with e | e
       . simp only[e]at h;split at h <;> simp_all
       . simp only[e0,e]at h ⊢; exact h
end
end Go.Av
