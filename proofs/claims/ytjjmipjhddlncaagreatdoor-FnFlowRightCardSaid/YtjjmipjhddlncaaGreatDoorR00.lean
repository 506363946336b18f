/-
  PEV, part 1: a symbolic evaluator of loaded Go code over typed payloads. Nothing is proved here.
-/
import GoSem.Dispatch
import Derived.Calls
import Derived.Laws.Sem
import Derived.Deep.MidRow
import Derived.Deep.AppendSrc
import Derived.Laws.Slices
import Derived.Laws.Strings
import Derived.Laws.Concat
import Derived.Laws.BytesArg
import Derived.Laws.StructEq
import Derived.Great.FillDense
import Derived.Deep.Upon
import Derived.Laws.MakeOwn
set_option linter.all false
namespace Go
def a0a:=@List.getElem?_eq_getElem
def a0b:=@decide_eq_true
def a0c:=@Option.bind_some
def a0d:=@if_neg
def a0e:=@Bool.and_eq_true
def a0f:=@if_pos
def a0g:=@List.length_nil
def a0h:=@List.length_cons
def a0i:=@Int.toNat_natCast
def a0j:=@List.length_append
def a0k:=@List.mem_append
def a0l:=@Option.some.injEq
def a0m:=@decide_eq_false
def a0n:=@List.getElem_mem
def a0o:=@Bool.not_true
def a0p:=@Bool.eq_false_or_eq_true
def a0q:=@Nat.mul_le_mul_right
def a0r:=@List.getElem?_eq_some_iff
def a0s:=@List.eq_nil_of_length_eq_zero
def a0t:=@Bool.false_eq_true
def a0u:=@Bool.not_false
def a0v:=@decide_eq_true_eq
def a0w:=@of_decide_eq_true
def a0x:=@List.mem_singleton
def a0y:=@List.getElem?_append_right
def a0z:=@Prod.mk.injEq
def a1a:=@Nat.add_mul
def a1b:=@Array.getElem?_eq_some_iff
def a1c:=@cond_true
def a1d:=@List.drop_eq_getElem_cons
def a1e:=@Option.some.inj
def a1f:=@List.getElem?_eq_none
def a1g:=@List.all_eq_true
def a1h:=@List.length_take
def a1i:=@List.take_length
def a1j:=@List.mem_cons
def a1k:=@List.getElem_append_left
def a1l:=@List.getElem?_append_left
def a1m:=@Nat.le_refl
def a1n:=@Bool.true_and
def a1o:=@Array.getElem?_eq_getElem
def a1p:=@Nat.zero_add
def a1q:=@cond_false
def a1r:=@List.getElem?_cons_zero
def a1s:=@List.nil_append
def a1t:=@List.foldl_cons
def a1u:=@List.append_assoc
def a1v:=@congrArg
def a1w:=@Option.map_some
def a1x:=@List.getElem_append_right
def a1y:=@if_false
def a1z:=@if_true
def a2a:=@List.length_replicate
def a2b:=@List.append_nil
def a2c:=@List.drop_of_length_le
def a2d:=@List.nodup_append
def a2e:=@List.ext_getElem?
def a2f:=@List.mem_range
def a2g:=@List.map_cons
def a2h:=@List.mem_iff_getElem
def a2i:=@List.nodup_nil
def a2j:=@Option.map_eq_some_iff
def a2k:=@Option.bind_eq_some_iff
def a2l:=@List.length_zipWith
def a2m:=@List.take_succ_eq_append_getElem
def a2n:=@Nat.add_assoc
def a2o:=@Bool.not_eq_true'
def a2p:=@List.length_drop
def a2q:=@Option.getD_none
def a2r:=@Option.getD_some
def a2s:=@List.mem_or_eq_of_mem_set
def a2t:=@List.take_append_getElem
def a2u:=@List.foldl_nil
def a2v:=@List.size_toArray
def a2w:=@Nat.one_mul
def a2x:=@List.any_eq_true
def a2y:=@List.getElem?_drop
def a2z:=@List.getElem?_set_ne
def a3a:=@List.mem_cons_of_mem
def a3b:=@beq_iff_eq
def a3c:=@List.getElem_set_ne
def a3d:=@List.map_congr_left
def a3e:=@Array.size_append
def a3f:=@List.flatten_cons
def a3g:=@List.foldl_append
def a3h:=@List.mem_of_mem_take
def a3i:=@List.take_of_length_le
def a3j:=@List.getElem_set_self
def a3k:=@List.perm_iff_count
def a3l:=@Int.toNat_zero
def a3m:=@List.not_mem_nil
def a3n:=@List.mem_of_getElem?
def a3o:=@List.eq_nil_iff_forall_not_mem
def a3p:=@List.zipWith_cons_cons
def a3q:=@Bool.false_and
def a3r:=@List.map_append
def a3s:=@List.mem_flatMap
def a3t:=@Bool.and_self
def a3u:=@List.take_append_drop
def a3v:=@List.concat_eq_append
def a3w:=@Bool.eq_iff_iff
def a3x:=@List.range_eq_range'
def a3y:=@Nat.lt_or_ge
def a3z:=@Bool.not_eq_true
def a4a:=@List.map_nil
def a4b:=@List.getElem_of_mem
def a4c:=@bne_self_eq_false
def a4d:=@Bool.or_eq_true
def a4e:=@List.length_map
def a4f:=@Array.getElem?_modify
def a4g:=@List.eq_nil_or_concat
def a4h:=@List.getElem?_take
def a4i:=@List.pairwise_cons
def a4j:=@Nat.zero_le
def a4k:=@List.getElem_map
def a4l:=@List.pairwise_append
def a4m:=@Nat.le_mul_of_pos_right
def a4n:=@List.length_eq_zero_iff
def a4o:=@List.drop_drop
def a4p:=@Nat.add_zero
def a4q:=@List.mem_map
def a4r:=@Array.ext'
def a4s:=@List.length_set
def a4t:=@List.flatten_append
def a4u:=@List.nodup_cons
def a4v:=@List.mem_filter
def a4w:=@List.getElem?_set_self
def a4x:=@List.getElem_replicate
def a4y:=@Array.getElem?_append_left
def a4z:=@List.singleton_append
def a5a:=@List.drop_zero
def a5b:=@Array.mem_toList_iff
def a5c:=@List.getElem_take
def a5d:=@List.cons.injEq
def a5e:=@List.getElem?_take_of_lt
def a5f:=@List.getElem?_cons_succ
def a5g:=@Int.le_refl
def a5h:=@List.reverse_append
def a5i:=@List.cons_append
def a5j:=@Array.mem_append
def a5k:=@Option.bind_none
def a5l:=@List.mem_cons_self
def a5m:=@Nat.le_trans
def a5n:=@Array.getElem?_toList
def a5o:=@List.set_getElem_self
def a5p:=@List.length_filter_le
def a5q:=@List.all_cons
def a5r:=@List.getElem?_map
def a5s:=@Bool.false_or
def a5t:=@List.length_range
def a5u:=@List.mem_of_mem_drop
def a5v:=@List.dropLast_concat
def a5w:=@beq_self_eq_true
def a5x:=@List.filter_cons
def a5y:=@or_false
def a5z:=@Nat.mul_one
def a6a:=@Array.length_toList
def a6b:=@List.filter_eq_self
def a6c:=@List.flatMap_append
def a6d:=@bne_eq_false_iff_eq
def a6e:=@Nat.mul_comm
def a6f:=@Int.natCast_mul
def a6g:=@List.filter_append
def a6h:=@List.getElem?_replicate
def a6i:=@List.all_append
def a6j:=@Bool.and_true
def a6k:=@List.not_all_eq_any_not
def a6l:=@decide_eq_false_iff_not
def a6m:=@List.getElem_drop
def a6n:=@List.count_append
def a6o:=@List.flatMap_cons
def a6p:=@List.filter_congr
def a6q:=@List.reverse_cons
def a6r:=@List.take_left
def a6s:=@Nat.succ_mul
def a6t:=@List.perm_append_comm
def a6u:=@List.reverse_nil
def a6v:=@Array.toArray_toList
def a6w:=@Nat.lt_irrefl
def a6x:=@List.perm_append_comm_assoc
def a6y:=@List.zipWith_append
def a6z:=@Int.fdiv_eq_ediv_of_nonneg
def a7a:=@Int.tmod_eq_emod_of_nonneg
def a7b:=@Nat.zero_mul
def a7c:=@Nat.lt_of_lt_of_le
def a7d:=@List.set_cons_succ
def a7e:=@BitVec.toNat_ofInt
def a7f:=@of_decide_eq_false
def a7g:=@List.mapM_cons
def a7h:=@Array.mapM_eq_mapM_toList
def a7i:=@List.pairwise_iff_getElem
def a7j:=@List.rel_of_pairwise_cons
def a7k:=@Option.isSome_iff_exists
def a7l:=@Function.comp_def
def a7m:=@List.Sublist.refl
def a7n:=@List.drop_sublist
def a7o:=@List.mem_range'_1
def a7p:=@List.any_eq_false
def a7q:=@Int.eq_ofNat_of_zero_le
def a7r:=@Nat.mod_eq_of_lt
def a7s:=@List.range'_succ
def a7t:=@List.flatten_nil
def a7u:=@List.mem_toArray
def a7v:=@List.ext_getElem
def a7w:=@List.getElem_cons_zero
def a7x:=@List.getElem_cons_succ
def a7y:=@List.pairwise_lt_range
def a7z:=@List.getElem?_toArray
def a8a:=@Nat.sub_zero
def a8b:=@List.mem_iff_getElem?
def a8c:=@List.Perm.append_left
def a8d:=@Nat.max_eq_left
def a8e:=@dif_pos
def a8f:=@Bool.true_or
def a8g:=@decide_false
def a8h:=@BitVec.eq_of_toNat_eq
def a8i:=@List.length_singleton
def a8j:=@Bool.not_not
def a8k:=@List.range_succ
def a8l:=@List.drop_take
def a8m:=@Nat.mul_le_mul
def a8n:=@Int.mul_nonneg
def a8o:=@Bool.and_false
def a8p:=@List.drop_left
def a8q:=@Nat.min_def
def a8r:=@decide_true
def a8s:=@List.any_beq'
def a8t:=@Bool.or_false
def a8u:=@List.map_map
def a8v:=@Int.tdiv_one
def a8w:=@congrFun
end Go
noncomputable section
namespace Go
def ifNegQ {c:Prop} [Decidable c] (h:¬c:=by omega) {α:Sort _} {t e:α}:ite c t e=e:=a0d h
def ifPosQ {c:Prop} [Decidable c] (h:c:=by omega) {α:Sort _} {t e:α}:ite c t e=t:=a0f h
end Go
namespace Go.Pev
variable {α:Type}
inductive cg (α:Type)where
 |node (a:α) (kids:List (cg α))
def cg.lab {α:Type}:cg α->α| .node a _=>a
def cg.kids {α:Type}:cg α->List (cg α)| .node _ l=>l
inductive Kd where
 |int (k:IntKind)|bool|str|err|any
 |sl (o:Bool) (e:Kd)
 |nil|cons (a b:Kd)
 |tree (a:Kd)
 deriving DecidableEq
@[reducible] def Kd.T:Kd->Type
 | .int _=>Int
 | .bool=>Bool
 | .str=>List UInt8
 | .err=>Bool
 | .any=>TypeId×(Int⊕List UInt8)
 | .sl _ e=>List e.T
 | .nil=>Unit
 | .cons a b=>a.T×b.T
 | .tree a=>cg a.T
def Kd.z:(k:Kd)->k.T
 | .int _=>(0:Int)
 | .bool=>false
 | .str=>([]:List UInt8)
 | .err=>false
 | .any=>(0,.inl 0)
 | .sl _ _=>[]
 | .nil=>()
 | .cons a b=>(a.z,b.z)
 | .tree a=> .node a.z []
def Kd.n:Kd->Nat
 | .nil=>0
 | .cons a b=>a.n+b.n
 |_=>1
def Kd.isSt:Kd->Bool
 | .nil| .cons _ _=>true
 |_=>false
def Kd.leafy:Kd->Bool
 | .nil=>true
 | .cons a b=> !a.isSt&& b.leafy
 |_=>false
def Kd.allOwn:Kd->Bool
 | .sl o e=>o&& e.allOwn
 | .cons a b=>a.allOwn&& b.allOwn
 | .tree _=>false
 |_=>true
def Kd.noOwn:Kd->Bool
 | .sl o e=> !o&& e.noOwn
 | .cons a b=>a.noOwn&& b.noOwn
 | .tree a=>a.noOwn
 |_=>true
def Kd.ch (k:Kd):Kd:=if k.isSt then k else .cons k .nil
def Kd.good (k:Kd):Bool:=k.noOwn&& k.ch.leafy
inductive Sh where
 |pur (kd:Kd)
 |own (k:Kd)
 |row (k:Kd)
 |rows (s:Sh)
 |nrw (s:Sh)
 |box (l:Sh)
 |agg (l:Sh)
 |fn (f:Fn) (n:Nat) (l:Sh)
 |ign|nl
 |nil|cons (a b:Sh)
 deriving DecidableEq
@[reducible] def Sh.T:Sh->Type
 | .pur kd=>kd.T
 | .own k=>List k.T
 | .row k=>List k.T
 | .rows s=>List s.T
 | .nrw s=>List s.T
 | .box l=>l.T
 | .agg l=>l.T
 | .fn _ _ l=>l.T
 | .ign=>Unit
 | .nl=>Unit
 | .nil=>Unit
 | .cons a b=>a.T×b.T
@[reducible] def Sh.Out:Sh->Type
 | .pur _=>Unit
 | .own _=>Unit
 | .row k=>List k.T
 | .rows _=>Unit
 | .nrw s=>List s.T
 | .box l=>l.T
 | .agg l=>l.Out
 | .fn _ _ l=>l.Out
 | .ign=>Unit
 | .nl=>Unit
 | .nil=>Unit
 | .cons a b=>a.Out×b.Out
def Sh.z:(s:Sh)->s.T
 | .pur kd=>kd.z
 | .own _=>[]
 | .row _=>[]
 | .rows _=>[]
 | .nrw _=>[]
 | .box l=>l.z
 | .agg l=>l.z
 | .fn _ _ l=>l.z
 | .ign=>()
 | .nl=>()
 | .nil=>()
 | .cons a b=>(a.z,b.z)
def Sh.zo:(s:Sh)->s.Out
 | .pur _=>()
 | .own _=>()
 | .row _=>[]
 | .rows _=>()
 | .nrw _=>[]
 | .box l=>l.z
 | .agg l=>l.zo
 | .fn _ _ l=>l.zo
 | .ign=>()
 | .nl=>()
 | .nil=>()
 | .cons a b=>(a.zo,b.zo)
def Sh.m:Sh->Nat
 | .own _| .row _| .rows _| .nrw _=>1
 | .box l=>l.m+1
 | .agg l=>l.m
 | .fn _ _ l=>l.m
 | .cons a b=>a.m+b.m
 |_=>0
def Sh.len:Sh->Nat
 | .cons _ b=>b.len+1
 |_=>0
def Sh.fresh:Sh->Bool
 | .pur kd=>kd.allOwn
 | .own k| .row k=>k.allOwn
 | .rows s=>s.fresh
 | .nrw s=>s.fresh
 | .box l| .agg l| .fn _ _ l=>l.fresh
 | .cons a b=>a.fresh&& b.fresh
 |_=>true
def Sh.freshOut:Sh->Bool
 | .row k=>k.allOwn
 | .nrw s=>s.fresh
 | .box l=>l.fresh
 | .agg l| .fn _ _ l=>l.freshOut
 | .cons a b=>a.freshOut&& b.freshOut
 |_=>true
def Sh.w:Sh->Nat
 | .cons _ b=>b.w+1
 | .nil=>0
 |_=>1
def Sh.one:Sh->Bool
 | .cons _ _| .nil=>false
 |_=>true
def Sh.chn:Sh->Bool
 | .nil=>true
 | .cons _ b=>b.chn
 |_=>false
def Sh.elem:Sh->Bool
 | .pur kd=>kd.noOwn&& !kd.isSt
 | .own k=>k.good
 | .rows s=>s.elem
 | .nil=>true
 | .cons a b=>(a.one&& b.chn)&& a.elem&& b.elem
 |_=>false
def Sh.kd:Sh->Kd
 | .pur k=>k
 | .own k=> .sl false k
 | .rows s=> .sl false s.kd
 | .cons a b=> .cons a.kd b.kd
 |_=> .nil
def Sh.kd_T:(s:Sh)->s.elem=true->s.kd.T=s.T
 | .pur _,_=>rfl
 | .own _,_=>rfl
 | .rows s,h=>by
  have:=Sh.kd_T s h;simp only[Sh.kd,Kd.T,Sh.T,this]
 | .nil,_=>rfl
 | .cons a b,h=>by
  simp only[Sh.elem,a0e]at h;have c:=Sh.kd_T a h.1.2;have d:=Sh.kd_T b h.2;simp only[Sh.kd,Kd.T,Sh.T,c,d]
 | .row _,h=>by simp[Sh.elem]at h
 | .nrw _,h=>by simp[Sh.elem]at h
 | .box _,h=>by simp[Sh.elem]at h
 | .agg _,h=>by simp[Sh.elem]at h
 | .fn _ _ _,h=>by simp[Sh.elem]at h
 | .ign,h=>by simp[Sh.elem]at h
 | .nl,h=>by simp[Sh.elem]at h
def L4 (s:Sh) (h:s.elem=true) (l:List s.T):List s.kd.T:=cast (a1v List (Sh.kd_T s h).symm) l
inductive SV where
 |v (k:Kd) (x:k.T)
 |lb (b:Bool)
 |dead
 |agg (l:List SV)
 |nils
 |wh (d j ver:Nat) (path:List (Nat×Nat))
 |os (d j ver:Nat) (path:List (Nat×Nat)) (off len:Nat)
 |bp (d j c:Nat)
 |rp (d j ver:Nat) (path:List (Nat×Nat)) (e c:Nat)
 |ip (k:Kd) (x:k.T)
 |fn (f:Fn) (first capt:List SV)
 |tup (l:List SV)
inductive OB where
 |box (cells:List SV)
 |row (k:Kd) (ver:Nat) (l:List k.T)
 |frow (k:Kd) (ver:Nat) (l:List k.T)
 |nrow (s:Sh) (l:List s.T) (foc:Option (Nat×List SV))
 |lrow (n:Nat)
abbrev OW:=List (List (Option OB))
structure St where
 sl:List SV
 ow:OW
inductive ba (β:Type):Type 1 where
 |ret (b:β)
 |fail
 |chk (c:Bool) (k:ba β)
 |bnd {γ:Type} (z:γ) (m:Option γ) (f:γ->ba β)
 |amb (c:Bool) (f g:ba β)
 |ite (c:Bool) (f g:ba β)
open Classical in
def nh {α:Type} (x y:Option α):Option α:=if x=y then x else none
@[simp] theorem vS {α:Type} (x:Option α):nh x x=x:=by simp[nh]
def Rt (n:Nat) (c:Bool):Bool:=Nat.rec c (λ_ _=>c) n
def Ru {α:Type} (n:Nat) (m:Option α):Option α:=Nat.rec m (λ_ _=>m) n
def br {α:Type} (n:Nat) (c:Bool) (x y:Option α):Option α:=cond (Rt n c) x y
def bd {α β:Type} (n:Nat) (m:Option β) (f:β->Option α):Option α:=(Ru n m).bind f
def jn {α β:Type} (n:Nat) (f:β->Option α) (y:β):Option α:=Nat.rec (f y) (λ_ _=>f y) n
def ni {β:Type} (n:Nat) (f:β->Option α) (y:β):jn n f y=f y:=by cases n<;>rfl
def ek (n:Nat) (c:Bool) (x y:Option α):br n c x y=cond c x y:=by cases n<;>rfl
def DE {β:Type} (n:Nat) (m:Option β) (f:β->Option α):bd n m f=m.bind f:=by cases n<;>rfl
def ba.run {α β:Type} (n:Nat):ba β->(β->Option α)->Option α
 | .ret b,k=>k b
 | .fail,_=>none
 | .chk c t,k=>br n c (t.run n k) none
 | .bnd _ m f,k=>bd n m λy=>(f y).run n k
 | .amb c f g,k=>br n c (nh (f.run n k) (g.run n k)) (g.run n k)
 | .ite c f g,k=>br n c (f.run n k) (g.run n k)
def ba.bind {β γ:Type}:ba β->(β->ba γ)->ba γ
 | .ret b,k=>k b
 | .fail,_=> .fail
 | .chk c t,k=> .chk c (t.bind k)
 | .bnd z m f,k=> .bnd z m λy=>(f y).bind k
 | .amb c f g,k=> .amb c (f.bind k) (g.bind k)
 | .ite c f g,k=> .ite c (f.bind k) (g.bind k)
def ba.ofOpt {β:Type}:Option β->ba β
 |some b=> .ret b
 |none=> .fail
def cj (ow:OW) (d j:Nat):Option OB:=
 match ow[d]? with
 |some l=>(match l[j]? with|some o=>o|none=>none)
 |none=>none
def bw (ow:OW) (d j:Nat) (o:Option OB):OW:=
 match ow[d]? with
 |some l=>ow.set d (l.set j o)
 |none=>ow
def bX (ow:OW) (d:Nat) (l:List OB):Option OW:=
 match l with
 |[]=>some ow
 |_=>(match ow[d]? with
  |some []=>some (ow.set d (l.map some))
  |_=>none)
def PL:(k:Kd)->k.T->k.ch.T
 | .int _,x=>(x,())
 | .bool,x=>(x,())
 | .str,x=>(x,())
 | .err,x=>(x,())
 | .any,x=>(x,())
 | .sl _ _,x=>(x,())
 | .nil,x=>x
 | .cons _ _,x=>x
 | .tree _,x=>(x,())
def jx:(k:Kd)->k.T->Nat->Option (Sigma Kd.T)
 |k,x,0=>some ⟨k,x⟩
 | .cons _ b,x,c+1=>jx b x.2 c
 |_,_,_+1=>none
def de:(k:Kd)->k.T->(c:Kd)->c.T->Option k.T
 |k,x,.nil,_=>some x
 | .cons a b,x,.cons a' b',y=>if h:a'=a then(match de b x.2 b' y.2 with|some r=>some (h▸y.1,r)|none=>none)else none
 |_,_,_,_=>none
def mi:(k:Kd)->k.T->Nat->(a:Kd)->a.T->Option k.T
 |k,x,0,a,y=>de k x a y
 | .cons _ b,x,c+1,a,y=>(match mi b x.2 c a y with|some r=>some (x.1,r)|none=>none)
 |_,_,_+1,_,_=>none
def vT:(k:Kd)->k.ch.T->k.T
 | .int _,x=>x.1
 | .bool,x=>x.1
 | .str,x=>x.1
 | .err,x=>x.1
 | .any,x=>x.1
 | .sl _ _,x=>x.1
 | .nil,x=>x
 | .cons _ _,x=>x
 | .tree _,x=>x.1
def lO:Kd->Nat->Option Kd
 |_,0=>some .nil
 | .cons a b,n+1=>(match lO b n with|some r=>some (.cons a r)|none=>none)
 |_,_+1=>none
def mj:(k:Kd)->k.T->List SV
 | .cons a b,x=> .v a x.1::mj b x.2
 |_,_=>[]
def PM (k:Kd) (x:k.T):SV:=if k.isSt then .agg (mj k x)else .v k x
def aM {α:Type} (l:List α) (off len:Nat):List α:=(l.drop off).take len
section
variable (P:Program)
def d5 (t:TypeId):Option TypeDesc:=P.underlying t
def dO (t:TypeId):Bool:=match d5 P t with|some (.struct _)|some (.array _ _)=>true|_=>false
def cR (t:TypeId):Nat:=P.cellsOf t
def c8 (t:TypeId):Nat:=P.bytesOf t
def Kd.app:Kd->Kd->Kd
 | .cons a b,c=> .cons a (b.app c)
 |_,c=>c
def lD:Nat->TypeId->Option Kd
 |0,_=>none
 |f+1,t=>
  match d5 P t with
  |some (.int k)=>some (.int k)
  |some .bool=>some .bool
  |some .string=>some .str
  |some (.slice e)=>(match lD f e with|some k=>some (.sl false k)|none=>none)
  |some (.struct fs)=>fs.toList.foldr (λx a=>match lD f x.type,a with|some k,some r=>some (k.ch.app r)|_,_=>none) (some .nil)
  |some (.interface ms)=>if ms.size=0 then some .any else some .err
  |_=>none
def Kd.own:Kd->Kd
 | .sl _ e=> .sl true e.own
 | .cons a b=> .cons a.own b.own
 |k=>k
def PN (t:TypeId):Option Kd:=
 match d5 P t with
 |some (.pointer s)=>
  (match d5 P s with
  |some (.struct fs)=>
   (match fs.toList.getLast? with
   |some f=>(match d5 P f.type with
    |some (.slice e)=>if e=t then(match fs.toList.dropLast.foldr (λx b=>match lD P 8 x.type,b with|some k,some r=>some (k.ch.app r)|_,_=>none) (some .nil)with|some a=>if a.leafy then some (.tree a)else none|none=>none)else none
    |_=>none)
   |none=>none)
  |_=>none)
 |_=>none
def PO (t:TypeId):Option Kd:=match lD P 16 t with|some k=>some k|none=>PN P t
def lP (t:TypeId):Option TypeId:=match d5 P t with|some (.slice e)=>some e|_=>none
def pZ (t:TypeId) (j:Nat):Option Field:=match d5 P t with|some (.struct fs)=>fs[j]?|_=>none
end
def nK:Nat->Value->SV
 |_,.bool b=> .lb b
 |_,.int k n=> .v (.int k) n
 |_,.string s=> .v .str s.data.toList
 |_,.slice none 0 0=> .nils
 |_,.nilIface=> .v .err false
 |f+1,.agg cs=> .agg (cs.toList.map (nK f))
 |f+1,.func g a b=> .fn g (a.toList.map (nK f)) (b.toList.map (nK f))
 |_,_=> .dead
def vU {a b:Kd} (h:a=b) (l:List a.T):List b.T:=h▸l
def Ay {a b:Sh} (h:a=b) (l:List a.T):List b.T:=h▸l
def L5 {a b:Kd} (h:a=b) (x:a.T):b.T:=h▸x
def nL (ow:OW) (d j:Nat) (a:List (Nat×Nat)):Option (Sigma λk:Kd=>List k.T):=
 match a,cj ow d j with
 |[],some (.row k _ l)=>some ⟨k,l⟩
 |[],some (.frow k _ l)=>some ⟨k,l⟩
 |_,_=>none
def zn (ow:OW) (d j:Nat) (a:List (Nat×Nat)):Option (Nat×Nat):=
 match a,cj ow d j with
 |[],some (.row k _ l)=>some (k.n,l.length)
 |[],some (.frow k _ l)=>some (k.n,l.length)
 |[],some (.nrow s l _)=>some (s.w,l.length)
 |_,_=>none
def nM (ow:OW) (d j:Nat) (a:List (Nat×Nat)):Option (Sigma λs:Sh=>List s.T):=
 match a,cj ow d j with
 |[],some (.nrow s l none)=>some ⟨s,l⟩
 |_,_=>none
def vV:(s:Sh)->s.T->List SV
 | .pur kd,x=>[.v kd x]
 | .nil,_=>[]
 | .cons a b,x=>vV a x.1++vV b x.2
 |_,_=>[.dead]
def k6 (ow:OW):SV->Option (Sigma λk:Kd=>List k.T)
 | .wh d j _ path=>nL ow d j path
 | .os d j _ path off len=>(match nL ow d j path with|some r=>some ⟨r.1,aM r.2 off len⟩|none=>none)
 |_=>none
def jP:SV->Option (Nat×Nat)
 | .wh d j _ _=>some (d,j)
 | .os d j _ _ _ _=>some (d,j)
 |_=>none
def nN (ow:OW) (d j:Nat):Bool:=match cj ow d j with|some (.row _ _ _)=>true|_=>false
def Az (ow:OW) (d j:Nat):OW:=
 match cj ow d j with
 |some (.row k ver l)=>bw ow d j (some (.frow k ver l))
 |_=>ow
def Ge (ow:OW) (d j:Nat):OW:=
 match nM ow d j []with
 |some r=>if hs:r.1.elem=true then bw ow d j (some (.frow r.1.kd 0 (L4 r.1 hs r.2)))else ow
 |none=>ow
def Kd.nodeK (a:Kd):Kd:=a.app (.cons (.sl false (.tree a)) .nil)
def PP:(a:Kd)->a.T->(b:Kd)->b.T->(a.app b).T
 | .cons _ r,x,b,y=>(x.1,PP r x.2 b y)
 | .int _,_,_,y=>y
 | .bool,_,_,y=>y
 | .str,_,_,y=>y
 | .err,_,_,y=>y
 | .any,_,_,y=>y
 | .sl _ _,_,_,y=>y
 | .nil,_,_,y=>y
 | .tree _,_,_,y=>y
def Gf (a:Kd) (x:cg a.T):a.nodeK.T:=PP a x.lab (.cons (.sl false (.tree a)) .nil) (x.kids,())
def eS (k:Kd) (s:SV) (ow:OW):Option (k.T×OW):=
 match s with
 | .v k' x=>if h:k'=k then some (L5 h x,ow)else none
 | .lb b=>(match k with| .bool=>some (b,ow)|_=>none)
 | .nils=>(match k with| .sl false _=>some ([],ow)|_=>none)
 |s=>(match k with
  | .sl false e=>
   (match jP s,k6 ow s with
   |some (d,j),some r=>if h:r.1=e then some (vU h r.2,Az ow d j)else none
   |some (d,j),none=>(match k6 (Ge ow d j) s with|some r=>if h:r.1=e then some (vU h r.2,Ge ow d j)else none|none=>none)
   |_,_=>none)
  |_=>none)
def bI:(k:Kd)->List SV->OW->Option (k.T×OW)
 | .cons a b,s::r,ow=>
  (match eS a s ow with
  |some x=>(match bI b r x.2 with|some y=>some ((x.1,y.1),y.2)|none=>none)
  |none=>none)
 | .nil,[],ow=>some ((),ow)
 |_,_,_=>none
def iT (ow:OW) (d j:Nat):Bool:=match cj ow d j with|some (.box _)=>true|_=>false
def r9 (a:Kd) (d j c:Nat) (ow:OW):Option (cg a.T×OW):=
 match cj ow d j with
 |some (.box cells)=>
  (match bI a (cells.take a.n) ow with
  |some x=>
   (match eS (.sl false (.tree a)) (cells.getD a.n .dead) x.2 with
   |some y=>if c=0/\cells.length=a.n+1/\iT y.2 d j then some (.node x.1 y.1,bw y.2 d j (some (.lrow 0)))else none
   |none=>none)
  |none=>none)
 |_=>none
def vz:(k:Kd)->SV->OW->Option (k.T×OW)
 | .tree a,.bp d j c,ow=>r9 a d j c ow
 | .tree a,s,ow=>eS (.tree a) s ow
 | .int k,s,ow=>eS (.int k) s ow
 | .bool,s,ow=>eS .bool s ow
 | .str,s,ow=>eS .str s ow
 | .err,s,ow=>eS .err s ow
 | .any,s,ow=>eS .any s ow
 | .sl o e,s,ow=>eS (.sl o e) s ow
 | .nil,s,ow=>eS .nil s ow
 | .cons a b,s,ow=>eS (.cons a b) s ow
def tK (k:Kd) (s:SV) (ow:OW):Option (k.T×OW):=if k.isSt then(match s with| .agg l=>bI k l ow|_=>none)else vz k s ow
def iz:Option OB->Option OB->Option OB
 |some (.row k v l),some (.frow _ _ _)=>some (.row k v l)
 |some (.nrow s l none),some (.frow _ _ _)=>some (.nrow s l none)
 |_,n=>n
def vW:List (Option OB)->List (Option OB)->List (Option OB)
 |o::os,n::ns=>iz o n::vW os ns
 |_,ns=>ns
def nO:OW->OW->OW
 |o::os,n::ns=>vW o n::nO os ns
 |_,ns=>ns
end Go.Pev
namespace Go.Pev
def qH (k:Kd) (v:SV) (ow:OW):Option (List k.T×OW):=
 match jP v,k6 ow v with
 |some (d,j),some r=>if nN ow d j then(if h:r.1=k then some (vU h r.2,bw ow d j none)else none)else none
 |_,_=>none
def gi (s:Sh) (f:List SV->OW->Option (s.T×OW)) (ow:OW) (d j:Nat):Option OW:=
 match cj ow d j with
 |some (.nrow s' l foc)=>
  if s'=s then
   (match foc with
   |none=>some ow
   |some p=>
    (match f p.2 ow with
    |some x=>
     (match cj x.2 d j with
     |some (.nrow s2 l2 _)=>if h:s2=s then some (bw x.2 d j (some (.nrow s ((Ay h l2).set p.1 x.1) none)))else none
     |_=>none)
    |none=>none))
  else none
 |_=>none
def nP (s:Sh) (v:SV) (ow:OW):Option (List s.T×OW):=
 match v with
 | .wh d j _ []=>
  (match cj ow d j with
  |some (.nrow s' l none)=>if h:s'=s then some (Ay h l,bw ow d j none)else none
  |_=>none)
 | .os d j _ [] off len=>
  (match cj ow d j with
  |some (.nrow s' l none)=>if h:s'=s then some (aM (Ay h l) off len,bw ow d j none)else none
  |_=>none)
 |_=>none
def pk:(s:Sh)->List SV->OW->Option (s.T×OW)
 | .pur kd,[v],ow=>tK kd v ow
 | .own k,[v],ow=>(match v with| .nils=>if k.good then some ([],ow)else none|v=>qH k v ow)
 | .row k,[v],ow=>(match v with| .wh d j ver path=>qH k (.wh d j ver path) ow|_=>none)
 | .rows s,[v],ow=>
  (match v with
  | .nils=>if s.elem then some ([],ow)else none
  |v=>
   (match jP v with
   |some (d,j)=>(match gi s (pk s) ow d j with|some ow1=>nP s v ow1|none=>none)
   |none=>none))
 | .nrw s,[v],ow=>
  (match v with
  | .wh d j ver path=>(match gi s (pk s) ow d j with|some ow1=>nP s (.wh d j ver path) ow1|none=>none)
  |_=>none)
 | .box l,[.bp d j c],ow=>
  (match cj ow d j with
  |some (.box cells)=>if c=0/\cells.length=l.len then pk l cells (bw ow d j none)else none
  |_=>none)
 | .agg l,[.agg cs],ow=>pk l cs ow
 | .fn f n l,[.fn g a b],ow=>if f=g/\a.length=n then pk l (a++b) ow else none
 | .ign,[_],ow=>some ((),ow)
 | .nl,[.nils],ow=>some ((),ow)
 | .nil,[],ow=>some ((),ow)
 | .cons a b,v::r,ow=>
  (match pk a [v] ow with
  |some x=>(match pk b r x.2 with|some y=>some ((x.1,y.1),y.2)|none=>none)
  |none=>none)
 |_,_,_=>none
def vA (ow:OW) (v:SV):OW:=
 match jP v with
 |some (d,j)=>
  (match cj ow d j with
  |some (.nrow s _ (some _))=>(match gi s (pk s) ow d j with|some ow1=>ow1|none=>ow)
  |_=>ow)
 |none=>ow
def DF:SV->List SV
 | .agg l=>l
 |v=>[v]
def kn (l:List SV) (ow:OW):OW:=(l.flatMap DF).foldl vA ow
def bK (d:Nat):(s:Sh)->s.T->Nat->List SV×List OB
 | .pur kd,x,_=>([PM kd x],[])
 | .own k,l,j=>([.wh d j 0 []],[.row k 0 l])
 | .row k,l,j=>([.wh d j 0 []],[.row k 0 l])
 | .rows s,l,j=>([.wh d j 0 []],[.nrow s l none])
 | .nrw s,l,j=>([.wh d j 0 []],[.nrow s l none])
 | .box l,x,j=>let r:=bK d l x (j+1);([.bp d j 0],.box r.1::r.2)
 | .agg l,x,j=>let r:=bK d l x j;([.agg r.1],r.2)
 | .fn f n l,x,j=>let r:=bK d l x j;([.fn f (r.1.take n) (r.1.drop n)],r.2)
 | .ign,_,_=>([.dead],[])
 | .nl,_,_=>([.nils],[])
 | .nil,_,_=>([],[])
 | .cons a b,x,j=>let r:=bK d a x.1 j;let s:=bK d b x.2 (j+r.2.length);(r.1++s.1,r.2++s.2)
def Sh.noOuts:Sh->Bool
 | .row _| .nrw _| .box _=>false
 | .agg l| .fn _ _ l=>l.noOuts
 | .cons a b=>a.noOuts&& b.noOuts
 |_=>true
def eT (d:Nat) (e:OW):(s:Sh)->List SV->s.Out->OW×List OB->Option (OW×List OB)
 | .row k,[.wh dd j _ _],y,st=>
  (match cj e dd j with
  |some (.row k' ver _)=>if k'=k then some (bw st.1 dd j (some (.row k (ver+1) y)),st.2)else none
  |_=>none)
 | .nrw s,[.wh dd j _ _],y,st=>
  (match cj e dd j with
  |some (.nrow s' _ none)=>if s'=s then some (bw st.1 dd j (some (.nrow s y none)),st.2)else none
  |_=>none)
 | .box l,[.bp dd j c],y,st=>
  (match cj e dd j with
  |some (.box _)=>if c=0 then some (bw st.1 dd j (some (.box (bK d l y st.2.length).1)),st.2++(bK d l y st.2.length).2)else none
  |_=>none)
 | .agg l,[.agg cs],y,st=>eT d e l cs y st
 | .fn _ _ l,[.fn _ a b],y,st=>eT d e l (a++b) y st
 | .cons a b,v::r,y,st=>if a.noOuts then eT d e b r y.2 st else(match eT d e a [v] y.1 st with|some st=>eT d e b r y.2 st|none=>none)
 | .pur _,[_],_,st=>some st
 | .own _,[_],_,st=>some st
 | .rows _,[_],_,st=>some st
 | .ign,[_],_,st=>some st
 | .nl,[_],_,st=>some st
 | .nil,[],_,st=>some st
 |_,_,_,_=>none
def gx:(s:Sh)->List SV->OW->Option (s.Out×OW)
 | .row k,l,ow=>pk (.row k) l ow
 | .nrw s,l,ow=>pk (.nrw s) l ow
 | .box s,l,ow=>pk (.box s) l ow
 | .agg l,[.agg cs],ow=>gx l cs ow
 | .fn f n l,[.fn g a b],ow=>if f=g/\a.length=n then gx l (a++b) ow else none
 | .cons a b,v::r,ow=>
  if a.noOuts then(match gx b r ow with|some y=>some ((a.zo,y.1),y.2)|none=>none)else
  (match gx a [v] ow with
  |some x=>(match gx b r x.2 with|some y=>some ((x.1,y.1),y.2)|none=>none)
  |none=>none)
 | .pur _,[_],ow=>some ((),ow)
 | .own _,[_],ow=>some ((),ow)
 | .rows _,[_],ow=>some ((),ow)
 | .ign,[_],ow=>some ((),ow)
 | .nl,[_],ow=>some ((),ow)
 | .nil,[],ow=>some ((),ow)
 |_,_,_=>none
structure iR where
 args:Sh
 res:Sh
 den:args.T->Option (res.T×args.Out)
 al:List (Nat×Nat×Nat×List Nat)
def sd (ow:OW):SV->List Nat->Option SV
 |s,[]=>some s
 | .bp d j c,i::r=>(match cj ow d j with|some (.box cells)=>(match cells[c+i]? with|some s=>sd ow s r|none=>none)|_=>none)
 |_,_=>none
def nQ (ow:OW) (s:SV) (c:Nat) (p:List Nat):Option SV:=
 match s with
 | .fn _ a b=>(match(a++b)[c]? with|some s=>sd ow s p|none=>none)
 |_=>none
def Pt (ow:OW) (d j:Nat):Bool:=match cj ow d j with|some (.box _)=>true|_=>false
def vX (ow:OW):SV->SV->Bool
 | .bp d j c,.bp d' j' c'=>d==d'&& j==j'&& c==c'&& Pt ow d j
 |_,_=>false
def L6 (a:List SV) (ow:OW) (q:Nat×Nat×Nat×List Nat):Bool:=
 match a[q.1]?,a[q.2.1]? with
 |some s,some t=>(match nQ ow t q.2.2.1 q.2.2.2 with|some s'=>vX ow s s'|none=>false)
 |_,_=>false
def Ob (a:List (Nat×Nat×Nat×List Nat)) (b:List SV) (ow:OW):Bool:=a.all (L6 b ow)
def L7 (ow:OW):List (Nat×Nat×Nat×List Nat)->List SV->List SV
 |[],sl=>sl
 |q::r,sl=>L7 ow r (match sl[q.2.1]? with|some t=>(match nQ ow t q.2.2.1 q.2.2.2 with|some s=>sl.set q.1 s|none=>sl)|none=>sl)
def L8 (a:List (Nat×Nat×Nat×List Nat)) (st:St):St:=⟨L7 st.ow a st.sl,st.ow⟩
structure N9 where
 keys:List (Nat×Nat):=[]
 draws:List (Nat×List (List Nat×Bool)):=[]
structure gI where
 P:Program
 sigs:List (FuncId×List iR)
 fuel:Nat
 deep:List (Nat×Sh)
 inl:List (FuncId×List (Nat×N9))
def gI.deepOf (C:gI) (d:Nat):Option Sh:=match C.deep.find? (λx=>x.1==d)with|some x=>some x.2|none=>none
def gI.sigsOf (C:gI) (f:FuncId):List iR:=match C.sigs.find? (λx=>x.1==f)with|some x=>x.2|none=>[]
structure F6 where
 loops:List (Nat×List (Nat×Sh)):=[]
 joins:List (Nat×List (Nat×Kd)):=[]
 keys:List (Nat×List (List Nat×Bool)):=[]
 heads:List (Nat×List (Nat×Sh)):=[]
 al:List (Nat×Nat×Nat×List Nat):=[]
 lal:List (Nat×Nat×Nat×List Nat):=[]
def vY:SV->Bool
 | .agg _| .tup _| .dead=>false
 |_=>true
def fQ (P:Program) (t:TypeId) (s:SV):Option (List SV):=
 if dO P t then(match s with| .agg l=>if l.length=cR P t&& l.all vY then some l else none|_=>none)
 else if vY s&& cR P t=1 then some [s]else none
def dy (P:Program) (t:TypeId) (l:List SV):Option SV:=
 match d5 P t with
 |none=>none
 |some _=>
  if dO P t then(if 0<cR P t/\cR P t<=l.length then some (.agg (l.take (cR P t)))else none)
  else(match l with|s::_=>some s|[]=>none)
def se (P:Program) (t:TypeId) (p:SV) (ow:OW):ba SV:=
 match p with
 | .bp d j c=>(match cj ow d j with|some (.box cells)=> .ofOpt (dy P t (cells.drop c))|_=> .fail)
 | .rp d j _ path e c=>
  (match nL ow d j path with
  |some r=> .bnd r.1.z r.2[e]? λx=>(match jx r.1.ch (PL r.1 x) c with|some y=> .ofOpt (dy P t (mj y.1 y.2))|none=> .fail)
  |none=>(match nM ow d j path with|some r=> .bnd r.1.z r.2[e]? λx=> .ofOpt (dy P t ((vV r.1 x).drop c))|none=> .fail))
 | .ip k x=> .ofOpt (dy P t (mj k x))
 | .v (.tree a) x=>if a.leafy then .ofOpt (dy P t (mj a.nodeK (Gf a x)))else .fail
 |_=> .fail
def jy (a:List SV) (c:Nat) (b:List SV):Option (List SV):=if c+b.length<=a.length then some (a.take c++b++a.drop (c+b.length))else none
def Iq (k:Kd) (c n:Nat):Option Kd:=match jx k.ch (PL k k.z) c with|some y=>lO y.1 n|none=>none
def BP (P:Program) (t:TypeId) (p s:SV) (ow:OW):ba OW:=
 match fQ P t s with
 |none=> .fail
 |some new=>
  (match p with
  | .bp d j c=>
   (match cj ow d j with
   |some (.box cells)=>(match jy cells c new with|some cells'=> .ret (bw ow d j (some (.box cells')))|none=> .fail)
   |_=> .fail)
  | .rp d j _ [] e c=>
   (match cj ow d j with
   |some (.row k ver l)=>
    (match Iq k c new.length with
    |some kt=>
     (match bI kt new ow with
     |some y=>
      (match cj y.2 d j with
      |some (.row k' ver' l')=>
       if h:k'=k then .bnd k.z (vU h l')[e]? λx=>
        (match mi k.ch (PL k x) c kt y.1 with
        |some x'=> .ret (bw y.2 d j (some (.row k ver' ((vU h l').set e (vT k x')))))
        |none=> .fail)
       else .fail
      |_=> .fail)
     |none=> .fail)
    |none=> .fail)
   |_=> .fail)
  |_=> .fail)
def k8 (P:Program) (t:TypeId) (p:SV) (f:Nat) (ow:OW):ba SV:=
 match pZ P t f with
 |none=> .fail
 |some fd=>if cR P fd.type=0 then .fail else
  (match p with
  | .bp d j c=>if iT ow d j then .ret (.bp d j (c+fd.offset))else .fail
  | .rp d j ver path e c=>(match zn ow d j path with|some _=> .ret (.rp d j ver path e (c+fd.offset))|none=> .fail)
  | .ip k x=>(match jx k x fd.offset with|some y=> .ret (.ip y.1 y.2)|none=> .fail)
  | .v (.tree a) x=>if a.leafy then(match jx a.nodeK (Gf a x) fd.offset with|some y=> .ret (.ip y.1 y.2)|none=> .fail)else .fail
  |_=> .fail)
def jm (P:Program) (t:TypeId) (n:Nat):Bool:=
 match d5 P t with
 |some (.slice e)=>(match P.info? e with|some i=>i.size==n|none=>false)
 |_=>false
def nR (P:Program) (t:TypeId) (x i:SV) (ow:OW):ba SV:=
 match i with
 | .v (.int _) n=>
  (match x with
  | .v (.sl _ e) l=>if e.ch.leafy&& jm P t e.n then .chk (decide (0<=n)) (.bnd e.z l[n.toNat]? λy=> .ret (.ip e.ch (PL e y)))else .fail
  | .wh d j ver path=>(match zn ow d j path with|some r=>if jm P t r.1 then .chk (decide (0<=n/\n<r.2)) (.ret (.rp d j ver path n.toNat 0))else .fail|none=> .fail)
  | .os d j ver path off len=>(match zn ow d j path with|some r=>if jm P t r.1 then .chk (decide (0<=n/\n<len)) (.ret (.rp d j ver path (off+n.toNat) 0))else .fail|none=> .fail)
  |_=> .fail)
 |_=> .fail
def DG {α:Type} (l:List α) (c d:Option Int):List α:=
 match c,d with
 |none,none=>l
 |some a,none=>l.drop a.toNat
 |none,some b=>l.take b.toNat
 |some a,some b=>(l.take b.toNat).drop a.toNat
def qI (n:Nat) (c d:Option Int):Bool:=
 match c,d with
 |none,none=>true
 |some a,none=>decide (0<=a/\a<=n)
 |none,some b=>decide (0<=b/\b<=n)
 |some a,some b=>decide (0<=a/\a<=b/\b<=n)
def BQ:Option SV->Option (Option Int)
 |none=>some none
 |some (.v (.int _) n)=>some (some n)
 |_=>none
def lE (P:Program) (t:TypeId):Bool:=match d5 P t with|some .string=>true|_=>false
def BR (P:Program) (t:TypeId) (x:SV) (c f:Option SV) (ow:OW):ba SV:=
 match BQ c,BQ f with
 |some a,some b=>
  (match x with
  | .v .str s=>if lE P t then .chk (qI s.length a b) (.ret (.v .str (DG s a b)))else .fail
  | .v (.sl o e) l=>if jm P t e.n then .chk (qI l.length a b) (.ret (.v (.sl o e) (DG l a b)))else .fail
  | .wh d j ver path=>(match zn ow d j path with|some r=>if jm P t r.1 then .chk (qI r.2 a b) (.ret (.os d j ver path (a.getD 0).toNat ((b.getD r.2).toNat-(a.getD 0).toNat)))else .fail|none=> .fail)
  | .os d j ver path off len=>(match zn ow d j path with|some r=>if jm P t r.1 then .chk (qI len a b) (.ret (.os d j ver path (off+(a.getD 0).toNat) ((b.getD len).toNat-(a.getD 0).toNat)))else .fail|none=> .fail)
  |_=> .fail)
 |_,_=> .fail
def gj (P:Program) (t:TypeId):Bool:=match d5 P t with|some (.slice _)=>true|_=>false
def Pu (ow:OW) (d j:Nat):Option Nat:=
 match cj ow d j with
 |some (.lrow n)=>some n
 |_=>none
def L9 (P:Program) (t:TypeId) (x:SV) (ow:OW):ba SV:=
 match x with
 | .v .str s=>if lE P t then .ret (.v (.int .i64) s.length)else .fail
 |x=>if gj P t then(match x with
  | .v (.sl _ _) l=> .ret (.v (.int .i64) l.length)
  | .nils=> .ret (.v (.int .i64) 0)
  | .wh d j _ path=>(match zn ow d j path with|some r=> .ret (.v (.int .i64) r.2)|none=>(match Pu ow d j with|some n=> .ret (.v (.int .i64) n)|none=> .fail))
  | .os d j _ path _ len=>(match zn ow d j path with|some _=> .ret (.v (.int .i64) len)|none=> .fail)
  |_=> .fail)else .fail
def ag:Nat:=140737488355328
def qJ (k:Kd) (x:SV) (ow:OW):Option (List k.T):=
 match x with
 | .nils=>some []
 | .v (.sl _ k') l=>if h:k'=k then some (vU h l)else none
 |x=>(match k6 ow x with|some r=>if h:r.1=k then some (vU h r.2)else none|none=>none)
def PQ (ow:OW) (x:SV):Option Kd:=
 match x with
 | .v (.sl _ k) _=>some k
 |x=>(match k6 ow x with|some r=>some r.1|none=>none)
def ko (P:Program) (e:TypeId) (k:Kd):Bool:=k.good&& decide (0<k.n)&& decide (k.n=cR P e)&& decide (0<c8 P e)&& (match(P.info? e).bind (·.zero)with|some z=>decide (z.cells.size=k.n)|none=>false)
def dE:Kd->List Value->Bool
 | .int k,[.int k' n]=>k==k'&& n==0
 | .bool,[.bool b]=> !b
 | .str,[.string s]=>s.data.size==0
 | .err,[.nilIface]=>true
 | .sl false _,[.slice none 0 0]=>true
 | .nil,[]=>true
 | .cons a b,v::r=> !a.isSt&& dE a [v]&& dE b r
 |_,_=>false
def Gg (P:Program) (e:TypeId) (k:Kd):Bool:=match(P.info? e).bind (·.zero)with|some z=>dE k z.cells.toList|none=>false
def Gi (ow:OW) (d j:Nat):OW:=
 match cj ow d j with
 |some (.row _ _ l)=>bw ow d j (some (.lrow l.length))
 |some (.nrow _ l _)=>bw ow d j (some (.lrow l.length))
 |_=>bw ow d j none
def vZ (P:Program) (t:TypeId) (s x:SV) (ow:OW) (d:Nat):ba (SV×OW):=
 match lP P t with
 |none=> .fail
 |some e=>
  (match s with
  | .nils=>
   (match x with
   | .nils=>if(P.info? e).isSome then .ret (.nils,ow)else .fail
   |x=>
    (match PQ ow x with
    |some k=>(match qJ k x ow with
     |some y=>if ko P e k then .chk (decide (y.length*c8 P e<=ag)) (match bX ow d [.row k 0 y]with|some ow'=> .ret (.wh d 0 0 [],ow')|none=> .fail)else .fail
     |none=> .fail)
    |none=> .fail))
  |s=>
   (match jP s,k6 ow s with
   |some (dd,j),some b=>if nN ow dd j then
    (match qJ b.1 x ow with
    |some y=>if ko P e b.1 then .chk (decide ((b.2.length+y.length)*c8 P e<=ag)) (match bX (Gi ow dd j) d [.row b.1 0 (b.2++y)]with|some ow'=> .ret (.wh d 0 0 [],ow')|none=> .fail)else .fail
    |none=> .fail)else .fail
   |_,_=> .fail))
def nS (P:Program) (t:TypeId) (n c:SV) (ow:OW) (d:Nat):ba (SV×OW):=
 match lP P t,n,c with
 |some e,.v (.int .i64) n,.v (.int .i64) c=>
  (match lD P 16 e with
  |some k=>if ko P e k&& Gg P e k then
   .chk (decide (0<=n/\n<=c/\c*c8 P e<=ag)) (match bX ow d [.row k 0 (List.replicate n.toNat k.z)]with|some ow'=> .ret (.wh d 0 0 [],ow')|none=> .fail)else .fail
  |none=> .fail)
 |_,_,_=> .fail
def v6 (k:Kd):List SV->OW->Option (List k.T×OW)
 |[],ow=>some ([],ow)
 |s::r,ow=>
  (match tK k s ow with
  |some x=>(match v6 k r x.2 with|some y=>some (x.1::y.1,y.2)|none=>none)
  |none=>none)
def mm (P:Program) (t:TypeId) (n:Nat) (a:List (Nat×SV)) (ow:OW) (d:Nat):ba (SV×OW):=
 match lP P t with
 |none=> .fail
 |some e=>
  (match PO P e with
  |none=> .fail
  |some k=>
   if a.map (·.1)=List.range n/\n*cR P e<=16777216/\ko P e k then
    (match v6 k (a.map (·.2)) ow with
    |some y=>(match bX y.2 d [.row k 0 y.1]with|some ow'=> .ret (.wh d 0 0 [],ow')|none=> .fail)
    |none=> .fail)
   else .fail)
def lQ (P:Program) (t:TypeId):Option (List SV):=
 match P.info? t with
 |some i=>(match i.zero with
  |some v=>if v.cells.size=i.size then some (v.cells.toList.map (nK 4))else none
  |none=>none)
 |none=>none
def Ir (P:Program) (t:TypeId):List SV->List (Nat×SV)->Option (List SV)
 |cells,[]=>some cells
 |cells,(f,s)::r=>
  (match pZ P t f with
  |some fd=>(match fQ P fd.type s with|some new=>(match jy cells fd.offset new with|some cells'=>Ir P t cells' r|none=>none)|none=>none)
  |none=>none)
def BS (P:Program) (t:TypeId) (a:List (Nat×SV)):ba SV:=
 match lQ P t,d5 P t with
 |some cells,some (.struct fs)=>if fs.toList.all (λf=>(P.info? f.type).isSome)then(match Ir P t cells a with|some r=> .ret (.agg r)|none=> .fail)else .fail
 |_,_=> .fail
def BT (P:Program) (t:TypeId) (x:SV) (f:Nat):ba SV:=
 match x,pZ P t f with
 | .agg cs,some fd=> .ofOpt (dy P fd.type (cs.drop fd.offset))
 |_,_=> .fail
def sf (P:Program) (src a:TypeId) (x:SV) (ow:OW):ba SV:=
 match d5 P src,d5 P a,x with
 |some (.int _),some (.int k),.v (.int _) n=> .ret (.v (.int k) (k.wrap n))
 |some (.slice e),some .string,x=>
  (match d5 P e with
  |some (.int .u8)=>
   (match x with
   | .nils=> .ret (.v .str [])
   | .v (.sl _ (.int .u8)) l=> .ret (.v .str (l.map λn:Int=>UInt8.ofNat n.toNat))
   |x=>(match k6 ow x with|some ⟨.int .u8,l⟩=> .ret (.v .str (l.map λn:Int=>UInt8.ofNat n.toNat))|_=> .fail))
  |_=> .fail)
 |_,_,_=> .fail
def eU (P:Program):Nat->List Field->List SV->List SV->Option Bool
 |_,[],[],[]=>some true
 |i,f::fs,a::r,b::s=>
  if f.name != "_" && f.offset==i then
   (match a,b with
   | .v (.int k) a,.v (.int k') b=>if k=k' then(match d5 P f.type with|some (.int _)=>(match eU P (i+1) fs r s with|some c=>some ((a==b)&& c)|none=>none)|_=>none)else none
   | .v .str a,.v .str b=>(match d5 P f.type with|some .string=>(match eU P (i+1) fs r s with|some c=>some ((a==b)&& c)|none=>none)|_=>none)
   | .v .bool a,.v .bool b=>(match d5 P f.type with|some .bool=>(match eU P (i+1) fs r s with|some c=>some ((a==b)&& c)|none=>none)|_=>none)
   |_,_=>none)
  else none
 |_,_,_,_=>none
def si:SV->Option Bool
 | .v .bool b=>some b
 | .lb b=>some b
 |_=>none
def Gj (op:BinOp) (k:IntKind) (a b:Int):ba SV:=
 match op with
 | .add=> .ret (.v (.int k) (k.wrap (a+b)))
 | .sub=> .ret (.v (.int k) (k.wrap (a-b)))
 | .mul=> .ret (.v (.int k) (k.wrap (a*b)))
 | .quo=> .chk (!decide (b=0)) (.ret (.v (.int k) (k.wrap (a.tdiv b))))
 | .rem=> .chk (!decide (b=0)) (.ret (.v (.int k) (a.tmod b)))
 | .and=> .ret (.v (.int k) (k.wrap (BitVec.ofInt k.bits a&&& BitVec.ofInt k.bits b).toNat))
 | .or=> .ret (.v (.int k) (k.wrap (BitVec.ofInt k.bits a|||BitVec.ofInt k.bits b).toNat))
 | .xor=> .ret (.v (.int k) (k.wrap (BitVec.ofInt k.bits a^^^BitVec.ofInt k.bits b).toNat))
 | .andNot=> .ret (.v (.int k) (k.wrap (BitVec.ofInt k.bits a&&& ~~~BitVec.ofInt k.bits b).toNat))
 | .eql=> .ret (.v .bool (a==b))
 | .neq=> .ret (.v .bool (a !=b))
 | .lss=> .ret (.v .bool (decide (a<b)))
 | .leq=> .ret (.v .bool (decide (a<=b)))
 | .gtr=> .ret (.v .bool (decide (a>b)))
 | .geq=> .ret (.v .bool (decide (a>=b)))
 |_=> .fail
def Ma:Int:=9223372036854775807
def Gk (op:BinOp) (a b:List UInt8):ba SV:=
 match op with
 | .add=> .chk (decide (((a.length+b.length:Nat):Int)<=Ma)) (.ret (.v .str (a++b)))
 | .eql=> .ret (.v .bool (a==b))
 | .neq=> .ret (.v .bool (!(a==b)))
 |_=> .fail
def v7 (P:Program) (t:TypeId):Bool:=match d5 P t with|some (.interface _)=>true|_=>false
def BU (P:Program) (t:TypeId):Bool:=match d5 P t with|some .bool=>true|_=>false
def Oc (op:BinOp) (c:Bool):Option Bool:=match op with| .eql=>some c| .neq=>some (!c)|_=>none
def Mb (op:BinOp) (c:Bool):ba SV:=match Oc op c with|some c=> .ret (.v .bool c)|none=> .fail
def BV (op:BinOp) (e:Bool):ba SV:=match op with| .eql=> .amb e (.ret (.lb true)) (.ret (.lb false))| .neq=> .amb e (.ret (.lb false)) (.ret (.lb true))|_=> .fail
def BW (ow:OW) (x:SV):Option Bool:=
 match x with
 | .v (.sl _ _) l=>some l.isEmpty
 |x=>(match k6 ow x with|some r=>some r.2.isEmpty|none=>none)
def Mc (P:Program) (op:BinOp) (t:TypeId) (d:Bool) (x y:SV) (ow:OW):ba SV:=
 match x,y with
 | .v (.int k) a,.v (.int k') b=>
  (match op with
  | .shl=> .chk (decide (0<=b)) (.ret (.v (.int k) (k.wrap (a*2^(min b.toNat k.bits)))))
  | .shr=> .chk (decide (0<=b)) (.ret (.v (.int k) (a.fdiv (2^(min b.toNat k.bits)))))
  |op=>if k=k' then Gj op k a b else .fail)
 | .v .str a,.v .str b=>if lE P t then Gk op a b else .fail
 | .v .err a,.v .err b=>if v7 P t&& d then .chk (!(a&& b)) (Mb op (a==b))else .fail
 | .agg a,.agg b=>
  (match d5 P t with
  |some (.struct fs)=>
   if P.stoodInHeld t||P.eqGuardType P.depth t then .fail else
   (match eU P 0 fs.toList a b with
   |some c=>Mb op c
   |none=> .fail)
  |_=> .fail)
 | .nils,.nils=>if gj P t then(match Oc op true with|some c=> .ret (.lb c)|none=> .fail)else .fail
 |x,.nils=>if gj P t then(match BW ow x with|some e=>BV op e|none=> .fail)else .fail
 |x,y=>
  (match si x,si y with
  |some a,some b=>if BU P t then Mb op (a==b)else .fail
  |_,_=> .fail)
def PR (op:UnOp) (x:SV):ba SV:=
 match op,x with
 | .not,.v .bool b=> .ret (.v .bool (!b))
 | .not,.lb b=> .ret (.lb (!b))
 | .neg,.v (.int k) n=> .ret (.v (.int k) (k.wrap (0-n)))
 | .xor,.v (.int k) n=> .ret (.v (.int k) (k.wrap (BitVec.ofInt k.bits (if k.signed then-1 else k.max)^^^BitVec.ofInt k.bits n).toNat))
 |_,_=> .fail
def Gl (c a b:SV):ba SV:=
 match c with
 | .lb c=> .ret (if c then a else b)
 | .v .bool c=>
  (match si a,si b with
  |some x,some y=> .ret (.v .bool (cond c x y))
  |_,_=> .fail)
 |_=> .fail
def BX (x i:SV):ba SV:=
 match x,i with
 | .v .str s,.v (.int _) n=> .chk (decide (0<=n)) (.bnd 0 s[n.toNat]? λb=> .ret (.v (.int .u8) b.toNat))
 |_,_=> .fail
def Od (k:IntKind):List SV->Int->Option Int
 |[],a=>some a
 | .v (.int k') y::r,x=>if k=k' then Od k r (if(y:Int)<x then y else x)else none
 |_,_=>none
def Oe (k:IntKind):List SV->Int->Option Int
 |[],a=>some a
 | .v (.int k') y::r,x=>if k=k' then Oe k r (if(y:Int)>x then y else x)else none
 |_,_=>none
def Qq (l:List SV):SV:=match l with|[a]=>a|l=> .tup l
def Gm (a:iR) (ow ow1:OW):OW:=if a.res.fresh&& a.args.freshOut then nO ow ow1 else ow1
def Md (a:iR) (args:List SV) (ow:OW) (d:Nat):Option (ba (SV×OW)):=
 if Ob a.al args ow then
 match pk a.args args ow with
 |none=>none
 |some p=>some (.bnd (a.res.z,a.args.zo) (a.den p.1) λy=>
  (match eT d ow a.args args y.2 (Gm a ow p.2,(bK d a.res y.1 0).2)with
  |some q=>(match bX q.1 d q.2 with|some ow'=> .ret (Qq (bK d a.res y.1 0).1,ow')|none=> .fail)
  |none=> .fail))
 else none
def vB (args:List SV) (ow:OW) (d:Nat):List iR->ba (SV×OW)
 |[]=> .fail
 |sg::r=>(match Md sg args ow d with|some c=>c|none=>vB args ow d r)
def BY (P:Program) (t:TypeId) (x:SV):ba SV:=
 match d5 P t,x with
 |some (.int .i64),.v (.int .i64) n=> .ret (.v .any (t,.inl n))
 |some .string,.v .str s=> .ret (.v .any (t,.inr s))
 |_,_=> .fail
def BZ (P:Program) (t:TypeId):Bool:=match(P.info? t).bind (·.zero)with|some (.int .i64 0)=>true|_=>false
def B0 (P:Program) (t:TypeId):Bool:=match(P.info? t).bind (·.zero)with|some (.string s)=>s.data.size==0|_=>false
def v8 (P:Program) (t:TypeId) (x:SV):ba SV:=
 match d5 P t,x with
 |some (.int .i64),.v .any y=>if BZ P t then .chk (!(y.1==t)||y.2.isLeft) (.ret (.tup [.v (.int .i64) (cond (y.1==t) (match y.2 with| .inl n=>n| .inr _=>0) 0),.v .bool (y.1==t)]))else .fail
 |some .string,.v .any y=>if B0 P t then .chk (!(y.1==t)||y.2.isRight) (.ret (.tup [.v .str (cond (y.1==t) (match y.2 with| .inr s=>s| .inl _=>[]) []),.v .bool (y.1==t)]))else .fail
 |_,_=> .fail
def mn (x:SV) (ow:OW):ba SV:=
 match x with
 | .bp d j c=>if iT ow d j then .ret (.bp d j c)else .fail
 | .rp d j ver path e c=>(match zn ow d j path with|some _=> .ret (.rp d j ver path e c)|none=> .fail)
 | .ip k x=> .ret (.ip k x)
 | .v (.tree a) x=> .ret (.v (.tree a) x)
 | .fn (.func f) a b=> .ret (.fn (.func f) a b)
 |_=> .fail
def py (P:Program) (o:Op) (ρ:Operand->SV) (ow:OW):ba SV:=
 match o with
 | .move x| .assign x=> .ret (ρ x)
 | .pick c a b=>Gl (ρ c) (ρ a) (ρ b)
 | .build t parts=>BS P t (parts.toList.map λx=>(x.1,ρ x.2))
 | .load t a=>se P t (ρ a) ow
 | .nilCheck x=>mn (ρ x) ow
 | .binOp op t x y _=>Mc P op t ((x matches .const _)||(y matches .const _)) (ρ x) (ρ y) ow
 | .unOp op _ x=>PR op (ρ x)
 | .convert s t x=>sf P s t (ρ x) ow
 | .makeFunc f a b=> .ret (.fn f (a.toList.map ρ) (b.toList.map ρ))
 | .makeInterface t x=>BY P t (ρ x)
 | .typeAssert x _ t true=>v8 P t (ρ x)
 | .slice t x lo hi none=>BR P t (ρ x) (lo.map ρ) (hi.map ρ) ow
 | .fieldAddr t x f=>k8 P t (ρ x) f ow
 | .field t x f=>BT P t (ρ x) f
 | .indexAddr t x i=>nR P t (ρ x) (ρ i) ow
 | .index t x i=>if lE P t then BX (ρ x) (ρ i)else .fail
 | .extract t i=>(match ρ t with| .tup l=>(match l[i]? with|some s=> .ret s|none=> .fail)|_=> .fail)
 | .call c=>
  (match c.callee with
  | .builtin .len=>(match c.args.toList,c.argTypes.toList with|[x],t::_=>L9 P t (ρ x) ow|_,_=> .fail)
  | .builtin .min=>(match c.args.toList.map ρ with| .v (.int k) a::r=>(match Od k r a with|some n=> .ret (.v (.int k) n)|none=> .fail)|_=> .fail)
  | .builtin .max=>(match c.args.toList.map ρ with| .v (.int k) a::r=>(match Oe k r a with|some n=> .ret (.v (.int k) n)|none=> .fail)|_=> .fail)
  |_=> .fail)
 |_=> .fail
def aJ:Sh->Bool
 | .nil=>true
 | .cons (.pur _) b=>aJ b
 |_=>false
def wa (args:List SV) (ow:OW):List iR->ba SV
 |[]=> .fail
 |sg::r=>
  if aJ sg.args&& aJ sg.res&& sg.res.fresh&& sg.al.isEmpty then
   (match pk sg.args args ow with
   |some p=> .bnd (sg.res.z,sg.args.zo) (sg.den p.1) λy=> .ret (Qq (bK 0 sg.res y.1 0).1)
   |none=>wa args ow r)
  else wa args ow r
def AA (C:gI) (o:Op) (ρ:Operand->SV) (ow:OW):ba SV:=
 match o with
 | .call {callee:= .value f,args,.. }=>(match ρ f with| .fn (.func id) a b=>wa (a++args.toList.map ρ++b) ow (C.sigsOf id)|_=> .fail)
 |o=>py C.P o ρ ow
def PS (ow:OW) (p:SV):Option (Nat×Nat×Nat×Nat×Sh):=
 match p with
 | .rp d j _ [] e c=>(match cj ow d j with|some (.nrow s _ _)=>some (d,j,e,c,s)|_=>none)
 |_=>none
def AB:Sh->List Bool
 | .cons a b=>(match a with| .pur _=>true|_=>false)::AB b
 | .nil=>[]
 | .pur _=>[true]
 |_=>[false]
def Of (P:Program) (t:TypeId):Nat:=if dO P t then cR P t else 1
def B1 (P:Program) (t:TypeId) (p:SV) (d j e c:Nat) (s:Sh) (ow:OW) (dk:Nat):ba (SV×OW):=
 match gi s (pk s) ow d j with
 |none=> .fail
 |some ow1=>
  (match nM ow1 d j []with
  |none=> .fail
  |some r=>
   if((AB r.1).drop c|>.take (Of P t)).all id then(se P t p ow1).bind λv=> .ret (v,ow1)
   else .bnd r.1.z r.2[e]? λx=>
    (match bX (bw ow1 d j (some (.nrow r.1 r.2 (some (e,List.replicate r.1.w .dead))))) dk (bK dk r.1 x 0).2 with
    |some ow2=>(match dy P t ((bK dk r.1 x 0).1.drop c)with
     |some v=> .ret (v,bw ow2 d j (some (.nrow r.1 r.2 (some (e,(bK dk r.1 x 0).1)))))
     |none=> .fail)
    |none=> .fail))
def jS:(s:Sh)->s.T->Nat->List SV->OW->Option (s.T×OW)
 | .cons a b,y,0,v::r,ow=>
  (match pk a [v] ow with
  |some x=>(match jS b y.2 0 r x.2 with|some z=>some ((x.1,z.1),z.2)|none=>none)
  |none=>none)
 | .cons a b,y,0,[],ow=>some (y,ow)
 | .cons a b,y,c+1,new,ow=>(match jS b y.2 c new ow with|some z=>some ((y.1,z.1),z.2)|none=>none)
 | .nil,y,0,[],ow=>some (y,ow)
 | .own k,_,0,[v],ow=>pk (.own k) [v] ow
 | .rows s,_,0,[v],ow=>pk (.rows s) [v] ow
 |_,_,_,_,_=>none
def Og (ow:OW) (d j:Nat) (a:List SV):Bool:=
 match cj ow d j with
 |some (.nrow _ _ (some p))=>a.any λv=>match jP v with|some k=>p.2.any (λc=>jP c==some k)|none=>false
 |_=>false
def B2 (a:List SV) (s:Sh) (ow:OW) (d j:Nat):Option OW:=if Og ow d j a then none else gi s (pk s) ow d j
def B3 {a:List SV} {s:Sh} {ow ow1:OW} {d j:Nat} (h:B2 a s ow d j=some ow1):gi s (pk s) ow d j=some ow1:=by
 unfold B2 at h;split at h
 ·cases h
 ·exact h
def wb (P:Program) (t:TypeId) (x:SV) (d j e c:Nat) (s:Sh) (ow:OW):ba OW:=
 match fQ P t x with
 |none=> .fail
 |some new=>
  (match B2 new s ow d j with
  |some ow1=>
   (match nM ow1 d j []with
   |none=> .fail
   |some r=> .bnd r.1.z r.2[e]? λy=>
    (match jS r.1 y c new ow1 with
    |some z=>
     (match nM z.2 d j []with
     |some r2=>if h:r2.1=r.1 then .ret (bw z.2 d j (some (.nrow r.1 ((Ay h r2.2).set e z.1) none)))else .fail
     |none=> .fail)
    |none=> .fail))
  |none=>
   (match cj ow d j with
   |some (.nrow s' l (some p))=>
    .chk (decide (e=p.1)) (match jy p.2 c new with|some cells'=> .ret (bw ow d j (some (.nrow s' l (some (p.1,cells')))))|none=> .fail)
   |_=> .fail))
def k9 (P:Program) (e:TypeId) (s:Sh):Bool:=s.elem&& decide (0<s.w)&& decide (s.w=cR P e)&& decide (0<c8 P e)&& (match(P.info? e).bind (·.zero)with|some z=>decide (z.cells.size=s.w)|none=>false)
def Qv (P:Program) (e:TypeId) (s:Sh):List SV->OW->Option (List s.T×OW)
 |[],ow=>some ([],ow)
 |v::r,ow=>
  (match fQ P e v with
  |some cs=>(match pk s cs ow with
   |some x=>(match Qv P e s r x.2 with|some y=>some (x.1::y.1,y.2)|none=>none)
   |none=>none)
  |none=>none)
def wc (P:Program) (t:TypeId) (n:Nat) (a:List (Nat×SV)) (s:Sh) (ow:OW) (d:Nat):ba (SV×OW):=
 match lP P t with
 |none=> .fail
 |some e=>
  if a.map (·.1)=List.range n/\n*cR P e<=16777216/\k9 P e s then
   (match Qv P e s (a.map (·.2)) ow with
   |some y=>(match bX y.2 d [.nrow s y.1 none]with|some ow'=> .ret (.wh d 0 0 [],ow')|none=> .fail)
   |none=> .fail)
  else .fail
def B4:List Value->Bool
 |[.slice none 0 0]=>true
 |_=>false
def lR:Sh->List Value->Bool
 | .pur kd,[v]=>dE kd [v]
 | .own k,vs=>B4 vs&& k.good
 | .rows s,vs=>B4 vs&& s.elem
 | .nil,[]=>true
 | .cons a b,v::r=>lR a [v]&& lR b r
 |_,_=>false
def B5 (P:Program) (e:TypeId) (s:Sh):Bool:=match(P.info? e).bind (·.zero)with|some z=>lR s z.cells.toList|none=>false
def B6 (P:Program) (t:TypeId) (n c:SV) (s:Sh) (ow:OW) (d:Nat):ba (SV×OW):=
 match lP P t,n,c with
 |some e,.v (.int .i64) n,.v (.int .i64) c=>
  if k9 P e s&& B5 P e s then
   .chk (decide (0<=n/\n<=c/\c*c8 P e<=ag)) (match bX ow d [.nrow s (List.replicate n.toNat s.z) none]with|some ow'=> .ret (.wh d 0 0 [],ow')|none=> .fail)
  else .fail
 |_,_,_=> .fail
def sj (P:Program) (t:TypeId) (s x:SV) (a:Sh) (ow:OW) (d:Nat):ba (SV×OW):=
 match lP P t with
 |none=> .fail
 |some e=>
  (match pk (.rows a) [s] ow with
  |some y1=>(match pk (.rows a) [x] y1.2 with
   |some y2=>
    if k9 P e a then .chk (decide ((y1.1.length+y2.1.length)*c8 P e<=ag)) (match bX y2.2 d [.nrow a (y1.1++y2.1) none]with|some ow'=> .ret (.wh d 0 0 [],ow')|none=> .fail)
    else .fail
   |none=> .fail)
  |none=> .fail)
def Oh (s x:SV):Bool:=
 match s,x with
 | .os d j _ _ _ _,.os d' j' _ _ _ _=>d==d'&& j==j'
 |_,_=>false
def Gn (P:Program) (t:TypeId) (s x:SV) (a:Sh) (ow:OW) (d:Nat):ba (SV×OW):=
 match s,x,lP P t with
 | .os d1 j1 _ [] o1 n1,.os d2 j2 _ [] o2 n2,some e=>
  if d1=d2/\j1=j2 then
   (match gi a (pk a) ow d1 j1 with
   |some ow1=>
    (match nM ow1 d1 j1 []with
    |some r=>
     if h:r.1=a then
      if k9 P e a then .chk (decide (o1+n1<=o2)) (.chk (decide ((n1+n2)*c8 P e<=ag)) (match bX (bw ow1 d1 j1 none) d [.nrow a (aM (Ay h r.2) o1 n1++aM (Ay h r.2) o2 n2) none]with|some ow'=> .ret (.wh d 0 0 [],ow')|none=> .fail))
      else .fail
     else .fail
    |none=> .fail)
   |none=> .fail)
  else .fail
 |_,_,_=> .fail
def Me (ow:OW) (x:SV):Option Sh:=
 match jP x with
 |some (d,j)=>(match cj ow d j with|some (.nrow s _ _)=>some s|_=>none)
 |none=>none
def Oi (ow:OW) (s x:SV):Option Sh:=match Me ow s with|some sh=>some sh|none=>Me ow x
def nj (C:gI) (o:Op) (ρ:Operand->SV) (ow:OW) (d:Nat):ba (SV×OW):=
 match o with
 | .alloc t=>(match lQ C.P t with|some cells=>(match bX ow d [.box cells]with|some ow'=> .ret (.bp d 0 0,ow')|none=> .fail)|none=> .fail)
 | .box t x=>(match fQ C.P t (ρ x)with|some cells=>(match bX ow d [.box cells]with|some ow'=> .ret (.bp d 0 0,ow')|none=> .fail)|none=> .fail)
 | .buildSlice t n parts=>mm C.P t n (parts.toList.map λx=>(x.1,ρ x.2)) ow d
 | .store t a x=>(BP C.P t (ρ a) (ρ x) ow).bind λow'=> .ret (.tup [],ow')
 | .makeSlice t n c=>nS C.P t (ρ n) (ρ c) ow d
 | .call {callee:= .builtin .append,args,argTypes}=>(match args.toList,argTypes.toList with|[s,x],[t,tx]=>if gj C.P tx then vZ C.P t (ρ s) (ρ x) ow d else .fail|_,_=> .fail)
 | .call {callee:= .value f,args,.. }=>(match ρ f with| .fn (.func id) a b=>vB (a++args.toList.map ρ++b) (kn (a++args.toList.map ρ++b) ow) d (C.sigsOf id)|_=> .fail)
 |o=>(py C.P o ρ ow).bind λs=> .ret (s,ow)
def zp (C:gI) (o:Op) (ρ:Operand->SV) (ow:OW) (d:Nat):ba (SV×OW):=
 match o with
 | .load t a=>(match PS ow (ρ a)with|some q=>B1 C.P t (ρ a) q.1 q.2.1 q.2.2.1 q.2.2.2.1 q.2.2.2.2 ow d|none=>nj C (.load t a) ρ ow d)
 | .store t a x=>(match PS ow (ρ a)with|some q=>(wb C.P t (ρ x) q.1 q.2.1 q.2.2.1 q.2.2.2.1 q.2.2.2.2 ow).bind λow'=> .ret (.tup [],ow')|none=>nj C (.store t a x) ρ ow d)
 | .buildSlice t n parts=>(match C.deepOf d with|some s=>wc C.P t n (parts.toList.map λx=>(x.1,ρ x.2)) s ow d|none=>nj C (.buildSlice t n parts) ρ ow d)
 | .makeSlice t n c=>(match C.deepOf d with|some s=>B6 C.P t (ρ n) (ρ c) s ow d|none=>nj C (.makeSlice t n c) ρ ow d)
 | .call c=>
  (match c.callee,c.args.toList,c.argTypes.toList with
  | .builtin .append,[s,x],[t,tx]=>(match Oi ow (ρ s) (ρ x)with|some sh=>if gj C.P tx then(if Oh (ρ s) (ρ x)then Gn C.P t (ρ s) (ρ x) sh ow d else sj C.P t (ρ s) (ρ x) sh ow d)else .fail|none=>nj C (.call c) ρ ow d)
  |_,_,_=>nj C (.call c) ρ ow d)
 |o=>nj C o ρ ow d
def iU (a:List SV):Operand->SV
 | .tmp t=>(match a[t]? with|some s=>s|none=> .dead)
 | .const v=>nK 4 v
 | .global _=> .dead
 | .func f=> .fn (.func f) [] []
def bn (a:List SV) (d:Option Tmp) (s:SV):List SV:=match d with|some d=>a.set d s|none=>a
def dZ (a:Array Oper) (i:Nat):Bool:=a.toList.any λo=>match o.guard with|some (j,_)=>j==i|none=>false
def split {α:Type} (n:Nat) (src:Bool) (s:SV) (k:SV->Option α):Option α:=if src then(match s with| .v .bool b=>br n b (k (.lb true)) (k (.lb false))|s=>k s)else k s
def dD (a:Array Oper) (o:Oper) (c:List SV):Option Bool:=
 match o.guard with
 |none=>some true
 |some (j,want)=>
  (match(a[j]?).bind (·.dst)with
  |none=>some false
  |some g=>(match c[g]? with|some (.lb b)=>some (b==want)|some (.tup [])=>some false|_=>none))
def kp (a:Array Oper) (o:Oper):List Tmp:=(o.op.operands.toList.filterMap λ| .tmp t=>some t|_=>none)++(match o.guard with|some (g,_)=>((a[g]?).bind (·.dst)).toList|none=>[])
def Gp (a:Array Oper) (x y:Oper):Bool:=
 (match x.dst with|some d=> !(kp a y).contains d&& y.dst !=some d|none=>true)&&
 (match y.dst with|some d=> !(kp a x).contains d|none=>true)
def iA (a:Array Oper) (i j:Nat):Bool:=match a[i]?,a[j]? with|some x,some y=>Gp a x y|_,_=>false
def nU (a:List Nat) (o:Oper):Nat:=o.after.toList.foldl (λm e=>if Region.binds .any e then m|||(1<<<e.on)|||a.getD e.on 0 else m) 0
def gy (a:List Oper) (b:List Nat):List Nat:=match a with|[]=>b|o::r=>gy r (b++[nU b o])
def Oj:Nat->List Oper->Bool
 |_,[]=>true
 |j,o::r=>o.after.toList.all (λe=> !Region.binds .any e||decide (e.on<j))&& Oj (j+1) r
def lS (a:Array Oper) (b:Nat->Nat->Bool):Bool:=
 let ms:=gy a.toList []
 Oj 0 a.toList&& (List.range a.size).all λj=>(List.range j).all λi=>(ms.getD j 0).testBit i||b i j
def sk (src:Bool) (s:SV):ba SV:=if src then(match s with| .v .bool b=> .ite b (.ret (.lb true)) (.ret (.lb false))|s=> .ret s)else .ret s
def ba.noAmb {β:Type}:ba β->ba β
 | .ret b=> .ret b
 | .fail=> .fail
 | .chk c t=> .chk c t.noAmb
 | .bnd z m f=> .bnd z m λy=>(f y).noAmb
 | .amb _ _ _=> .fail
 | .ite c f g=> .ite c f.noAmb g.noAmb
def B7:List (Option OB):=List.replicate 16 none
def aL (K:List Nat):Nat->OW->OW
 |_,[]=>[]
 |i,l::r=>(if K.contains i then l else B7)::aL K (i+1) r
def bU (K:List Nat):Nat->OW->OW->OW
 |_,[],_=>[]
 |i,a::r,s=>(if K.contains i then s.headD a else a)::bU K (i+1) r s.tail
def cW (ow:OW):Bool:=ow.all λl=>decide (l.length<=16)
def jT (K:List Nat):Nat->SV->Bool
 |0,_=>false
 |_+1,.wh d _ _ _=>K.contains d
 |_+1,.os d _ _ _ _ _=>K.contains d
 |_+1,.rp d _ _ _ _ _=>K.contains d
 |_+1,.bp d _ _=>K.contains d
 |f+1,.agg l=>l.all (jT K f)
 |f+1,.tup l=>l.all (jT K f)
 |f+1,.fn _ a b=>a.all (jT K f)&& b.all (jT K f)
 |_+1,_=>true
def Is:OB->List SV
 | .box cells=>cells
 | .nrow _ _ (some p)=>p.2
 |_=>[]
def PT (K:List Nat):Option OB->Bool
 |some o=>(Is o).all (jT K 8)
 |none=>true
def qK (K:List Nat):Nat->OW->Bool
 |_,[]=>true
 |i,l::r=>(if K.contains i then l.all (PT K)else l.all (·.isNone)&& l.length==16)&& qK K (i+1) r
def DH (K:List Nat) (ow:OW):Bool:=qK K 0 ow&& cW ow
def AC (o:Op) (ρ:Operand->SV):Option SV:=
 match o with
 | .move x| .assign x=>some (ρ x)
 | .extract t i=>(match ρ t with| .tup l=>l[i]?|_=>none)
 |_=>none
def Q5:SV->SV
 | .wh d j ver path=> .wh d j ver path
 | .bp d j c=> .bp d j c
 |_=> .dead
def Qw:Option OB->Option OB
 |some (.box cells)=>some (.box (cells.map Q5))
 |_=>none
def nV:List (Option OB)->List (Option OB)
 |[]=>[]
 |o::r=>(match o,nV r with|none,[]=>[]|o,r'=>o::r')
def zq (ow:OW):OW:=ow.map λl=>nV (l.map Qw)
def Mf:Option OB->Option OB
 |some (.box _)=>some (.box [])
 |_=>none
def nW (ow:OW):OW:=ow.map λl=>nV (l.map Mf)
def QX:SV->SV->Bool
 | .wh d j ver path,.wh d' j' ver' path'=>d==d'&& j==j'&& ver==ver'&& path==path'
 | .bp d j c,.bp d' j' c'=>d==d'&& j==j'&& c==c'
 | .dead,.dead=>true
 |_,_=>false
def QY:List SV->List SV->Bool
 |[],[]=>true
 |a::r,b::s=>QX a b&& QY r s
 |_,_=>false
def Rp:Option OB->Option OB->Bool
 |some (.box a),some (.box b)=>QY a b
 |none,none=>true
 |_,_=>false
def Ol:List (Option OB)->List (Option OB)->Bool
 |[],[]=>true
 |a::r,b::s=>Rp a b&& Ol r s
 |_,_=>false
def wd (e:Option OB->Option OB) (K:List Nat) (d:Nat) (ow ow':OW):Bool:=K.all λn=>n==d||(match ow[n]?,ow'[n]? with|some a,some b=>Ol (nV (a.map e)) (nV (b.map e))|none,none=>true|_,_=>false)
def B8 (K:List Nat) (d:Nat) (ow ow':OW):Bool:=wd Qw K d ow ow'
def vC (K:List Nat) (d:Nat) (ow ow':OW):Bool:=wd Mf K d ow ow'
def p5 (q:List Nat×Bool):Bool:=q.1.contains 1000000
def we (q:List Nat×Bool):Bool:=q.1.contains 1000001
def vD (q:List Nat×Bool):Bool:=q.1.contains 1000002
def qL (q:List Nat×Bool):Bool:=q.1.contains 1000003
def Mg:SV->Bool
 | .wh _ _ _ _=>true
 | .bp _ _ _=>true
 |_=>false
def f8 (P:Program) (o:Op) (ρ:Operand->SV) (ow:OW):Option SV:=
 match o with
 | .load t a=>(match ρ a with| .bp d j c=>(match cj ow d j with|some (.box cells)=>dy P t (cells.drop c)|_=>none)|_=>none)
 | .fieldAddr t a f=>(match ρ a,pZ P t f with| .bp d j c,some fd=>if cR P fd.type=0 then none else if iT ow d j then some (.bp d j (c+fd.offset))else none|_,_=>none)
 | .nilCheck a=>(match ρ a with| .bp d j c=>if iT ow d j then some (.bp d j c)else none|_=>none)
 |_=>none
def mo (args:List SV) (ow:OW) (d:Nat):List iR->ba (SV×OW)
 |[]=> .fail
 |sg::r=>
  if aJ sg.args&& sg.res.fresh&& sg.al.isEmpty then
   (match pk sg.args args ow with
   |some p=> .bnd (sg.res.z,sg.args.zo) (sg.den p.1) λy=>(match bX ow d (bK d sg.res y.1 0).2 with|some ow'=> .ret (Qq (bK d sg.res y.1 0).1,ow')|none=> .fail)
   |none=>mo args ow d r)
  else mo args ow d r
def Mh:Op->Bool
 | .call {callee:= .value _,.. }=>true
 |_=>false
def AD (C:gI) (o:Op) (ρ:Operand->SV):Bool:=
 match o with
 | .call {callee:= .value f,.. }=>(match ρ f with| .fn (.func id) _ _=>(C.sigsOf id).any λa=> !aJ a.res|_=>false)
 |_=>false
def tL (C:gI) (o:Op) (ρ:Operand->SV) (ow:OW) (d:Nat):ba (SV×OW):=
 match o with
 | .call {callee:= .value f,args,.. }=>(match ρ f with| .fn (.func id) a b=>mo (a++args.toList.map ρ++b) ow d (C.sigsOf id)|_=> .fail)
 |_=> .fail
def p6 (C:gI) (E:ba (SV×OW)) (o:Op) (q:List Nat×Bool) (ρ:Operand->SV) (a:OW) (d:Nat):ba (SV×Option (List Nat×OW)):=
 if q.2 then E.bind λx=>if DH q.1 x.2&& jT q.1 8 x.1&& (!we q||B8 q.1 d a x.2)&& (!qL q||vC q.1 d a x.2)then .ret (x.1,some (q.1,x.2))else .fail
 else if p5 q then(match f8 C.P o ρ (zq a)with|some s=>if Mg s then .ret (s,none)else .fail|none=> .fail)
 else if vD q then(match f8 C.P o ρ (nW a)with|some s=> .ret (s,none)|none=> .fail)
 else match AC o ρ with
  |some x=> .ret (x,none)
  |none=>(match f8 C.P o ρ a with
   |some s=> .ret (s,none)
   |none=>
    if AD C o ρ then(tL C o ρ a d).bind λx=>if DH q.1 x.2&& jT q.1 8 x.1&& q.1.contains d then .ret (x.1,some ([d],x.2))else .fail
    else(AA C o ρ a).bind λs=>if DH q.1 a&& jT q.1 8 s then .ret (s,none)else .fail)
def mq (ow:OW):Option (List Nat×OW)->OW
 |some s=>bU s.1 0 ow s.2
 |none=>ow
def Qr (d:Nat) (o:Op) (q:List Nat×Bool):List Nat:=if q.2 then q.1 else if Mh o then [d]else []
def Mi (a b:List Nat):Bool:=a.all λd=> !b.contains d
def B9 (d:Nat) (o:Op) (x y:List Nat×Bool):Bool:=Mi (Qr d o x) y.1||(x.2&& we x&& p5 y&& !y.2&& !y.1.contains d)||(x.2&& qL x&& !p5 y&& vD y&& !y.2&& !y.1.contains d)
def p7 (dk:Oper->Nat) (c:Array Oper) (ks:List (List Nat×Bool)) (i j:Nat):Bool:=iA c i j&& (match ks[i]?,ks[j]?,c[i]?,c[j]? with
 |some x,some y,some a,some b=>B9 (dk a) a.op x y&& B9 (dk b) b.op y x&& Mi (Qr (dk a) a.op x) (Qr (dk b) b.op y)
 |_,_,_,_=>false)
def qM (o:Oper):Nat:=o.dst.getD 0
def sm (C:gI) (b:Option Nat->Nat) (a:Array Oper):List (Oper×Nat)->St->ba St
 |[],st=> .ret st
 |(o,i)::r,st=>
  match dD a o st.sl with
  |none=> .fail
  |some false=>sm C b a r ⟨bn st.sl o.dst (.tup []),st.ow⟩
  |some true=>(zp C o.op (iU st.sl) st.ow (b o.dst)).bind λx=>(sk (dZ a i) x.1).bind λs=>sm C b a r ⟨bn st.sl o.dst s,x.2⟩
def AE (C:gI) (a:Array Oper) (ow:OW):List (Oper×Nat)->List SV->ba (List SV)
 |[],sl=> .ret sl
 |(o,i)::r,sl=>
  match dD a o sl with
  |none=> .fail
  |some false=>AE C a ow r (bn sl o.dst (.tup []))
  |some true=>(AA C o.op (iU sl) ow).noAmb.bind λx=>(sk (dZ a i) x).bind λs=>AE C a ow r (bn sl o.dst s)
def o4 (C:gI) (a:Option Nat->Nat) (b:Array Oper) (ks:List (List Nat×Bool)):List (Oper×Nat)->St->ba St
 |[],st=> .ret st
 |(o,i)::r,st=>
  match dD b o st.sl with
  |none=> .fail
  |some false=>o4 C a b ks r ⟨bn st.sl o.dst (.tup []),st.ow⟩
  |some true=>
   (match ks[i]? with
   |some q=>if cW st.ow then(p6 C (zp C o.op (iU st.sl) (aL q.1 0 st.ow) (a o.dst)) o.op q (iU st.sl) (aL q.1 0 st.ow) (a o.dst)).noAmb.bind λx=>(sk (dZ b i) x.1).bind λs=>o4 C a b ks r ⟨bn st.sl o.dst s,mq st.ow x.2⟩else .fail
   |none=> .fail)
def PU (A:N9) (d:Nat) (a:Option Nat):Nat:=match A.keys.find? (λz=>a==some z.1)with|some z=>z.2|none=>d
inductive Q6 where
 |normal
 |exit (i:Nat)
 |ret
def dX (C:gI) (A:N9) (d:Option Nat->Nat):Code->Nat->St->ba (Q6×St)
 | .skip,_,st=> .ret (.normal,st)
 | .region id ops draw,_,st=>
  if draw then(match A.draws.find? (λx=>x.1==id)with|some (_,ks)=>if lS ops (p7 (λo=>d o.dst) ops ks)then(o4 C d ops ks ops.toList.zipIdx st).bind λst=> .ret (.normal,st)else .fail|none=>if lS ops (iA ops)then(AE C ops st.ow ops.toList.zipIdx st.sl).bind λe=> .ret (.normal,⟨e,st.ow⟩)else .fail)
  else(sm C d ops ops.toList.zipIdx st).bind λst=> .ret (.normal,st)
 | .seq a b,bid,st=>(dX C A d a bid st).bind λx=>match x.1 with| .normal=>dX C A d b bid x.2|w=> .ret (w,x.2)
 | .cond c a b,bid,st=>
  (match iU st.sl c with
  | .lb t=>if t then dX C A d a bid st else dX C A d b bid st
  | .v .bool t=> .ite t (dX C A d a bid st) (dX C A d b bid st)
  |_=> .fail)
 | .block id c,_,st=>(dX C A d c id st).bind λx=>match x.1 with| .exit i=>if i==id then .ret (.normal,x.2)else .ret (.exit i,x.2)|w=> .ret (w,x.2)
 | .exit id,_,st=> .ret (.exit id,st)
 | .ret,_,st=> .ret (.ret,st)
 |_,_,_=> .fail
def AF (P:Program) (st:St):List ResultVar->ba (List SV)
 |[]=> .ret []
 | .tmp t::r=>(AF P st r).bind λl=> .ret (iU st.sl (.tmp t)::l)
 | .cell a t::r=>(se P t (iU st.sl (.tmp a)) st.ow).bind λs=>(AF P st r).bind λl=> .ret (s::l)
def Mj (C:gI) (fn:Func) (args:List SV) (ow:OW) (A:N9) (d:Nat):ba (SV×OW):=
 match fn.body with
 |none=> .fail
 |some c=>
  if args.length<=fn.ntmps then
   (dX C A (PU A d) c 0 ⟨args++List.replicate (fn.ntmps-args.length) .dead,ow⟩).bind λx=>match x.1 with
   | .exit _=> .fail
   |_=>(AF C.P x.2 fn.results.toList).bind λl=> .ret (Qq l,x.2.ow)
  else .fail
def Mk (C:gI) (f:SV):Option (FuncId×Func×List SV×List SV):=
 match f with
 | .fn (.func id) a b=>if C.inl.any (λx=>x.1==id)then(match C.P.funcs[id]? with|some fn=>if !(fn.name== "runtime.NumGoroutine")&& !fn.body.isNone then some (id,fn,a,b)else none|none=>none)else none
 |_=>none
def Q7 (C:gI) (f:FuncId) (d:Nat):N9:=match C.inl.find? (λx=>x.1==f)with|some x=>(match x.2.find? (λy=>y.1==d)with|some y=>y.2|none=> {})|none=> {}
def tM (C:gI) (o:Op) (ρ:Operand->SV) (ow:OW) (d:Nat):ba (SV×OW):=
 match o with
 | .call {callee:= .value f,args,.. }=>(match Mk C (ρ f)with|some q=>Mj C q.2.1 (q.2.2.1++args.toList.map ρ++q.2.2.2) ow (Q7 C q.1 d) d|none=>zp C o ρ ow d)
 |o=>zp C o ρ ow d
def AG {α:Type} (C:gI) (a:Array Oper):List (Oper×Nat)->St->(St->Option α)->Option α
 |[],st,k=>k st
 |(o,i)::r,st,k=>
  match dD a o st.sl with
  |none=>none
  |some false=>AG C a r ⟨bn st.sl o.dst (.tup []),st.ow⟩ k
  |some true=>(tM C o.op (iU st.sl) st.ow (o.dst.getD 0)).run C.fuel λx=>split C.fuel (dZ a i) x.1 λs=>AG C a r ⟨bn st.sl o.dst s,x.2⟩ k
def Jn {α:Type} (C:gI) (a:Array Oper) (ow:OW):List (Oper×Nat)->List SV->(List SV->Option α)->Option α
 |[],sl,k=>k sl
 |(o,i)::r,sl,k=>
  match dD a o sl with
  |none=>none
  |some false=>Jn C a ow r (bn sl o.dst (.tup [])) k
  |some true=>(AA C o.op (iU sl) ow).run C.fuel λx=>split C.fuel (dZ a i) x λs=>Jn C a ow r (bn sl o.dst s) k
def ba.runA {α β:Type} (n:Nat):ba β->(β->Option α)->Option α
 | .ret b,k=>k b
 | .fail,_=>none
 | .chk c t,k=>br n c (t.runA n k) none
 | .bnd _ m f,k=>bd n m λy=>(f y).runA n k
 | .amb _ _ _,_=>none
 | .ite c f g,k=>br n c (f.runA n k) (g.runA n k)
def wg {α:Type} (C:gI) (a:Array Oper) (ow:OW):List (Oper×Nat)->List SV->(List SV->Option α)->Option α
 |[],sl,k=>k sl
 |(o,i)::r,sl,k=>
  match dD a o sl with
  |none=>none
  |some false=>wg C a ow r (bn sl o.dst (.tup [])) k
  |some true=>(AA C o.op (iU sl) ow).runA C.fuel λx=>split C.fuel (dZ a i) x λs=>wg C a ow r (bn sl o.dst s) k
def sn {α:Type} (C:gI) (a:Array Oper) (ks:List (List Nat×Bool)):List (Oper×Nat)->St->(St->Option α)->Option α
 |[],st,k=>k st
 |(o,i)::r,st,k=>
  match dD a o st.sl with
  |none=>none
  |some false=>sn C a ks r ⟨bn st.sl o.dst (.tup []),st.ow⟩ k
  |some true=>
   (match ks[i]? with
   |some q=>if cW st.ow then(p6 C (tM C o.op (iU st.sl) (aL q.1 0 st.ow) (qM o)) o.op q (iU st.sl) (aL q.1 0 st.ow) (qM o)).run C.fuel λx=>split C.fuel (dZ a i) x.1 λs=>sn C a ks r ⟨bn st.sl o.dst s,mq st.ow x.2⟩ k else none
   |none=>none)
def DI:List (Nat×Kd)->Type
 |[]=>Unit
 |(_,k)::r=>k.T×DI r
def nX:(l:List (Nat×Kd))->DI l->List SV->List SV
 |[],_,sl=>sl
 |(d,k)::r,x,sl=>(nX r x.2 sl).set d (.v k x.1)
def wj (k:Kd) (s:SV):Option k.T:=
 match s with
 | .v k' x=>if h:k'=k then some (L5 h x)else none
 | .lb b=>(match k with| .bool=>some b|_=>none)
 | .nils=>(match k with| .sl false _=>some []|_=>none)
 |_=>none
def kq:(l:List (Nat×Kd))->List SV->Option (DI l)
 |[],_=>some ()
 |(d,k)::r,sl=>
  (match wj k (iU sl (.tmp d))with
  |some x=>(match kq r sl with|some y=>some (x,y)|none=>none)
  |none=>none)
structure Ks (α:Type)where
 normal:St->Option α
 exit:Nat->St->Option α
 ret:St->Option α
def g7:List (Nat×Sh)->Sh
 |[]=> .nil
 |(_,s)::r=> .cons s (g7 r)
def qN (nt:Nat):(l:List (Nat×Sh))->(g7 l).T->St
 |[],_=>⟨List.replicate nt .dead,List.replicate nt []⟩
 |(s,sh)::r,x=>
  let st:=qN nt r x.2
  let u:=bK s sh x.1 0
  ⟨st.sl.set s (u.1.headD .dead),st.ow.set s (u.2.map some)⟩
def p8 (nt:Nat):List (Nat×Sh)->Bool
 |[]=>true
 |(s,_)::r=>decide (s<nt)&& !(r.map (·.1)).contains s&& p8 nt r
def aH {A R:Type} (b:(A->Option R)->A->Option R):Nat->A->Option R
 |0,_=>none
 |n+1,x=>b (aH b n) x
def Ml {α:Type} (nt:Nat) (a:List (Nat×Sh)) (b:List (Nat×Nat×Nat×List Nat)) (F:St->(St->Option α)->Option α) (n:Nat) (x:(g7 a).T):Option α:=aH (λG x=>F (L8 b (qN nt a x)) λst=>if Ob b st.sl st.ow then(match pk (g7 a) (a.map λp=>iU st.sl (.tmp p.1)) st.ow with|some y=>G y.1|none=>none)else none) n x
def It {α:Type} (C:gI) (d:F6) (e:Nat) (a:Array Oper) (c:Bool) (st:St) (k:St->Option α):Option α:=
 (match d.joins.find? (λx=>x.1==e)with
 |some (_,kept)=>
  if c then(if lS a (iA a)then
   (wg C a st.ow a.toList.zipIdx st.sl λb=>kq kept b).bind λp=>
   k ⟨nX kept p (a.toList.foldl (λb o=>bn b o.dst .dead) st.sl),st.ow⟩
  else none)else
   (Jn C a st.ow a.toList.zipIdx st.sl λb=>kq kept b).bind λp=>
   k ⟨nX kept p (a.toList.foldl (λb o=>bn b o.dst .dead) st.sl),st.ow⟩
 |none=>
  if c then
   (match d.keys.find? (λx=>x.1==e)with
   |some (_,ks)=>if lS a (p7 qM a ks)then sn C a ks a.toList.zipIdx st k else none
   |none=>if lS a (iA a)then wg C a st.ow a.toList.zipIdx st.sl λb=>k ⟨b,st.ow⟩else none)
  else AG C a a.toList.zipIdx st k)
def d6 {α:Type} (C:gI) (d:F6) (nt:Nat):Code->Nat->St->Ks α->Option α
 | .skip,_,st,K=>K.normal st
 | .region id ops draw,_,st,K=>
  (match d.heads.find? (λx=>x.1==id)with
  |some (_,live)=>if p8 nt live then(match pk (g7 live) (live.map λp=>iU st.sl (.tmp p.1)) st.ow with
   |some y=>jn C.fuel (λx=>It C d id ops draw (qN nt live x) K.normal) y.1
   |none=>none)else none
  |none=>It C d id ops draw st K.normal)
 | .seq a b,bid,st,K=>d6 C d nt a bid st {K with normal:=λe=>d6 C d nt b bid e K}
 | .cond c a b,bid,st,K=>
  (match iU st.sl c with
  | .lb t=>if t then d6 C d nt a bid st K else d6 C d nt b bid st K
  | .v .bool t=>br C.fuel t (d6 C d nt a bid st K) (d6 C d nt b bid st K)
  |_=>none)
 | .block id c,_,st,K=>d6 C d nt c id st {K with exit:=λi e=>if i==id then K.normal e else K.exit i e}
 | .loop c,bid,st,K=>
  (match d.loops.find? (λx=>x.1==bid)with
  |none=>none
  |some (_,live)=>if p8 nt live then(match pk (g7 live) (live.map λp=>iU st.sl (.tmp p.1)) st.ow with
   |some y=>Ml nt live ((d.al++d.lal).filter λq=>L6 st.sl st.ow q&& ((live.map (·.1)).contains q.1&& (live.map (·.1)).contains q.2.1)) (λe k=>d6 C d nt c bid e {K with normal:=k}) C.fuel y.1
   |none=>none)else none)
 | .exit id,_,st,K=>K.exit id st
 | .ret,_,st,K=>K.ret st
 |_,_,_,_=>none
def nk (nt:Nat):(s:Sh)->s.T->Nat->St
 | .cons a b,x,i=>
  let st:=nk nt b x.2 (i+1)
  let u:=bK i a x.1 0
  ⟨st.sl.set i (u.1.headD .dead),st.ow.set i (u.2.map some)⟩
 |_,_,_=>⟨List.replicate nt .dead,List.replicate nt []⟩
def lc:Sh->Nat->Bool
 | .cons a _,0=>a.noOuts
 | .cons _ b,i+1=>lc b i
 |_,_=>true
def lT (fr:Nat->Bool):Code->Bool
 | .region _ ops _=>ops.toList.all λo=>match o.dst with|some d=>fr d|none=>true
 | .seq a b=>lT fr a&& lT fr b
 | .cond _ a b=>lT fr a&& lT fr b
 | .block _ c=>lT fr c
 | .loop c=>lT fr c
 |_=>true
def Sh.chain:Sh->Bool
 | .nil=>true
 | .cons _ b=>b.chain
 |_=>false
def Mm (C:gI) (fn:Func) (args a:Sh) (st:St):Option (a.T×args.Out):=(AF C.P st fn.results.toList).run C.fuel λl=>
 (match pk a l (kn l st.ow)with
 |some x=>(match gx args (st.sl.take args.len) x.2 with|some y=>some (x.1,y.1)|none=>none)
 |none=>none)
def jM (C:gI) (b:F6) (fn:Func) (args a:Sh) (x:args.T):Option (a.T×args.Out):=
 match fn.body with
 |none=>none
 |some c=>
  if args.chain&& decide (args.len<=fn.ntmps)&& lT (lc args) c then
  d6 C b fn.ntmps c 0 (L8 b.al (nk fn.ntmps args x 0)) {normal:=Mm C fn args a,exit:=λ_ _=>none,ret:=Mm C fn args a}
  else none
variable {α:Type} {n:Nat}
def am (h:Array Obj) (b:Nat):Option (Array Value):=
 match h[b]? with
 |some (.cells c _ _)=>some c
 |_=>none
def bT (r:Array Value) (o n:Nat):List Value:=(r.toList.drop o).take n
def bz {α:Type} (R:α->List Value->Prop) (n:Nat) (l:List α) (r:Array Value) (o:Nat):Prop:=o+l.length*n<=r.size/\∀i (a:i<l.length),R l[i] (bT r (o+i*n) n)
def PV:Int⊕List UInt8->Value
 | .inl n=> .int .i64 n
 | .inr s=> .string ⟨s.toArray⟩
inductive qO {α:Type} (h:Array Obj) (ok:Nat->Prop) (n:Nat) (R:α->List Value->Prop):cg α->Value->Prop
 |leaf {lab:α} {b o c:Nat} {r:Array Value} {p:Option Addr}:ok b->am h b=some r->o+n+1<=r.size->R lab (bT r o n)->r[o+n]?=some (.slice p 0 c)->qO h ok n R (.node lab []) (.pointer (some ⟨b,o,none⟩))
 |node {lab:α} {kids:List (cg α)} {b o c b' o':Nat} {r r':Array Value}:ok b->am h b=some r->o+n+1<=r.size->R lab (bT r o n)->r[o+n]?=some (.slice (some ⟨b',o',none⟩) kids.length c)->kids.length<=c->ok b'->am h b'=some r'->o'+kids.length<=r'.size->(∀i (hi:i<kids.length) (hr:o'+i<r'.size),qO h ok n R kids[i] r'[o'+i])->qO h ok n R (.node lab kids) (.pointer (some ⟨b,o,none⟩))
def qO.mono {h f:Array Obj} {ok ok':Nat->Prop} {R g:α->List Value->Prop} (a:∀b r,ok b->am h b=some r->ok' b/\am f b=some r) (i:∀x cs,R x cs->g x cs) {x:cg α} {v:Value} (e:qO h ok n R x v):qO f ok' n g x v:=by
 induction e with
 |leaf hb hr hs hl hk=>obtain⟨c,d⟩:=a _ _ hb hr;exact .leaf c d hs (i _ _ hl) hk
 |node hb hr hs hl hk hc hb' hr' hs' _ ih=>obtain⟨c,d⟩:=a _ _ hb hr;obtain⟨j,k⟩:=a _ _ hb' hr';exact .node c d hs (i _ _ hl) hk hc j k hs' ih
def qO.ptr {h:Array Obj} {ok:Nat->Prop} {R:α->List Value->Prop} {x:cg α} {v:Value} (e:qO h ok n R x v):∃b o,v= .pointer (some ⟨b,o,none⟩):=by
 cases e<;>exact⟨_,_,rfl⟩
def ct (h:Array Obj) (ok:Nat->Prop):(k:Kd)->k.T->List Value->Prop
 | .int kk,n,cs=>cs=[.int kk n]
 | .bool,b,cs=>cs=[.bool b]
 | .str,s,cs=>cs=[.string ⟨s.toArray⟩]
 | .err,b,cs=>(b=false/\cs=[.nilIface])\/(b=true/\∃t v,cs=[.iface t v])
 | .any,y,cs=>cs=[.iface y.1 (PV y.2)]
 | .sl true _,_,_=>False
 | .sl false e,l,cs=>∃a c,cs=[.slice a l.length c]/\l.length<=c/\(l=[]\/∃b o r,a=some ⟨b,o,none⟩/\ok b/\am h b=some r/\bz (λx cs=>ct h ok e x cs) e.n l r o)
 | .nil,_,cs=>cs=[]
 | .cons a b,x,cs=>∃c1 c2,cs=c1++c2/\ct h ok a x.1 c1/\ct h ok b x.2 c2
 | .tree a,x,cs=>∃v,cs=[v]/\qO h ok a.n (λy cs=>ct h ok a y cs) x v
def ct.length {h:Array Obj} {ok:Nat->Prop}:(k:Kd)-> {x:k.T}-> {cs:List Value}->ct h ok k x cs->cs.length=k.n
 | .int _,_,_,e=>by cases e;rfl
 | .bool,_,_,e=>by cases e;rfl
 | .str,_,_,e=>by cases e;rfl
 | .err,_,_,e=>by rcases e with⟨_,rfl⟩|⟨_,_,_,rfl⟩<;>rfl
 | .any,_,_,e=>by cases e;rfl
 | .sl true _,_,_,e=>e.elim
 | .sl false _,_,_,e=>by obtain⟨_,_,rfl,_⟩:=e;rfl
 | .nil,_,_,e=>by cases e;rfl
 | .cons a b,_,_,e=>by
  obtain⟨c1,c2,rfl,c,d⟩:=e;simp[Kd.n,ct.length a c,ct.length b d]
 | .tree _,_,_,e=>by obtain⟨_,rfl,_⟩:=e;rfl
def ct.mono {h j:Array Obj} {ok ok':Nat->Prop} (d:∀b r,ok b->am h b=some r->ok' b/\am j b=some r):(k:Kd)-> {x:k.T}-> {cs:List Value}->ct h ok k x cs->ct j ok' k x cs
 | .int _,_,_,e=>e
 | .bool,_,_,e=>e
 | .str,_,_,e=>e
 | .err,_,_,e=>e
 | .any,_,_,e=>e
 | .sl true _,_,_,e=>e
 | .sl false k,_,_,e=>by
  obtain⟨a,c,rfl,l,e⟩:=e;refine⟨a,c,rfl,l,?_⟩;rcases e with e|⟨b,o,r,ha,hb,hr,hs,he⟩
  ·exact .inl e
  ·obtain⟨f,g⟩:=d b r hb hr
   exact .inr ⟨b,o,r,ha,f,g,hs,λi m=>ct.mono d k (he i m)⟩
 | .nil,_,_,e=>e
 | .cons a b,_,_,e=>by
  obtain⟨c1,c2,rfl,n,p⟩:=e;exact⟨c1,c2,rfl,ct.mono d a n,ct.mono d b p⟩
 | .tree a,_,_,e=>by obtain⟨v,rfl,e⟩:=e;exact⟨v,rfl,e.mono d λ_ _ h=>ct.mono d a h⟩
def ct.any_heap {h c:Array Obj} {ok ok':Nat->Prop}:(k:Kd)->k.allOwn=true-> {x:k.T}-> {cs:List Value}->ct h ok k x cs->ct c ok' k x cs
 | .int _,_,_,_,e=>e
 | .bool,_,_,_,e=>e
 | .str,_,_,_,e=>e
 | .err,_,_,_,e=>e
 | .any,_,_,_,e=>e
 | .sl true _,_,_,_,e=>e
 | .sl false _,hk,_,_,_=>by simp[Kd.allOwn]at hk
 | .nil,_,_,_,e=>e
 | .cons a b,hk,_,_,e=>by
  simp[Kd.allOwn]at hk;obtain⟨c1,c2,rfl,d,f⟩:=e;exact⟨c1,c2,rfl,ct.any_heap a hk.1 d,ct.any_heap b hk.2 f⟩
 | .tree _,hk,_,_,_=>by simp[Kd.allOwn]at hk
def bz.mono {R a:α->List Value->Prop} {l:List α} {r:Array Value} {o:Nat} (b:∀x cs,R x cs->a x cs) (e:bz R n l r o):bz a n l r o:=⟨e.1,λi c=>b _ _ (e.2 i c)⟩
def nY (h:Array Obj) (ok:Nat->Prop) (k:Kd) (x:k.T) (v:Value):Prop:=ct h ok k x v.cells.toList/\(k.isSt=true->(∃cs,v= .agg cs)/\k.leafy=true)/\(k.isSt=false->v.oneCell'=true)
def sq (h:Array Obj) (ok:Nat->Prop) (k:Kd) (l:List k.T) (v:Value) (d:List Nat):Prop:=k.good=true/\∃a c,v= .slice a l.length c/\l.length<=c/\((a=none/\l=[]/\c=0/\d=[])\/∃b o r et,a=some ⟨b,o,none⟩/\d=[b]/\h[b]?=some (.cells r et (0,0))/\bz (λx cs=>ct h ok k x cs) k.n l r o/\o+c*k.n<=r.size)
def ck (h:Array Obj) (ok:Nat->Prop):(s:Sh)->s.T->List Value->List Nat->Prop
 | .pur kd,x,vs,fp=>∃v,vs=[v]/\fp=[]/\nY h ok kd x v
 | .own k,l,vs,fp=>∃v,vs=[v]/\sq h ok k l v fp
 | .row k,l,vs,fp=>∃v,vs=[v]/\sq h ok k l v fp
 | .rows s,l,vs,fp=>∃v,vs=[v]/\s.elem=true/\∃a c,v= .slice a l.length c/\l.length<=c/\((a=none/\l=[]/\c=0/\fp=[])\/∃(b o:Nat) (r:Array Value) (et:TypeId) (fps:List (List Nat)),a=some ⟨b,o,none⟩/\fp=b::fps.flatten/\h[b]?=some (.cells r et (0,0))/\o+c*s.w<=r.size/\l.length<=fps.length/\(∀e∈fps.flatten,∃r et,h[e]?=some (Obj.cells r et (0,0)))/\∀i (g:i<l.length) (j:i<fps.length),ck h ok s l[i] (bT r (o+i*s.w) s.w) fps[i])
 | .nrw s,l,vs,fp=>∃v,vs=[v]/\s.elem=true/\∃a c,v= .slice a l.length c/\l.length<=c/\((a=none/\l=[]/\c=0/\fp=[])\/∃(b o:Nat) (r:Array Value) (et:TypeId) (fps:List (List Nat)),a=some ⟨b,o,none⟩/\fp=b::fps.flatten/\h[b]?=some (.cells r et (0,0))/\o+c*s.w<=r.size/\l.length<=fps.length/\(∀e∈fps.flatten,∃r et,h[e]?=some (Obj.cells r et (0,0)))/\∀i (g:i<l.length) (j:i<fps.length),ck h ok s l[i] (bT r (o+i*s.w) s.w) fps[i])
 | .box l,x,vs,fp=>∃b o r et d,vs=[.pointer (some ⟨b,o,none⟩)]/\fp=b::d/\h[b]?=some (.cells r et (0,0))/\o+l.len<=r.size/\ck h ok l x (bT r o l.len) d
 | .agg l,x,vs,fp=>∃cs,vs=[.agg cs.toArray]/\ck h ok l x cs fp
 | .fn f n l,x,vs,fp=>∃xs ys,vs=[.func f xs.toArray ys.toArray]/\xs.length=n/\ck h ok l x (xs++ys) fp
 | .ign,_,vs,fp=>∃v,vs=[v]/\fp=[]
 | .nl,_,vs,fp=>vs=[.slice none 0 0]/\fp=[]
 | .nil,_,vs,fp=>vs=[]/\fp=[]
 | .cons a b,x,vs,fp=>∃v r f1 f2,vs=v::r/\fp=f1++f2/\ck h ok a x.1 [v] f1/\ck h ok b x.2 r f2
def iB {fps:List (List Nat)} {i:Nat} (a:i<fps.length) {b:Nat} (c:b∈fps[i]):b∈fps.flatten:=List.mem_flatten.2 ⟨_,a0n a,c⟩
def nY.mono {h a:Array Obj} {ok ok':Nat->Prop} (c:∀b r,ok b->am h b=some r->ok' b/\am a b=some r) {k:Kd} {x:k.T} {v:Value} (e:nY h ok k x v):nY a ok' k x v:=⟨ct.mono c _ e.1,e.2⟩
def sq.mono {h d:Array Obj} {ok ok':Nat->Prop} (i:∀b r,ok b->am h b=some r->ok' b/\am d b=some r) {k:Kd} {l:List k.T} {v:Value} {f:List Nat} (j:∀b∈f,d[b]?=h[b]?) (e:sq h ok k l v f):sq d ok' k l v f:=by
 obtain⟨m,a,c,n,g,e⟩:=e;refine⟨m,a,c,n,g,?_⟩;rcases e with e|⟨b,o,r,et,ha,rfl,hb,hel,hs⟩
 ·exact .inl e
 ·exact .inr ⟨b,o,r,et,ha,rfl,by rw[j b (by simp),hb],hel.mono λx cs p=>ct.mono i _ p,hs⟩
def ck.mono {h n:Array Obj} {ok ok':Nat->Prop} (g:∀b r,ok b->am h b=some r->ok' b/\am n b=some r):(s:Sh)-> {x:s.T}-> {vs:List Value}-> {p:List Nat}->(∀b∈p,n[b]?=h[b]?)->ck h ok s x vs p->ck n ok' s x vs p
 | .pur _,_,_,_,_,e=>by obtain⟨v,d,q,e⟩:=e;exact⟨v,d,q,e.mono g⟩
 | .own _,_,_,_,hf,e=>by obtain⟨v,d,e⟩:=e;exact⟨v,d,e.mono g hf⟩
 | .row _,_,_,_,hf,e=>by obtain⟨v,d,e⟩:=e;exact⟨v,d,e.mono g hf⟩
 | .rows s,_,_,_,hf,e| .nrw s,_,_,_,hf,e=>by
  obtain⟨v,w,y,a,c,t,z,e⟩:=e;refine⟨v,w,y,a,c,t,z,?_⟩;rcases e with e|⟨b,o,r,et,fps,t,rfl,hr,hc,hn,hj,he⟩
  ·exact .inl e
  ·exact .inr ⟨b,o,r,et,fps,t,rfl,by rw[hf b (by simp),hr],hc,hn,λf j=>by rw[hf f (by simp only[a1j];exact .inr j)];exact hj f j,λi A k=>ck.mono g s (λf j=>hf f (by simp only[a1j];exact .inr (iB k j))) (he i A k)⟩
 | .box l,_,_,_,hf,e=>by
  obtain⟨b,o,r,et,u,d,rfl,B,C,e⟩:=e;exact⟨b,o,r,et,u,d,rfl,by rw[hf b (by simp),B],C,ck.mono g l (λf m=>hf f (by simp[m])) e⟩
 | .agg l,_,_,_,hf,e=>by obtain⟨cs,d,e⟩:=e;exact⟨cs,d,ck.mono g l hf e⟩
 | .fn _ _ l,_,_,_,hf,e=>by obtain⟨xs,ys,d,q,e⟩:=e;exact⟨xs,ys,d,q,ck.mono g l hf e⟩
 | .ign,_,_,_,_,e=>e
 | .nl,_,_,_,_,e=>e
 | .nil,_,_,_,_,e=>e
 | .cons a b,_,_,_,hf,e=>by
  obtain⟨v,r,f1,f2,d,rfl,D,E⟩:=e;exact⟨v,r,f1,f2,d,rfl,ck.mono g a (λf m=>hf f (by simp[m])) D,ck.mono g b (λf m=>hf f (by simp[m])) E⟩
abbrev Gh:=Nat->Nat->Nat->Option (Nat×Nat)
def ak (ow:OW) (d j:Nat):Option (Option OB):=(ow[d]?).bind λl=>l[j]?
def lU (ow:OW) (d j:Nat):cj ow d j=(ak ow d j).bind id:=by
 unfold cj ak
 cases ow[d]? with
 |none=>rfl
 |some l=>cases h:l[j]?<;>simp[h]
def aG {ow:OW} {d j:Nat} {o:OB} (h:cj ow d j=some o):ak ow d j=some (some o):=by
 rw[lU]at h
 cases hn:ak ow d j with
 |none=>simp[hn]at h
 |some x=>simp[hn]at h;rw[h]
def bB:Option (Option OB)->Prop
 |some (some (.box _))=>True
 |some (some (.row _ _ _))=>True
 |some (some (.nrow _ _ _))=>True
 |_=>False
def ci (G:Gh) (ow:OW) (b:Nat):Prop:=∃d j i o,bB (ak ow d j)/\G d j i=some (b,o)
def nZ (h:Array Obj) (G:Gh) (n:Nat) (d j off len:Nat) (e:Value):Prop:=∃a c,e= .slice a len c/\len<=c/\((G d j 0=none/\a=none/\c=0)\/∃b o f r,G d j 0=some (b,o)/\a=some ⟨b,f,none⟩/\am h b=some r/\(0<c->f=o+off*n)/\f+c*n<=r.size)
def cX (h:Array Obj) (G:Gh) (ow:OW) (d j off:Nat) (len:Option Nat) (b:Value):Prop:=
 match ak ow d j with
 |none=>False
 |some none=>b.oneCell'=true
 |some (some (.box _))=>False
 |some (some (.row k _ l))=>off+len.getD l.length<=l.length/\nZ h G k.n d j off (len.getD l.length) b
 |some (some (.frow k _ l))=>off+len.getD l.length<=l.length/\nZ h G k.n d j off (len.getD l.length) b
 |some (some (.nrow k l _))=>off+len.getD l.length<=l.length/\nZ h G k.w d j off (len.getD l.length) b
 |some (some (.lrow n))=>∃a c,b= .slice a (len.getD n) c
inductive cn (h:Array Obj) (ok:Nat->Prop) (G:Gh) (ow:OW):SV->Value->Prop where
 |v {k:Kd} {x:k.T} {val:Value}:k.isSt=false->ct h ok k x [val]->cn h ok G ow (.v k x) val
 |lb (b:Bool):cn h ok G ow (.lb b) (.bool b)
 |dead (val:Value):cn h ok G ow .dead val
 |nils:cn h ok G ow .nils (.slice none 0 0)
 |agg {l:List SV} {vs:List Value}:l.length=vs.length->(∀i (h1:i<l.length) (h2:i<vs.length),cn h ok G ow l[i] vs[i])->cn h ok G ow (.agg l) (.agg vs.toArray)
 |tup {l:List SV} {vs:List Value}:l.length=vs.length->(∀i (h1:i<l.length) (h2:i<vs.length),cn h ok G ow l[i] vs[i])->cn h ok G ow (.tup l) (.tuple vs.toArray)
 |fn {f:Fn} {a b:List SV} {xs ys:List Value}:a.length=xs.length->b.length=ys.length->(∀i (h1:i<a.length) (h2:i<xs.length),cn h ok G ow a[i] xs[i])->(∀i (h1:i<b.length) (h2:i<ys.length),cn h ok G ow b[i] ys[i])->cn h ok G ow (.fn f a b) (.func f xs.toArray ys.toArray)
 |wh {d j ver:Nat} {val:Value}:cX h G ow d j 0 none val->cn h ok G ow (.wh d j ver []) val
 |os {d j ver off len:Nat} {val:Value}:cX h G ow d j off (some len) val->cn h ok G ow (.os d j ver [] off len) val
 |bp {d j c:Nat} {val:Value}:(match ak ow d j with
  |none=>False
  |some none=>val.oneCell'=true
  |some (some (.box _))=>∃b o,G d j 0=some (b,o)/\val= .pointer (some ⟨b,o+c,none⟩)
  |some (some (.lrow _))=>val.oneCell'=true
  |_=>False)->cn h ok G ow (.bp d j c) val
 |rp {d j ver e c:Nat} {val:Value}:(match ak ow d j with
  |none=>False
  |some none=>val.oneCell'=true
  |some (some (.row k _ l))=>e<l.length/\∃b o,G d j 0=some (b,o)/\val= .pointer (some ⟨b,o+e*k.n+c,none⟩)
  |some (some (.frow k _ l))=>e<l.length/\∃b o,G d j 0=some (b,o)/\val= .pointer (some ⟨b,o+e*k.n+c,none⟩)
  |some (some (.nrow k l _))=>e<l.length/\∃b o,G d j 0=some (b,o)/\val= .pointer (some ⟨b,o+e*k.w+c,none⟩)
  |some (some (.lrow _))=>val.oneCell'=true
  |_=>False)->cn h ok G ow (.rp d j ver [] e c) val
 |ip {k:Kd} {x:k.T} {b o:Nat} {r:Array Value}:k.leafy=true->ok b->am h b=some r->o+k.n<=r.size->ct h ok k x (bT r o k.n)->cn h ok G ow (.ip k x) (.pointer (some ⟨b,o,none⟩))
def df (h:Array Obj) (ok:Nat->Prop) (G:Gh) (ow:OW) (d j:Nat):OB->Prop
 | .box a=>(∀i,G d j (i+1)=none)/\∃b o r et,G d j 0=some (b,o)/\h[b]?=some (.cells r et (0,0))/\o+a.length<=r.size/\∀i (f:i<a.length) (g:o+i<r.size),cn h ok G ow a[i] r[o+i]
 | .row k _ l=>(∀i,G d j (i+1)=none)/\k.good=true/\(match G d j 0 with
  |none=>l=[]
  |some (b,o)=>∃r et,h[b]?=some (.cells r et (0,0))/\bz (λx cs=>ct h ok k x cs) k.n l r o)
 | .frow k _ l=>k.good=true/\(match G d j 0 with
  |none=>l=[]
  |some (b,o)=>l=[]\/(ok b/\∃r,am h b=some r/\bz (λx cs=>ct h ok k x cs) k.n l r o))
 | .nrow s l foc=>s.elem=true/\∃fps:List (List Nat),(∀i,G d j (i+1)=(fps.flatten[i]?).map λb=>(b,0))/\(match G d j 0 with
  |none=>l=[]/\foc=none/\fps=[]
  |some (b,o)=>∃r et,h[b]?=some (.cells r et (0,0))/\o+l.length*s.w<=r.size/\l.length<=fps.length/\(∀m∈fps.flatten,∃r et,h[m]?=some (Obj.cells r et (0,0)))/\
   (∀i (f:i<l.length) (p:i<fps.length),(∀a,foc≠some (i,a))->ck h ok s l[i] (bT r (o+i*s.w) s.w) fps[i])/\
   ∀e a,foc=some (e,a)->e<l.length/\a.length=s.w/\∀c (q:c<a.length) (g:o+e*s.w+c<r.size),cn h ok G ow a[c] r[o+e*s.w+c])
 | .lrow _=>True
def cU (F:Nat->Prop) (G:Gh) (ow:OW) (b:Nat):Prop:=¬F b/\¬ci G ow b
structure bx (F:Nat->Prop) (G:Gh) (ow:OW) (h:Array Obj):Prop where
 obs:∀d j o,ak ow d j=some (some o)->df h (cU F G ow) G ow d j o
 apart:∀d j i d' j' i' b o o',bB (ak ow d j)->bB (ak ow d' j')->G d j i=some (b,o)->G d' j' i'=some (b,o')->d=d'/\j=j'/\i=i'
 notF:∀b,ci G ow b->¬F b
def Sv (F:Nat->Prop) (G:Gh) (ow:OW) (h:Array Obj) (s:SV) (v:Value):Prop:=cn h (cU F G ow) G ow s v
def dq (F:Nat->Prop) (G:Gh) (ow:OW) (h:Array Obj) (l:List SV) (vs:List Value):Prop:=l.length=vs.length/\∀i (a:i<l.length) (b:i<vs.length),Sv F G ow h l[i] vs[i]
structure fh (I:Nat->Prop) (w0 w:World):Prop where
 size:w0.heap.size<=w.heap.size
 heap:∀b,b<w0.heap.size->¬I b->w.heap[b]?=w0.heap[b]?
 cells:∀(b:Nat) (r:Array Value) (et:TypeId) (f:Nat×Nat),w0.heap[b]?=some (Obj.cells r et f)->∃r':Array Value,w.heap[b]?=some (Obj.cells r' et f)/\r'.size=r.size
 os:w.os=w0.os
 output:w.output=w0.output
 tape:w.tape=w0.tape
structure RB (F I:Nat->Prop) (w0:World) (st:St) (a:Act) (w:World):Prop where
 ex:∃G,dq F G st.ow w.heap st.sl a.tmps.toList/\bx F G st.ow w.heap/\∀b,ci G st.ow b->I b\/w0.heap.size<=b
 kept:fh I w0 w
 defers:a.defers=[]
 wide:∀b,F b->b<w0.heap.size
 lens:st.ow.length=st.sl.length
end Go.Pev
namespace Go.Pev
variable {r:Array Value} {t:TypeId} {l:List SV} {o n b:Nat} {P:Program} {v pv:Value} {vs:List Value} {w:World} {h:Array Obj} {d:TypeDesc} {s:SV}
def ba.can {β:Type}:ba β->(β->Prop)->Prop
 | .ret b,Q=>Q b
 | .fail,_=>False
 | .chk c t,Q=>c=true/\t.can Q
 | .bnd _ m f,Q=>∃y,m=some y/\(f y).can Q
 | .amb c f g,Q=>if c=true then f.can Q/\g.can Q else g.can Q
 | .ite c f g,Q=>if c=true then f.can Q else g.can Q
def wk {α:Type} {x y:Option α} {r:α} (h:nh x y=some r):x=some r/\y=some r:=by
 unfold nh at h;split at h
 ·rename_i e;exact⟨h,e▸h⟩
 ·cases h
def ba.can_of_run {α β:Type} {n:Nat} {k:β->Option α} {r:α}:(c:ba β)->c.run n k=some r->c.can λb=>k b=some r
 | .ret _,h=>h
 | .fail,h=>by cases h
 | .chk c t,h=>by
  rw[ba.run,ek]at h
  cases c with
  |false=>cases h
  |true=>exact⟨rfl,ba.can_of_run t h⟩
 | .bnd _ m f,h=>by
  rw[ba.run,DE]at h
  cases m with
  |none=>cases h
  |some y=>exact⟨y,rfl,ba.can_of_run (f y) h⟩
 | .amb c f g,h=>by
  rw[ba.run,ek]at h
  cases c with
  |false=>exact ba.can_of_run g h
  |true=>
   obtain⟨a,d⟩:=wk (x:=f.run n k) (y:=g.run n k) h;exact⟨ba.can_of_run f a,ba.can_of_run g d⟩
 | .ite c f g,h=>by
  rw[ba.run,ek]at h
  cases c with
  |false=>exact ba.can_of_run g h
  |true=>exact ba.can_of_run f h
def ba.can_bind {β γ:Type} {Q:γ->Prop} {f:β->ba γ}:(c:ba β)->(c.bind f).can Q->c.can λb=>(f b).can Q
 | .ret _,h=>h
 | .fail,h=>h
 | .chk _ t,h=>⟨h.1,ba.can_bind t h.2⟩
 | .bnd _ _ g,h=>by obtain⟨y,a,h⟩:=h;exact⟨y,a,ba.can_bind (g y) h⟩
 | .amb c f g,h=>by
  cases c with
  |false=>exact ba.can_bind g h
  |true=>exact⟨ba.can_bind f h.1,ba.can_bind g h.2⟩
 | .ite c f g,h=>by
  cases c with
  |false=>exact ba.can_bind g h
  |true=>exact ba.can_bind f h
def ba.can_mono {β:Type} {Q d:β->Prop} (a:∀b,Q b->d b):(c:ba β)->c.can Q->c.can d
 | .ret _,h=>a _ h
 | .fail,h=>h
 | .chk _ t,h=>⟨h.1,ba.can_mono a t h.2⟩
 | .bnd _ _ g,h=>by obtain⟨y,e,h⟩:=h;exact⟨y,e,ba.can_mono a (g y) h⟩
 | .amb c f g,h=>by
  cases c with
  |false=>exact ba.can_mono a g h
  |true=>exact⟨ba.can_mono a f h.1,ba.can_mono a g h.2⟩
 | .ite c f g,h=>by
  cases c with
  |false=>exact ba.can_mono a g h
  |true=>exact ba.can_mono a f h
def ba.can_ofOpt {β:Type} {Q:β->Prop} {o:Option β} (h:(ba.ofOpt o).can Q):∃b,o=some b/\Q b:=by
 cases o with
 |none=>exact h.elim
 |some b=>exact⟨b,rfl,h⟩
def aW (h:o+n<=r.size:=by omega):(bT r o n).length=n:=by simp[bT];omega
def aN {i:Nat} (h:i<n):(bT r o n)[i]?=r[o+i]?:=by
 simp[bT,h]
def gz {p m:Nat} (h:p+m<=n:=by omega):bT r (o+p) m=((bT r o n).drop p).take m:=by
 simp only[bT,a8l,a4o,List.take_take]
 congr 1
 omega
def bQ (h:am w.heap b=some r) (i:Nat):w.cell? ⟨b,i,none⟩=r[i]?:=by
 unfold am at h;unfold World.cell?;split at h
 ·rename_i c _ _ e;cases h;simp[e]
 ·cases h
def aP {e:TypeId} {f:Nat×Nat} (a:h[b]?=some (.cells r e f)):am h b=some r:=by simp[am,a]
def DJ (h:am w.heap b=some r):w.rangeAt b o (bT r o n):=by
 intro j v a;rw[bQ h];have c:j<n:=by
  rcases a3y j n with h'|h'
  ·exact h'
  ·rw[a1f (by simp[bT];omega)]at a;cases a
 rw[aN c]at a;exact a
def qP (a:Bool) (cs:List Value):Value:=if a then .agg cs.toArray else cs.headD undef
def mr (a:P.underlying t=some d) (w:World):(isAgg t).run P w= .ok (dO P t) w:=by
 unfold isAgg dO d5;rw[Sem.run_bind,run_underlying a w]
 cases d<;>simp[a]
def AH {i:TypeInfo} (a:P.info? t=some i) (w:World):(sizeOf t).run P w= .ok (cR P t) w:=by
 simp[sizeOf,typeInfo,a,cR,Program.cellsOf]
def hZ (a:P.underlying t=some d):∃i,P.info? t=some i:=by
 unfold Program.underlying at a
 cases h:P.info? t with
 |none=>simp[h]at a
 |some i=>exact⟨i,rfl⟩
def eV (a:P.underlying t=some d) (e:am w.heap b=some r) (c:n=if dO P t then cR P t else 1) (g:o+n<=r.size:=by omega):(Instr.loadAt t (.pointer (some ⟨b,o,none⟩))).run P w= .ok (qP (dO P t) (bT r o n)) w:=by
 obtain⟨i,f⟩:=hZ a
 cases ha:dO P t with
 |true=>
  simp only[ha,a1z]at c;rw[run_loadAt_mid w b o t (bT r o n) d (DJ e) a (by unfold dO d5 at ha;rw[a]at ha;cases d<;>simp_all[TypeDesc.isRow]) (by rw[aW g,f,c];simp[cR,Program.cellsOf,f])];simp[qP]
 |false=>
  simp only[ha,a0t,a1y]at c;subst c;have h:w.cell? ⟨b,o,none⟩=some (r[o]'(by omega)):=by rw[bQ e];simp
  have k:bT r o 1=[r[o]'(by omega)]:=by
   apply a2e;intro j
   cases j with
   |zero=>rw[aN (by omega)];simp
   |succ j=>simp[bT];omega
  simp[Instr.loadAt,Instr.sureAddr,loadVar,mr a,ha,qP,run_load,h,k,Result.andThen]
section
variable {F:Nat->Prop} {G:Gh} {ow:OW} {w:World} {P:Program}
def dq.nil:dq F G ow w.heap [] []:=⟨rfl,λi h=>by simp at h⟩
def dq.cons (h:Sv F G ow w.heap s v) (a:dq F G ow w.heap l vs):dq F G ow w.heap (s::l) (v::vs):=⟨by simp[a.1],λi b c=>by
 cases i with
 |zero=>exact h
 |succ i=>exact a.2 i (by simpa using b) (by simpa using c)⟩
def dq.uncons (c:dq F G ow w.heap (s::l) vs):∃v a,vs=v::a/\Sv F G ow w.heap s v/\dq F G ow w.heap l a:=by
 obtain⟨b,h⟩:=c
 cases vs with
 |nil=>simp at b
 |cons v a=>exact⟨v,a,rfl,h 0 (by simp) (by simp),by simpa using b,λi d e=>h (i+1) (by simpa using d) (by simpa using e)⟩
def dq.drop {l:List SV} {vs:List Value} (a:dq F G ow w.heap l vs) (n:Nat):dq F G ow w.heap (l.drop n) (vs.drop n):=⟨by simp[a.1],λi b c=>by simp only[a6m];exact a.2 _ _ _⟩
def dq.take {l:List SV} {vs:List Value} (a:dq F G ow w.heap l vs) (n:Nat):dq F G ow w.heap (l.take n) (vs.take n):=⟨by simp[a.1],λi b c=>by simp only[a5c];exact a.2 _ _ _⟩
def dq.append {d:List SV} {a:List Value} (b:dq F G ow w.heap l vs) (c:dq F G ow w.heap d a):dq F G ow w.heap (l++d) (vs++a):=by
 refine⟨by simp[b.1,c.1],λi e f=> ?_⟩;rcases a3y i l.length with h|h
 ·rw[a1k h,a1k (b.1▸h)]
  exact b.2 _ _ _
 ·rw[a1x h,a1x (b.1▸h)]
  simp only[b.1];exact c.2 _ _ _
def dq.agg {l:List SV} {vs:List Value} (a:dq F G ow w.heap l vs):Sv F G ow w.heap (.agg l) (.agg vs.toArray):= .agg a.1 a.2
def Sv.agg_inv (h:Sv F G ow w.heap (.agg l) v):∃vs,v= .agg vs.toArray/\dq F G ow w.heap l vs:=by
 cases h with
 |agg h1 h2=>exact⟨_,rfl,h1,h2⟩
def Sv.tup_inv (h:Sv F G ow w.heap (.tup l) v):∃vs,v= .tuple vs.toArray/\dq F G ow w.heap l vs:=by
 cases h with
 |tup h1 h2=>exact⟨_,rfl,h1,h2⟩
def mt:(k:Kd)-> {x:k.T}-> {cs:List Value}->(k.leafy=true)->ct w.heap (cU F G ow) k x cs->dq F G ow w.heap (mj k x) cs
 | .nil,_,_,_,e=>by cases e;exact .nil
 | .cons a b,x,cs,hk,e=>by
  obtain⟨c1,c2,rfl,d,g⟩:=e;simp only[Kd.leafy,a0e,a2o]at hk;have c:=ct.length a d;have f:a.n=1:=by cases a<;>simp_all[Kd.n,Kd.isSt]
  obtain⟨v,rfl⟩:∃v,c1=[v]:=by
   match c1,c with
   |[v],_=>exact⟨v,rfl⟩
   |[],c=>simp[f]at c
   |_::_::_,c=>simp[f]at c
  exact .cons (.v hk.1 d) (mt b hk.2 g)
 | .int _,_,_,hk,_=>by cases hk
 | .bool,_,_,hk,_=>by cases hk
 | .str,_,_,hk,_=>by cases hk
 | .err,_,_,hk,_=>by cases hk
 | .any,_,_,hk,_=>by cases hk
 | .sl _ _,_,_,hk,_=>by cases hk
 | .tree _,_,_,hk,_=>by cases hk
def Gq {ok:Nat->Prop}:(k:Kd)-> {x:k.T}-> {cs:List Value}->ct h ok k x cs->ct h ok k.ch (PL k x) cs
 | .int _,_,cs,e=>⟨cs,[],by simp,e,rfl⟩
 | .bool,_,cs,e=>⟨cs,[],by simp,e,rfl⟩
 | .str,_,cs,e=>⟨cs,[],by simp,e,rfl⟩
 | .err,_,cs,e=>⟨cs,[],by simp,e,rfl⟩
 | .any,_,cs,e=>⟨cs,[],by simp,e,rfl⟩
 | .sl _ _,_,cs,e=>⟨cs,[],by simp,e,rfl⟩
 | .nil,_,_,e=>e
 | .cons _ _,_,_,e=>e
 | .tree _,_,cs,e=>⟨cs,[],by simp,e,rfl⟩
def Mn (k:Kd):k.ch.n=k.n:=by cases k<;>simp[Kd.ch,Kd.isSt,Kd.n]
def o5 {h:Array Obj} {ok:Nat->Prop}:(k:Kd)->k.leafy=true-> {x:k.T}-> {cs:List Value}->(c:Nat)-> {y:Sigma Kd.T}->jx k x c=some y->ct h ok k x cs->c+y.1.n=k.n/\y.1.leafy=true/\ct h ok y.1 y.2 (cs.drop c)
 |k,hk,x,cs,0,y,hy,e=>by
  have:y=⟨k,x⟩:=by unfold jx at hy;cases k<;>simp_all
  subst this;exact⟨by simp,hk,by simpa using e⟩
 | .cons a b,hk,x,cs,c+1,y,hy,e=>by
  obtain⟨c1,c2,rfl,g,i⟩:=e;simp only[Kd.leafy,a0e,a2o]at hk;have d:=ct.length a g;have f:a.n=1:=by cases a<;>simp_all[Kd.n,Kd.isSt]
  obtain⟨v,rfl⟩:∃v,c1=[v]:=by
   match c1,d with
   |[v],_=>exact⟨v,rfl⟩
   |[],d=>simp[f]at d
   |_::_::_,d=>simp[f]at d
  obtain⟨m,j,l⟩:=o5 b hk.2 c (by simpa [jx]using hy) i;exact⟨by simp only[Kd.n,f];omega,j,by simpa using l⟩
 | .nil,_,_,_,_+1,_,hy,_=>by simp[jx]at hy
 | .int _,hk,_,_,_+1,_,_,_=>by cases hk
 | .bool,hk,_,_,_+1,_,_,_=>by cases hk
 | .str,hk,_,_,_+1,_,_,_=>by cases hk
 | .err,hk,_,_,_+1,_,_,_=>by cases hk
 | .any,hk,_,_,_+1,_,_,_=>by cases hk
 | .sl _ _,hk,_,_,_+1,_,_,_=>by cases hk
 | .tree _,hk,_,_,_+1,_,_,_=>by cases hk
def jo:(k:Kd)->k.leafy=true->(x:k.T)->(mj k x).length=k.n
 | .nil,_,_=>rfl
 | .cons a b,hk,x=>by
  simp only[Kd.leafy,a0e,a2o]at hk;have c:a.n=1:=by cases a<;>simp_all[Kd.n,Kd.isSt]
  simp[mj,Kd.n,c,jo b hk.2];omega
 | .int _,hk,_=>by cases hk
 | .bool,hk,_=>by cases hk
 | .str,hk,_=>by cases hk
 | .err,hk,_=>by cases hk
 | .any,hk,_=>by cases hk
 | .sl _ _,hk,_=>by cases hk
 | .tree _,hk,_=>by cases hk
def eG (c:dq F G ow w.heap l vs) (h:dy P t l=some s):(∃d,P.underlying t=some d)/\(0<if dO P t then cR P t else 1)/\(if dO P t then cR P t else 1)<=l.length/\Sv F G ow w.heap s (qP (dO P t) (vs.take (if dO P t then cR P t else 1))):=by
 unfold dy at h;split at h
 ·cases h
 rename_i d e;refine⟨⟨d,e⟩,?_⟩
 cases ha:dO P t with
 |true=>
  simp only[ha,a1z]at h⊢;split at h
  ·rename_i b
   cases h
   refine⟨b.1,b.2,?_⟩;simp only[qP,a1z];exact(c.take _).agg
  ·cases h
 |false=>
  simp only[ha,a0t,a1y]at h⊢
  cases l with
  |nil=>cases h
  |cons a r=>
   cases h
   obtain⟨v,f,rfl,g,_⟩:=c.uncons;exact⟨by simp,by simp,by simpa [qP]using g⟩
def PW (y:bx F G ow w.heap) {d j e c:Nat} {h:List (Nat×Nat)} {r:Sigma λk:Kd=>List k.T} (i:nL ow d j h=some r) (t:e<r.2.length)
 (s:match ak ow d j with
  |none=>False
  |some none=>pv.oneCell'=true
  |some (some (.row k _ l))=>e<l.length/\∃b o,G d j 0=some (b,o)/\pv= .pointer (some ⟨b,o+e*k.n+c,none⟩)
  |some (some (.frow k _ l))=>e<l.length/\∃b o,G d j 0=some (b,o)/\pv= .pointer (some ⟨b,o+e*k.n+c,none⟩)
  |some (some (.nrow k l _))=>e<l.length/\∃b o,G d j 0=some (b,o)/\pv= .pointer (some ⟨b,o+e*k.w+c,none⟩)
  |some (some (.lrow _))=>pv.oneCell'=true
  |_=>False):
 ∃b o f,G d j 0=some (b,o)/\pv= .pointer (some ⟨b,o+e*r.1.n+c,none⟩)/\am w.heap b=some f/\r.1.good=true/\bz (λx cs=>ct w.heap (cU F G ow) r.1 x cs) r.1.n r.2 f o:=by
 unfold nL at i;split at i
 ·rename_i k ver l u
  cases i
  have m:=aG u;simp only[m]at s;obtain⟨_,b,o,p,rfl⟩:=s;obtain⟨_,a,q⟩:=y.obs d j _ m;simp only[p]at q;obtain⟨f,et,v,g⟩:=q;exact⟨b,o,f,p,rfl,aP v,a,g⟩
 ·rename_i k ver l u
  cases i
  have m:=aG u;simp only[m]at s;obtain⟨_,b,o,p,rfl⟩:=s;obtain⟨a,q⟩:=y.obs d j _ m;simp only[p]at q;rcases q with rfl|⟨_,f,v,g⟩
  ·simp at t
  ·exact⟨b,o,f,p,rfl,v,a,g⟩
 ·cases i
def p9:(s:Sh)->s.elem=true-> {x:s.T}-> {vs:List Value}-> {c:List Nat}->ck w.heap (cU F G ow) s x vs c->dq F G ow w.heap (vV s x) vs
 | .pur kd,hs,x,vs,c,e=>by
  obtain⟨v,rfl,_,d,_,g⟩:=e;have f:kd.isSt=false:=by simpa using(a0e _ _▸hs:kd.noOwn=true/\(!kd.isSt)=true).2
  have:v.cells= #[v]:=by have:=g f;cases v<;>simp_all[Value.cells,Value.oneCell']
  rw[this]at d;exact .cons (.v f d) .nil
 | .own _,_,_,_,_,e=>by obtain⟨v,rfl,_⟩:=e;exact .cons (.dead v) .nil
 | .rows _,_,_,_,_,e=>by obtain⟨v,rfl,_⟩:=e;exact .cons (.dead v) .nil
 | .nil,_,_,_,_,e=>by rw[e.1];exact .nil
 | .cons a b,hs,_,_,_,e=>by
  simp only[Sh.elem,a0e]at hs;obtain⟨v,r,f1,f2,rfl,rfl,h,i⟩:=e;exact(p9 a hs.1.2 h).append (p9 b hs.2 i)
 | .row _,hs,_,_,_,_=>by simp[Sh.elem]at hs
 | .nrw _,hs,_,_,_,_=>by simp[Sh.elem]at hs
 | .box _,hs,_,_,_,_=>by simp[Sh.elem]at hs
 | .agg _,hs,_,_,_,_=>by simp[Sh.elem]at hs
 | .fn _ _ _,hs,_,_,_,_=>by simp[Sh.elem]at hs
 | .ign,hs,_,_,_,_=>by simp[Sh.elem]at hs
 | .nl,hs,_,_,_,_=>by simp[Sh.elem]at hs
def ij {d j:Nat} {a:List (Nat×Nat)} {r:Sigma λs:Sh=>List s.T} (h:nM ow d j a=some r):a=[]/\ak ow d j=some (some (.nrow r.1 r.2 none)):=by
 unfold nM at h;split at h
 ·rename_i s l e;cases h;exact⟨rfl,aG e⟩
 ·cases h
def AI:(a:Kd)->a.leafy=true-> {b:Kd}->b.leafy=true->(a.app b).leafy=true
 | .nil,_,_,hb=>hb
 | .cons a r,ha,_,hb=>by
  simp only[Kd.leafy,a0e]at ha;simp only[Kd.app,Kd.leafy,a0e];exact⟨ha.1,AI r ha.2 hb⟩
 | .int _,ha,_,_=>by cases ha
 | .bool,ha,_,_=>by cases ha
 | .str,ha,_,_=>by cases ha
 | .err,ha,_,_=>by cases ha
 | .any,ha,_,_=>by cases ha
 | .sl _ _,ha,_,_=>by cases ha
 | .tree _,ha,_,_=>by cases ha
def Pv:(a:Kd)->a.leafy=true->(b:Kd)->(a.app b).n=a.n+b.n
 | .nil,_,_=>by simp[Kd.app,Kd.n]
 | .cons a r,ha,b=>by
  simp only[Kd.leafy,a0e]at ha;simp only[Kd.app,Kd.n,Pv r ha.2 b,a2n]
 | .int _,ha,_=>by cases ha
 | .bool,ha,_=>by cases ha
 | .str,ha,_=>by cases ha
 | .err,ha,_=>by cases ha
 | .any,ha,_=>by cases ha
 | .sl _ _,ha,_=>by cases ha
 | .tree _,ha,_=>by cases ha
def DK {h:Array Obj} {ok:Nat->Prop}:(a:Kd)->a.leafy=true-> {b:Kd}-> {x:a.T}-> {y:b.T}-> {c1 c2:List Value}->ct h ok a x c1->ct h ok b y c2->ct h ok (a.app b) (PP a x b y) (c1++c2)
 | .nil,_,_,_,_,_,_,e1,e2=>by cases e1;exact e2
 | .cons a r,ha,_,_,_,_,_,e1,e2=>by
  simp only[Kd.leafy,a0e]at ha;obtain⟨c,f,rfl,d,e⟩:=e1;exact⟨c,_,a1u _ _ _,d,DK r ha.2 e e2⟩
 | .int _,ha,_,_,_,_,_,_,_=>by cases ha
 | .bool,ha,_,_,_,_,_,_,_=>by cases ha
 | .str,ha,_,_,_,_,_,_,_=>by cases ha
 | .err,ha,_,_,_,_,_,_,_=>by cases ha
 | .any,ha,_,_,_,_,_,_,_=>by cases ha
 | .sl _ _,ha,_,_,_,_,_,_,_=>by cases ha
 | .tree _,ha,_,_,_,_,_,_,_=>by cases ha
def DL {ok:Nat->Prop} {a:Kd} {x:cg a.T}:ct h ok (.tree a) x [v]↔∃b o r w,v= .pointer (some ⟨b,o,none⟩)/\ok b/\am h b=some r/\o+a.n+1<=r.size/\ct h ok a x.lab (bT r o a.n)/\r[o+a.n]?=some w/\ct h ok (.sl false (.tree a)) x.kids [w]:=by
 constructor
 ·rintro⟨E,C,e⟩
  cases C
  cases e with
  |leaf f g j k l=>exact⟨_,_,_,_,rfl,f,g,j,k,l,_,_,rfl,a4j _,.inl rfl⟩
  | @node A d b o c b' o' r r' f g j k l z hb' hr' hs' hx=>
   refine⟨_,_,_,_,rfl,f,g,j,k,l,_,_,rfl,z,.inr ⟨b',o',r',rfl,hb',hr',⟨by simp only[Kd.n,a5z];exact hs',λi m=> ?_⟩⟩⟩;have m:i<d.length:=m;have q:o'+i<r'.size:=by omega
   refine⟨r'[o'+i],?_,hx i m q⟩;show bT r' (o'+i*1) 1=_;simp only[bT,a5z];rw[a1d (by simpa using q)];simp
 ·rintro⟨b,o,r,w,rfl,f,g,j,k,l,p,c,y,z,e⟩
  cases y
  obtain⟨A,d⟩:=x;refine⟨_,rfl,?_⟩;rcases e with e|⟨b',o',r',rfl,hb',hr',s,hx⟩
  ·have e:d=[]:=e
   subst e;exact .leaf f g j k l
  ·have s:o'+d.length*1<=r'.size:=s
   refine .node f g j k l z hb' hr' (by omega) λi m B=> ?_
   obtain⟨u,t,D⟩:=hx i m;have t:bT r' (o'+i*1) 1=[u]:=t;simp only[bT,a5z]at t;rw[a1d (by simpa using B)]at t;have:r'[o'+i]=u:=by simpa using t
   rw[this];exact D
def Iu {a:Kd} (c:a.leafy=true) {x:cg a.T} (g:Sv F G ow w.heap (.v (.tree a) x) pv):Sv F G ow w.heap (.ip a.nodeK (Gf a x)) pv:=by
 cases g with
 |v _ hx=>
 obtain⟨b,o,r,f,rfl,h,i,q,j,k,d⟩:=DL.1 hx;have l:a.nodeK.n=a.n+1:=Pv a c _;refine .ip (AI a c (by simp[Kd.leafy,Kd.isSt])) h i (by omega) ?_
 have e:bT r o a.nodeK.n=bT r o a.n++[f]:=by
  rw[l];obtain⟨m,rfl⟩:=a1b.1 k;have p:a.n<(r.toList.drop o).length:=by simp;omega
  simp only[bT];rw[<-a2t p];simp
 rw[e];exact DK a c j ⟨[f],[],rfl,d,rfl⟩
def mu (V:bx F G ow w.heap) {p:SV} (q:Sv F G ow w.heap p pv) {Q:SV->Prop} (h:(se P t p ow).can Q):∃s v,Q s/\(Instr.loadAt t pv).run P w= .ok v w/\Sv F G ow w.heap s v:=by
 unfold se at h;split at h
 ·rename_i d j c
  split at h
  ·rename_i f hg
   obtain⟨s,A,B⟩:=ba.can_ofOpt h;have K:=aG hg;obtain⟨_,b,o,r,et,T,L,z,W⟩:=V.obs d j _ K
   cases q with
   |bp q=>
   simp only[K]at q;obtain⟨b',o',M,rfl⟩:=q;rw[T]at M;cases M
   have N:dq F G ow w.heap f (bT r o f.length):=⟨by rw[aW z],λi U h2=>by
    have:=W i U (by omega);have e:(bT r o f.length)[i]=r[o+i]:=by
     have:=aN (r:=r) (o:=o) U;rw[a0a h2,a1o (by omega)]at this;exact a1e this
    rw[e];exact this⟩
   obtain⟨⟨d',C⟩,E,g,l⟩:=eG (N.drop c) A;simp only[a2p]at g;refine⟨s,_,B,eV C (aP L) rfl,?_⟩;rw[gz (n:=f.length)];exact l
  ·exact h.elim
 ·rename_i d j ver R0 e c
  split at h
  ·rename_i r H
   obtain⟨x,X,h⟩:=h;dsimp only at h;split at h
   ·rename_i y hy
    obtain⟨s,A,B⟩:=ba.can_ofOpt h
    cases q with
    |rp q=>
    obtain⟨u,rfl⟩:=a0r.1 X;obtain⟨b,o,Y,T,rfl,O,I,D⟩:=PW V H u q;have J:=(a0e _ _▸I:r.1.noOwn=true/\r.1.ch.leafy=true).2;have U:=Gq r.1 (D.2 e u);obtain⟨e1,e2,e3⟩:=o5 r.1.ch J c hy U;rw[Mn]at e1;obtain⟨⟨d',C⟩,E,g,l⟩:=eG (mt y.1 e2 e3) A;rw[jo y.1 e2]at g;have L:(e+1)*r.1.n<=r.2.length*r.1.n:=a0q _ u;have z:=D.1;rw[a1a,a2w]at L;refine⟨s,_,B,eV C O rfl,?_⟩;rw[gz (n:=r.1.n)];exact l
   ·exact h.elim
  ·split at h
   ·rename_i r H
    obtain⟨rfl,K⟩:=ij H;obtain⟨x,X,h⟩:=h;obtain⟨s,A,B⟩:=ba.can_ofOpt h
    cases q with
    |rp q=>
    obtain⟨u,rfl⟩:=a0r.1 X;simp only[K]at q;obtain⟨_,b,o,T,rfl⟩:=q;obtain⟨D,fps,_,R⟩:=V.obs d j _ K;simp only[T]at R;obtain⟨Y,et,L,z,R1,_,S,_⟩:=R;have hS:=p9 r.1 D (S e u (by omega) (λf W=>by cases W));have Z:(e+1)*r.1.w<=r.2.length*r.1.w:=a0q _ u;rw[a1a,a2w]at Z;have R2:(vV r.1 r.2[e]).length=r.1.w:=by rw[hS.1,aW]
    obtain⟨⟨d',C⟩,E,g,l⟩:=eG (hS.drop c) A;simp only[a2p]at g;refine⟨s,_,B,eV C (aP L) rfl,?_⟩;rw[gz (n:=r.1.w)];exact l
   ·exact h.elim
 ·rename_i k x
  obtain⟨s,A,B⟩:=ba.can_ofOpt h
  cases q with
  | @ip _ _ b o r J hok H z he=>
  obtain⟨⟨d',C⟩,_,g,l⟩:=eG (mt k J he) A;rw[jo k J]at g;refine⟨s,_,B,eV C H rfl,?_⟩;have:=gz (r:=r) (o:=o) (n:=k.n) (p:=0) (m:=if dO P t then cR P t else 1);simp only[a4p,a5a]at this;rw[this];exact l
 ·rename_i a x
  split at h
  ·rename_i ha
   obtain⟨s,A,B⟩:=ba.can_ofOpt h
   cases Iu ha q with
   | @ip _ _ b o r J hok H z he=>
   obtain⟨⟨d',C⟩,_,g,l⟩:=eG (mt a.nodeK J he) A;rw[jo a.nodeK J]at g;refine⟨s,_,B,eV C H rfl,?_⟩;have:=gz (r:=r) (o:=o) (n:=a.nodeK.n) (p:=0) (m:=if dO P t then cR P t else 1);simp only[a4p,a5a]at this;rw[this];exact l
  ·exact h.elim
 ·exact h.elim
end
end Go.Pev
namespace Go.Pev
variable {t:TypeId} {j d:Nat}
section
variable {F:Nat->Prop} {G:Gh} {ow:OW} {w:World} {P:Program}
def n5 {b:Field} (h:pZ P t j=some b):∃a,P.underlying t=some (.struct a)/\a[j]?=some b:=by
 unfold pZ d5 at h;split at h
 ·rename_i a e;exact⟨a,e,h⟩
 ·cases h
def ld {a:Field} (h:pZ P t j=some a) (c:¬cR P a.type=0) (b o:Nat):(Instr.fieldAt t (.pointer (some ⟨b,o,none⟩)) j).run P w= .ok (.pointer (some ⟨b,o+a.offset,none⟩)) w:=by
 obtain⟨k,e,f⟩:=n5 h;obtain⟨i,d⟩:∃i,P.info? a.type=some i:=by
  cases hq:P.info? a.type with
  |none=>simp[cR,Program.cellsOf,hq]at c
  |some i=>exact⟨i,rfl⟩
 have g:¬i.size=0:=by simpa [cR,Program.cellsOf,d]using c
 simp[Instr.fieldAt,run_underlying e,f,Instr.sureAddr,fieldPlace,sizeOf,typeInfo,d,g,Addr.add_mid]
def mv (h:iT ow d j=true):∃a,ak ow d j=some (some (.box a)):=by
 unfold iT at h;split at h
 ·rename_i a e;exact⟨a,aG e⟩
 ·cases h
def wl {a:List (Nat×Nat)} {r:Sigma λk:Kd=>List k.T} (h:nL ow d j a=some r):a=[]/\∃ver,ak ow d j=some (some (.row r.1 ver r.2))\/ak ow d j=some (some (.frow r.1 ver r.2)):=by
 unfold nL at h;split at h
 ·rename_i k ver l e;cases h;exact⟨rfl,ver,.inl (aG e)⟩
 ·rename_i k ver l e;cases h;exact⟨rfl,ver,.inr (aG e)⟩
 ·cases h
def ik {a:List (Nat×Nat)} {r:Nat×Nat} (h:zn ow d j a=some r):a=[]/\((∃k v l,ak ow d j=some (some (.row k v l))/\r=(k.n,l.length))\/(∃k v l,ak ow d j=some (some (.frow k v l))/\r=(k.n,l.length))\/∃k l f,ak ow d j=some (some (.nrow k l f))/\r=(k.w,l.length)):=by
 unfold zn at h;split at h
 ·rename_i k ver l e;cases h;exact⟨rfl,.inl ⟨k,ver,l,aG e,rfl⟩⟩
 ·rename_i k ver l e;cases h;exact⟨rfl,.inr (.inl ⟨k,ver,l,aG e,rfl⟩)⟩
 ·rename_i k l f e;cases h;exact⟨rfl,.inr (.inr ⟨k,l,f,aG e,rfl⟩)⟩
 ·cases h
def qQ {p:SV} {J:Value} {f:Nat} (g:Sv F G ow w.heap p J) {Q:SV->Prop} (h:(k8 P t p f ow).can Q):∃s v,Q s/\(Instr.fieldAt t J f).run P w= .ok v w/\Sv F G ow w.heap s v:=by
 unfold k8 at h;split at h
 ·exact h.elim
 rename_i z A;split at h
 ·exact h.elim
 rename_i B;split at h
 ·rename_i d j c
  split at h
  ·rename_i M
   obtain⟨C,i⟩:=mv M
   cases g with
   |bp g=>
   simp only[i]at g;obtain⟨b,o,D,rfl⟩:=g;exact⟨_,_,h,ld A B _ _,.bp (by simp only[i];exact⟨b,o,D,by rw[a2n]⟩)⟩
  ·exact h.elim
 ·rename_i d j ver K e c
  split at h
  ·rename_i r q
   obtain⟨rfl,i⟩:=ik q
   cases g with
   |rp g=>
   rcases i with⟨k,L,l,i,rfl⟩|⟨k,L,l,i,rfl⟩|⟨k,l,L,i,rfl⟩<;>
   ·simp only[i]at g
    obtain⟨u,b,o,D,rfl⟩:=g;exact⟨_,_,h,ld A B _ _,.rp (by simp only[i];exact⟨u,b,o,D,by rw[a2n]⟩)⟩
  ·exact h.elim
 ·rename_i k x
  split at h
  ·rename_i y E
   cases g with
   | @ip _ _ b o r hk hok q hsz u=>
   obtain⟨N,H,I⟩:=o5 k hk z.offset E u;refine⟨_,_,h,ld A B _ _,.ip H hok q (by omega) ?_⟩;have:=gz (r:=r) (o:=o) (n:=k.n) (p:=z.offset) (m:=y.1.n);rw[this,a3i (by simp[aW hsz];omega)];exact I
  ·exact h.elim
 ·rename_i a x
  split at h
  ·rename_i O
   split at h
   ·rename_i y E
    cases Iu O g with
    | @ip _ _ b o r hk hok q hsz u=>
    obtain⟨N,H,I⟩:=o5 a.nodeK hk z.offset E u;refine⟨_,_,h,ld A B _ _,.ip H hok q (by omega) ?_⟩;have:=gz (r:=r) (o:=o) (n:=a.nodeK.n) (p:=z.offset) (m:=y.1.n);rw[this,a3i (by simp[aW hsz];omega)];exact I
   ·exact h.elim
  ·exact h.elim
 ·exact h.elim
def qR {n:Nat} (h:jm P t n=true):∃e i,P.underlying t=some (.slice e)/\P.info? e=some i/\i.size=n:=by
 unfold jm d5 at h;split at h
 ·rename_i e a
  split at h
  ·rename_i i b;exact⟨e,i,a,b,by simpa using h⟩
  ·cases h
 ·cases h
def n6 {n:Nat} (a:jm P t n=true) (b o len c:Nat) (k:IntKind) (i:Int) (d:0<=i) (f:i<len):(Instr.indexAt t (.slice (some ⟨b,o,none⟩) len c) (.int k i)).run P w= .ok (.pointer (some ⟨b,o+i.toNat*n,none⟩)) w:=by
 obtain⟨e,j,g,h,rfl⟩:=qR a;simp[Instr.indexAt,asIntOf,run_underlying g,d,f,sizeOf,typeInfo,h,Addr.add_mid]
def qS {x i:SV} {xv O:Value} (f:Sv F G ow w.heap x xv) (I:Sv F G ow w.heap i O) {Q:SV->Prop} (h:(nR P t x i ow).can Q):∃s v,Q s/\(Instr.indexAt t xv O).run P w= .ok v w/\Sv F G ow w.heap s v:=by
 unfold nR at h;split at h
 ·rename_i J n
  cases I with
  |v _ I=>
  cases I
  split at h
  ·rename_i R e l
   split at h
   ·rename_i m
    simp only[a0e]at m;obtain⟨K,y,S,h⟩:=h;have K:0<=n:=by simpa using K
    obtain⟨q,rfl⟩:=a0r.1 S
    cases f with
    |v hk f=>
    cases R with
    |true=>exact f.elim
    |false=>
    obtain⟨a,c,z,A,f⟩:=f;simp only[a5d,and_true]at z;subst z;rcases f with rfl|⟨b,o,r,rfl,hok,C,hel⟩
    ·simp at q
    have T:(n.toNat+1)*e.n<=l.length*e.n:=a0q _ q;rw[a1a,a2w]at T;have U:=hel.1;refine⟨_,_,h,n6 m.2 b o l.length c J n K (by omega),?_⟩;refine .ip m.1 hok C (by rw[Mn];omega) ?_
    rw[Mn];exact Gq e (hel.2 n.toNat q)
   ·exact h.elim
  ·rename_i d j ver B
   split at h
   ·rename_i r C
    split at h
    ·rename_i L
     obtain⟨m,h⟩:=h;simp only[a0v]at m;have p:(0:Int)<=n:=m.1;have aC:n<(r.2:Int):=m.2;have D:n.toNat<r.2:=(Int.toNat_lt p).2 aC;obtain⟨rfl,g⟩:=ik C
     cases f with
     |wh f=>
     rcases g with⟨k,E,l,g,rfl⟩|⟨k,E,l,g,rfl⟩|⟨k,l,E,g,rfl⟩<;>
     ·simp only[cX,g,a2q,a1p]at f
      obtain⟨_,a,c,rfl,A,f⟩:=f;rcases f with⟨_,_,V⟩|⟨b,o,W,M,N,rfl,H,u,_⟩
      ·omega
      ·have u:=u (by omega)
       subst u;simp only[a7b,a4p];exact⟨_,_,h,n6 L b o _ c J n p aC,.rp (by simp only[g];exact⟨D,b,o,N,by simp⟩)⟩
    ·exact h.elim
   ·exact h.elim
  ·rename_i d j ver B off len
   split at h
   ·rename_i r C
    split at h
    ·rename_i L
     obtain⟨m,h⟩:=h;simp only[a0v]at m;have p:(0:Int)<=n:=m.1;have aC:n<(len:Int):=m.2;have D:n.toNat<len:=(Int.toNat_lt p).2 aC;obtain⟨rfl,g⟩:=ik C
     cases f with
     |os f=>
     rcases g with⟨k,E,l,g,rfl⟩|⟨k,E,l,g,rfl⟩|⟨k,l,E,g,rfl⟩<;>
     ·simp only[cX,g,a2r]at f
      obtain⟨X,a,c,rfl,A,f⟩:=f;rcases f with⟨_,_,V⟩|⟨b,o,W,M,N,rfl,H,u,_⟩
      ·omega
      ·have u:=u (by omega)
       subst u;exact⟨_,_,h,n6 L b _ len c J n p aC,.rp (by simp only[g];exact⟨by omega,b,o,N,by rw[a1a,a2n];rfl⟩)⟩
    ·exact h.elim
   ·exact h.elim
  ·exact h.elim
 ·exact h.elim
end
end Go.Pev
namespace Go.Pev
variable {t:TypeId} {v xv:Value} {a b:Option Int} {x:SV} {Q:SV->Prop} {n len c:Nat} {lo hi:Option Value}
section
variable {F:Nat->Prop} {G:Gh} {ow:OW} {w:World} {P:Program}
def Sv.int_inv {k:IntKind} {n:Int} (h:Sv F G ow w.heap (.v (.int k) n) v):v= .int k n:=by
 cases h with
 |v _ h=>cases h;rfl
def Sv.str_inv {s:List UInt8} (h:Sv F G ow w.heap (.v .str s) v):v= .string ⟨s.toArray⟩:=by
 cases h with
 |v _ h=>cases h;rfl
def Sv.bool_inv {b:Bool} (h:Sv F G ow w.heap (.v .bool b) v):v= .bool b:=by
 cases h with
 |v _ h=>cases h;rfl
def Sv.lb_inv {b:Bool} (h:Sv F G ow w.heap (.lb b) v):v= .bool b:=by cases h;rfl
def Sv.int (k:IntKind) (n:Int):Sv F G ow w.heap (.v (.int k) n) (.int k n):= .v rfl rfl
def Sv.str (s:List UInt8):Sv F G ow w.heap (.v .str s) (.string ⟨s.toArray⟩):= .v rfl rfl
def Sv.bool (b:Bool):Sv F G ow w.heap (.v .bool b) (.bool b):= .v rfl rfl
def Sv.sl_inv {o:Bool} {e:Kd} {l:List e.T} (h:Sv F G ow w.heap (.v (.sl o e) l) v):o=false/\∃a c,v= .slice a l.length c/\l.length<=c/\(l=[]\/∃b of r,a=some ⟨b,of,none⟩/\cU F G ow b/\am w.heap b=some r/\bz (λx cs=>ct w.heap (cU F G ow) e x cs) e.n l r of):=by
 cases h with
 |v _ h=>
 cases o with
 |true=>exact h.elim
 |false=>
 obtain⟨a,c,d,h⟩:=h;simp only[a5d,and_true]at d;exact⟨rfl,a,c,d,h⟩
def tN {x:Option SV} {v:Option Value} (b:∀s,x=some s->∃u,v=some u/\Sv F G ow w.heap s u) (c:x=none->v=none) (h:BQ x=some a):(v=none/\a=none)\/∃k n,v=some (.int k n)/\a=some n:=by
 unfold BQ at h;split at h
 ·cases h;exact .inl ⟨c rfl,rfl⟩
 ·rename_i k n
  cases h
  obtain⟨u,rfl,d⟩:=b _ rfl;exact .inr ⟨k,n,by rw[d.int_inv],rfl⟩
 ·cases h
def mw (h:qI n a b=true):(∀x,a=some x->0<=x)/\(∀x,b=some x->0<=x)/\(a.getD 0).toNat<=(b.getD n).toNat/\(b.getD n).toNat<=n:=by
 cases a<;>cases b<;>simp[qI]at h⊢<;>omega
def vE {α:Type} (l:List α) (a b:Option Int):DG l a b=(l.take (b.getD l.length).toNat).drop (a.getD 0).toNat:=by
 cases a<;>cases b<;>simp[DG]
def nm {s:Bool} (i:(lo=none/\a=none)\/∃k n,lo=some (.int k n)/\a=some n)
 (j:(hi=none/\b=none)\/∃k n,hi=some (.int k n)/\b=some n) (q:len<=c) (h:qI len a b=true):
 (Instr.sliceBounds s len c lo hi none).run P w= .ok ((a.getD 0).toNat,(b.getD len).toNat,c) w:=by
 obtain⟨f,g,d,e⟩:=mw h;rcases i with⟨rfl,rfl⟩|⟨m,l,rfl,rfl⟩<;>rcases j with⟨rfl,rfl⟩|⟨r,u,rfl,rfl⟩
 ·simp[Instr.sliceBounds]
 ·have:=g u rfl
  simp at d e;simp[Instr.sliceBounds,run_sliceBound,this,show u<=(c:Int) by omega]
 ·have:=f l rfl
  simp at d e;simp[Instr.sliceBounds,run_sliceBound,this,show l<=(len:Int) by omega]
 ·have o:=f l rfl
  have p:=g u rfl;simp at d e;simp[Instr.sliceBounds,run_sliceBound,p,show u<=(c:Int) by omega,run_sliceBound w m l u.toNat .sliceB o (by omega)]
def zr (c:lE P t=true) {s:List UInt8} (f:(lo=none/\a=none)\/∃k n,lo=some (.int k n)/\a=some n)
 (g:(hi=none/\b=none)\/∃k n,hi=some (.int k n)/\b=some n) (h:qI s.length a b=true):
 (Instr.sliceAt t (.string ⟨s.toArray⟩) lo hi none).run P w= .ok (.string ⟨(DG s a b).toArray⟩) w:=by
 have e:P.underlying t=some .string:=by
  unfold lE d5 at c;split at c
  ·assumption
  ·cases c
 rw[run_sliceAt_string w t _ _ _ _ e];have d:(ByteArray.mk s.toArray).size=s.length:=by simp[ByteArray.size]
 simp only[Instr.slice,Sem.run_bind,run_underlying e,Result.andThen_ok];simp only[Option.isSome_none,a0t,a1y,Sem.run_pure,Sem.run_bind,d];rw[nm f g (a1m _) h];simp only[Result.andThen_ok]
 congr 2
 rw[vE];apply ByteArray.ext;simp[ByteArray.data_extract,a8l]
def my (l:jm P t n=true) {f:Option Addr} (m:len<=c)
 (o:(lo=none/\a=none)\/∃k n,lo=some (.int k n)/\a=some n) (p:(hi=none/\b=none)\/∃k n,hi=some (.int k n)/\b=some n) (h:qI len a b=true):
 (Instr.sliceAt t (.slice f len c) lo hi none).run P w= .ok (.slice (if c=(a.getD 0).toNat then f else f.map (·.add ((a.getD 0).toNat*n))) ((b.getD len).toNat-(a.getD 0).toNat) (c-(a.getD 0).toNat)) w:=by
 obtain⟨e,q,i,g,rfl⟩:=qR l;have j:P.elem t=e:=by simp[Program.elem,i]
 have d:P.underlying t=some (.slice (P.elem t)):=by rw[j];exact i
 rw[run_sliceAt_slice w t _ _ _ _ d,run_slice_any w t f len c d,nm o p m h];simp only[Result.andThen_ok,sizeOf,typeInfo,j];simp[g,sliced]
def nZ.slice {h:Array Obj} {n d j off len:Nat} {v:Value} (g:nZ h G n d j off len v) {l u:Nat} (t:l<=u) (w:u<=len) {a:Option Addr} {c:Nat} (p:v= .slice a len c):nZ h G n d j (off+l) (u-l) (.slice (if c=l then a else a.map (·.add (l*n))) (u-l) (c-l)):=by
 obtain⟨x,y,f,z,g⟩:=g;rw[p]at f;cases f
 refine⟨_,_,rfl,by omega,?_⟩;rcases g with⟨q,rfl,A⟩|⟨b,o,i,r,k,rfl,m,s,B⟩
 ·exact .inl ⟨q,by split<;>rfl,by omega⟩
 ·by_cases e:c=l
  ·refine .inr ⟨b,o,i,r,k,by simp[e],m,λh=>by omega,?_⟩
   subst e;simp;omega
  ·refine .inr ⟨b,o,i+l*n,r,k,by simp only[e,a1y,a1w,Addr.add_mid],m,λ_=> ?_,?_⟩
   ·rw[s (by omega),a1a,a2n]
   ·have:l*n+(c-l)*n=c*n:=by rw[<-a1a];congr 1;omega
    omega
def zt {N I:Option SV} {lov hiv:Option Value} (f:Sv F G ow w.heap x xv)
 (
  O:∀s,N=some s->∃u,lov=some u/\Sv F G ow w.heap s u) (B:N=none->lov=none) (R:∀s,I=some s->∃u,hiv=some u/\Sv F G ow w.heap s u) (C:I=none->hiv=none)
  (h:(BR P t x N I ow).can Q):∃s v,Q s/\(Instr.sliceAt t xv lov hiv none).run P w= .ok v w/\Sv F G ow w.heap s v:=by
 unfold BR at h;split at h
 ·rename_i a b U V
  have J:=tN O B U;have K:=tN R C V;split at h
  ·rename_i s
   split at h
   ·rename_i y
    obtain⟨p,h⟩:=h;rw[f.str_inv];exact⟨_,_,h,zr y J K p,.str _⟩
   ·exact h.elim
  ·rename_i o e l
   split at h
   ·rename_i y
    obtain⟨p,h⟩:=h;obtain⟨rfl,T,c,rfl,z,f⟩:=f.sl_inv;refine⟨_,_,h,my y z J K p,?_⟩;obtain⟨_,_,L,M⟩:=mw p;have q:(DG l a b).length=(b.getD l.length).toNat-(a.getD 0).toNat:=by rw[vE];simp;omega
    refine .v rfl ⟨_,_,by rw[q],by rw[q];omega,?_⟩;rcases f with rfl|⟨bb,o,r,rfl,hok,E,hel⟩
    ·exact .inl (by rw[vE];simp)
    ·by_cases S:c=(a.getD 0).toNat
     ·exact .inl (a0s (by omega))
     ·refine .inr ⟨bb,o+(a.getD 0).toNat*e.n,r,by simp[S,Addr.add_mid],hok,E,?_⟩
      have W:=hel.1;refine⟨?_,λi I=> ?_⟩
      ·have:((a.getD 0).toNat+(DG l a b).length)*e.n<=l.length*e.n:=a0q _ (by omega)
       rw[a1a]at this;omega
      ·have X:(DG l a b)[i]=l[(a.getD 0).toNat+i]'(by omega):=by simp only[vE];simp
       rw[X];have:=hel.2 ((a.getD 0).toNat+i) (by omega);rw[a1a,<-a2n]at this;exact this
   ·exact h.elim
  ·rename_i d j ver D
   split at h
   ·rename_i r E
    obtain⟨Y,Z⟩:=r;dsimp only at h;split at h
    ·rename_i y
     obtain⟨p,h⟩:=h;obtain⟨rfl,m⟩:=ik E;obtain⟨_,_,L,M⟩:=mw p
     cases f with
     |wh f=>
     rcases m with⟨k,H,l,m,g⟩|⟨k,H,l,m,g⟩|⟨k,l,H,m,g⟩<;>cases g<;>
     ·simp only[cX,m,a2q]at f
      obtain⟨z,f⟩:=f;obtain⟨T,c,rfl,A,_⟩:=id f;refine⟨_,_,h,my y A J K p,.os ?_⟩;simp only[cX,m,a2r];have:=f.slice L M rfl;rw[a1p]at this;exact⟨by omega,this⟩
    ·exact h.elim
   ·exact h.elim
  ·rename_i d j ver D off len
   split at h
   ·rename_i r E
    obtain⟨Y,Z⟩:=r;dsimp only at h;split at h
    ·rename_i y
     obtain⟨p,h⟩:=h;obtain⟨rfl,m⟩:=ik E;obtain⟨_,_,L,M⟩:=mw p
     cases f with
     |os f=>
     rcases m with⟨k,H,l,m,g⟩|⟨k,H,l,m,g⟩|⟨k,l,H,m,g⟩<;>cases g<;>
     ·simp only[cX,m,a2r]at f
      obtain⟨z,f⟩:=f;obtain⟨T,c,rfl,A,_⟩:=id f;refine⟨_,_,h,my y A J K p,.os ?_⟩;simp only[cX,m,a2r];exact⟨by omega,f.slice L M rfl⟩
    ·exact h.elim
   ·exact h.elim
  ·exact h.elim
 ·exact h.elim
def DM {ty:TypeId} {ts:List TypeId} (b:Sv F G ow w.heap x xv) (h:(L9 P t x ow).can Q):∃s v,Q s/\(Builtin.len_ (t::ts).toArray ty #[xv]).run P w= .ok v w/\Sv F G ow w.heap s v:=by
 unfold L9 at h;split at h
 ·rename_i s
  split at h
  ·rename_i g
   have o:P.underlying t=some .string:=by
    unfold lE d5 at g;split at g
    ·assumption
    ·cases g
   rw[b.str_inv];have p:(ByteArray.mk s.toArray).size=s.length:=by simp[ByteArray.size]
   exact⟨_,_,h,by simp[Builtin.len_,run_underlying o,goInt,p],.int _ _⟩
  ·exact h.elim
 ·split at h
  ·rename_i g
   obtain⟨e,o⟩:∃e,P.underlying t=some (.slice e):=by
    unfold gj d5 at g;split at g
    ·exact⟨_,by assumption⟩
    ·cases g
   have d:∀a n c,(Builtin.len_ (t::ts).toArray ty #[.slice a n c]).run P w= .ok (.int .i64 n) w:=λa n c=>by simp[Builtin.len_,run_underlying o,goInt]
   split at h
   ·obtain⟨_,_,_,rfl,_⟩:=b.sl_inv
    exact⟨_,_,h,d _ _ _,.int _ _⟩
   ·cases b
    exact⟨_,_,h,d _ _ _,.int _ _⟩
   ·split at h
    ·rename_i r q
     obtain⟨rfl,f⟩:=ik q
     cases b with
     |wh b=>
     rcases f with⟨k,i,l,f,rfl⟩|⟨k,i,l,f,rfl⟩|⟨k,l,i,f,rfl⟩<;>
     ·simp only[cX,f,a2q]at b
      obtain⟨_,_,_,rfl,_⟩:=b;exact⟨_,_,h,d _ _ _,.int _ _⟩
    ·split at h
     ·rename_i n j
      cases b with
      |wh b=>
      unfold Pu at j;split at j
      ·rename_i m u
       cases j
       simp only[cX,aG u,a2q]at b;obtain⟨_,_,rfl⟩:=b;exact⟨_,_,h,d _ _ _,.int _ _⟩
      ·cases j
     ·exact h.elim
   ·split at h
    ·rename_i r q
     obtain⟨rfl,f⟩:=ik q
     cases b with
     |os b=>
     rcases f with⟨k,i,l,f,rfl⟩|⟨k,i,l,f,rfl⟩|⟨k,l,i,f,rfl⟩<;>
     ·simp only[cX,f,a2r]at b
      obtain⟨_,_,_,rfl,_⟩:=b;exact⟨_,_,h,d _ _ _,.int _ _⟩
    ·exact h.elim
   ·exact h.elim
  ·exact h.elim
def DN (a:lE P t=true):P.underlying t=some .string:=by
 unfold lE d5 at a;split at a
 ·assumption
 ·cases a
def zu (e:lE P t=true) {i:SV} {d:Value} (f:Sv F G ow w.heap x xv) (g:Sv F G ow w.heap i d) (h:(BX x i).can Q):∃s v,Q s/\(Instr.index t xv d).run P w= .ok v w/\Sv F G ow w.heap s v:=by
 unfold BX at h;split at h
 ·rename_i s k n
  obtain⟨a,b,j,h⟩:=h;have a:(0:Int)<=n:=by simpa using a
  rw[f.str_inv,g.int_inv];refine⟨_,_,h,?_,.int _ _⟩;obtain⟨c,rfl⟩:=a0r.1 j;have:(ByteArray.mk s.toArray)[n.toNat]?=some (s[n.toNat]):=by
   rw[ByteArray.getElem?_lt' _ _ (by simpa [ByteArray.size]using c)];rfl
  simp[Instr.index,asIntOf,run_underlying (DN e),a,this]
 ·exact h.elim
def n7 {src a e:TypeId} (h:P.underlying src=some (.slice e)) (j:P.underlying e=some (.int .u8)) (k:P.underlying a=some .string) {b o:Nat} {l:List Int} {r:Array Value}
 (m:am w.heap b=some r) (d:bz (λ(x:Int) cs=>cs=[Value.int .u8 x]) 1 l r o):
 (convert src a (.slice (some ⟨b,o,none⟩) l.length c)).run P w= .ok (.string ⟨(l.map λn:Int=>UInt8.ofNat n.toNat).toArray⟩) w:=by
 rw[run_convert_bytes_arg w src e h j b o l.length c l rfl (λi g=> ?_) a k]
 ·rfl
 ·rw[bQ m]
  have:=d.2 i g;have p:=d.1;have f:=aN (r:=r) (o:=o+i*1) (n:=1) (i:=0) (by omega);rw[this]at f;simp only[a1r,a5z,a4p]at f;rw[<-f];simp[List.getD,g]
def bz.part {α:Type} {R:α->List Value->Prop} {l:List α} {r:Array Value} {o:Nat} (h:bz R n l r o) {off:Nat} (a:off+len<=l.length):bz R n (aM l off len) r (o+off*n):=by
 have b:(aM l off len).length=len:=by simp[aM];omega
 refine⟨?_,λi c=> ?_⟩
 ·have:=h.1
  have e:(off+len)*n<=l.length*n:=a0q _ a;rw[a1a]at e;rw[b];omega
 ·have:=h.2 (off+i) (by omega)
  rw[a1a,<-a2n]at this;have e:(aM l off len)[i]=l[off+i]'(by omega):=by simp[aM]
  rw[e];exact this
def jz (L:bx F G ow w.heap) (p:Sv F G ow w.heap x xv) {r:Sigma λk:Kd=>List k.T} (s:k6 ow x=some r):∃d j ver l0,jP x=some (d,j)/\(ak ow d j=some (some (.row r.1 ver l0))\/ak ow d j=some (some (.frow r.1 ver l0)))/\r.1.good=true/\∃a c,xv= .slice a r.2.length c/\r.2.length<=c/\(r.2=[]\/∃b o g,(∃A,G d j 0=some (b,A))/\a=some ⟨b,o,none⟩/\am w.heap b=some g/\bz (λx cs=>ct w.heap (cU F G ow) r.1 x cs) r.1.n r.2 g o/\(nN ow d j=false->cU F G ow b)):=by
 have B:∀ {d j off:Nat} {len:Option Nat} {k:Kd} {l0:List k.T},cX w.heap G ow d j off len xv->nL ow d j []=some ⟨k,l0⟩->
  ∃ver,(ak ow d j=some (some (.row k ver l0))\/ak ow d j=some (some (.frow k ver l0)))/\k.good=true/\off+len.getD l0.length<=l0.length/\∃a c,xv= .slice a (len.getD l0.length) c/\len.getD l0.length<=c/\
  (aM l0 off (len.getD l0.length)=[]\/∃b o g,(∃A,G d j 0=some (b,A))/\a=some ⟨b,o,none⟩/\am w.heap b=some g/\bz (λx cs=>ct w.heap (cU F G ow) k x cs) k.n (aM l0 off (len.getD l0.length)) g o/\(nN ow d j=false->cU F G ow b)):=by
  intro d j off len k l0 p s;unfold nL at s;split at s
  ·rename_i N ver O _ I
   cases s
   have t:=aG I;simp only[cX,t]at p;obtain⟨i,a,c,rfl,l,p⟩:=p;obtain⟨_,f,C⟩:=L.obs d j _ t;refine⟨ver,.inl t,f,i,a,c,rfl,l,?_⟩;rcases p with⟨_,_,P⟩|⟨b,o,A,g,D,rfl,m,q,_⟩
   ·exact .inl (by simp[aM];omega)
   ·by_cases y:0<c
    ·have q:=q y
     subst q;simp only[D]at C;obtain⟨Q,et,J,z⟩:=C;have:=aP J;rw[m]at this;cases this
     exact .inr ⟨b,_,g,⟨o,D⟩,rfl,m,z.part i,λR=>by simp[nN,I]at R⟩
    ·exact .inl (by simp[aM];omega)
  ·rename_i N ver O _ I
   cases s
   have t:=aG I;simp only[cX,t]at p;obtain⟨i,a,c,rfl,l,p⟩:=p;obtain⟨f,C⟩:=L.obs d j _ t;refine⟨ver,.inr t,f,i,a,c,rfl,l,?_⟩;rcases p with⟨_,_,P⟩|⟨b,o,A,g,D,rfl,m,q,_⟩
   ·exact .inl (by simp[aM];omega)
   ·by_cases y:0<c
    ·have q:=q y
     subst q;simp only[D]at C;rcases C with rfl|⟨hok,Q,J,z⟩
     ·exact .inl (by simp[aM])
     rw[m]at J;cases J
     exact .inr ⟨b,_,g,⟨o,D⟩,rfl,m,z.part i,λ_=>hok⟩
    ·exact .inl (by simp[aM];omega)
  ·cases s
 unfold k6 at s;split at s
 ·rename_i d j ver E
  have K:=(wl s).1;subst K
  cases p with
  |wh p=>
  obtain⟨u,t,f,i,a,c,v,l,h⟩:=B p s;have e:aM r.2 0 r.2.length=r.2:=by simp[aM]
  simp only[a2q,e]at v l h;exact⟨d,j,u,r.2,rfl,t,f,a,c,v,l,h⟩
 ·rename_i d j ver E off len
  split at s
  ·rename_i M H
   cases s
   have K:=(wl H).1;subst K
   cases p with
   |os p=>
   obtain⟨u,t,f,i,a,c,v,l,h⟩:=B p H;simp only[a2r]at v l h i;have e:(aM M.2 off len).length=len:=by simp[aM];omega
   refine⟨d,j,u,M.2,rfl,t,f,a,c,?_,?_,h⟩<;>simp only[e]<;>assumption
  ·cases s
 ·cases s
def u2 {src f:TypeId} (y:bx F G ow w.heap) (g:Sv F G ow w.heap x xv) (h:(sf P src f x ow).can Q):∃s v,Q s/\(convert src f xv).run P w= .ok v w/\Sv F G ow w.heap s v:=by
 unfold sf d5 at h;split at h
 ·rename_i A k B n m p
  rw[g.int_inv];exact⟨_,_,h,by simp[convert,run_underlying m,run_underlying p,Conv.intToInt],.int _ _⟩
 ·rename_i e m p
  split at h
  ·rename_i u
   have q:∀l c,(convert src f (.slice none l c)).run P w= .ok (.string ByteArray.empty) w:=λl c=>run_convert_bytes_nil w src e m u l c f p
   have i:∀a c,(convert src f (.slice a 0 c)).run P w= .ok (.string ⟨#[]⟩) w:=λa c=>by
    cases a with
    |none=>exact q _ _
    |some a=>
     rw[run_convert_bytes_string w src f e _ 0 c m u p,run_bytesToString w a 0 c [] (by simpa using run_loadCells_list (P:=P) w a [] (λj v z=>by simp at z))];rfl
   split at h
   ·cases g
    exact⟨_,_,h,i _ _,.str _⟩
   ·rename_i o l
    obtain⟨rfl,a,c,rfl,_,g⟩:=g.sl_inv;rcases g with rfl|⟨b,of,r,rfl,_,hr,hel⟩
    ·exact⟨_,_,h,i _ _,.str _⟩
    ·exact⟨_,_,h,n7 m u p hr hel,.str _⟩
   ·split at h
    ·rename_i l t
     obtain⟨d,j,ver,l0,_,_,_,a,c,rfl,_,g⟩:=jz y g t;rcases g with g|⟨b,of,r,_,rfl,hr,hel,_⟩
     ·simp only at g
      subst g;exact⟨_,_,h,i _ _,.str _⟩
     ·exact⟨_,_,h,n7 m u p hr hel,.str _⟩
    ·exact h.elim
  ·exact h.elim
 ·exact h.elim
end
end Go.Pev
namespace Go.Pev
variable {t:TypeId} {Q:SV->Prop} {op:BinOp} {a b xv:Value} {x:SV}
section
variable {F:Nat->Prop} {G:Gh} {ow:OW} {w:World} {P:Program}
def n9 (op:BinOp) (t:TypeId) (c d:Operand) (a b:Value) (h:(match a,b with
 | .nilIface,.nilIface=>do
  if(c matches .const _)||(d matches .const _)then return
  if<-Op.eqGuardIn Op.maxDepth t a b then unsupported (.noEntry "binop/eql: two nil values of an interface type with methods, neither of them the literal nil")
 | .agg _,.agg _=>do
  if !(<-program).eqGuardType (<-program).depth t then return
  if<-Op.eqGuardIn Op.maxDepth t a b then unsupported (.noEntry "binop/eql: two nil values of an interface type with methods, in a part of a struct or an array")
 |_,_=>pure ():Sem Unit).run P w= .ok () w):(eqGuard op t c d a b).run P w= .ok () w:=by
 cases op<;>simp only[eqGuard,a0o,a0u,a0t,a1y,a1z]<;>first|exact h|rfl
def cY (op:BinOp) (t:TypeId) (c d:Operand) (a b:Value) (e:¬(a= .nilIface/\b= .nilIface)) (f:∀xs ys,¬(a= .agg xs/\b= .agg ys)):(eqGuard op t c d a b).run P w= .ok () w:=by
 apply n9;split
 ·exact absurd ⟨rfl,rfl⟩ e
 ·exact absurd ⟨rfl,rfl⟩ (f _ _)
 ·rfl
def g8 {c d:Operand} {v:Value} (e:(eqGuard op t c d a b).run P w= .ok () w) (f:(binOp op t a b).run P w= .ok v w):(do eqGuard op t c d a b;binOp op t a b:Sem Value).run P w= .ok v w:=by
 rw[Sem.run_bind,e,Result.andThen_ok,f]
def Ca {k:IntKind} {a b:Int} (h:(Gj op k a b).can Q):∃s v,Q s/\(binOp op t (.int k a) (.int k b)).run P w= .ok v w/\Sv F G ow w.heap s v:=by
 cases op<;>simp only[Gj]at h<;>first
  |exact⟨_,_,h,by simp[binOp,Op.intArith,Op.intBits,Op.intCmp],.int _ _⟩
  |exact⟨_,_,h,by simp[binOp,Op.intArith,Op.intBits,Op.intCmp],.bool _⟩
  |exact h.elim
  |(
   obtain⟨c,h⟩:=h
   have c:¬b=0:=by simpa using c
   exact⟨_,_,h,by simp[binOp,Op.intDiv,c],.int _ _⟩)
def Cb {a b:List UInt8} (h:(Gk op a b).can Q):∃s v,Q s/\(binOp op t (.string ⟨a.toArray⟩) (.string ⟨b.toArray⟩)).run P w= .ok v w/\Sv F G ow w.heap s v:=by
 cases op<;>simp only[Gk]at h<;>first
  |exact h.elim
  |exact⟨_,_,h,by simp[binOp,Op.stringOp],.bool _⟩
  |(
   obtain⟨c,h⟩:=h
   have c:((a.length+b.length:Nat):Int)<=9223372036854775807:=a0w c;refine⟨_,_,h,?_,.str _⟩;have e:(binOp .add t (.string ⟨a.toArray⟩) (.string ⟨b.toArray⟩)).run P w=(Op.stringOp .add ⟨a.toArray⟩ ⟨b.toArray⟩).run P w:=by simp only[binOp]
   rw[e,run_string_add_sum,ByteArray.mk_append_mk];have d:(ByteArray.mk a.toArray).size=a.length:=by simp[ByteArray.size]
   have f:(ByteArray.mk b.toArray).size=b.length:=by simp[ByteArray.size]
   rw[d,f];omega)
def gC {c:Bool} (h:∀d,(Op.equalIn (d+1) t a b).run P w= .ok c w):(Op.equal t a b).run P w= .ok c w:=h 9999
def np {e:TypeId} (b:P.underlying t=some (.slice e)) (a:Option Addr) (n c d:Nat):(Op.equalIn (d+1) t (.slice a n c) (.slice none 0 0)).run P w= .ok a.isNone w:=by
 cases a<;>simp[Op.equalIn,run_underlying b]
def wm {ms} (a:P.underlying t=some (.interface ms)) (d:Nat):(Op.equalIn (d+1) t .nilIface .nilIface).run P w= .ok true w:=by
 simp[Op.equalIn,run_underlying a]
def wn {ms} (a:P.underlying t=some (.interface ms)) (d:Nat) (ty:TypeId) (v:Value):(Op.equalIn (d+1) t .nilIface (.iface ty v)).run P w= .ok false w:=by
 simp[Op.equalIn,run_underlying a]
def wo {ms} (a:P.underlying t=some (.interface ms)) (d:Nat) (ty:TypeId) (v:Value):(Op.equalIn (d+1) t (.iface ty v) .nilIface).run P w= .ok false w:=by
 simp[Op.equalIn,run_underlying a]
def kr {c:Bool} (h:(Mb op c).can Q) (d:(Op.equal t a b).run P w= .ok c w)
 (e:∀op,op= .eql\/op= .neq->binOp op t a b=(do let r<-Op.equal t a b;pure (.bool (if op= .eql then r else !r)))):
 ∃s v,Q s/\(binOp op t a b).run P w= .ok v w/\Sv F G ow w.heap s v:=by
 unfold Mb Oc at h
 cases op<;>first
  |exact h.elim
  |exact⟨_,_,h,by rw[e _ (.inl rfl)];simp[d],.bool _⟩
  |exact⟨_,_,h,by rw[e _ (.inr rfl)];simp[d],.bool _⟩
def mz {s:SV} {v:Value} {b:Bool} (h:Sv F G ow w.heap s v) (a:si s=some b):v= .bool b:=by
 unfold si at a;split at a
 ·cases a;exact h.bool_inv
 ·cases a;exact h.lb_inv
 ·cases a
def nq {xs ys:List Value}:(l:List Field)->(i:Nat)-> {a b:List SV}-> {c:Bool}->eU P i l a b=some c->(d:Nat)->dq F G ow w.heap a (xs.drop i)->dq F G ow w.heap b (ys.drop i)->(Op.eqFields (d+1) xs.toArray ys.toArray l).run P w= .ok c w
 |[],_,[],[],_,h,_,_,_=>by cases h;rfl
 |[],_,_::_,_,_,h,_,_,_=>by simp[eU]at h
 |[],_,[],_::_,_,h,_,_,_=>by simp[eU]at h
 |_::_,_,[],_,_,h,_,_,_=>by simp[eU]at h
 |_::_,_,_::_,[],_,h,_,_,_=>by simp[eU]at h
 |f::l,i,a::r,b::s,c,h,d,ha,hb=>by
  obtain⟨x,p,C,q,n⟩:=ha.uncons;obtain⟨y,t,D,u,o⟩:=hb.uncons;have I:xs.drop (i+1)=p:=by rw[<-a4o,C];rfl
  have J:ys.drop (i+1)=t:=by rw[<-a4o,D];rfl
  rw[<-I]at n;rw[<-J]at o;have K:xs[i]?=some x:=by have:=a1v (·[0]?) C;simpa using this
  have L:ys[i]?=some y:=by have:=a1v (·[0]?) D;simpa using this
  simp only[eU]at h;split at h
  ·rename_i E
   simp only[a0e,bne_iff_ne,ne_eq,a3b]at E;obtain⟨M,N⟩:=E;have H:∀(d':TypeDesc),P.underlying f.type=some d'->d'.isRow=false->∀(v:List Value) z,v[i]?=some z->(part f.type v.toArray f.offset).run P w= .ok z w:=by
    intro d' j A v z O;have B:dO P f.type=false:=by unfold dO d5;rw[j];cases d'<;>simp_all[TypeDesc.isRow]
    simp[part,mr j,B,N,O]
   have step:∀(d':TypeDesc),P.underlying f.type=some d'->d'.isRow=false->∀e,(Op.equalIn (d+1) f.type x y).run P w= .ok e w->∀m,eU P (i+1) l r s=some m->(Op.eqFields (d+1) xs.toArray ys.toArray (f::l)).run P w= .ok (e&& m) w:=by
    intro d' j A e Q m g;have ih:=nq l (i+1) g d n o;simp only[Op.eqFields,ne_eq,M,not_false_eq_true,a1z,Sem.run_bind,H d' j A xs x K,H d' j A ys y L,Result.andThen_ok,Q]
    cases e
    ·simp
    ·simpa using ih
   split at h
   ·rename_i k a T b
    rw[q.int_inv,u.int_inv]at step;split at h
    ·rename_i R
     subst R;split at h
     ·rename_i S j
      split at h
      ·rename_i m g
       cases h
       exact step _ j rfl _ (run_equalIn_int w d f.type k S a b j) _ g
      ·cases h
     ·cases h
    ·cases h
   ·rename_i a b
    rw[q.str_inv,u.str_inv]at step;split at h
    ·rename_i j
     split at h
     ·rename_i m g
      cases h
      exact step _ j rfl _ (by rw[run_equalIn_string w d f.type _ _ j];simp) _ g
     ·cases h
    ·cases h
   ·rename_i a b
    rw[q.bool_inv,u.bool_inv]at step;split at h
    ·rename_i j
     split at h
     ·rename_i m g
      cases h
      exact step _ j rfl _ (run_equalIn_bool' w d f.type a b j) _ g
     ·cases h
    ·cases h
   ·cases h
  ·cases h
def zv (h:v7 P t=true):∃a,P.underlying t=some (.interface a):=by
 unfold v7 d5 at h;split at h
 ·exact⟨_,by assumption⟩
 ·cases h
def Cc (h:BU P t=true):P.underlying t=some .bool:=by
 unfold BU d5 at h;split at h
 ·assumption
 ·cases h
def gR (h:gj P t=true):∃e,P.underlying t=some (.slice e):=by
 unfold gj d5 at h;split at h
 ·exact⟨_,by assumption⟩
 ·cases h
def zw {i:TypeId} (j:P.underlying t=some (.slice i)) {a:Option Addr} {n c:Nat} {e:Bool} (h:(BV op e).can Q) (f:e=false->a.isSome=true):∃s v,Q s/\(binOp op t (.slice a n c) (.slice none 0 0)).run P w= .ok v w/\Sv F G ow w.heap s v:=by
 have g:(Op.equal t (.slice a n c) (.slice none 0 0)).run P w= .ok a.isNone w:=gC λd=>np j a n c d
 unfold BV at h;split at h
 ·have b:(binOp .eql t (.slice a n c) (.slice none 0 0)).run P w= .ok (.bool a.isNone) w:=by simp[binOp,g]
  cases a with
  |none=>
   cases e with
   |true=>exact⟨_,_,h.1,b,.lb _⟩
   |false=>simp at f
  |some a=>
   cases e with
   |true=>exact⟨_,_,h.2,b,.lb _⟩
   |false=>exact⟨_,_,h,b,.lb _⟩
 ·have b:(binOp .neq t (.slice a n c) (.slice none 0 0)).run P w= .ok (.bool !a.isNone) w:=by simp[binOp,g]
  cases a with
  |none=>
   cases e with
   |true=>exact⟨_,_,h.1,b,.lb _⟩
   |false=>simp at f
  |some a=>
   cases e with
   |true=>exact⟨_,_,h.2,b,.lb _⟩
   |false=>exact⟨_,_,h,b,.lb _⟩
 ·exact h.elim
def zx (f:bx F G ow w.heap) (b:Sv F G ow w.heap x xv) {e:Bool} (h:BW ow x=some e):∃a n c,xv= .slice a n c/\(e=false->a.isSome=true):=by
 unfold BW at h;split at h
 ·cases h
  obtain⟨_,a,c,rfl,_,b⟩:=b.sl_inv;refine⟨_,_,_,rfl,λd=> ?_⟩;rcases b with rfl|⟨_,_,_,rfl,_⟩
  ·simp at d
  ·rfl
 ·split at h
  ·rename_i r g
   cases h
   obtain⟨_,_,_,_,_,_,_,a,c,rfl,_,b⟩:=jz f b g;refine⟨_,_,_,rfl,λd=> ?_⟩;rcases b with b|⟨_,_,_,_,rfl,_⟩
   ·simp[b]at d
   ·rfl
  ·cases h
def DO {u:Bool} {z A:Operand} (B:u=((z matches .const _)||(A matches .const _))) {y:SV} {H:Value} (T:bx F G ow w.heap)
 (m:Sv F G ow w.heap x xv) (o:Sv F G ow w.heap y H) (h:(Mc P op t u x y ow).can Q):
 ∃s v,Q s/\(do eqGuard op t z A xv H;binOp op t xv H:Sem Value).run P w= .ok v w/\Sv F G ow w.heap s v:=by
 unfold Mc at h;split at h
 ·rename_i k a U b
  rw[m.int_inv,o.int_inv];have r:(eqGuard op t z A (.int k a) (.int U b)).run P w= .ok () w:=cY _ _ _ _ _ _ (by simp) (by simp);split at h
  ·obtain⟨f,h⟩:=h
   have f:¬b<(0:Int):=Int.not_lt.2 (a0w f);exact⟨_,_,h,g8 r (by simp[binOp,Op.shift,f]),.int _ _⟩
  ·obtain⟨f,h⟩:=h
   have f:¬b<(0:Int):=Int.not_lt.2 (a0w f);exact⟨_,_,h,g8 r (by simp[binOp,Op.shift,f]),.int _ _⟩
  ·split at h
   ·rename_i V
    subst V;obtain⟨s,v,g,i,j⟩:=Ca (F:=F) (G:=G) (ow:=ow) (w:=w) (P:=P) (t:=t) h;exact⟨s,v,g,g8 r i,j⟩
   ·exact h.elim
 ·rename_i a b
  split at h
  ·rw[m.str_inv,o.str_inv]
   obtain⟨s,v,g,i,j⟩:=Cb (F:=F) (G:=G) (ow:=ow) (w:=w) (P:=P) (t:=t) h;exact⟨s,v,g,g8 (cY _ _ _ _ _ _ (by simp) (by simp)) i,j⟩
  ·exact h.elim
 ·rename_i a b
  split at h
  ·rename_i f
   simp only[a0e]at f;obtain⟨X,l⟩:=zv f.1;obtain⟨I,h⟩:=h;have C:=f.2;rw[B]at C
   cases m with
   |v _ m=>
   cases o with
   |v _ o=>
   rcases m with⟨rfl,m⟩|⟨rfl,tx,N,m⟩<;>rcases o with⟨rfl,o⟩|⟨rfl,ty,O,o⟩<;>cases m<;>cases o
   ·obtain⟨s,v,g,i,j⟩:=kr (F:=F) (G:=G) (ow:=ow) (w:=w) (P:=P) (t:=t) (a:= .nilIface) (b:= .nilIface) h (gC λd=>wm l d) (λop p=>by rcases p with rfl|rfl<;>simp[binOp])
    refine⟨s,v,g,g8 (n9 _ _ _ _ _ _ ?_) i,j⟩;simp only[];rw[a0f (by simpa using C)];rfl
   ·obtain⟨s,v,g,i,j⟩:=kr (F:=F) (G:=G) (ow:=ow) (w:=w) (P:=P) (t:=t) (a:= .nilIface) (b:= .iface ty O) h (gC λd=>wn l d ty O) (λop p=>by rcases p with rfl|rfl<;>simp[binOp])
    exact⟨s,v,g,g8 (cY _ _ _ _ _ _ (by simp) (by simp)) i,j⟩
   ·obtain⟨s,v,g,i,j⟩:=kr (F:=F) (G:=G) (ow:=ow) (w:=w) (P:=P) (t:=t) (a:= .iface tx N) (b:= .nilIface) h (gC λd=>wo l d tx N) (λop p=>by rcases p with rfl|rfl<;>simp[binOp])
    exact⟨s,v,g,g8 (cY _ _ _ _ _ _ (by simp) (by simp)) i,j⟩
   ·simp at I
  ·exact h.elim
 ·rename_i a b
  split at h
  ·rename_i R l
   split at h
   ·exact h.elim
   rename_i q;simp only[a4d,not_or,a3z]at q;split at h
   ·rename_i c f
    obtain⟨xs,rfl,J⟩:=m.agg_inv;obtain⟨ys,rfl,K⟩:=o.agg_inv;have S:P.fieldsOf t=R:=by simp[Program.fieldsOf,d5]at l⊢;rw[l]
    have L:P.underlying t=some (.struct (P.fieldsOf t)):=by rw[S];exact l
    have E:(Op.equal t (.agg xs.toArray) (.agg ys.toArray)).run P w= .ok c w:=by
     show(Op.equalIn (9998+1+1) t _ _).run P w=_
     generalize (9998:Nat)=d
     rw[run_equalIn_struct w (d+1) t _ _ L q.1,S];exact nq R.toList 0 f d (by simpa using J) (by simpa using K)
    obtain⟨s,v,g,i,j⟩:=kr (F:=F) (G:=G) (ow:=ow) (w:=w) (P:=P) (t:=t) h E (λop p=>by rcases p with rfl|rfl<;>simp[binOp]);exact⟨s,v,g,g8 (run_eqGuard_agg w op t z A _ _ q.2) i,j⟩
   ·exact h.elim
  ·exact h.elim
 ·split at h
  ·rename_i D
   obtain⟨e,l⟩:=gR D;split at h
   ·rename_i c f
    cases m
    cases o
    have E:(Op.equal t (.slice none 0 0) (.slice none 0 0)).run P w= .ok true w:=gC λd=>np l none 0 0 d
    have r:(eqGuard op t z A (.slice none 0 0) (.slice none 0 0)).run P w= .ok () w:=cY _ _ _ _ _ _ (by simp) (by simp)
    cases op<;>simp[Oc]at f
    ·subst f;exact⟨_,_,h,g8 r (by simp[binOp,E]),.lb _⟩
    ·subst f;exact⟨_,_,h,g8 r (by simp[binOp,E]),.lb _⟩
   ·exact h.elim
  ·exact h.elim
 ·split at h
  ·rename_i D
   obtain⟨e,l⟩:=gR D;split at h
   ·rename_i c f
    cases o
    obtain⟨a,n,Y,rfl,M⟩:=zx T m f;obtain⟨s,v,g,i,j⟩:=zw (F:=F) (G:=G) (ow:=ow) (w:=w) l h M;exact⟨s,v,g,g8 (cY _ _ _ _ _ _ (by simp) (by simp)) i,j⟩
   ·exact h.elim
  ·exact h.elim
 ·split at h
  ·rename_i a b M W
   split at h
   ·rename_i D
    have l:=Cc D;rw[mz m M,mz o W];obtain⟨s,v,g,i,j⟩:=kr (F:=F) (G:=G) (ow:=ow) (w:=w) (P:=P) (t:=t) (a:= .bool a) (b:= .bool b) h (gC λd=>run_equalIn_bool' w d t a b l) (λop p=>by rcases p with rfl|rfl<;>simp[binOp])
    exact⟨s,v,g,g8 (cY _ _ _ _ _ _ (by simp) (by simp)) i,j⟩
   ·exact h.elim
  ·exact h.elim
def Gr {op:UnOp} (a:Sv F G ow w.heap x xv) (h:(PR op x).can Q):∃s v,Q s/\(Op.unary op xv).run P w= .ok v w/\Sv F G ow w.heap s v:=by
 unfold PR at h;split at h
 ·rw[a.bool_inv];exact⟨_,_,h,by simp[Op.unary],.bool _⟩
 ·rw[a.lb_inv];exact⟨_,_,h,by simp[Op.unary],.lb _⟩
 ·rw[a.int_inv];exact⟨_,_,h,by simp[Op.unary,Op.intArith],.int _ _⟩
 ·rw[a.int_inv];exact⟨_,_,h,by simp[Op.unary,Op.intBits],.int _ _⟩
 ·exact h.elim
def Cd {c a b:SV} {f d e:Value} (g:Sv F G ow w.heap c f) (i:Sv F G ow w.heap a d) (j:Sv F G ow w.heap b e) (h:(Gl c a b).can Q):∃s v,Q s/\(do pure (if<-asBool f then d else e):Sem Value).run P w= .ok v w/\Sv F G ow w.heap s v:=by
 unfold Gl at h;split at h
 ·rename_i t
  rw[g.lb_inv]
  cases t
  ·exact⟨_,e,h,by simp[asBool],j⟩
  ·exact⟨_,d,h,by simp[asBool],i⟩
 ·rename_i t
  split at h
  ·rename_i x y k l
   rw[g.bool_inv,mz i k,mz j l]
   cases t
   ·exact⟨_,_,h,by simp[asBool],.bool _⟩
   ·exact⟨_,_,h,by simp[asBool],.bool _⟩
  ·exact h.elim
 ·exact h.elim
end
end Go.Pev
namespace Go.Pev
variable {t:TypeId} {Q:SV->Prop} {v xv:Value} {x:SV}
section
variable {F:Nat->Prop} {G:Gh} {ow:OW} {w:World} {P:Program}
def Gs {s:SV} (h:Sv F G ow w.heap s v) (b:vY s=true):v.oneCell'=true:=by
 cases h with
 | @v k x val hk a=>
  cases k with
  |int _=>cases a;rfl
  |bool=>cases a;rfl
  |str=>cases a;rfl
  |err=>rcases a with⟨_,a⟩|⟨_,_,_,a⟩<;>cases a<;>rfl
  |any=>cases a;rfl
  |sl o e=>
   cases o with
   |true=>exact a.elim
   |false=>obtain⟨_,_,a,_⟩:=a;cases a;rfl
  |nil=>cases hk
  |cons _ _=>cases hk
  |tree _=>obtain⟨v,a,c⟩:=a;cases a;obtain⟨_,_,rfl⟩:=c.ptr;rfl
 |lb=>rfl
 |dead=>cases b
 |nils=>rfl
 |agg=>cases b
 |tup=>cases b
 |fn=>rfl
 |wh h=>
  unfold cX at h;split at h
  ·exact h.elim
  ·exact h
  ·exact h.elim
  ·obtain⟨_,_,_,rfl,_⟩:=h;rfl
  ·obtain⟨_,_,_,rfl,_⟩:=h;rfl
  ·obtain⟨_,_,_,rfl,_⟩:=h;rfl
  ·obtain⟨_,_,rfl⟩:=h;rfl
 |os h=>
  unfold cX at h;split at h
  ·exact h.elim
  ·exact h
  ·exact h.elim
  ·obtain⟨_,_,_,rfl,_⟩:=h;rfl
  ·obtain⟨_,_,_,rfl,_⟩:=h;rfl
  ·obtain⟨_,_,_,rfl,_⟩:=h;rfl
  ·obtain⟨_,_,rfl⟩:=h;rfl
 |bp h=>
  split at h
  ·exact h.elim
  ·exact h
  ·obtain⟨_,_,_,rfl⟩:=h;rfl
  ·exact h
  ·exact h.elim
 |rp h=>
  split at h
  ·exact h.elim
  ·exact h
  ·obtain⟨_,_,_,_,rfl⟩:=h;rfl
  ·obtain⟨_,_,_,_,rfl⟩:=h;rfl
  ·obtain⟨_,_,_,_,rfl⟩:=h;rfl
  ·exact h
  ·exact h.elim
 |ip=>rfl
def iC (h:v.oneCell'=true):v.cells= #[v]:=by cases v<;>simp_all[Value.cells,Value.oneCell']
def fH {s:SV} (d:Sv F G ow w.heap s v) {b:List SV} (h:fQ P t s=some b):∃vs,v.cells=vs.toArray/\dq F G ow w.heap b vs/\(∀u∈vs,u.oneCell'=true)/\vs.length=cR P t:=by
 unfold fQ at h;split at h
 ·split at h
  ·split at h
   ·rename_i l e
    simp only[a0e,a0v]at e
    cases h
    obtain⟨vs,rfl,a⟩:=d.agg_inv;refine⟨vs,rfl,a,λu j=> ?_,by rw[<-a.1,e.1]⟩;obtain⟨i,g,rfl⟩:=a4b j;have c:i<b.length:=by rw[a.1];exact g
    exact Gs (a.2 i c g) (a1g.1 e.2 _ (a0n c))
   ·cases h
  ·cases h
 ·split at h
  ·rename_i f
   simp only[a0e,a0v]at f
   cases h
   have c:=Gs d f.1;exact⟨[v],iC c,.cons d .nil,by simpa using c,by simp[f.2]⟩
  ·cases h
def tO:(n:Nat)->(v:Value)->Sv F G ow w.heap (nK n v) v:=by
 intro n
 induction n with
 |zero=>
  intro v;unfold nK;split
  ·exact .lb _
  ·exact .int _ _
  ·rename_i s;exact .v rfl (by simp[ct])
  ·exact .nils
  ·exact .v rfl (.inl ⟨rfl,rfl⟩)
  ·rename_i e;cases e
  ·rename_i e;cases e
  ·exact .dead _
 |succ n ih=>
  intro v;unfold nK;split
  ·exact .lb _
  ·exact .int _ _
  ·rename_i s;exact .v rfl (by simp[ct])
  ·exact .nils
  ·exact .v rfl (.inl ⟨rfl,rfl⟩)
  ·rename_i f cs e
   cases e
   have:Sv F G ow w.heap (.agg (cs.toList.map (nK n))) (.agg cs.toList.toArray):= .agg (by simp) (λi c d=>by simp only[a4k];exact ih _);simpa using this
  ·rename_i f g a b e
   cases e
   have:Sv F G ow w.heap (.fn g (a.toList.map (nK n)) (b.toList.map (nK n))) (.func g a.toList.toArray b.toList.toArray):= .fn (by simp) (by simp) (λi c d=>by simp only[a4k];exact ih _) (λi c d=>by simp only[a4k];exact ih _)
   simpa using this
  ·exact .dead _
def nr {a:List SV} (h:lQ P t=some a):∃i v,P.info? t=some i/\i.zero=some v/\v.cells.size=i.size/\dq F G ow w.heap a v.cells.toList:=by
 unfold lQ at h;split at h
 ·rename_i i b
  split at h
  ·rename_i v c
   split at h
   ·rename_i d
    cases h
    exact⟨i,v,b,c,d,by simp,λj e f=>by simp only[a4k];exact tO 4 _⟩
   ·cases h
  ·cases h
 ·cases h
def fR {i:TypeInfo} (a:P.info? t=some i) (b:i.zero=some v):(zeroValue t).run P w= .ok v w:=by
 simp[zeroValue,typeInfo,a,b]
def wq {b c:List SV} {cs vs:List Value} (f:dq F G ow w.heap b cs) (g:dq F G ow w.heap c vs) {off:Nat} {r:List SV} (h:jy b off c=some r):
 off+vs.length<=cs.length/\dq F G ow w.heap r (cs.take off++vs++cs.drop (off+vs.length))/\
 vs.toArray.zipIdx.foldl (λa (x:Value×Nat)=>a.setIfInBounds (off+x.2) x.1) cs.toArray=(cs.take off++vs++cs.drop (off+vs.length)).toArray:=by
 unfold jy at h;split at h
 ·rename_i i
  cases h
  have d:off+vs.length<=cs.length:=by rw[<-f.1,<-g.1];exact i
  refine⟨d,?_,?_⟩
  ·rw[g.1]
   exact((f.take off).append g).append (f.drop _)
  ·obtain⟨n,j⟩:=Great.foldl_set off vs 0 cs.toArray
   have e:vs.toArray.zipIdx.foldl (λa (x:Value×Nat)=>a.setIfInBounds (off+x.2) x.1) cs.toArray=(vs.zipIdx 0).foldl (λa (x:Value×Nat)=>a.setIfInBounds (off+x.2) x.1) cs.toArray:=by
    rw[<-Array.foldl_toList];simp
   rw[e];apply Array.ext_getElem?;intro k;rw[j k];simp only[a4p,a2v,a7z];by_cases l:k<off
   ·rw[ifNegQ,a1u,a1l (by simp;omega),a5e l]
   ·by_cases m:k<off+vs.length
    ·rw[ifPosQ,a1l (by simp;omega),a0y (by simp;omega)]
     simp[Nat.min_eq_left (show off<=cs.length by omega)]
    ·rw[ifNegQ,a0y (by simp;omega)]
     simp only[a0j,a1h,a2y]
     congr 1
     omega
 ·cases h
def tP {t:TypeId} {l:Array Field} (y:P.underlying t=some (.struct l)):(ps:List (Nat×SV))-> {a r:List SV}->Ir P t a ps=some r-> {cs:List Value}->dq F G ow w.heap a cs->
 {vps:List (Nat×Value)}->ps.map (·.1)=vps.map (·.1)->dq F G ow w.heap (ps.map (·.2)) (vps.map (·.2))->
 ∃vs,Instr.fill ((l.map λf=>(f.offset,cR P f.type))[·]?) cs.toArray vps=some vs.toArray/\dq F G ow w.heap r vs
 |[],_,_,h,cs,hc,vps,c,_=>by
  cases h
  cases vps with
  |nil=>exact⟨cs,rfl,hc⟩
  |cons _ _=>simp at c
 |(f,s)::ps,a,r,h,cs,hc,vps,c,h2=>by
  cases vps with
  |nil=>simp at c
  |cons p vps=>
  obtain⟨L,v⟩:=p;simp only[a2g,a5d]at c;obtain⟨rfl,c⟩:=c;obtain⟨M,A,e,B,m⟩:=h2.uncons;simp only[a2g,a5d]at e;obtain⟨rfl,rfl⟩:=e;simp only[Ir]at h;split at h
  ·rename_i z n
   split at h
   ·rename_i C g
    split at h
    ·rename_i k b
     obtain⟨vs,o,D,_,i⟩:=fH B g;obtain⟨E,q,d⟩:=wq hc D b;obtain⟨H,I,u⟩:=tP y ps h q c m;refine⟨H,?_,u⟩;obtain⟨J,j,x⟩:=n5 n;rw[y]at j
     cases j
     have K:(l.map λf=>(f.offset,cR P f.type))[f]?=some (z.offset,cR P z.type):=by simp[x]
     unfold Instr.fill;simp only[K,o,a2v];rw[a0d (by simp[i];omega),d];exact I
    ·cases h
   ·cases h
  ·cases h
def Gt (l:List Field) (h:l.all (λf=>(P.info? f.type).isSome)=true):(l.mapM λf=>(do pure (f.offset,<-sizeOf f.type):Sem (Nat×Nat))).run P w= .ok (l.map λf=>(f.offset,cR P f.type)) w:=by
 induction l with
 |nil=>rfl
 |cons f l ih=>
  simp only[a5q,a0e]at h;obtain⟨i,a⟩:=a7k.1 h.1;simp only[a7g,Sem.run_bind,AH a,Result.andThen_ok,Sem.run_pure,ih h.2,a2g]
def zy {ps:List (Nat×SV)} {vps:List (Nat×Value)} (m:ps.map (·.1)=vps.map (·.1)) (n:dq F G ow w.heap (ps.map (·.2)) (vps.map (·.2))) (h:(BS P t ps).can Q):∃s v,Q s/\(Instr.build t vps.toArray).run P w= .ok v w/\Sv F G ow w.heap s v:=by
 unfold BS d5 at h;split at h
 ·rename_i c k o l
  split at h
  ·rename_i a
   split at h
   ·rename_i r p
    obtain⟨i,z,q,d,_,g⟩:=nr (F:=F) (G:=G) (ow:=ow) (w:=w) o;obtain⟨vs,b,j⟩:=tP l ps p g m n;refine⟨_,.agg vs.toArray,h,?_,j.agg⟩;simp only[Instr.build,Sem.run_bind,fR q d,Result.andThen_ok,run_underlying l];have e:(k.mapM λf=>(do pure (f.offset,<-sizeOf f.type):Sem (Nat×Nat))).run P w= .ok (k.map λf=>(f.offset,cR P f.type)) w:=by
     rw[a7h,Sem.run_map,Gt _ a];simp only[Result.andThen_ok]
     congr 1
     apply a4r;simp
    rw[e];simp only[Result.andThen_ok];simp only[a6v]at b;rw[b];rfl
   ·exact h.elim
  ·exact h.elim
 ·exact h.elim
def Mo {d:TypeDesc} (a:P.underlying t=some d) {cs:List Value} {off:Nat} (b:(if dO P t then cR P t else 1)<=(cs.drop off).length):(part t cs.toArray off).run P w= .ok (qP (dO P t) ((cs.drop off).take (if dO P t then cR P t else 1))) w:=by
 obtain⟨i,c⟩:=hZ a
 cases ha:dO P t with
 |true=>
  simp only[part,Sem.run_bind,mr a,ha,Result.andThen_ok,a1z,AH c,Sem.run_pure,qP]
  congr 2
  apply a4r;simp
 |false=>
  simp only[ha,a0t,a1y,a2p]at b;have f:cs[off]?=some (cs[off]'(by omega)):=a0a (by omega);have e:(cs.drop off).take 1=[cs[off]'(by omega)]:=by rw[a1d (by omega)];rfl
  simp[part,mr a,ha,f,qP,e]
def zA {f:Nat} (i:Sv F G ow w.heap x xv) (h:(BT P t x f).can Q):∃s v,Q s/\(Instr.field t xv f).run P w= .ok v w/\Sv F G ow w.heap s v:=by
 unfold BT at h;split at h
 ·rename_i cs g j
  obtain⟨s,k,l⟩:=ba.can_ofOpt h;obtain⟨vs,rfl,a⟩:=i.agg_inv;obtain⟨o,m,c⟩:=n5 j;obtain⟨⟨d,n⟩,_,b,e⟩:=eG (a.drop g.offset) k;rw[(a.drop g.offset).1]at b;refine⟨s,_,l,?_,e⟩;simp only[Instr.field,Sem.run_bind,run_underlying m,Result.andThen_ok,c,asAgg,Sem.run_pure];exact Mo n b
 ·exact h.elim
def zB (b:Sv F G ow w.heap x xv) (h:(BY P t x).can Q):∃s v,Q s/\(Instr.makeInterface t xv).run P w= .ok v w/\Sv F G ow w.heap s v:=by
 unfold BY d5 at h;split at h
 ·rename_i n a
  rw[b.int_inv];exact⟨_,.iface t (.int .i64 n),h,by simp[Instr.makeInterface,run_underlying a],.v rfl rfl⟩
 ·rename_i s a
  rw[b.str_inv];exact⟨_,.iface t (.string ⟨s.toArray⟩),h,by simp[Instr.makeInterface,run_underlying a],.v rfl rfl⟩
 ·exact h.elim
def Ce (h:BZ P t=true):∃i,P.info? t=some i/\i.zero=some (.int .i64 0):=by
 unfold BZ at h;split at h
 ·rename_i e
  simp only[a2k]at e;exact e
 ·cases h
def Cf (h:B0 P t=true):∃i,P.info? t=some i/\i.zero=some (.string ⟨#[]⟩):=by
 unfold B0 at h;split at h
 ·rename_i s e
  simp only[a2k]at e;obtain⟨i,a,b⟩:=e;refine⟨i,a,?_⟩;rw[b];obtain⟨d⟩:=s;simp at h;rw[h]
 ·cases h
def wr {xt:TypeId} (c:Sv F G ow w.heap x xv) (h:(v8 P t x).can Q):∃s v,Q s/\(Instr.typeAssert xv xt t true).run P w= .ok v w/\Sv F G ow w.heap s v:=by
 unfold v8 d5 at h;split at h
 ·rename_i y d
  split at h
  ·rename_i e
   obtain⟨i,f,a⟩:=Ce e;obtain⟨g,h⟩:=h
   cases c with
   |v _ c=>
   cases c
   obtain⟨ty,u⟩:=y;by_cases b:ty=t
   ·subst b
    cases u with
    |inl n=>
     refine⟨_,.tuple #[.int .i64 n,.bool true],h,by simp[Instr.typeAssert,run_underlying d,PV],?_⟩;simp only[a5w,a1c];exact .tup rfl (dq.cons (.int _ _) (.cons (.bool _) .nil)).2
    |inr s=>simp at g
   ·refine⟨_,.tuple #[.int .i64 0,.bool false],h,by simp[Instr.typeAssert,run_underlying d,b,fR f a],?_⟩
    have:(ty==t)=false:=by simpa using b
    simp only[this,a1q];exact .tup rfl (dq.cons (.int _ _) (.cons (.bool _) .nil)).2
  ·exact h.elim
 ·rename_i y d
  split at h
  ·rename_i e
   obtain⟨i,f,a⟩:=Cf e;obtain⟨g,h⟩:=h
   cases c with
   |v _ c=>
   cases c
   obtain⟨ty,u⟩:=y;by_cases b:ty=t
   ·subst b
    cases u with
    |inr n=>
     refine⟨_,.tuple #[.string ⟨n.toArray⟩,.bool true],h,by simp[Instr.typeAssert,run_underlying d,PV],?_⟩;simp only[a5w,a1c];exact .tup rfl (dq.cons (.str _) (.cons (.bool _) .nil)).2
    |inl s=>simp at g
   ·refine⟨_,.tuple #[.string ⟨#[]⟩,.bool false],h,by simp[Instr.typeAssert,run_underlying d,b,fR f a],?_⟩
    have:(ty==t)=false:=by simpa using b
    simp only[this,a1q];exact .tup rfl (dq.cons (.str []) (.cons (.bool _) .nil)).2
  ·exact h.elim
 ·exact h.elim
def wt {k:IntKind}:(l:List SV)-> {vs:List Value}->dq F G ow w.heap l vs-> {a n:Int}->Od k l a=some n->(vs.foldlM Builtin.min2 (.int k a)).run P w= .ok (.int k n) w
 |[],vs,hl,a,n,h=>by
  cases h
  have:vs=[]:=a0s hl.1.symm;subst this;rfl
 |s::r,vs,hl,a,n,h=>by
  obtain⟨v,c,rfl,d,b⟩:=hl.uncons;unfold Od at h;split at h
  ·rename_i e;cases e
  ·rename_i g y i e
   cases e
   split at h
   ·rename_i f
    subst f;rw[d.int_inv];simp only[List.foldlM_cons,Sem.run_bind,Builtin.min2,Sem.run_pure,Result.andThen_ok];exact wt r b h
   ·cases h
  ·cases h
def wv {k:IntKind}:(l:List SV)-> {vs:List Value}->dq F G ow w.heap l vs-> {a n:Int}->Oe k l a=some n->(vs.foldlM Builtin.max2 (.int k a)).run P w= .ok (.int k n) w
 |[],vs,hl,a,n,h=>by
  cases h
  have:vs=[]:=a0s hl.1.symm;subst this;rfl
 |s::r,vs,hl,a,n,h=>by
  obtain⟨v,c,rfl,d,b⟩:=hl.uncons;unfold Oe at h;split at h
  ·rename_i e;cases e
  ·rename_i g y i e
   cases e
   split at h
   ·rename_i f
    subst f;rw[d.int_inv];simp only[List.foldlM_cons,Sem.run_bind,Builtin.max2,Sem.run_pure,Result.andThen_ok];exact wv r b h
   ·cases h
  ·cases h
def Mp (F:Nat->Prop) (G:Gh) (ow:OW) (h:Array Obj) (ρ:Operand->SV) (a:Operand->Value):Prop:=∀x,Sv F G ow h (ρ x) (a x)
def Mp.svs {ρ:Operand->SV} {a:Operand->Value} (b:Mp F G ow w.heap ρ a) (l:List Operand):dq F G ow w.heap (l.map ρ) (l.map a):=⟨by simp,λi c d=>by simp only[a4k];exact b _⟩
def Jo {P:Program} {w:World} {s:Sem Value} (h:s.run P w= .ok v w):(do pure (Next.value (<-s)):Sem Next).run P w= .ok (.value v) w:=by
 rw[Sem.run_bind,h];rfl
def su (c:Sv F G ow w.heap x xv) (h:(mn x ow).can Q):∃s,Q s/\Sv F G ow w.heap s xv/\((∃a,xv= .pointer (some a))\/∃f a b,xv= .func (.func f) a b):=by
 unfold mn at h;split at h
 ·split at h
  ·rename_i j
   obtain⟨g,d⟩:=mv j;refine⟨_,h,c,.inl ?_⟩
   cases c with
   |bp hp=>
   simp only[d]at hp;obtain⟨b,o,_,rfl⟩:=hp;exact⟨_,rfl⟩
  ·exact h.elim
 ·split at h
  ·rename_i r m
   obtain⟨rfl,d⟩:=ik m;refine⟨_,h,c,.inl ?_⟩
   cases c with
   |rp hp=>
   rcases d with⟨k,i,l,d,rfl⟩|⟨k,i,l,d,rfl⟩|⟨k,l,i,d,rfl⟩<;>
   ·simp only[d]at hp
    obtain⟨_,b,o,_,rfl⟩:=hp;exact⟨_,rfl⟩
  ·exact h.elim
 ·refine⟨_,h,c,.inl ?_⟩
  cases c
  exact⟨_,rfl⟩
 ·refine⟨_,h,c,.inl ?_⟩
  cases c with
  |v _ c=>
  obtain⟨_,n,p⟩:=c
  cases n
  obtain⟨_,_,e⟩:=p.ptr;exact⟨_,e⟩
 ·refine⟨_,h,c,.inr ?_⟩
  cases c
  exact⟨_,_,_,rfl⟩
 ·exact h.elim
def ww {o:Op} {op:Oper} (m:op.op=o) {ρ:Operand->SV} {p:Operand->Value} (H:bx F G ow w.heap) (d:Mp F G ow w.heap ρ p) (h:(py P o ρ ow).can Q):∃s v,Q s/\(execOp p op).run P w= .ok (.value v) w/\Sv F G ow w.heap s v:=by
 have g:∀ {c:Sem Value},(∃s v,Q s/\c.run P w= .ok v w/\Sv F G ow w.heap s v)->(execOp p op).run P w=(do pure (Next.value (<-c)):Sem Next).run P w->∃s v,Q s/\(execOp p op).run P w= .ok (.value v) w/\Sv F G ow w.heap s v:=by
  intro c y R;obtain⟨s,v,A,I,j⟩:=y;exact⟨s,v,A,by rw[R,Jo I],j⟩
 unfold py at h;split at h
 ·exact⟨_,_,h,by simp[execOp,m],d _⟩
 ·exact⟨_,_,h,by simp[execOp,m],d _⟩
 ·exact g (Cd (P:=P) (d _) (d _) (d _) h) (by simp[execOp,m])
 ·rename_i t q
  refine g (zy (vps:=q.toList.map λx=>(x.1,p x.2)) (by simp) (by simp only[a8u];exact(by simpa [a7l]using d.svs (q.toList.map (·.2)))) h) ?_
  simp only[execOp,m]
  congr 4
  apply a4r;simp
 ·exact g (mu (P:=P) H (d _) h) (by simp only[execOp,m])
 ·obtain⟨s,A,j,u⟩:=su (d _) h
  refine⟨s,_,A,?_,j⟩;rcases u with⟨a,J⟩|⟨f,a,b,J⟩
  ·simp[execOp,m,J]
  ·simp[execOp,m,J]
 ·exact g (DO rfl H (d _) (d _) h) (by simp only[execOp,m])
 ·exact g (Gr (P:=P) (d _) h) (by simp only[execOp,m])
 ·exact g (u2 (P:=P) H (d _) h) (by simp only[execOp,m])
 ·rename_i f a b
  refine g (c:=Instr.makeFunc f (a.map p) (b.map p)) ⟨_,_,h,rfl,?_⟩ (by simp only[execOp,m]);have:=cn.fn (f:=f) (d.svs a.toList).1 (d.svs b.toList).1 (d.svs a.toList).2 (d.svs b.toList).2;have e:∀a:Array Operand,(a.toList.map p).toArray=a.map p:=λa=>by apply a4r;simp
  rw[e,e]at this;exact this
 ·exact g (zB (P:=P) (d _) h) (by simp only[execOp,m])
 ·rename_i x xt t
  exact g (wr (P:=P) (xt:=xt) (d _) h) (by simp only[execOp,m])
 ·rename_i t x K z
  refine g (zt (P:=P) (lov:=K.map p) (hiv:=z.map p) (d _) ?_ ?_ ?_ ?_ h) (by simp only[execOp,m];rfl)
  ·intro s j;cases K with
   |none=>cases j
   |some x=>cases j;exact⟨_,rfl,d _⟩
  ·intro j;cases K with
   |none=>rfl
   |some x=>cases j
  ·intro s j;cases z with
   |none=>cases j
   |some x=>cases j;exact⟨_,rfl,d _⟩
  ·intro j;cases z with
   |none=>rfl
   |some x=>cases j
 ·exact g (qQ (P:=P) (d _) h) (by simp only[execOp,m])
 ·exact g (zA (P:=P) (d _) h) (by simp only[execOp,m])
 ·exact g (qS (P:=P) (d _) (d _) h) (by simp only[execOp,m])
 ·split at h
  ·rename_i L
   exact g (zu (P:=P) L (d _) (d _) h) (by simp only[execOp,m])
  ·exact h.elim
 ·rename_i t i
  split at h
  ·rename_i l S
   split at h
   ·rename_i s j
    have:=d t;rw[S]at this;obtain⟨vs,u,B⟩:=this.tup_inv;obtain⟨z,rfl⟩:=a0r.1 j;have C:i<vs.length:=by rw[<-B.1];exact z
    exact g (c:=Instr.extract (p t) i) ⟨_,vs[i],h,by simp[Instr.extract,u,C],B.2 i z C⟩ (by simp only[execOp,m])
   ·exact h.elim
  ·exact h.elim
 ·rename_i c
  split at h
  ·rename_i y
   split at h
   ·rename_i x t ts D L
    obtain⟨s,v,A,I,j⟩:=DM (P:=P) (ty:=op.type) (ts:=ts) (d x) h;refine⟨s,v,A,?_,j⟩;have E:c.args.map p= #[p x]:=by apply a4r;simp[D]
    have T:c.argTypes=(t::ts).toArray:=by apply a4r;simp[L]
    simp only[execOp,m,resolve,y,Sem.run_bind,Sem.run_pure,Result.andThen_ok,invoke,builtin,E,T,I]
   ·exact h.elim
  ·rename_i y
   split at h
   ·rename_i k a r D
    split at h
    ·rename_i n M
     have j:=d.svs c.args.toList;rw[D]at j;obtain⟨v,vs,u,N,O⟩:=j.uncons;rw[N.int_inv]at u;refine⟨_,.int k n,h,?_,.int _ _⟩;have E:(c.args.map p).toList= .int k a::vs:=by simpa using u
     simp only[execOp,m,resolve,y,Sem.run_bind,Sem.run_pure,Result.andThen_ok,invoke,builtin,Builtin.min_,E,wt r O M]
    ·exact h.elim
   ·exact h.elim
  ·rename_i y
   split at h
   ·rename_i k a r D
    split at h
    ·rename_i n M
     have j:=d.svs c.args.toList;rw[D]at j;obtain⟨v,vs,u,N,O⟩:=j.uncons;rw[N.int_inv]at u;refine⟨_,.int k n,h,?_,.int _ _⟩;have E:(c.args.map p).toList= .int k a::vs:=by simpa using u
     simp only[execOp,m,resolve,y,Sem.run_bind,Sem.run_pure,Result.andThen_ok,invoke,builtin,Builtin.max_,E,wv r O M]
    ·exact h.elim
   ·exact h.elim
  ·exact h.elim
 ·exact h.elim
end
end Go.Pev
namespace Go.Pev
variable {d b j:Nat}
def EC:Option (Option OB)->Option (Option OB)->Prop
 |none,_=>True
 |some _,some none=>True
 |some (some (.box _)),some (some (.box _))=>True
 |some (some (.row k _ l)),some (some (.row k' _ l'))=>k=k'/\l.length=l'.length
 |some (some (.row k _ l)),some (some (.frow k' _ l'))=>k=k'/\l.length=l'.length
 |some (some (.frow k _ l)),some (some (.frow k' _ l'))=>k=k'/\l.length=l'.length
 |some (some (.row _ _ l)),some (some (.lrow n))=>l.length=n
 |some (some (.nrow k l _)),some (some (.nrow k' l' _))=>k=k'/\l.length=l'.length
 |some (some (.nrow k l _)),some (some (.frow k' _ l'))=>k.w=k'.n/\l.length=l'.length
 |some (some (.nrow _ l _)),some (some (.lrow n))=>l.length=n
 |some (some (.lrow n)),some (some (.lrow m))=>n=m
 |some (some (.box _)),some (some (.lrow _))=>True
 |_,_=>False
def EC.refl (x:Option (Option OB)):EC x x:=by
 match x with
 |none=>trivial
 |some none=>trivial
 |some (some (.box _))=>trivial
 |some (some (.row _ _ _))=>exact⟨rfl,rfl⟩
 |some (some (.frow _ _ _))=>exact⟨rfl,rfl⟩
 |some (some (.nrow _ _ _))=>exact⟨rfl,rfl⟩
 |some (some (.lrow _))=>exact rfl
def EC.dead {x:Option (Option OB)}:EC x (some none):=by
 match x with
 |none=>trivial
 |some none=>trivial
 |some (some (.box _))=>trivial
 |some (some (.row _ _ _))=>trivial
 |some (some (.frow _ _ _))=>trivial
 |some (some (.nrow _ _ _))=>trivial
 |some (some (.lrow _))=>trivial
def ck.length {h:Array Obj} {ok:Nat->Prop}:(s:Sh)-> {x:s.T}-> {vs:List Value}-> {c:List Nat}->ck h ok s x vs c->vs.length=s.w
 | .pur _,_,_,_,e=>by obtain⟨_,rfl,_⟩:=e;rfl
 | .own _,_,_,_,e=>by obtain⟨_,rfl,_⟩:=e;rfl
 | .row _,_,_,_,e=>by obtain⟨_,rfl,_⟩:=e;rfl
 | .rows _,_,_,_,e| .nrw _,_,_,_,e=>by obtain⟨_,rfl,_⟩:=e;rfl
 | .box _,_,_,_,e=>by obtain⟨_,_,_,_,_,rfl,_⟩:=e;rfl
 | .agg _,_,_,_,e=>by obtain⟨_,rfl,_⟩:=e;rfl
 | .fn _ _ _,_,_,_,e=>by obtain⟨_,_,rfl,_⟩:=e;rfl
 | .ign,_,_,_,e=>by obtain⟨_,rfl,_⟩:=e;rfl
 | .nl,_,_,_,e=>by rw[e.1];rfl
 | .nil,_,_,_,e=>by rw[e.1];rfl
 | .cons a b,_,_,_,e=>by
  obtain⟨v,r,f1,f2,rfl,rfl,f,d⟩:=e;simp[Sh.w,ck.length b d]
def sq.cells {h:Array Obj} {ok:Nat->Prop} {k:Kd} {l:List k.T} {v:Value} {g:List Nat} (e:sq h ok k l v g):∀b∈g,∃r et,h[b]?=some (Obj.cells r et (0,0)):=by
 obtain⟨_,a,c,_,_,e⟩:=e;rcases e with⟨_,_,_,rfl⟩|⟨b,o,r,et,_,rfl,d,_,_⟩
 ·intro b d;simp at d
 ·intro i f
  have:i=b:=by simpa using f
  subst this;exact⟨r,et,d⟩
def ck.cells {h:Array Obj} {ok:Nat->Prop}:(s:Sh)-> {x:s.T}-> {vs:List Value}-> {g:List Nat}->ck h ok s x vs g->∀b∈g,∃r et,h[b]?=some (Obj.cells r et (0,0))
 | .pur _,_,_,_,e=>by obtain⟨_,_,rfl,_⟩:=e;intro b d;simp at d
 | .own _,_,_,_,e=>by obtain⟨_,_,e⟩:=e;exact e.cells
 | .row _,_,_,_,e=>by obtain⟨_,_,e⟩:=e;exact e.cells
 | .rows s,_,_,_,e| .nrw s,_,_,_,e=>by
  obtain⟨v,rfl,_,a,c,rfl,p,e⟩:=e;rcases e with⟨_,_,_,rfl⟩|⟨b,o,r,et,fps,q,rfl,i,t,u,j,w⟩
  ·intro b d;simp at d
  ·intro f hb'
   rcases a1j.1 hb' with rfl|hb'
   ·exact⟨r,et,i⟩
   ·exact j f hb'
 | .box l,_,_,_,e=>by
  obtain⟨b,o,r,et,k,rfl,rfl,d,_,e⟩:=e;intro f hb';rcases a1j.1 hb' with rfl|hb'
  ·exact⟨r,et,d⟩
  ·exact ck.cells l e f hb'
 | .agg l,_,_,_,e=>by obtain⟨_,_,e⟩:=e;exact ck.cells l e
 | .fn _ _ l,_,_,_,e=>by obtain⟨_,_,_,_,e⟩:=e;exact ck.cells l e
 | .ign,_,_,_,e=>by obtain⟨_,_,rfl⟩:=e;intro b d;simp at d
 | .nl,_,_,_,e=>by rw[e.2];intro b d;simp at d
 | .nil,_,_,_,e=>by rw[e.2];intro b d;simp at d
 | .cons a b,_,_,_,e=>by
  obtain⟨v,r,f1,f2,rfl,rfl,m,n⟩:=e;intro f hb';rcases a0k.1 hb' with hb'|hb'
  ·exact ck.cells a m f hb'
  ·exact ck.cells b n f hb'
def wx {h:Array Obj} {ok:Nat->Prop} {G:Gh} {ow:OW} {k:Sh} {l:List k.T} {c:Option (Nat×List SV)} (e:df h ok G ow d j (.nrow k l c)) {i o:Nat} (a:G d j i=some (b,o)):∃r et,h[b]?=some (Obj.cells r et (0,0)):=by
 obtain⟨_,fps,g,e⟩:=e
 cases i with
 |zero=>
  simp only[a]at e;obtain⟨r,et,f,_⟩:=e;exact⟨r,et,f⟩
 |succ i=>
  rw[g]at a
  cases hb:fps.flatten[i]? with
  |none=>rw[hb]at a;cases a
  |some b'=>
   rw[hb]at a;simp only[a1w,a0l,a0z]at a;obtain⟨rfl,_⟩:=a
   cases hm:G d j 0 with
   |none=>
    simp only[hm]at e;rw[e.2.2]at hb;simp at hb
   |some p=>
    simp only[hm]at e;obtain⟨r,et,f,n,q,m,_⟩:=e;exact m _ (a3n hb)
section
variable {F:Nat->Prop} {G G':Gh} {ow ow':OW} {h h':Array Obj}
def aK:ci G ow b↔∃d j i o,bB (ak ow d j)/\G d j i=some (b,o):=Iff.rfl
def cX.mono {off:Nat} {len:Option Nat} {v:Value} (p:ak ow d j≠none->G' d j 0=G d j 0) (g:EC (ak ow d j) (ak ow' d j)) (t:∀b r,am h b=some r->∃s,am h' b=some s/\s.size=r.size) (f:cX h G ow d j off len v):cX h' G' ow' d j off len v:=by
 have i:∀ {n off len:Nat},G' d j 0=G d j 0->nZ h G n d j off len v->nZ h' G' n d j off len v:=by
  intro n off len A f;obtain⟨a,c,rfl,u,f⟩:=f;refine⟨a,c,rfl,u,?_⟩;rcases f with⟨B,C⟩|⟨b,o,D,r,p,E,F,H,I⟩
  ·exact .inl ⟨by rw[A,B],C⟩
  ·obtain⟨s,w,z⟩:=t b r F
   exact .inr ⟨b,o,D,s,by rw[A,p],E,w,H,by rw[z];exact I⟩
 have q:∀ {n off len:Nat},nZ h G n d j off len v->v.oneCell'=true:=by
  intro n off len f;obtain⟨a,c,rfl,_⟩:=f;rfl
 unfold cX at f⊢
 generalize ak ow d j=x at p g f
 generalize ak ow' d j=y at g
 match x,y,g,f with
 |some none,some none,_,f=>exact f
 |some (some (.row k _ l)),some none,_,f=>exact q f.2
 |some (some (.frow k _ l)),some none,_,f=>exact q f.2
 |some (some (.nrow k l _)),some none,_,f=>exact q f.2
 |some (some (.lrow n)),some none,_,f=>obtain⟨_,_,rfl⟩:=f;rfl
 |some (some (.row k _ l)),some (some (.row k' _ l')),g,f=>
  obtain⟨rfl,e⟩:=g;dsimp only at f⊢;rw[<-e];exact⟨f.1,i (p (by simp)) f.2⟩
 |some (some (.row k _ l)),some (some (.frow k' _ l')),g,f=>
  obtain⟨rfl,e⟩:=g;dsimp only at f⊢;rw[<-e];exact⟨f.1,i (p (by simp)) f.2⟩
 |some (some (.frow k _ l)),some (some (.frow k' _ l')),g,f=>
  obtain⟨rfl,e⟩:=g;dsimp only at f⊢;rw[<-e];exact⟨f.1,i (p (by simp)) f.2⟩
 |some (some (.nrow k l _)),some (some (.nrow k' l' _)),g,f=>
  obtain⟨rfl,e⟩:=g;dsimp only at f⊢;rw[<-e];exact⟨f.1,i (p (by simp)) f.2⟩
 |some (some (.nrow k l _)),some (some (.frow k' _ l')),g,f=>
  obtain⟨J,e⟩:=g;dsimp only at f⊢;rw[<-e,<-J];exact⟨f.1,i (p (by simp)) f.2⟩
 |some (some (.row k _ l)),some (some (.lrow n)),g,f=>
  obtain rfl:l.length=n:=g;obtain⟨_,a,c,rfl,_⟩:=f;exact⟨a,c,rfl⟩
 |some (some (.nrow k l _)),some (some (.lrow n)),g,f=>
  obtain rfl:l.length=n:=g;obtain⟨_,a,c,rfl,_⟩:=f;exact⟨a,c,rfl⟩
 |some (some (.lrow n)),some (some (.lrow m)),g,f=>
  obtain rfl:n=m:=g;exact f
def cn.mono {ok ok':Nat->Prop} (t:∀d j,ak ow d j≠none->G' d j 0=G d j 0) (u:∀d j,EC (ak ow d j) (ak ow' d j))
 (p:∀b r,ok b->am h b=some r->ok' b/\am h' b=some r) (q:∀b r,am h b=some r->∃A,am h' b=some A/\A.size=r.size)
 {s:SV} {v:Value} (e:cn h ok G ow s v):cn h' ok' G' ow' s v:=by
 induction e with
 |v hk hx=>exact .v hk (ct.mono p _ hx)
 |lb b=>exact .lb b
 |dead v=>exact .dead v
 |nils=>exact .nils
 |agg g _ ih=>exact .agg g ih
 |tup g _ ih=>exact .tup g ih
 |fn h1 h2 _ _ ih1 ih2=>exact .fn h1 h2 ih1 ih2
 |wh hv=>exact .wh (hv.mono (t _ _) (u _ _) q)
 |os hv=>exact .os (hv.mono (t _ _) (u _ _) q)
 | @bp d j c val hv=>
  refine .bp ?_
  have i:=t d j;have a:=u d j
  generalize ak ow d j=x at i a hv
  generalize ak ow' d j=y at a
  match x,y,a,hv with
  |some none,some none,_,hv=>exact hv
  |some (some (.box _)),some none,_,hv=>obtain⟨_,_,_,rfl⟩:=hv;rfl
  |some (some (.box _)),some (some (.box _)),_,hv=>obtain⟨b,o,f,rfl⟩:=hv;exact⟨b,o,by rw[i (by simp),f],rfl⟩
  |some (some (.box _)),some (some (.lrow _)),_,hv=>obtain⟨_,_,_,rfl⟩:=hv;rfl
  |some (some (.lrow _)),some none,_,hv=>exact hv
  |some (some (.lrow _)),some (some (.lrow _)),_,hv=>exact hv
 | @rp d j ver e c val hv=>
  refine .rp ?_
  have i:=t d j;have a:=u d j
  generalize ak ow d j=x at i a hv
  generalize ak ow' d j=y at a
  match x,y,a,hv with
  |some none,some none,_,hv=>exact hv
  |some (some (.row _ _ _)),some none,_,hv=>obtain⟨_,_,_,_,rfl⟩:=hv;rfl
  |some (some (.frow _ _ _)),some none,_,hv=>obtain⟨_,_,_,_,rfl⟩:=hv;rfl
  |some (some (.nrow _ _ _)),some none,_,hv=>obtain⟨_,_,_,_,rfl⟩:=hv;rfl
  |some (some (.lrow _)),some none,_,hv=>exact hv
  |some (some (.row k _ l)),some (some (.row k' _ l')),a,hv=>
   obtain⟨rfl,e⟩:=a;obtain⟨g,b,o,f,rfl⟩:=hv;exact⟨by omega,b,o,by rw[i (by simp),f],rfl⟩
  |some (some (.row k _ l)),some (some (.frow k' _ l')),a,hv=>
   obtain⟨rfl,e⟩:=a;obtain⟨g,b,o,f,rfl⟩:=hv;exact⟨by omega,b,o,by rw[i (by simp),f],rfl⟩
  |some (some (.frow k _ l)),some (some (.frow k' _ l')),a,hv=>
   obtain⟨rfl,e⟩:=a;obtain⟨g,b,o,f,rfl⟩:=hv;exact⟨by omega,b,o,by rw[i (by simp),f],rfl⟩
  |some (some (.nrow k l _)),some (some (.nrow k' l' _)),a,hv=>
   obtain⟨rfl,e⟩:=a;obtain⟨g,b,o,f,rfl⟩:=hv;exact⟨by omega,b,o,by rw[i (by simp),f],rfl⟩
  |some (some (.nrow k l _)),some (some (.frow k' _ l')),a,hv=>
   obtain⟨B,e⟩:=a;obtain⟨g,b,o,f,rfl⟩:=hv;exact⟨by omega,b,o,by rw[i (by simp),f],by rw[<-B]⟩
  |some (some (.row k _ l)),some (some (.lrow n)),a,hv=>
   obtain⟨g,b,o,f,rfl⟩:=hv;rfl
  |some (some (.nrow k l _)),some (some (.lrow n)),a,hv=>
   obtain⟨g,b,o,f,rfl⟩:=hv;rfl
  |some (some (.lrow n)),some (some (.lrow m)),a,hv=>exact hv
 |ip hk f hr hs hx=>
  obtain⟨w,z⟩:=p _ _ f hr;exact .ip hk w z hs (ct.mono p _ hx)
def df.mono {ok ok':Nat->Prop} (K:∀d j,ak ow d j≠none->G' d j 0=G d j 0) (L:∀d j,EC (ak ow d j) (ak ow' d j))
 (f:∀b r,ok b->am h b=some r->ok' b/\am h' b=some r) (u:∀b r,am h b=some r->∃M,am h' b=some M/\M.size=r.size)
 {d j:Nat} {o:OB} (a:G' d j=G d j) (t:bB (some (some o))->∀i b c,G d j i=some (b,c)->h'[b]?=h[b]?) (e:df h ok G ow d j o):df h' ok' G' ow' d j o:=by
 cases o with
 |box s=>
  obtain⟨D,b,o,r,et,g,q,E,v⟩:=e;exact⟨by rw[a];exact D,b,o,r,et,by rw[a,g],by rw[t trivial 0 b o g,q],E,λi w q=>(v i w q).mono K L f u⟩
 |row k ver l=>
  obtain⟨D,y,e⟩:=e;refine⟨by rw[a];exact D,y,?_⟩;rw[a]
  cases g:G d j 0 with
  |none=>simpa [g]using e
  |some p=>
   obtain⟨b,o⟩:=p;simp only[g]at e;obtain⟨r,et,q,z⟩:=e;exact⟨r,et,by rw[t trivial 0 b o g,q],z.mono λx cs F=>ct.mono f _ F⟩
 |frow k ver l=>
  obtain⟨y,e⟩:=e;refine⟨y,?_⟩;rw[a]
  cases g:G d j 0 with
  |none=>simpa [g]using e
  |some p=>
   obtain⟨b,o⟩:=p;simp only[g]at e;rcases e with e|⟨t,r,q,z⟩
   ·exact .inl e
   ·obtain⟨m,H⟩:=f b r t q
    exact .inr ⟨m,r,H,z.mono λx cs F=>ct.mono f _ F⟩
 |nrow k l foc=>
  obtain⟨y,fps,N,e⟩:=e;refine⟨y,fps,by rw[a];exact N,?_⟩;rw[a];have A:∀b∈fps.flatten,h'[b]?=h[b]?:=λb I=>by
   obtain⟨i,w,rfl⟩:=a2h.1 I;exact t trivial (i+1) _ 0 (by rw[N,a0a w];rfl)
  cases g:G d j 0 with
  |none=>simpa [g]using e
  |some p=>
   obtain⟨b,o⟩:=p;simp only[g]at e;obtain⟨r,et,q,E,O,P,z,Q⟩:=e;exact⟨r,et,by rw[t trivial 0 b o g,q],E,O,λC m=>by rw[A C m];exact P C m,λi w B J=>ck.mono f k (λC m=>A C (iB B m)) (z i w B J),λR s v=>by
    obtain⟨S,T,U⟩:=Q R s v;exact⟨S,T,λc v q=>(U c v q).mono K L f u⟩⟩
 |lrow n=>trivial
end
structure Tr (F:Nat->Prop) (G:Gh) (ow:OW) (w:World) (G':Gh) (ow':OW) (w':World):Prop where
 hrep:bx F G' ow' w'.heap
 sv:∀s v,Sv F G ow w.heap s v->Sv F G' ow' w'.heap s v
 kept:fh (ci G ow) w w'
 own:∀b,ci G' ow' b->ci G ow b\/w.heap.size<=b
 len:ow'.length=ow.length
def fh.refl (I:Nat->Prop) (w:World):fh I w w:=⟨a1m _,λ_ _ _=>rfl,λb r et f h=>⟨r,h,rfl⟩,rfl,rfl,rfl⟩
def fh.trans {I J:Nat->Prop} {w e d:World} (a:fh I w e) (c:fh J e d) (j:∀b,J b->I b\/w.heap.size<=b):fh I w d:=⟨a5m a.size c.size,λb g i=>by
 rw[c.heap b (a7c g a.size) (λk=>by rcases j b k with h|h;exact i h;omega),a.heap b g i],λb r et f h=>by
 obtain⟨l,m,p⟩:=a.cells b r et f h;obtain⟨n,o,q⟩:=c.cells b l et f m;exact⟨n,o,by omega⟩,by rw[c.os,a.os],by rw[c.output,a.output],by rw[c.tape,a.tape]⟩
def Tr.refl {F:Nat->Prop} {G:Gh} {ow:OW} {w:World} (h:bx F G ow w.heap):Tr F G ow w G ow w:=⟨h,λ_ _ h=>h,.refl _ _,λ_ h=> .inl h,rfl⟩
def Tr.trans {F:Nat->Prop} {G g d:Gh} {ow ow' a:OW} {w i e:World} (c:Tr F G ow w g ow' i) (f:Tr F g ow' i d a e):Tr F G ow w d a e:=⟨f.hrep,λs v h=>f.sv s v (c.sv s v h),c.kept.trans f.kept c.own,λb j=>by
 rcases f.own b j with h|h
 ·exact c.own b h
 ·exact .inr (a5m c.kept.size h),by rw[f.len,c.len]⟩
section
variable {F:Nat->Prop} {G G':Gh} {ow ow':OW} {w w':World}
def ci.lt (q:bx F G ow w.heap) (s:ci G ow b):b<w.heap.size:=by
 obtain⟨d,j,i,o,g,a⟩:=aK.1 s;have h:∀c,ak ow d j=some (some c)->bB (some (some c))->b<w.heap.size:=by
  intro c m p;have:=q.obs d j c m
  cases c with
  |box cells=>
   obtain⟨n,u,v,r,et,e,f,_⟩:=this
   cases i with
   |zero=>
    rw[a]at e;cases e
    exact(a1b.1 f).1
   |succ i=>rw[n]at a;cases a
  |row k ver l=>
   obtain⟨n,_,this⟩:=this
   cases i with
   |zero=>
    simp only[a]at this;obtain⟨r,et,f,_⟩:=this;exact(a1b.1 f).1
   |succ i=>rw[n]at a;cases a
  |nrow k l foc=>
   obtain⟨r,et,f⟩:=wx this a;exact(a1b.1 f).1
  |frow _ _ _=>exact p.elim
  |lrow _=>exact p.elim
 generalize t:ak ow d j=x at g
 match x,g with
 |some (some c),g=>exact h c t g
def cB {h:Array Obj} {r:Array Value} (a:am h b=some r):b<h.size:=by
 unfold am at a;split at a
 ·rename_i e;exact(a1b.1 e).1
 ·cases a
def Iv (e:fh (ci G ow) w w') (f:∀b,ci G' ow' b->ci G ow b\/w.heap.size<=b) (b:Nat) (r:Array Value) (a:cU F G ow b) (d:am w.heap b=some r):cU F G' ow' b/\am w'.heap b=some r:=by
 have c:=cB d;refine⟨⟨a.1,λh=> ?_⟩,?_⟩
 ·rcases f b h with h|h
  ·exact a.2 h
  ·omega
 ·unfold am
  rw[e.heap b c a.2];exact d
def Jp (f:fh (ci G ow) w w') (c:∀b r,ci G ow b->am w.heap b=some r->∃a,am w'.heap b=some a/\a.size=r.size) (b:Nat) (r:Array Value) (d:am w.heap b=some r):∃a,am w'.heap b=some a/\a.size=r.size:=by
 by_cases e:ci G ow b
 ·exact c b r e d
 ·exact⟨r,by unfold am;rw[f.heap b (cB d) e];exact d,rfl⟩
def tQ (p:bx F G ow w.heap) (z:∀b,F b->b<w.heap.size) (q:∀d j,ak ow d j≠none->G' d j 0=G d j 0) (t:∀d j,EC (ak ow d j) (ak ow' d j))
 (g:fh (ci G ow) w w') (k:∀b,ci G' ow' b->ci G ow b\/w.heap.size<=b)
 (l:∀b r,ci G ow b->am w.heap b=some r->∃u,am w'.heap b=some u/\u.size=r.size)
 (m:∀d j o,ak ow' d j=some (some o)->
  (ak ow d j=some (some o)/\G' d j=G d j/\(bB (some (some o))->∀i b c,G d j i=some (b,c)->w'.heap[b]?=w.heap[b]?))\/
  ((∀s v,Sv F G ow w.heap s v->Sv F G' ow' w'.heap s v)->(∀b r,cU F G ow b->am w.heap b=some r->cU F G' ow' b/\am w'.heap b=some r)->df w'.heap (cU F G' ow') G' ow' d j o))
 (n:∀d j i d' j' x b o A,bB (ak ow' d j)->bB (ak ow' d' j')->G' d j i=some (b,o)->G' d' j' x=some (b,A)->d=d'/\j=j'/\i=x)
 (B:ow'.length=ow.length):Tr F G ow w G' ow' w':=by
 have a:=Iv (F:=F) g k;have y:=Jp g l;have f:∀s v,Sv F G ow w.heap s v->Sv F G' ow' w'.heap s v:=λs v e=>cn.mono q t a y e
 refine⟨⟨λd j o C=> ?_,n,λb D=> ?_⟩,f,g,k,B⟩
 ·rcases m d j o C with⟨h1,E,H⟩|h1
  ·exact df.mono q t a y E H (p.obs d j o h1)
  ·exact h1 f a
 ·rcases k b D with h|h
  ·exact p.notF b h
  ·intro I
   have:=z b I;omega
def aU {o:Option OB} {d' j':Nat} (a:ak ow d j≠none):ak (bw ow d j o) d' j'=if d'=d/\j'=j then some o else ak ow d' j':=by
 unfold ak at a⊢;unfold bw
 cases hd:ow[d]? with
 |none=>simp[hd]at a
 |some l=>
  simp only[hd,a0c]at a;have b:=(a0r.1 hd).1;have f:j<l.length:=by
   rcases a3y j l.length with h|h
   ·exact h
   ·exact absurd (a1f h) a
  by_cases c:d'=d
  ·subst c
   simp only[a4w b,a0c,true_and];by_cases e:j'=j
   ·subst e;simp[f]
   ·simp[e,hd,a2z (Ne.symm e)]
  ·simp[c,a2z (Ne.symm c)]
def bG {o:Option OB}:(bw ow d j o).length=ow.length:=by
 unfold bw;split<;>simp
def fj {l:List OB} {ow':OW} (h:bX ow d l=some ow'):ow'.length=ow.length/\(l=[]\/ow[d]?=some [])/\∀d' j,ak ow' d' j=if d'=d/\l≠[]then l[j]?.map some else ak ow d' j:=by
 unfold bX at h;split at h
 ·cases h;exact⟨rfl,.inl rfl,λd' j=>by simp⟩
 ·rename_i g
  split at h
  ·rename_i f
   cases h
   refine⟨by simp,.inr f,λd' j=> ?_⟩;have a:=(a0r.1 f).1;have b:l≠[]:=λe=>g e
   unfold ak;by_cases c:d'=d
   ·subst c;simp[a4w a,b]
   ·simp[c,a2z (Ne.symm c)]
  ·cases h
def cZ (h:ow[d]?=some []) (j:Nat):ak ow d j=none:=by simp[ak,h]
def co (w:World) (o:Obj) (a:b<w.heap.size):(w.alloc o).heap[b]?=w.heap[b]?:=by
 show(w.heap.push o)[b]?=_;rw[Array.getElem?_push];rw[ifNegQ]
def cH (w:World) (o:Obj):(w.alloc o).heap[w.heap.size]?=some o:=by
 show(w.heap.push o)[w.heap.size]?=some o;simp
def ku (I:Nat->Prop) (w:World) (o:Obj):fh I w (w.alloc o):=⟨by simp,λb a _=>co w o a,λb r et f h=>⟨r,by rw[co w o (a1b.1 h).1];exact h,rfl⟩,rfl,rfl,rfl⟩
def j0 (I:Nat->Prop) (w:World):fh I w w.drew:=⟨a1m _,λ_ _ _=>rfl,λb r et f h=>⟨r,h,rfl⟩,rfl,rfl,rfl⟩
def Gh.new (G:Gh) (d:Nat) (p:Nat->Nat->Option (Nat×Nat)):Gh:=λd' j=>if d'=d then p j else G d' j
def fZ (p:Option (Nat×Nat)):Nat->Nat->Option (Nat×Nat):=λ_ i=>if i=0 then p else none
def DP (D:bx F G ow w.heap) (Y:∀b,F b->b<w.heap.size) {K:OB} (Z:bX ow d [K]=some ow') {w1:World} (n:w1.heap=w.heap) (L:w1.os=w.os) (A:w1.output=w.output) (t:w1.tape=w.tape) (c:Obj) (o:Nat)
 (M:(∀s v,Sv F G ow w.heap s v->Sv F (G.new d (fZ (some (w.heap.size,o)))) ow' (w1.alloc c).heap s v)->(∀b r,cU F G ow b->am w.heap b=some r->cU F (G.new d (fZ (some (w.heap.size,o)))) ow' b/\am (w1.alloc c).heap b=some r)->df (w1.alloc c).heap (cU F (G.new d (fZ (some (w.heap.size,o)))) ow') (G.new d (fZ (some (w.heap.size,o)))) ow' d 0 K):
 Tr F G ow w (G.new d (fZ (some (w.heap.size,o)))) ow' (w1.alloc c):=by
 obtain⟨hl,E,N⟩:=fj Z;have E:ow[d]?=some []:=by rcases E with h|h;cases h;exact h
 have a:∀d' j,ak ow' d' j=if d'=d then [K][j]?.map some else ak ow d' j:=λd' j=>by rw[N];simp
 have O:∀d' j,ak ow d' j≠none->(G.new d (fZ (some (w.heap.size,o)))) d' j=G d' j:=λd' j g=>by
  unfold Gh.new;rw[a0d];intro e;rw[e,cZ E]at g;exact g rfl
 have hk:fh (ci G ow) w (w1.alloc c):=⟨by simp[n],λb P _=>by rw[co w1 c (by rw[n];exact P),n],λb r et f h=>⟨r,by rw[co w1 c (by rw[n];exact(a1b.1 h).1),n];exact h,rfl⟩,L,A,t⟩;have k:∀d' j,d'≠d->(G.new d (fZ (some (w.heap.size,o)))) d' j=G d' j:=λd' j m=>by simp[Gh.new,m]
 have l:∀ {j i u p},(G.new d (fZ (some (w.heap.size,o)))) d j i=some (u,p)->i=0/\u=w.heap.size:=λ {j i u p} h=>by
  simp only[Gh.new,a1z,fZ]at h;split at h
  ·rename_i e;cases h;exact⟨e,rfl⟩
  ·cases h
 have B:∀j,bB (ak ow' d j)->j=0:=λj g=>by
  rw[a,a0f rfl]at g
  cases j with
  |zero=>rfl
  |succ j=>simp[bB]at g
 refine tQ D Y (λd' j g=>a8w (O d' j g) 0) (λd' j=> ?_) hk (λb P=> ?_) (λb r _ W=>⟨r,?_,rfl⟩) (λd' j ob' g=> ?_) (λQ R i1 H S i2 b o1 o2 n I x y=> ?_) hl
 ·by_cases m:d'=d
  ·subst m;rw[cZ E];trivial
  ·rw[a,a0d m];exact .refl _
 ·obtain⟨d',j,i,p,g,q⟩:=aK.1 P
  by_cases m:d'=d
  ·subst m
   rw[(l q).2];exact .inr (a1m _)
  ·rw[a,a0d m]at g
   rw[k d' j m]at q;exact .inl (aK.2 ⟨d',j,i,p,g,q⟩)
 ·unfold am
  rw[co w1 c (by rw[n];exact cB W),n];exact W
 ·by_cases m:d'=d
  ·subst m
   right;intro T U
   cases j with
   |zero=>
    rw[a,a0f rfl]at g;simp at g;subst g;exact M T U
   |succ j=>
    rw[a,a0f rfl]at g;simp at g
  ·left
   rw[a,a0d m]at g;refine⟨g,k d' j m,λJ i b cc q=> ?_⟩;have:ci G ow b:=aK.2 ⟨d',j,i,cc,by rw[g];exact J,q⟩;rw[co w1 c (by rw[n];exact ci.lt D this),n]
 ·have X:∀ {d' j' V u p},d'≠d->bB (ak ow' d' j')->(G.new d (fZ (some (w.heap.size,o)))) d' j' V=some (u,p)->u<w.heap.size:=by
   intro d' j' V u p m J q;rw[k d' j' m]at q;rw[a,a0d m]at J;exact ci.lt D (aK.2 ⟨d',j',V,p,J,q⟩)
  by_cases C:Q=d
  ·by_cases z:H=d
   ·subst C;subst z
    exact⟨rfl,by rw[B R n,B S I],by rw[(l x).1,(l y).1]⟩
   ·have:=X z I y
    rw[C]at x;have:=(l x).2;omega
  ·by_cases z:H=d
   ·have:=X C n x
    rw[z]at y;have:=(l y).2;omega
   ·rw[k Q R C]at x
    rw[k H S z]at y;rw[a,a0d C]at n;rw[a,a0d z]at I;exact D.apart Q R i1 H S i2 b o1 o2 n I x y
end
end Go.Pev
namespace Go.Pev
variable {o n:Option (Option OB)} {A B:Type}
structure Iw (s:Sh) (l:List s.T) (k:Kd) (l':List k.T):Prop where
 good:k.good=true
 wide:s.w=k.n
 len:l.length=l'.length
 rep:∀(h:Array Obj) (ok:Nat->Prop) (i:Nat) (h1:i<l.length) (h2:i<l'.length) (vs:List Value) (fp:List Nat),ck h ok s l[i] vs fp->(∀b∈fp,ok b)->ct h ok k l'[i] vs
def LY (o n:Option (Option OB)):Prop:=
 (∃k ver l,o=some (some (.row k ver l))/\n=some (some (.frow k ver l)))\/(∃s l k b,o=some (some (.nrow s l none))/\n=some (some (.frow k 0 b))/\Iw s l k b)
 \/∃a,o=some (some (.box a))/\n=some (some (.lrow 0))
def LY.own (h:LY o n):bB o:=by
 rcases h with⟨k,ver,l,rfl,_⟩|⟨s,l,k,b,rfl,_⟩|⟨a,rfl,_⟩<;>trivial
def LY.not (h:LY o n):¬bB n/\n≠some none/\∃o,n=some (some o):=by
 rcases h with⟨k,ver,l,_,rfl⟩|⟨s,l,k,b,_,rfl,_⟩|⟨a,_,rfl⟩<;>exact⟨λh=>h.elim,by simp,_,rfl⟩
def LY.ec (h:LY o n):EC o n:=by
 rcases h with⟨k,ver,l,rfl,rfl⟩|⟨s,l,k,c,rfl,rfl,b⟩|⟨a,rfl,rfl⟩
 ·exact⟨rfl,rfl⟩
 ·exact⟨b.wide,b.len⟩
 ·trivial
def LY.rep {o n:OB} (K:LY (some (some o)) (some (some n))) {h q:Array Obj} {ok ok':Nat->Prop} {G J:Gh} {ow ow':OW} {d j:Nat} (t:J d j 0=G d j 0) (u:∀b r,ok b->am h b=some r->ok' b/\am q b=some r) (c:∀i b o,G d j i=some (b,o)->ok' b/\q[b]?=h[b]?) (e:df h ok G ow d j o):df q ok' J ow' d j n:=by
 rcases K with⟨k,ver,l,v,w⟩|⟨s,l,k,P,v,w,f⟩|⟨g,v,w⟩
 ·cases v;cases w
  obtain⟨_,L,a⟩:=e;refine⟨L,?_⟩;rw[t]
  cases hg:G d j 0 with
  |none=>simpa [hg]using a
  |some p=>
   obtain⟨b,o⟩:=p;simp only[hg]at a;obtain⟨r,et,C,D⟩:=a;obtain⟨E,F⟩:=c 0 b o hg;exact .inr ⟨E,r,aP (by rw[F];exact C),D.mono λx cs m=>ct.mono u _ m⟩
 ·cases v;cases w
  obtain⟨_,fps,M,a⟩:=e;refine⟨f.good,?_⟩;rw[t]
  cases hg:G d j 0 with
  |none=>
   simp only[hg]at a;have:=f.len;rw[a.1]at this;exact a0s this.symm
  |some p=>
   obtain⟨b,o⟩:=p;simp only[hg]at a;obtain⟨r,et,C,H,N,Q,y,_⟩:=a;obtain⟨E,F⟩:=c 0 b o hg;have z:∀x∈fps.flatten,ok' x/\q[x]?=h[x]?:=λx m=>by
    obtain⟨i,B,e⟩:=a2h.1 m;exact c (i+1) x 0 (by rw[M,a0a B,e];rfl)
   refine .inr ⟨E,r,aP (by rw[F];exact C),by rw[<-f.len,<-f.wide];exact H,λi B=> ?_⟩;have A:i<l.length:=by rw[f.len];exact B
   have I:i<fps.length:=by omega
   rw[<-f.wide];exact f.rep q ok' i A B _ _ (ck.mono u s (λx m=>(z x (iB I m)).2) (y i A I (λg O=>by cases O))) (λx m=>(z x (iB I m)).1)
 ·cases v;cases w;trivial
def nu (e:A=B) (l:List A):(cast (a1v List e) l).length=l.length:=by subst e;rfl
def qT (e:A=B) (l:List A) (i:Nat) (h:i<(cast (a1v List e) l).length) (a:i<l.length):(cast (a1v List e) l)[i]=cast e l[i]:=by subst e;rfl
def Jq {a b:Type} (c:A=a) (d:B=b) (h:(A×B)=(a×b)) (x:A×B):cast h x=(cast c x.1,cast d x.2):=by subst c;subst d;rfl
def wy:(s:Sh)->s.one=true->s.elem=true->s.kd.isSt=false
 | .pur kd,_,h=>by
  have:kd.isSt=false:=by simpa using(a0e _ _▸h:kd.noOwn=true/\(!kd.isSt)=true).2
  exact this
 | .own _,_,_=>rfl
 | .rows _,_,_=>rfl
 | .nil,h,_=>by simp[Sh.one]at h
 | .cons _ _,h,_=>by simp[Sh.one]at h
 | .row _,_,h=>by simp[Sh.elem]at h
 | .nrw _,_,h=>by simp[Sh.elem]at h
 | .box _,_,h=>by simp[Sh.elem]at h
 | .agg _,_,h=>by simp[Sh.elem]at h
 | .fn _ _ _,_,h=>by simp[Sh.elem]at h
 | .ign,_,h=>by simp[Sh.elem]at h
 | .nl,_,h=>by simp[Sh.elem]at h
def Ix {k:Kd} (h:k.isSt=false):k.n=1:=by cases k<;>simp_all[Kd.n,Kd.isSt]
def Om:(s:Sh)->s.elem=true->s.w=s.kd.n
 | .pur kd,h=>by
  have:kd.isSt=false:=wy (.pur kd) rfl h;simp[Sh.w,Sh.kd,Ix this]
 | .own _,_=>rfl
 | .rows _,_=>rfl
 | .nil,_=>rfl
 | .cons a b,h=>by
  simp only[Sh.elem,a0e]at h;have c:=Ix (wy a h.1.1.1 h.1.2);have d:=Om b h.2;simp only[Sh.w,Sh.kd,Kd.n,c,<-d];omega
 | .row _,h=>by simp[Sh.elem]at h
 | .nrw _,h=>by simp[Sh.elem]at h
 | .box _,h=>by simp[Sh.elem]at h
 | .agg _,h=>by simp[Sh.elem]at h
 | .fn _ _ _,h=>by simp[Sh.elem]at h
 | .ign,h=>by simp[Sh.elem]at h
 | .nl,h=>by simp[Sh.elem]at h
def Gu {k:Kd} (h:k.good=true):k.noOwn=true:=(a0e _ _▸h:k.noOwn=true/\k.ch.leafy=true).1
def qU:(s:Sh)->s.elem=true->s.kd.noOwn=true
 | .pur kd,h=>(a0e _ _▸h:kd.noOwn=true/\(!kd.isSt)=true).1
 | .own k,h=>by simpa [Sh.kd,Kd.noOwn]using Gu h
 | .rows s,h=>by simpa [Sh.kd,Kd.noOwn]using qU s h
 | .nil,_=>rfl
 | .cons a b,h=>by
  simp only[Sh.elem,a0e]at h;simp[Sh.kd,Kd.noOwn,qU a h.1.2,qU b h.2]
 | .row _,h=>by simp[Sh.elem]at h
 | .nrw _,h=>by simp[Sh.elem]at h
 | .box _,h=>by simp[Sh.elem]at h
 | .agg _,h=>by simp[Sh.elem]at h
 | .fn _ _ _,h=>by simp[Sh.elem]at h
 | .ign,h=>by simp[Sh.elem]at h
 | .nl,h=>by simp[Sh.elem]at h
def DQ:(s:Sh)->s.elem=true->s.chn=true->s.kd.leafy=true
 | .nil,_,_=>rfl
 | .cons a b,h,hc=>by
  simp only[Sh.elem,a0e]at h;simp[Sh.kd,Kd.leafy,wy a h.1.1.1 h.1.2,DQ b h.2 hc]
 | .pur _,_,h=>by simp[Sh.chn]at h
 | .own _,_,h=>by simp[Sh.chn]at h
 | .rows _,_,h=>by simp[Sh.chn]at h
 | .row _,_,h=>by simp[Sh.chn]at h
 | .nrw _,_,h=>by simp[Sh.chn]at h
 | .box _,_,h=>by simp[Sh.chn]at h
 | .agg _,_,h=>by simp[Sh.chn]at h
 | .fn _ _ _,_,h=>by simp[Sh.chn]at h
 | .ign,_,h=>by simp[Sh.chn]at h
 | .nl,_,h=>by simp[Sh.chn]at h
def vF {h:Array Obj} {ok:Nat->Prop}:(s:Sh)->(f:s.elem=true)-> {x:s.T}-> {vs:List Value}-> {m:List Nat}->ck h ok s x vs m->(∀b∈m,ok b)->ct h ok s.kd (cast (Sh.kd_T s f).symm x) vs
 | .pur kd,f,x,vs,m,e,_=>by
  obtain⟨v,rfl,_,t,_,u⟩:=e;have z:kd.isSt=false:=wy (.pur kd) rfl f;have:v.cells= #[v]:=by have:=u z;cases v<;>simp_all[Value.cells,Value.oneCell']
  rw[this]at t;exact t
 | .own k,f,x,vs,m,e,hok=>by
  obtain⟨v,rfl,_,a,c,rfl,l,e⟩:=e;refine⟨a,c,rfl,l,?_⟩;rcases e with⟨_,rfl,_,_⟩|⟨b,o,r,et,rfl,rfl,q,d,_⟩
  ·exact .inl rfl
  ·exact .inr ⟨b,o,r,rfl,hok b (by simp),aP q,d⟩
 | .rows s,f,x,vs,m,e,hok=>by
  obtain⟨v,rfl,d,a,c,rfl,l,e⟩:=e;have g:=nu (Sh.kd_T s d).symm x;refine⟨a,c,by rw[show(cast (Sh.kd_T (.rows s) f).symm x)=cast (a1v List (Sh.kd_T s d).symm) x from rfl,g],by rw[show(cast (Sh.kd_T (.rows s) f).symm x)=cast (a1v List (Sh.kd_T s d).symm) x from rfl,g];exact l,?_⟩;rw[show(cast (Sh.kd_T (.rows s) f).symm x)=cast (a1v List (Sh.kd_T s d).symm) x from rfl];rcases e with⟨_,rfl,_,_⟩|⟨b,o,r,et,fps,rfl,rfl,q,u,E,F,A⟩
  ·exact .inl (a0s (by rw[g];rfl))
  ·have B:x.length*s.w<=c*s.w:=a0q _ l
   refine .inr ⟨b,o,r,rfl,hok b (by simp),aP q,by rw[g,<-Om s d];omega,λi y=> ?_⟩;have n:i<x.length:=by rw[<-g];exact y
   rw[qT _ _ _ y n,<-Om s d];exact vF s d (A i n (by omega)) (λp j=>hok p (a3a _ (iB (by omega) j)))
 | .nil,f,x,vs,m,e,_=>e.1
 | .cons a b,f,x,vs,m,e,hok=>by
  have h:=f;simp only[Sh.elem,a0e]at h;obtain⟨v,r,f1,f2,rfl,rfl,C,D⟩:=e;have e:cast (Sh.kd_T (.cons a b) f).symm x=((cast (Sh.kd_T a h.1.2).symm x.1,cast (Sh.kd_T b h.2).symm x.2):a.kd.T×b.kd.T):=Jq _ _ _ x;rw[e];exact⟨[v],r,rfl,vF a h.1.2 C (λp j=>hok p (by simp[j])),vF b h.2 D (λp j=>hok p (by simp[j]))⟩
 | .row _,h,_,_,_,_,_=>by simp[Sh.elem]at h
 | .nrw _,h,_,_,_,_,_=>by simp[Sh.elem]at h
 | .box _,h,_,_,_,_,_=>by simp[Sh.elem]at h
 | .agg _,h,_,_,_,_,_=>by simp[Sh.elem]at h
 | .fn _ _ _,h,_,_,_,_,_=>by simp[Sh.elem]at h
 | .ign,h,_,_,_,_,_=>by simp[Sh.elem]at h
 | .nl,h,_,_,_,_,_=>by simp[Sh.elem]at h
def On (s:Sh) (h:s.elem=true):s.kd.good=true:=by
 have d:=qU s h;unfold Kd.good;rw[d,a1n]
 cases hc:s.chn with
 |true=>
  have e:=DQ s h hc;have:s.kd.isSt=true:=by cases s<;>simp_all[Sh.chn,Sh.kd,Kd.isSt]
  rw[Kd.ch,a0f this];exact e
 |false=>
  by_cases c:s.one=true
  ·have:=wy s c h
   rw[Kd.ch,a0d (by simp[this])];simp[Kd.leafy,this]
  ·cases s with
   |cons a b=>
    simp only[Sh.elem,a0e]at h;rw[Sh.chn,h.1.1.2]at hc
    cases hc
   |nil=>simp[Sh.chn]at hc
   |_=>simp[Sh.one]at c
def Mq (s:Sh) (h:s.elem=true) (l:List s.T):Iw s l s.kd (L4 s h l):=by
 have a:=nu (Sh.kd_T s h).symm l;refine⟨On s h,Om s h,a.symm,λf ok i c d vs g e b=> ?_⟩;unfold L4;rw[qT _ _ _ d c];exact vF s h e b
end Go.Pev
namespace Go.Pev
variable {k:Kd} {d:Nat} {s:SV} {v:Value} {cells:List SV} {r:Array Value}
def DB (P:Program) (F:Nat->Prop) (G:Gh) (ow:OW) (w:World) (Q:SV×OW->Prop) (c:Sem Value):Prop:=∃s ow' v a b,Q (s,ow')/\c.run P w= .ok v a/\Tr F G ow w b ow' a/\Sv F b ow' a.heap s v
section
variable {F:Nat->Prop} {G:Gh} {ow ow':OW} {w:World} {P:Program}
def qc {a:OB} (b:bX ow d [a]=some ow'):ak ow' d 0=some (some a):=by
 obtain⟨_,_,h⟩:=fj b;rw[h];simp
def Iy (j:bx F G ow w.heap) (k:∀b,F b->b<w.heap.size) {vs:List Value} (a:dq F G ow w.heap cells vs) (f:bX ow d [.box cells]=some ow') (et:TypeId):Tr F G ow w (G.new d (fZ (some (w.heap.size,0)))) ow' (w.alloc (.cells vs.toArray et))/\Sv F (G.new d (fZ (some (w.heap.size,0)))) ow' (w.alloc (.cells vs.toArray et)).heap (.bp d 0 0) (.pointer (some ⟨w.heap.size,0,none⟩)):=by
 have g:(G.new d (fZ (some (w.heap.size,0)))) d 0 0=some (w.heap.size,0):=by simp[Gh.new,fZ]
 have c:∀i,(G.new d (fZ (some (w.heap.size,0)))) d 0 (i+1)=none:=by simp[Gh.new,fZ]
 refine⟨DP j k f rfl rfl rfl rfl _ 0 λe _=> ?_,?_⟩
 ·exact⟨c,w.heap.size,0,vs.toArray,et,g,cH _ _,by simp[a.1],λi h l=>by
   have:=e _ _ (a.2 i h (a.1▸h));simpa [Sv]using this⟩
 ·refine .bp ?_
  rw[qc f];exact⟨_,_,g,rfl⟩
def zC {t:TypeId} (g:bx F G ow w.heap) (h:∀b,F b->b<w.heap.size) (j:lQ P t=some cells) (k:bX ow d [.box cells]=some ow') {Q:SV×OW->Prop} (l:Q (.bp d 0 0,ow')):DB P F G ow w Q (Instr.alloc t true (.tuple #[])):=by
 obtain⟨i,z,m,a,_,c⟩:=nr (F:=F) (G:=G) (ow:=ow) (w:=w) j;obtain⟨e,f⟩:=Iy g h c k t;rw[a6v]at e f;exact⟨_,_,_,_,_,l,by simp[Instr.alloc,fR m a,newVar,newRow],e,f⟩
def DR {t:TypeId} {x:SV} {xv:Value} (c:bx F G ow w.heap) (e:∀b,F b->b<w.heap.size) (f:Sv F G ow w.heap x xv) (g:fQ P t x=some cells) (h:bX ow d [.box cells]=some ow') {Q:SV×OW->Prop} (i:Q (.bp d 0 0,ow')):DB P F G ow w Q (Instr.box t xv):=by
 obtain⟨vs,j,a,_,_⟩:=fH f g;obtain⟨k,l⟩:=Iy c e a h t;exact⟨_,_,_,_,_,i,by simp[Instr.box,newVar,newRow,j],k,l⟩
def PX (g:bx F G ow w.heap) (I:∀b,F b->b<w.heap.size) (d j:Nat):Tr F G ow w G (Az ow d j) w:=by
 unfold Az;split
 ·rename_i k ver l J
  have i:=aG J;have n:ak ow d j≠none:=by rw[i];simp
  have f:=λd' j'=>aU (o:=some (.frow k ver l)) (d':=d') (j':=j') n
  have a:∀ {d' j'},bB (ak (bw ow d j (some (.frow k ver l))) d' j')->¬(d'=d/\j'=j)/\bB (ak ow d' j'):=by
   intro d' j' c;rw[f]at c;split at c
   ·exact c.elim
   ·exact⟨by assumption,c⟩
  have q:∀b,ci G (bw ow d j (some (.frow k ver l))) b->ci G ow b:=by
   intro b m;obtain⟨d',j',K,L,c,s⟩:=aK.1 m;exact aK.2 ⟨d',j',K,L,(a c).2,s⟩
  refine tQ g I (λ_ _ _=>rfl) (λd' j'=> ?_) (.refl _ _) (λb m=> .inl (q b m)) (λb r _ t=>⟨r,t,rfl⟩) (λd' j' o h=> ?_) (λM N O u v y b P z A B=>g.apart M N O u v y b P z (a A).2 (a B).2) bG
  ·rw[f]
   split
   ·rename_i e;rw[e.1,e.2,i];exact⟨rfl,rfl⟩
   ·exact .refl _
  ·rw[f]at h
   split at h
   ·rename_i e
    obtain⟨rfl,rfl⟩:=e
    cases h
    right;intro _ C;obtain⟨Q,R,D⟩:=g.obs d' j' _ i;refine⟨R,?_⟩
    cases hgg:G d' j' 0 with
    |none=>simpa [hgg]using D
    |some p=>
     obtain⟨b,o⟩:=p;simp only[hgg]at D;obtain⟨r,et,t,S⟩:=D;have E:ci G ow b:=aK.2 ⟨d',j',0,o,by rw[i];trivial,hgg⟩;refine .inr ⟨⟨g.notF b E,λm=> ?_⟩,r,aP t,S.mono λx cs h=>ct.mono C _ h⟩;obtain⟨u,v,y,z,c,H⟩:=aK.1 m;obtain⟨A,B⟩:=a c;have:=g.apart d' j' 0 u v y b o z (by rw[i];trivial) B hgg H;exact A ⟨this.1.symm,this.2.1.symm⟩
   ·exact .inl ⟨h,rfl,λ_ _ _ _ _=>rfl⟩
 ·exact .refl g
def DS (g:bx F G ow w.heap) (I:∀b,F b->b<w.heap.size) {j:Nat} {o n:OB} (h:ak ow d j=some (some o)) (k:LY (some (some o)) (some (some n))):Tr F G ow w G (bw ow d j (some n)) w:=by
 have q:ak ow d j≠none:=by rw[h];simp
 have f:=λd' j'=>aU (o:=some n) (d':=d') (j':=j') q
 have a:∀ {d' j'},bB (ak (bw ow d j (some n)) d' j')->¬(d'=d/\j'=j)/\bB (ak ow d' j'):=by
  intro d' j' c;rw[f]at c;split at c
  ·exact absurd c k.not.1
  ·exact⟨by assumption,c⟩
 have s:∀b,ci G (bw ow d j (some n)) b->ci G ow b:=by
  intro b l;obtain⟨d',j',J,E,c,t⟩:=aK.1 l;exact aK.2 ⟨d',j',J,E,(a c).2,t⟩
 refine tQ g I (λ_ _ _=>rfl) (λd' j'=> ?_) (.refl _ _) (λb l=> .inl (s b l)) (λb r _ K=>⟨r,K,rfl⟩) (λd' j' E m=> ?_) (λL M N u v x b p y z A=>g.apart L M N u v x b p y (a z).2 (a A).2) bG
 ·rw[f]
  split
  ·rename_i e;rw[e.1,e.2,h];exact k.ec
  ·exact .refl _
 ·rw[f]at m
  split at m
  ·rename_i e
   obtain⟨rfl,rfl⟩:=e
   cases m
   right;intro _ B;refine k.rep rfl B (λi b p H=>⟨?_,rfl⟩) (g.obs d' j' _ h);have C:ci G ow b:=aK.2 ⟨d',j',i,p,by rw[h];exact k.own,H⟩;refine⟨g.notF b C,λl=> ?_⟩;obtain⟨u,v,x,y,c,D⟩:=aK.1 l;obtain⟨z,A⟩:=a c;have:=g.apart d' j' i u v x b p y (by rw[h];exact k.own) A H D;exact z ⟨this.1.symm,this.2.1.symm⟩
  ·exact .inl ⟨m,rfl,λ_ _ _ _ _=>rfl⟩
def qd (d j:Nat):Ge ow d j=ow\/∃s l a,ak ow d j=some (some (.nrow s l none))/\LY (some (some (.nrow s l none))) (some (some (.frow s.kd 0 a)))/\Ge ow d j=bw ow d j (some (.frow s.kd 0 a)):=by
 unfold Ge;split
 ·rename_i r b
  obtain⟨_,c⟩:=ij b;split
  ·rename_i e
   exact .inr ⟨r.1,r.2,_,c,.inr (.inl ⟨r.1,r.2,r.1.kd,_,rfl,rfl,Mq r.1 e r.2⟩),rfl⟩
  ·exact .inl rfl
 ·exact .inl rfl
def Oo (a:bx F G ow w.heap) (c:∀b,F b->b<w.heap.size) (d j:Nat):Tr F G ow w G (Ge ow d j) w:=by
 rcases qd (ow:=ow) d j with e|⟨s,l,l',hn,hz,e⟩
 ·rw[e];exact .refl a
 ·rw[e];exact DS a c hn hz
def tR {a:Gh} {c:World} (h:Tr F G ow w a ow' c) (b:Nat) (r:Array Value) (d:cU F G ow b) (e:am w.heap b=some r):cU F a ow' b/\am c.heap b=some r:=Iv h.kept h.own b r d e
def jU (n:bx F G ow w.heap) (J:∀b,F b->b<w.heap.size) (A:Sv F G ow w.heap s v) {x:k.T} (h:eS k s ow=some (x,ow')):Tr F G ow w G ow' w/\ct w.heap (cU F G ow') k x [v]:=by
 unfold eS at h;split at h
 ·rename_i P y
  split at h
  ·rename_i e
   subst e
   cases h
   cases A with
   |v _ hy=>exact⟨.refl n,hy⟩
  ·cases h
 ·split at h
  ·cases h
   cases A
   exact⟨.refl n,rfl⟩
  ·cases h
 ·split at h
  ·cases h
   cases A
   exact⟨.refl n,⟨_,_,rfl,a1m _,.inl rfl⟩⟩
  ·cases h
 ·split at h
  ·rename_i e
   split at h
   ·rename_i d j r g f
    split at h
    ·rename_i B
     subst B;simp only[a0l,a0z]at h;obtain⟨p,rfl⟩:=h;have q:=PX n J d j;refine⟨q,?_⟩;obtain⟨d',j',ver,l0,i,hn,t,a,c,rfl,u,m⟩:=jz n A f;rw[g]at i
     cases i
     have p:x=r.2:=by rw[<-p];rfl
     subst p;refine⟨a,c,rfl,u,?_⟩;rcases m with m|⟨b,o,rw_,⟨o',hg⟩,ha,hr,hel,hok⟩
     ·exact .inl m
     ·refine .inr ⟨b,o,rw_,ha,?_,hr,hel.mono λx cs m=>ct.mono (tR q) _ m⟩
      rcases hn with hn|hn
      ·have C:ci G ow b:=aK.2 ⟨d,j,0,o',by rw[hn];trivial,hg⟩
       refine⟨n.notF b C,λK=> ?_⟩;obtain⟨L,M,N,O,z,D⟩:=aK.1 K;have E:cj ow d j=some (.row r.1 ver l0):=by rw[lU,hn];rfl
       unfold Az at z;simp only[E]at z;rw[aU (by rw[hn];simp)]at z;split at z
       ·exact z.elim
       ·rename_i H
        have:=n.apart d j 0 L M N b o' O (by rw[hn];trivial) z hg D;exact H ⟨this.1.symm,this.2.1.symm⟩
      ·have I:nN ow d j=false:=by unfold nN;rw[lU,hn];rfl
       exact(tR q b rw_ (hok I) hr).1
    ·cases h
   ·rename_i d j g l
    split at h
    ·rename_i r f
     split at h
     ·rename_i B
      subst B;simp only[a0l,a0z]at h;obtain⟨p,rfl⟩:=h;have q:=Oo n J d j;refine⟨q,?_⟩;obtain⟨d',j',ver,l0,i,hn,t,a,c,rfl,u,m⟩:=jz q.hrep (q.sv _ _ A) f;rw[g]at i
      cases i
      have p:x=r.2:=by rw[<-p];rfl
      subst p;refine⟨a,c,rfl,u,?_⟩;rcases m with m|⟨b,o,rw_,_,ha,hr,hel,hok⟩
      ·exact .inl m
      ·refine .inr ⟨b,o,rw_,ha,hok ?_,hr,hel⟩
       rcases qd (ow:=ow) d j with e|⟨s1,l1,l1',hn1,_,e⟩
       ·rw[e]at f
        rw[f]at l
        cases l
       ·unfold nN
        rw[e,lU,aU (by rw[hn1];simp)];simp
     ·cases h
    ·cases h
   ·cases h
  ·cases h
def jq (g:∀b,F b->b<w.heap.size):(k:Kd)-> {ow ow':OW}->(d:bx F G ow w.heap)-> {l:List SV}-> {vs:List Value}->dq F G ow w.heap l vs-> {x:k.T}->bI k l ow=some (x,ow')->Tr F G ow w G ow' w/\ct w.heap (cU F G ow') k x vs
 | .cons a b,ow,ow',d,l,vs,hl,x,h=>by
  cases l with
  |nil=>simp[bI]at h
  |cons s r=>
   simp only[bI]at h;obtain⟨v,e,rfl,m,c⟩:=hl.uncons;split at h
   ·rename_i y n
    split at h
    ·rename_i z o
     cases h
     obtain⟨f,p⟩:=jU (x:=y.1) (ow':=y.2) d g m n;obtain⟨j,q⟩:=jq g b (x:=z.1) (ow':=z.2) f.hrep ⟨c.1,λi t u=>f.sv _ _ (c.2 i t u)⟩ o;exact⟨f.trans j,[v],e,rfl,ct.mono (tR j) _ p,q⟩
    ·cases h
   ·cases h
 | .nil,ow,ow',d,l,vs,hl,x,h=>by
  cases l with
  |nil=>
   simp only[bI,a0l,a0z]at h;obtain⟨_,rfl⟩:=h;have:vs=[]:=a0s hl.1.symm;subst this;exact⟨.refl d,rfl⟩
  |cons s r=>simp[bI]at h
 | .int _,_,_,_,_,_,_,_,h=>by simp[bI]at h
 | .bool,_,_,_,_,_,_,_,h=>by simp[bI]at h
 | .str,_,_,_,_,_,_,_,h=>by simp[bI]at h
 | .err,_,_,_,_,_,_,_,h=>by simp[bI]at h
 | .any,_,_,_,_,_,_,_,h=>by simp[bI]at h
 | .sl _ _,_,_,_,_,_,_,_,h=>by simp[bI]at h
 | .tree _,_,_,_,_,_,_,_,h=>by simp[bI]at h
def Gv {x:k.T} (h:eS k s ow=some (x,ow')):vY s=true:=by
 unfold eS at h;split at h
 ·rfl
 ·rfl
 ·rfl
 ·split at h
  ·split at h
   ·rename_i a _
    unfold jP at a;split at a
    ·rfl
    ·rfl
    ·cases a
   ·rename_i a _
    unfold jP at a;split at a
    ·rfl
    ·rfl
    ·cases a
   ·cases h
  ·cases h
def Cg (J:bx F G ow w.heap) (s:∀b,F b->b<w.heap.size) {a:Kd} {j c:Nat} (M:Sv F G ow w.heap (.bp d j c) v) {x:cg a.T} (h:r9 a d j c ow=some (x,ow')):Tr F G ow w G ow' w/\ct w.heap (cU F G ow') (.tree a) x [v]:=by
 unfold r9 at h;split at h
 ·rename_i e N
  split at h
  ·rename_i y O
   split at h
   ·rename_i z P
    split at h
    ·rename_i Q
     simp only[a0l,a0z]at h;obtain⟨rfl,rfl⟩:=h;obtain⟨rfl,K,l⟩:=Q;have L:=aG N;obtain⟨R,b,o,r,et,t,S,U,f⟩:=J.obs d j _ L
     cases M with
     |bp hv=>
     simp only[L]at hv;obtain⟨b',o',m,rfl⟩:=hv;rw[t]at m
     cases m
     have p:dq F G ow w.heap (e.take a.n) (bT r o a.n):=by
      refine⟨by rw[aW,a1h];omega,λi h1 u=> ?_⟩;have k:i<a.n:=by rw[aW]at u;exact u
      have V:(bT r o a.n)[i]=r[o+i]'(by omega):=by
       have:=aN (r:=r) (o:=o) (n:=a.n) (i:=i) k;rw[a0a u,a1o (by omega)]at this;exact a1e this
      rw[V,a5c];exact f i (by omega) (by omega)
     obtain⟨A,W⟩:=jq s a J p (x:=y.1) (ow':=y.2) O;have X:Sv F G ow w.heap (e.getD a.n .dead) (r[o+a.n]'(by omega)):=by
      have:=f a.n (by omega) (by omega);simp only[List.getD,a0a (show a.n<e.length by omega),a2r];exact this
     obtain⟨q,Y⟩:=jU (x:=z.1) (ow':=z.2) A.hrep s (A.sv _ _ X) P;obtain⟨B,g⟩:=mv l;have C:=DS q.hrep s g (n:= .lrow 0) (.inr (.inr ⟨B,rfl,rfl⟩));refine⟨(A.trans q).trans C,DL.2 ⟨b,o,r,_,rfl,?_,aP S,by omega,ct.mono (tR (q.trans C)) _ W,a1o _,ct.mono (tR C) _ Y⟩⟩;have D:ci G z.2 b:=aK.2 ⟨d,j,0,o,by rw[g];trivial,t⟩;refine⟨q.hrep.notF b D,λE=> ?_⟩;obtain⟨Z,j2,i2,o2,k,H⟩:=aK.1 E;rw[aU (by rw[g];simp)]at k;split at k
     ·exact k.elim
     ·rename_i I
      have:=q.hrep.apart d j 0 Z j2 i2 b o o2 (by rw[g];trivial) k t H;exact I ⟨this.1.symm,this.2.1.symm⟩
    ·cases h
   ·cases h
  ·cases h
 ·cases h
def lF {x:k.T} (h:vz k s ow=some (x,ow')):eS k s ow=some (x,ow')\/∃(a:Kd) (d j c:Nat) (y:cg a.T) (e:k= .tree a),s= .bp d j c/\L5 e x=y/\r9 a d j c ow=some (y,ow'):=by
 cases k with
 |tree a=>
  cases s with
  |bp d j c=>exact .inr ⟨a,d,j,c,x,rfl,rfl,rfl,h⟩
  |_=>exact .inl h
 |_=>exact .inl h
def zD (e:bx F G ow w.heap) (f:∀b,F b->b<w.heap.size) (g:Sv F G ow w.heap s v) {x:k.T} (h:vz k s ow=some (x,ow')):Tr F G ow w G ow' w/\ct w.heap (cU F G ow') k x [v]:=by
 rcases lF h with h|⟨a,d,j,c,y,rfl,rfl,rfl,h⟩
 ·exact jU e f g h
 ·exact Cg e f g h
def DT {x:k.T} (h:vz k s ow=some (x,ow')):vY s=true:=by
 rcases lF h with h|⟨a,d,j,c,y,rfl,rfl,rfl,h⟩
 ·exact Gv h
 ·rfl
def tS (e:bx F G ow w.heap) (f:∀b,F b->b<w.heap.size) (a:Sv F G ow w.heap s v) {x:k.T} (h:tK k s ow=some (x,ow')):Tr F G ow w G ow' w/\ct w.heap (cU F G ow') k x v.cells.toList/\(if k.isSt then∃cs,v= .agg cs else v.oneCell'=true):=by
 unfold tK at h;split at h
 ·rename_i c
  split at h
  ·rename_i l
   obtain⟨vs,rfl,d⟩:=a.agg_inv;obtain⟨t,r⟩:=jq f k e d h;exact⟨t,r,by simp[c]⟩
  ·cases h
 ·rename_i c
  obtain⟨t,r⟩:=zD e f a h;have g:=Gs a (DT h);exact⟨t,by rw[iC g];exact r,by simp[c,g]⟩
def qV (j:∀b,F b->b<w.heap.size) {k:Kd}:(l:List SV)-> {ow ow':OW}->(d:bx F G ow w.heap)-> {vs:List Value}->dq F G ow w.heap l vs-> {xs:List k.T}->v6 k l ow=some (xs,ow')->Tr F G ow w G ow' w/\xs.length=vs.length/\∀i (a:i<xs.length) (f:i<vs.length),ct w.heap (cU F G ow') k xs[i] (vs[i]).cells.toList
 |[],ow,ow',d,vs,hl,xs,h=>by
  simp only[v6,a0l,a0z]at h;obtain⟨rfl,rfl⟩:=h;exact⟨.refl d,hl.1,λi a=>by simp at a⟩
 |s::r,ow,ow',d,vs,hl,xs,h=>by
  simp only[v6]at h;obtain⟨v,n,rfl,o,c⟩:=hl.uncons;split at h
  ·rename_i y p
   split at h
   ·rename_i z q
    cases h
    obtain⟨g,t,_⟩:=tS (x:=y.1) (ow':=y.2) d j o p;obtain⟨m,e,u⟩:=qV j r (xs:=z.1) (ow':=z.2) g.hrep ⟨c.1,λi a f=>g.sv _ _ (c.2 i a f)⟩ q;refine⟨g.trans m,by simp[e],λi a f=> ?_⟩
    cases i with
    |zero=>exact ct.mono (tR m) _ t
    |succ i=>exact u i (by simpa using a) (by simpa using f)
   ·cases h
  ·cases h
def bz.congr {α:Type} {R:α->List Value->Prop} {n:Nat} {l:List α} {a:Array Value} {o b:Nat} (h:bz R n l r o) (e:b+l.length*n<=a.size) (f:bT a b (l.length*n)=bT r o (l.length*n)):bz R n l a b:=by
 refine⟨e,λi c=> ?_⟩;have d:i*n+n<=l.length*n:=by
  have:(i+1)*n<=l.length*n:=a0q _ c;rw[a1a,a2w]at this;exact this
 rw[gz d,f,<-gz d];exact h.2 i c
def bz.append {α:Type} {R:α->List Value->Prop} {n:Nat} {l a:List α} {o:Nat} (h:bz R n l r o) (b:bz R n a r (o+l.length*n)):bz R n (l++a) r o:=by
 refine⟨by have:=b.1;simp[a1a];omega,λi d=> ?_⟩;by_cases c:i<l.length
 ·rw[a1k c]
  exact h.2 i c
 ·rw[a1x (by omega)]
  have:=b.2 (i-l.length) (by simp at d;omega);rw[a2n,<-a1a,show l.length+(i-l.length)=i by omega]at this;exact this
def fk {e:TypeId} (h:ko P e k=true):k.good=true/\0<k.n/\k.n=cR P e/\0<c8 P e/\∃i z,P.info? e=some i/\i.zero=some z/\i.size=k.n/\c8 P e=i.bytes/\z.cells.size=k.n:=by
 unfold ko at h;simp only[a0e,a0v]at h;obtain⟨⟨⟨⟨f,g⟩,d⟩,j⟩,b⟩:=h;refine⟨f,g,d,j,?_⟩;split at b
 ·rename_i z a
  simp only[a2k]at a;obtain⟨i,c,a⟩:=a;exact⟨i,z,c,a,by rw[d];simp[cR,Program.cellsOf,c],by simp[c8,Program.bytesOf,c],a0w b⟩
 ·cases b
def Ch (t:bx F G ow w.heap) (u:∀b,F b->b<w.heap.size) {l:List k.T} (v:k.good=true) (g:bz (λx cs=>ct w.heap (cU F G ow) k x cs) k.n l r 0) (p:bX ow d [.row k 0 l]=some ow') (et:TypeId) {c:Nat} (h:l.length<=c) (y:c*k.n<=r.size)
 {w1:World} (q:w1.heap=w.heap) (j:w1.os=w.os) (f:w1.output=w.output) (e:w1.tape=w.tape):
 Tr F G ow w (G.new d (fZ (some (w.heap.size,0)))) ow' (w1.alloc (.cells r et))/\Sv F (G.new d (fZ (some (w.heap.size,0)))) ow' (w1.alloc (.cells r et)).heap (.wh d 0 0 []) (.slice (some ⟨w.heap.size,0,none⟩) l.length c):=by
 have s:(G.new d (fZ (some (w.heap.size,0)))) d 0 0=some (w.heap.size,0):=by simp[Gh.new,fZ]
 have m:∀i,(G.new d (fZ (some (w.heap.size,0)))) d 0 (i+1)=none:=by simp[Gh.new,fZ]
 have a:(w1.alloc (.cells r et)).heap[w.heap.size]?=some (.cells r et):=by rw[<-q];exact cH _ _
 refine⟨DP t u p q j f e _ 0 λz o=>⟨m,v,?_⟩,.wh ?_⟩
 ·simp only[s]
  exact⟨r,et,a,g.mono λx cs A=>ct.mono o _ A⟩
 ·simp only[cX,qc p,a2q]
  exact⟨by omega,_,_,rfl,h,.inr ⟨w.heap.size,0,0,r,s,rfl,aP a,λ_=>by simp,by simpa using y⟩⟩
end
end Go.Pev
namespace Go.Pev
variable {t e:TypeId} {k:Kd} {d:Nat} {Q:SV×OW->Prop}
section
variable {F:Nat->Prop} {G:Gh} {ow ow':OW} {w:World} {P:Program}
def fz (h:lP P t=some e):P.underlying t=some (.slice e):=by
 unfold lP d5 at h;split at h
 ·cases h;assumption
 ·cases h
def jr {h:Array Obj} {ok:Nat->Prop}:(k:Kd)->(vs:List Value)->dE k vs=true->ct h ok k k.z vs
 | .int k,vs,e=>by
  unfold dE at e;split at e<;>simp_all[ct,Kd.z]
 | .bool,vs,e=>by
  unfold dE at e;split at e<;>simp_all[ct,Kd.z]
 | .str,vs,e=>by
  cases vs with
  |nil=>simp[dE]at e
  |cons v r=>
   cases r with
   |cons _ _=>simp[dE]at e
   |nil=>
    cases v<;>simp[dE]at e
    rename_i s;obtain⟨s⟩:=s;have:s= #[]:=a1v ByteArray.data e;subst this;rfl
 | .err,vs,e=>by
  unfold dE at e;split at e<;>first|exact .inl ⟨rfl,rfl⟩|simp_all
 | .any,vs,e=>by simp[dE]at e
 | .sl false _,vs,e=>by
  unfold dE at e;split at e<;>simp_all[ct,Kd.z]
 | .sl true _,vs,e=>by simp[dE]at e
 | .nil,vs,e=>by
  unfold dE at e;split at e<;>simp_all[ct]
 | .tree _,vs,e=>by simp[dE]at e
 | .cons a b,vs,e=>by
  cases vs with
  |nil=>simp[dE]at e
  |cons v r=>
   simp only[dE,a0e]at e;exact⟨[v],r,rfl,jr a [v] e.1.2,jr b r e.2⟩
def pG {z:Array Value} {m i:Nat} (b:i<m:=by omega):bT (madeCells z (m*z.size)) (i*z.size) z.size=z.toList:=by
 have c:(i+1)*z.size<=m*z.size:=a0q _ b;rw[a1a,a2w]at c;apply a2e;intro j;by_cases a:j<z.size
 ·rw[aN a]
  have f:0<z.size:=by omega
  simp only[madeCells,Array.getElem?_map,Array.getElem?_range,show i*z.size+j<m*z.size by omega,a1z,a1w];have e:(i*z.size+j) % z.size=j:=by rw[Nat.mul_add_mod_self_right,a7r a]
  rw[e];simp[a]
 ·have d:(bT (madeCells z (m*z.size)) (i*z.size) z.size).length<=j:=by
   rw[aW (by rw[size_madeCells];omega)];omega
  rw[a1f d,a1f (by simpa using(by omega:z.size<=j))]
def wz {n c:Int} (K:bx F G ow w.heap) (L:∀b,F b->b<w.heap.size) (M:lP P t=some e) (r:ko P e k=true) (s:Gg P e k=true) (V:0<=n) (N:n<=c) (C:c*c8 P e<=ag) (q:bX ow d [.row k 0 (List.replicate n.toNat k.z)]=some ow') (h:Q (.wh d 0 0 [],ow')):DB P F G ow w Q (Instr.makeSlice t (.int .i64 n) (.int .i64 c)):=by
 obtain⟨p,D,_,a,i,z,E,H,f,u,_⟩:=fk r;have v:dE k z.cells.toList=true:=by simpa [Gg,E,H]using s
 have O:=fz M;have g:=jr (h:=w.heap) (ok:=cU F G ow) k _ v;have y:z.cells.size=i.size:=by have:=ct.length k g;simpa [f]using this
 obtain⟨m,rfl⟩:∃m:Nat,c=(m:Int):=⟨c.toNat,by omega⟩;obtain⟨l,rfl⟩:∃l:Nat,n=(l:Int):=⟨n.toNat,by omega⟩;rw[u]at C a;have A:m*i.bytes<=ag:=by exact_mod_cast C
 have W:m<=m*i.bytes:=a4m _ a;unfold ag at A;have I:((m*i.bytes:Nat):Int)<=281474976710656:=by omega
 have R:(i.bytes:Int)*(m:Int)<=281474976710656:=by rw[Int.mul_comm];rw[a6f]at I;exact I
 have o:=run_make (P:=P) w t e i z O E H .i64 .i64 l m (by omega) N R (by omega);simp only[a0i]at o;have B:bz (λx cs=>ct w.heap (cU F G ow) k x cs) k.n (List.replicate l k.z) (madeCells z.cells (m*i.size)) 0:=by
  have S:l*k.n<=m*k.n:=a0q _ (by omega);refine⟨by rw[a2a,size_madeCells,f];omega,λj T=> ?_⟩;simp only[a2a]at T;have:=pG (z:=z.cells) (m:=m) (i:=j);rw[y,f]at this;rw[a1p,f,this];simpa using g
 simp only[a0i]at q;obtain⟨U,J⟩:=Ch K L p B q e (c:=m) (by rw[a2a];omega) (by rw[size_madeCells,f];omega) (w1:=w) rfl rfl rfl rfl;rw[a2a]at J;exact⟨_,_,_,_,_,h,o,U,J⟩
def qW {n c:SV} {i j:Value} (l:bx F G ow w.heap) (m:∀b,F b->b<w.heap.size) (o:Sv F G ow w.heap n i) (p:Sv F G ow w.heap c j) (h:(nS P t n c ow d).can Q):DB P F G ow w Q (Instr.makeSlice t i j):=by
 unfold nS at h;split at h
 ·rename_i e n c q
  split at h
  ·rename_i k r
   split at h
   ·rename_i f
    simp only[a0e]at f;obtain⟨a,h⟩:=h;have a:(0:Int)<=n/\(n:Int)<=c/\(c:Int)*c8 P e<=ag:=a0w a;split at h
    ·rename_i ow' g
     rw[o.int_inv,p.int_inv];exact wz l m q f.1 f.2 a.1 a.2.1 a.2.2 g h
    ·exact h.elim
   ·exact h.elim
  ·exact h.elim
 ·exact h.elim
def sw {α:Type}:(ps:List (Nat×α))->(i:Nat)->ps.map (·.1)=List.range' i ps.length->ps=((ps.map (·.2)).zipIdx i).map λx=>(x.2,x.1)
 |[],_,_=>rfl
 |(n,a)::r,i,h=>by
  simp only[a2g,a0h,a7s,a5d]at h;obtain⟨rfl,h⟩:=h;simp only[a2g,List.zipIdx_cons];rw[<-sw r (n+1) h]
def qe {n:Nat} {ps:List (Nat×SV)} {vps:List (Nat×Value)} (hh:bx F G ow w.heap) (Z:∀b,F b->b<w.heap.size) (h1:ps.map (·.1)=vps.map (·.1)) (h2:dq F G ow w.heap (ps.map (·.2)) (vps.map (·.2))) (h:(mm P t n ps ow d).can Q):DB P F G ow w Q (Instr.buildSlice t n vps.toArray):=by
 unfold mm at h;split at h
 ·exact h.elim
 rename_i e he;split at h
 ·exact h.elim
 rename_i k hk;split at h
 ·rename_i hc
  obtain⟨g,H,R⟩:=hc;obtain⟨D,A,I,S,i,z,T,hz,p,R0,_⟩:=fk R;split at h
  ·rename_i y hy
   split at h
   ·rename_i ow' hn
    have hu:=fz he;obtain⟨t1,l,B⟩:=qV Z _ (xs:=y.1) (ow':=y.2) hh h2 hy;have s:vps.length=n:=by
     have:=a1v List.length g;simp at this;have h3:=a1v List.length h1;simp at h3;omega
    have J:y.1.length=n:=by rw[l];simp[s]
    have U:vps=((vps.map (·.2)).zipIdx 0).map λx=>(x.2,x.1):=sw vps 0 (by rw[<-h1,g,s,a3x])
    have K:∀v∈vps.map (·.2),v.cells.size=k.n:=by
     intro v hv;obtain⟨j,L,rfl⟩:=a4b hv;have:=ct.length k (B j (by rw[l];exact L) L);simpa using this
    have R1:i.size=cR P e:=by rw[p,I]
    rw[<-I]at H;have M:∀N:Array Value,∃r,Instr.fill (λi=>some (i*k.n,k.n)) ((Array.range (n*k.n)).map (N[· % N.size]!)) vps=some r/\r.size=n*k.n/\bz (λx cs=>ct w.heap (cU F G y.2) k x cs) k.n y.1 r 0:=by
     intro N;obtain⟨r,g,a,V⟩:=Great.fill_dense A (vps.map (·.2)) 0 ((Array.range (n*k.n)).map (N[· % N.size]!)) K (by simp[s]);rw[<-U]at g;simp only[Array.size_map,Array.size_range]at a;refine⟨r,g,a,?_,λj L=> ?_⟩
     ·rw[J,a];omega
     ·have u:j<(vps.map (·.2)).length:=by rw[<-l];exact L
      have:=B j L u;have W:(j+1)*k.n<=n*k.n:=a0q _ (by omega);rw[a1a,a2w]at W;have e1:bT r (0+j*k.n) k.n=((vps.map (λx:Nat×Value=>x.2))[j]'u).cells.toList:=by
       apply a2e;intro q;have O:=K _ (a0n u);by_cases X:q<k.n
       ·rw[aN X,a1p,V]
        simp only[a7b,a4j,a1p,true_and,a4e,s];rw[ifPosQ];have e2:(j*k.n+q)/k.n=j:=by rw[a6e,Nat.mul_add_div A,Nat.div_eq_of_lt X];rfl
        have e3:(j*k.n+q) % k.n=q:=by rw[a6e,Nat.mul_add_mod,a7r X]
        rw[e2,e3,a8a,a0a u];simp
       ·rw[a1f (by rw[aW (by rw[a];omega)];omega),a1f (by simp only[a6a];rw[O];omega)]
      rw[e1];exact this
    have m:∃r,(Instr.buildSlice t n vps.toArray).run P w= .ok (.slice (some ⟨w.heap.size,0,none⟩) n n) (w.alloc (.cells r e))/\r.size=n*k.n/\bz (λx cs=>ct w.heap (cU F G y.2) k x cs) k.n y.1 r 0:=by
     by_cases Y:n*i.size=0
     ·obtain⟨r,g,a,o⟩:=M #[]
      refine⟨r,?_,a,o⟩;rw[<-p]at g;simp only[Y]at g;have C:∀f:Nat->Value,(Array.range 0).map f= #[]:=λf=>by simp
      rw[C]at g;simp only[Instr.buildSlice,Sem.run_bind,run_underlying hu,Result.andThen_ok,sizeOf,typeInfo,run_program,T,Sem.run_pure,Y,a1z];simp only[C,g];simp[newRow]
     ·obtain⟨r,g,a,o⟩:=M z.cells
      refine⟨r,?_,a,o⟩;rw[<-p]at g;have E:¬(16777216<n*i.size):=by rw[p];omega
      simp only[Instr.buildSlice,Sem.run_bind,run_underlying hu,Result.andThen_ok,sizeOf,typeInfo,run_program,T,Sem.run_pure];simp[Y,E,fR T hz,g,newRow]
    obtain⟨r,m,a,o⟩:=m;obtain⟨t2,s2⟩:=Ch t1.hrep Z D o hn e (c:=n) (by omega) (by rw[a];omega) (w1:=w) rfl rfl rfl rfl;rw[J]at s2;exact⟨_,_,_,_,_,h,m,t1.trans t2,s2⟩
   ·exact h.elim
  ·exact h.elim
 ·exact h.elim
def nw (n c:Nat) (h:c<n):Builtin.nextslicecap n c<=2*n:=by
 unfold Builtin.nextslicecap;split
 ·omega
 ·split
  ·omega
  ·have a:∀r c,256<=c->c<2*n->Builtin.growBy n r c<=2*n:=by
    intro r
    induction r with
    |zero=>intro c _ h;simp[Builtin.growBy];omega
    |succ r ih=>
     intro c e f;unfold Builtin.growBy;split
     ·omega
     ·rename_i b
      by_cases d:c+(c+768)/4<2*n
      ·exact ih _ (by omega) d
      ·omega
   exact a 4 c (by omega) (by omega)
def Ci {h:Array Obj} {ok:Nat->Prop}:(k:Kd)-> {x:k.T}-> {cs:List Value}->ct h ok k x cs->∀u∈cs,u.oneCell'=true
 | .int _,_,_,e=>by cases e;simp[Value.oneCell']
 | .bool,_,_,e=>by cases e;simp[Value.oneCell']
 | .str,_,_,e=>by cases e;simp[Value.oneCell']
 | .err,_,_,e=>by rcases e with⟨_,rfl⟩|⟨_,_,_,rfl⟩<;>simp[Value.oneCell']
 | .any,_,_,e=>by cases e;simp[Value.oneCell']
 | .sl true _,_,_,e=>e.elim
 | .sl false _,_,_,e=>by obtain⟨_,_,rfl,_⟩:=e;simp[Value.oneCell']
 | .nil,_,_,e=>by cases e;simp
 | .cons a b,_,_,e=>by
  obtain⟨c1,c2,rfl,c,d⟩:=e;intro u f;rcases a0k.1 f with h|h
  ·exact Ci a c u h
  ·exact Ci b d u h
 | .tree _,_,_,e=>by obtain⟨v,rfl,g⟩:=e;obtain⟨_,_,rfl⟩:=g.ptr;simp[Value.oneCell']
def sx {h:Array Obj} {ok:Nat->Prop} (g:0<k.n) {l:List k.T} {r:Array Value} {o:Nat} (b:bz (λx cs=>ct h ok k x cs) k.n l r o):∀u∈bT r o (l.length*k.n),u.oneCell'=true:=by
 intro u i;obtain⟨q,c,rfl⟩:=a4b i;rw[aW b.1]at c;have a:q/k.n<l.length:=Nat.div_lt_of_lt_mul (by rw[a6e];exact c);have p:q/k.n*k.n+k.n<=l.length*k.n:=by
  have:(q/k.n+1)*k.n<=l.length*k.n:=a0q _ a;rw[a1a,a2w]at this;exact this
 have j:q % k.n<k.n:=Nat.mod_lt _ g;have d:q/k.n*k.n+q % k.n=q:=by rw[a6e];exact Nat.div_add_mod q k.n
 have m:=b.2 (q/k.n) a;have e:(bT r (o+q/k.n*k.n) k.n)[q % k.n]?=(bT r o (l.length*k.n))[q]?:=by
  rw[aN j,aN c,a2n,d]
 have f:(bT r (o+q/k.n*k.n) k.n).length=k.n:=aW (by have:=b.1;omega);rw[a0a (by omega),a0a (by rw[aW b.1];exact c)]at e;rw[<-a1e e];exact Ci k m _ (a0n _)
def oc (A:bx F G ow w.heap) (B:0<k.n) {x:SV} {xv:Value} (m:Sv F G ow w.heap x xv) {y:List k.T} (h:qJ k x ow=some y) {tx:TypeId} (v:P.underlying tx=some (.slice e)):∃d,Src P k.n tx xv y.length d w/\bz (λx cs=>ct w.heap (cU F G ow) k x cs) k.n y d.toArray 0:=by
 have nil:∀(a:Option Addr) (c:Nat),Src P k.n tx (.slice a 0 c) 0 [] w:=by
  intro a c
  cases a with
  |none=>exact Src.ofNil w v c
  |some a=>exact Src.ofSlice w v a 0 c [] (by simp) (λj u p=>by simp at p) (by simp)
 have q:∀(b o c:Nat) (r:Array Value) (l:List k.T),am w.heap b=some r->bz (λx cs=>ct w.heap (cU F G ow) k x cs) k.n l r o->∃d,Src P k.n tx (.slice (some ⟨b,o,none⟩) l.length c) l.length d w/\bz (λx cs=>ct w.heap (cU F G ow) k x cs) k.n l d.toArray 0:=by
  intro b o c r l s f;have g:=aW f.1;refine⟨bT r o (l.length*k.n),Src.ofSlice w v _ _ _ _ g (λj u p=> ?_) (sx B f),f.congr (by simp[g]) ?_⟩
  ·rw[Addr.add_mid,bQ s,<-p,aN]
   rcases a3y j (l.length*k.n)with h|h
   ·exact h
   ·rw[a1f (by omega)]at p;cases p
  ·show((bT r o (l.length*k.n)).toArray.toList.drop 0).take (l.length*k.n)=_
   rw[a5a,a3i];simp[g]
 unfold qJ at h;split at h
 ·cases h
  cases m
  exact⟨[],nil _ _,⟨by simp,λi t=>by simp at t⟩⟩
 ·rename_i o C l
  split at h
  ·rename_i e
   subst e;have h:l=y:=a1e h;subst h;obtain⟨rfl,a,c,rfl,_,m⟩:=m.sl_inv;rcases m with rfl|⟨b,of,r,rfl,_,s,f⟩
   ·exact⟨[],nil _ _,⟨by simp,λi t=>by simp at t⟩⟩
   ·exact q b of c r l s f
  ·cases h
 ·split at h
  ·rename_i r s
   obtain⟨D,z⟩:=r;dsimp only at h;split at h
   ·rename_i e
    subst e;have h:z=y:=a1e h;subst h;obtain⟨_,_,_,_,_,_,_,a,c,rfl,_,m⟩:=jz A m s;rcases m with m|⟨b,o,rw_,_,rfl,hrow,f,_⟩
    ·dsimp only at m
     subst m;exact⟨[],nil _ _,⟨by simp,λi t=>by simp at t⟩⟩
    ·exact q b o c rw_ z hrow f
   ·cases h
  ·cases h
end
end Go.Pev
namespace Go.Pev
variable {r:Array Value} {d o b p m:Nat} {vs:List Value} {xv:Value} {t tx ty e:TypeId} {k:Kd} {Q:SV×OW->Prop}
section
variable {F:Nat->Prop} {G:Gh} {ow ow':OW} {w:World} {P:Program}
def qX (R:bx F G ow w.heap) {x:SV} (v:Sv F G ow w.heap x xv) {j:Nat} (y:jP x=some (d,j)) {r:Sigma λk:Kd=>List k.T} (q:k6 ow x=some r) (z:nN ow d j=true):r.1.good=true/\(∃ver l0,ak ow d j=some (some (.row r.1 ver l0)))/\∃a c,xv= .slice a r.2.length c/\r.2.length<=c/\((G d j 0=none/\a=none/\r.2=[]/\c=0)\/∃b o A f et,G d j 0=some (b,A)/\a=some ⟨b,o,none⟩/\w.heap[b]?=some (.cells f et (0,0))/\bz (λx cs=>ct w.heap (cU F G ow) r.1 x cs) r.1.n r.2 f o/\o+c*r.1.n<=f.size):=by
 obtain⟨k,ver,l0,J⟩:∃k ver l0,cj ow d j=some (.row k ver l0):=by
  unfold nN at z;split at z
  ·exact⟨_,_,_,by assumption⟩
  ·cases z
 have H:=aG J;obtain⟨_,m,O⟩:=R.obs d j _ H;have s:∀ {off:Nat} {len:Option Nat},cX w.heap G ow d j off len xv->off+len.getD l0.length<=l0.length/\∃a c,xv= .slice a (len.getD l0.length) c/\len.getD l0.length<=c/\((G d j 0=none/\a=none/\len.getD l0.length=0/\c=0)\/∃b o A f et,G d j 0=some (b,A)/\a=some ⟨b,o,none⟩/\w.heap[b]?=some (.cells f et (0,0))/\bz (λx cs=>ct w.heap (cU F G ow) k x cs) k.n (aM l0 off (len.getD l0.length)) f o/\o+c*k.n<=f.size):=by
  intro off len h;simp only[cX,H]at h;obtain⟨p,a,c,rfl,l,h⟩:=h;refine⟨p,a,c,rfl,l,?_⟩;rcases h with⟨t,B,S⟩|⟨b,o,A,f,P,U,C,K,V⟩
  ·exact .inl ⟨t,B,by omega,S⟩
  ·simp only[P]at O
   obtain⟨W,et,Q,L⟩:=O;have e:=aP Q;rw[C]at e;cases e
   refine .inr ⟨b,A,o,f,et,P,U,Q,?_,V⟩;by_cases M:0<c
   ·rw[K M];exact L.part p
   ·have D:len.getD l0.length=0:=by omega
    have t:aM l0 off (len.getD l0.length)=[]:=by simp[aM,D]
    rw[t];exact⟨by simp;omega,λi z=>by simp at z⟩
 unfold jP at y;split at y
 ·rename_i d' j' E g
  cases y
  have N:g=[]/\r=⟨k,l0⟩:=by
   unfold k6 nL at q
   cases g with
   |nil=>simp[J]at q;exact⟨rfl,q.symm⟩
   |cons _ _=>simp at q
  obtain⟨rfl,rfl⟩:=N
  cases v with
  |wh v=>
  obtain⟨_,a,c,I,l,h⟩:=s v;refine⟨m,⟨ver,l0,H⟩,a,c,I,l,?_⟩;have e:aM l0 0 l0.length=l0:=by simp[aM]
  simp only[a2q,e]at h;rcases h with⟨D,u,t,B⟩|h
  ·exact .inl ⟨D,u,a0s t,B⟩
  ·exact .inr h
 ·rename_i d' j' E g off len
  cases y
  have N:g=[]/\r=⟨k,aM l0 off len⟩:=by
   unfold k6 nL at q
   cases g with
   |nil=>simp[J]at q;exact⟨rfl,q.symm⟩
   |cons _ _=>simp at q
  obtain⟨rfl,rfl⟩:=N
  cases v with
  |os v=>
  obtain⟨p,a,c,I,l,h⟩:=s v;simp only[a2r]at p I l h;have e:(aM l0 off len).length=len:=by simp[aM];omega
  refine⟨m,⟨ver,l0,H⟩,a,c,by rw[e];exact I,by rw[e];exact l,?_⟩;rcases h with⟨D,u,t,B⟩|h
  ·exact .inl ⟨D,u,a0s (by rw[e,t]),B⟩
  ·exact .inr h
 ·cases y
def Oq (k:bx F G ow w.heap) (p:∀b,F b->b<w.heap.size) {j:Nat} (q:ak ow d j≠none) {o:Option OB} (l:o=none\/∃n,o=some (.lrow n)) (s:EC (ak ow d j) (some o)):Tr F G ow w G (bw ow d j o) w:=by
 have c:=λd' j'=>aU (o:=o) (d':=d') (j':=j') q
 have i:¬bB (some o):=by rcases l with rfl|⟨n,rfl⟩<;>exactλh=>h
 have a:∀ {d' j'},bB (ak (bw ow d j o) d' j')->bB (ak ow d' j'):=by
  intro d' j' f;rw[c]at f;split at f
  ·exact absurd f i
  ·exact f
 refine tQ k p (λ_ _ _=>rfl) (λd' j'=> ?_) (.refl _ _) (λb t=> ?_) (λb r _ u=>⟨r,u,rfl⟩) (λd' j' m g=> ?_) (λv x y z A B b C D E H=>k.apart v x y z A B b C D (a E) (a H)) bG
 ·rw[c]
  split
  ·rename_i e;rw[e.1,e.2];exact s
  ·exact .refl _
 ·obtain⟨d',j',I,m,f,J⟩:=aK.1 t
  exact .inl (aK.2 ⟨d',j',I,m,a f,J⟩)
 ·rw[c]at g
  split at g
  ·rcases l with rfl|⟨n,rfl⟩
   ·cases g
   ·cases g
    exact .inr λ_ _=>trivial
  ·exact .inl ⟨g,rfl,λ_ _ _ _ _=>rfl⟩
def DU (y:bx F G ow w.heap) (A:∀b,F b->b<w.heap.size) (B:k.good=true) (z:bX ow d [.row k 0 []]=some ow'):Tr F G ow w (G.new d (fZ none)) ow' w/\Sv F (G.new d (fZ none)) ow' w.heap (.wh d 0 0 []) (.slice none 0 0):=by
 obtain⟨C,q,s⟩:=fj z;have q:ow[d]?=some []:=by rcases q with h|h;cases h;exact h
 have a:∀d' j,ak ow' d' j=if d'=d then [OB.row k 0 []][j]?.map some else ak ow d' j:=λd' j=>by rw[s];simp
 have g:∀d' j,d'≠d->(G.new d (fZ none)) d' j=G d' j:=λd' j f=>by simp[Gh.new,f]
 have c:∀j i,(G.new d (fZ none)) d j i=none:=λj i=>by simp[Gh.new,fZ]
 have l:∀ {d' j' i b o},bB (ak ow' d' j')->(G.new d (fZ none)) d' j' i=some (b,o)->bB (ak ow d' j')/\G d' j' i=some (b,o):=by
  intro d' j' i b o p n;by_cases f:d'=d
  ·subst f;rw[c]at n;cases n
  ·rw[g _ _ f]at n;rw[a,a0d f]at p;exact⟨p,n⟩
 refine⟨tQ y A (λd' j m=> ?_) (λd' j=> ?_) (.refl _ _) (λb D=> ?_) (λb r _ E=>⟨r,E,rfl⟩) (λd' j o m=> ?_) (λH I J K L M b N O t u v x=> ?_) C,.wh ?_⟩
 ·refine a8w (g _ _ λe=> ?_) 0
  rw[e,cZ q]at m;exact m rfl
 ·by_cases f:d'=d
  ·subst f;rw[cZ q];trivial
  ·rw[a,a0d f];exact .refl _
 ·obtain⟨d',j',P,Q,p,n⟩:=aK.1 D
  obtain⟨p,n⟩:=l p n;exact .inl (aK.2 ⟨d',j',P,Q,p,n⟩)
 ·by_cases f:d'=d
  ·subst f
   right;intro _ _;rw[a,a0f rfl]at m
   cases j with
   |zero=>
    simp at m;subst m;refine⟨λi=>c 0 (i+1),B,?_⟩;rw[c]
   |succ j=>simp at m
  ·left
   rw[a,a0d f]at m;exact⟨m,g _ _ f,λ_ _ _ _ _=>rfl⟩
 ·obtain⟨t,v⟩:=l t v
  obtain⟨u,x⟩:=l u x;exact y.apart H I J K L M b N O t u v x
 ·simp only[cX,qc z,a2q]
  exact⟨by simp,_,_,rfl,a1m _,.inl ⟨c 0 0,rfl,rfl⟩⟩
def nF (r:Array Value) (o:Nat) (vs:List Value):Array Value:=(r.toList.take o++vs++r.toList.drop (o+vs.length)).toArray
def bR (h:o+vs.length<=r.size):(nF r o vs).size=r.size:=by
 simp[nF];omega
def iD (h:o+vs.length<=r.size) (i:Nat):(nF r o vs)[i]?=if o<=i/\i<o+vs.length then vs[i-o]? else r[i]?:=by
 simp only[nF,a7z];by_cases a:i<o
 ·rw[ifNegQ,a1u,a1l (by simp;omega),a5e a]
  simp
 ·by_cases b:i<o+vs.length
  ·rw[ifPosQ,a1l (by simp;omega),a0y (by simp;omega)]
   simp[Nat.min_eq_left (show o<=r.size by omega)]
  ·rw[ifNegQ,a0y (by simp;omega)]
   simp only[a0j,a1h,a2y,a6a,a5n]
   congr 1
   omega
def cV {b:Nat} {et:TypeId} {f:Nat×Nat}:(vs:List Value)->(o:Nat)->(w:World)-> {r:Array Value}->w.heap[b]?=some (.cells r et f)->o+vs.length<=r.size->(w.setCells b o vs).heap[b]?=some (.cells (nF r o vs) et f)
 |[],o,w,r,h,_=>by
  have:nF r o []=r:=by apply a4r;simp[nF]
  rw[this];exact h
 |v::vs,o,w,r,h,hs=>by
  simp only[a0h]at hs;have a:(w.setCell ⟨b,o,none⟩ v).heap[b]?=some (.cells (r.setIfInBounds o v) et f):=by
   simp[World.setCell,a4f,h]
  have:=cV vs (o+1) (w.setCell ⟨b,o,none⟩ v) a (by simp;omega);show((w.setCell ⟨b,o,none⟩ v).setCells b (o+1) vs).heap[b]?=_;rw[this]
  congr 2
  apply Array.ext_getElem?;intro i;rw[iD (by simp;omega),iD (by simp;omega)];by_cases a:o=i
  ·subst a
   rw[ifNegQ,a0f (by simp)];simp[show o<r.size by omega]
  ·by_cases c:o+1<=i/\i<o+1+vs.length
   ·rw[a0f c,a0f (by simp;omega)]
    have:i-o=(i-(o+1))+1:=by omega
    rw[this,a5f]
   ·rw[a0d c,a0d (by simp;omega)]
    simp[a]
def pH (b:Nat):(vs:List Value)->(o:Nat)->(w:World)->(w.setCells b o vs).heap.size=w.heap.size
 |[],_,_=>rfl
 |v::vs,o,w=>by
  show((w.setCell ⟨b,o,none⟩ v).setCells b (o+1) vs).heap.size=_;rw[pH b vs];simp
def pI (b:Nat):(vs:List Value)->(o:Nat)->(w:World)->(w.setCells b o vs).tape=w.tape
 |[],_,_=>rfl
 |v::vs,o,w=>by
  show((w.setCell ⟨b,o,none⟩ v).setCells b (o+1) vs).tape=_;rw[pI b vs];rfl
def zE {w:World} {a:Addr} {v:Value} {et:TypeId} {f:Nat×Nat} (h:w.heap[b]?=some (.cells r et f)):∃c,(w.setCell a v).heap[b]?=some (.cells c et f)/\c.size=r.size:=by
 by_cases d:a.block=b
 ·exact⟨_,by simp[World.setCell,a4f,d,h];rfl,by split<;>simp⟩
 ·exact⟨r,by simp[World.setCell,a4f,d,h],rfl⟩
def od (c:Nat) {b:Nat} {et:TypeId} {f:Nat×Nat}:(vs:List Value)->(o:Nat)->(w:World)-> {r:Array Value}->w.heap[b]?=some (.cells r et f)->∃d,(w.setCells c o vs).heap[b]?=some (.cells d et f)/\d.size=r.size
 |[],_,_,r,h=>⟨r,h,rfl⟩
 |v::vs,o,w,r,h=>by
  obtain⟨j,e,k⟩:=zE (a:=⟨c,o,none⟩) (v:=v) h;obtain⟨g,i,l⟩:=od c vs (o+1) _ e;exact⟨g,i,by omega⟩
def gS {I:Nat->Prop} (c:I b) (w:World) (o:Nat) (vs:List Value):fh I w (w.setCells b o vs):=⟨by rw[pH];exact a1m _,λf a d=>World.heap_setCells_other w b o vs a (λe=>d (e▸c)),λ_ _ _ _ h=>od b vs o w h,World.os_setCells w b o vs,World.output_setCells w b o vs,pI b vs o w⟩
def kw {i:Nat} (h:m<=i:=by omega):(bT r p m)[i]?=none:=a1f (by simp[bT];omega)
def ca (h:o+vs.length<=r.size) (b:p+m<=o:=by omega):bT (nF r o vs) p m=bT r p m:=by
 apply a2e;intro i;by_cases a:i<m
 ·rw[aN a,aN a,iD h,ifNegQ]
 ·rw[kw,kw]
def eH (h:o+vs.length<=r.size):bT (nF r o vs) o vs.length=vs:=by
 apply a2e;intro i;by_cases a:i<vs.length
 ·rw[aN a,iD h,ifPosQ]
  congr 1
  omega
 ·rw[a1f (by rw[aW (by rw[bR h];omega)];omega),a1f (by omega)]
def iE (h:o+vs.length<=r.size) (b:o+vs.length<=p:=by omega):bT (nF r o vs) p m=bT r p m:=by
 apply a2e;intro i;by_cases a:i<m
 ·rw[aN a,aN a,iD h,ifNegQ]
 ·rw[kw,kw]
def g9 {i:TypeInfo} (c:P.underlying t=some (.slice e)) (d:P.info? e=some i) (a:Option Addr) {x:Value} (b:Src P i.size tx x 0 [] w):(Builtin.append_ #[t,tx] ty #[.slice a 0 0,x]).run P w= .ok (.slice a 0 0) w:=by
 rcases b.kind with⟨f,hk⟩|hk<;>cases a<;>simp[Builtin.append_,run_underlying c,run_underlying hk,sizeOf,typeInfo,d,b.len,b.cells,storeCells]
def dP (z:Array Value) (n:Nat):(Builtin.zeroCells z n).size=n*z.size:=by simp[Builtin.zeroCells]
def tT (hh:bx F G ow w.heap) (hF:∀b,F b->b<w.heap.size) (he:lP P t=some e) (S:ko P e k=true) {a:Option Addr} {l0 y:List k.T} {c:Nat} {l:List Value} (X:Src P k.n tx xv y.length l w)
 (hy:bz (λx cs=>ct w.heap (cU F G ow) k x cs) k.n y l.toArray 0) (C:l0=[]\/∃b o r,a=some ⟨b,o,none⟩/\am w.heap b=some r/\bz (λx cs=>ct w.heap (cU F G ow) k x cs) k.n l0 r o)
 (q:c<l0.length+y.length) (K:(l0.length+y.length)*c8 P e<=ag) (hn:bX ow d [.row k 0 (l0++y)]=some ow') (hq:Q (.wh d 0 0 [],ow')):
 DB P F G ow w Q (Builtin.append_ #[t,tx] ty #[.slice a l0.length c,xv]):=by
 obtain⟨D,Y,_,s,i,z,U,hz,L,V,W⟩:=fk S;have E:=fz he;obtain⟨g,M,m⟩:∃g:List Value,(Builtin.firstCells i.size l0.length (.slice a l0.length c)).run P w.drew= .ok g.toArray w.drew/\g.length=l0.length*k.n/\bz (λx cs=>ct w.heap (cU F G ow) k x cs) k.n l0 g.toArray 0:=by
  rcases C with rfl|⟨b,o,r,rfl,hr,hel⟩
  ·refine⟨[],?_,by simp,⟨by simp,λi U=>by simp at U⟩⟩
   cases a with
   |none=>exact run_firstCells_none w.drew i.size 0 0 c
   |some a=>exact run_firstCells_some w.drew i.size 0 a 0 c [] (by simp) (λj u E=>by simp at E)
  ·have p:=aW hel.1
   refine⟨bT r o (l0.length*k.n),run_firstCells_some w.drew i.size l0.length _ _ _ _ (by rw[L];exact p) (λj u E=> ?_),p,hel.congr (by simp[p]) ?_⟩
   ·rw[Addr.add_mid]
    show w.cell? _=_;rw[bQ hr,<-E,aN];rcases a3y j (l0.length*k.n)with h|h
    ·exact h
    ·rw[a1f (by omega)]at E;cases E
   ·show((bT r o (l0.length*k.n)).toArray.toList.drop 0).take (l0.length*k.n)=_
    rw[a5a,a3i];simp[p]
 obtain⟨f,m⟩:=m;rw[V]at K s;unfold ag at K;have h3:l0.length+y.length<=(l0.length+y.length)*i.bytes:=a4m _ s;have N:=nw (l0.length+y.length) c q;have O:Builtin.nextslicecap (l0.length+y.length) c*i.bytes<=281474976710656:=by
  have:=a0q i.bytes N;rw[Nat.mul_assoc]at this;omega
 have v:=run_append_grow_src (P:=P) w t tx ty e i z E U hz a l0.length c g M xv y.length l (by rw[L];exact X) q (by omega) O;have R:=grownCap_ge w (l0.length+y.length) c e
 generalize R0:grownCap w (l0.length+y.length) c e=cc at v R
 have H:l.length=y.length*k.n:=by have:=X.newsLen;exact this
 have hE:bz (λx cs=>ct w.heap (cU F G ow) k x cs) k.n (l0++y) ((g++l).toArray++Builtin.zeroCells z.cells (cc-(l0.length+y.length))) 0:=by
  have I:∀A B:List Value,∀Z:Array Value,bT ((A++B).toArray++Z) 0 A.length=bT A.toArray 0 A.length:=by
   intro A B Z;simp[bT]
  have J:∀A B:List Value,∀Z:Array Value,bT ((A++B).toArray++Z) A.length B.length=bT B.toArray 0 B.length:=by
   intro A B Z;simp[bT]
  refine bz.append (m.congr ?_ ?_) (hy.congr ?_ ?_)
  ·simp only[a3e,a2v,a0j,f];omega
  ·rw[<-f];exact I _ _ _
  ·simp only[a3e,a2v,a0j,f,H];omega
  ·rw[<-H,a1p,<-f];exact J _ _ _
 obtain⟨t1,s1⟩:=Ch hh hF D hE hn e (c:=cc) (by simpa using R) (by
  simp only[a3e,a2v,a0j,dP,W,f,H];rw[<-a1a,<-a1a];exact a0q _ (by omega)) (w1:=w.drew) rfl rfl rfl rfl
 rw[a0j]at s1;exact⟨_,_,_,_,_,hq,v,t1,s1⟩
def DV (Y:bx F G ow w.heap) (hF:∀b,F b->b<w.heap.size) (he:lP P t=some e) (O:ko P e k=true) {l0 y:List k.T} {o' c A B:Nat} {et:TypeId} {ver:Nat} {l1:List k.T} {a:List Value} (l:Src P k.n tx xv y.length a w)
 (hy:bz (λx cs=>ct w.heap (cU F G ow) k x cs) k.n y a.toArray 0) (C:ak ow A B=some (some (.row k ver l1))) (hG:G A B 0=some (b,o')) (hb:w.heap[b]?=some (.cells r et (0,0))) (Z:bz (λx cs=>ct w.heap (cU F G ow) k x cs) k.n l0 r o)
 (m:l0.length+y.length<=c) (R0:o+c*k.n<=r.size) (hn:bX (bw ow A B (some (.lrow l1.length))) d [.row k 0 (l0++y)]=some ow') (hq:Q (.wh d 0 0 [],ow')):
 DB P F G ow w Q (Builtin.append_ #[t,tx] ty #[.slice (some ⟨b,o,none⟩) l0.length c,xv]):=by
 obtain⟨R,Sj,_,R5,i,z,p,hz,S,Sk,Sl⟩:=fk O;have hu:=fz he;have R6:a.length=y.length*k.n:=l.newsLen;have K:ci G ow b:=aK.2 ⟨A,B,0,o',by rw[C];trivial,hG⟩;have R1:(l0.length+y.length)*k.n<=c*k.n:=a0q _ m;rw[a1a]at R1;have f:o+l0.length*k.n+a.length<=r.size:=by omega
 have L:=run_append_room_src (P:=P) w t tx ty e i hu p b o l0.length c xv y.length a (by rw[S];exact l) m
  (λj hj=>by rw[S,bQ (aP hb)];simp;omega)
  (λj hj=>by unfold World.frozen?;rw[hb];simp)
 rw[S]at L;have U:=cV a (o+l0.length*k.n) w hb f;have hk:fh (ci G ow) w (w.setCells b (o+l0.length*k.n) a):=gS K w _ _;obtain⟨hl,V,R2⟩:=fj hn;have V:(bw ow A B (some (.lrow l1.length)))[d]?=some []:=by rcases V with h|h;cases h;exact h
 have R7:ak ow A B≠none:=by rw[C];simp
 have M:=λd' j'=>aU (o:=some (.lrow l1.length)) (d':=d') (j':=j') R7
 have q:∀j,ak ow d j=none:=by
  intro j;have X:=cZ V j;rw[M]at X;split at X
  ·cases X
  ·exact X
 have g:∀d' j,ak ow' d' j=if d'=d then [OB.row k 0 (l0++y)][j]?.map some else if d'=A/\j=B then some (some (.lrow l1.length))else ak ow d' j:=λd' j=>by rw[R2,M];simp
 have D:∀d' j,d'≠d->(G.new d (fZ (some (b,o)))) d' j=G d' j:=λd' j s=>by simp[Gh.new,s]
 have R3:∀ {j i u E},(G.new d (fZ (some (b,o)))) d j i=some (u,E)->i=0/\u=b:=λ {j i u E} h=>by
  simp only[Gh.new,a1z,fZ]at h;split at h
  ·rename_i e;cases h;exact⟨e,rfl⟩
  ·cases h
 have H:∀ {d' j' W u E},bB (ak ow' d' j')->(G.new d (fZ (some (b,o)))) d' j' W=some (u,E)->(d'=d/\j'=0/\W=0/\u=b)\/(d'≠d/\¬(d'=A/\j'=B)/\ak ow' d' j'=ak ow d' j'/\bB (ak ow d' j')/\G d' j' W=some (u,E)/\u≠b):=by
  intro d' j' W u E p I;by_cases s:d'=d
  ·subst s
   obtain⟨rfl,rfl⟩:=R3 I;refine .inl ⟨rfl,?_,rfl,rfl⟩;rw[g,a0f rfl]at p
   cases j' with
   |zero=>rfl
   |succ j=>simp[bB]at p
  ·right
   rw[D _ _ s]at I;have N:=g d' j';rw[a0d s]at N;by_cases J:d'=A/\j'=B
   ·rw[a0f J]at N;rw[N]at p;exact p.elim
   ·rw[a0d J]at N
    rw[N]at p;refine⟨s,J,N,p,I,λv=> ?_⟩;subst v;have:=Y.apart d' j' W A B 0 u E o' p (by rw[C];trivial) I hG;exact J ⟨this.1,this.2.1⟩
 have R4:(G.new d (fZ (some (b,o)))) d 0 0=some (b,o):=by simp[Gh.new,fZ]
 have R8:∀i,(G.new d (fZ (some (b,o)))) d 0 (i+1)=none:=by simp[Gh.new,fZ]
 refine⟨_,_,_,_,G.new d (fZ (some (b,o))),hq,L,tQ Y hF (λd' j l=> ?_) (λd' j=> ?_) hk (λu R9=> ?_) (λu r' ho hr=> ?_) (λd' j ob l=> ?_) (λd1 j1 i1 d2 j2 i2 b1 E o2 X J g1 g2=> ?_) (by rw[hl,bG]),.wh ?_⟩
 ·refine a8w (D _ _ λe=> ?_) 0
  rw[e,q]at l;exact l rfl
 ·by_cases s:d'=d
  ·subst s;rw[q];trivial
  ·rw[g,a0d s]
   split
   ·rename_i e;rw[e.1,e.2,C];exact rfl
   ·exact .refl _
 ·obtain⟨d',j',W,E,p,I⟩:=aK.1 R9
  rcases H p I with⟨_,_,_,rfl⟩|⟨_,_,_,Sa,Sb,_⟩
  ·exact .inl K
  ·exact .inl (aK.2 ⟨d',j',W,E,Sa,Sb⟩)
 ·by_cases v:u=b
  ·subst v
   rw[aP hb]at hr
   cases hr
   exact⟨_,aP U,bR f⟩
  ·refine⟨r',?_,rfl⟩
   unfold am;rw[World.heap_setCells_other w b _ _ (cB hr) v];exact hr
 ·by_cases s:d'=d
  ·subst s
   right;intro _ O;rw[g,a0f rfl]at l
   cases j with
   |zero=>
    simp only[a1r,a1w,a0l]at l;subst l;refine⟨R8,R,?_⟩;simp only[R4];refine⟨_,et,U,?_⟩;refine bz.mono (λx cs l=>ct.mono O _ l) (bz.append (Z.congr ?_ (ca f (a1m _))) (hy.congr ?_ ?_))
    ·rw[bR f];exact Z.1
    ·rw[bR f];omega
    ·rw[<-R6,eH f]
     simp[bT]
   |succ j=>simp at l
  ·rw[g,a0d s]at l
   split at l
   ·cases l
    rename_i J;right;intro _ _;trivial
   ·rename_i J
    left;refine⟨l,D _ _ s,λp i b1 cc I=> ?_⟩;have Sc:ci G ow b1:=aK.2 ⟨d',j,i,cc,by rw[l];exact p,I⟩;refine World.heap_setCells_other w b _ _ (ci.lt Y Sc) λv=> ?_
    subst v;have:=Y.apart d' j i A B 0 b1 cc o' (by rw[l];exact p) (by rw[C];trivial) I hG;exact J ⟨this.1,this.2.1⟩
 ·rcases H X g1 with⟨N,e2,Sd,e3⟩|⟨_,_,_,k1,Se,n1⟩<;>rcases H J g2 with⟨e4,e5,Sf,e6⟩|⟨_,_,_,k2,Sg,n2⟩
  ·exact⟨by rw[N,e4],by rw[e2,e5],by rw[Sd,Sf]⟩
  ·exact absurd e3 n2
  ·exact absurd e6 n1
  ·exact Y.apart d1 j1 i1 d2 j2 i2 b1 E o2 k1 k2 Se Sg
 ·have Si:ak ow' d 0=some (some (.row k 0 (l0++y))):=by rw[g,a0f rfl];rfl
  simp only[cX,Si,a2q,a0j];exact⟨by omega,_,_,rfl,m,.inr ⟨b,o,o,_,R4,rfl,aP U,λ_=>by simp,by rw[bR f];exact R0⟩⟩
def wA {s x:SV} {sv:Value} (C:bx F G ow w.heap) (O:∀b,F b->b<w.heap.size) (hs:Sv F G ow w.heap s sv) (D:Sv F G ow w.heap x xv) (Y:gj P tx=true) (h:(vZ P t s x ow d).can Q):DB P F G ow w Q (Builtin.append_ #[t,tx] ty #[sv,xv]):=by
 obtain⟨e',E⟩:=gR Y;unfold vZ at h;split at h
 ·exact h.elim
 rename_i e W;have Z:=fz W;split at h
 ·cases hs
  split at h
  ·cases D
   split at h
   ·rename_i H
    obtain⟨i,H⟩:=a7k.1 H;exact⟨_,_,_,_,G,h,g9 Z H none (Src.ofNil w E 0),.refl C,.nils⟩
   ·exact h.elim
  ·split at h
   ·rename_i k hk
    split at h
    ·rename_i y hy
     split at h
     ·rename_i m
      obtain⟨g,h⟩:=h;have g:=a0w g;split at h
      ·rename_i ow' I
       obtain⟨l,p,_,J,i,z,H,hz,K,R0,R1⟩:=fk m;obtain⟨q,f,A⟩:=oc (P:=P) C p D hy E
       cases y with
       |nil=>
        obtain⟨t1,s1⟩:=DU C O l I;have r:q=[]:=a0s (by have:=f.newsLen;simpa using this);subst r;exact⟨_,_,_,_,_,h,g9 Z H none (by rw[K];exact f),t1,s1⟩
       |cons a y'=>
        exact tT (l0:=[]) C O W m f A (.inl rfl) (by simp) (by simpa using g) I h
      ·exact h.elim
     ·exact h.elim
    ·exact h.elim
   ·exact h.elim
 ·split at h
  ·rename_i X j b R S
   split at h
   ·rename_i T
    split at h
    ·rename_i y hy
     split at h
     ·rename_i m
      obtain⟨g,h⟩:=h;have g:=a0w g;split at h
      ·rename_i ow' I
       obtain⟨l,p,_,J,i,z,H,hz,K,R0,R1⟩:=fk m;obtain⟨q,f,A⟩:=oc (P:=P) C p D hy E;obtain⟨_,⟨ver,l1,B⟩,a,c,rfl,R5,u⟩:=qX C hs R S T;have R2:Gi ow X j=bw ow X j (some (.lrow l1.length)):=by
        have:cj ow X j=some (.row b.1 ver l1):=by rw[lU,B];rfl
        unfold Gi;rw[this]
       rw[R2]at I;have n:=Oq C O (d:=X) (j:=j) (by rw[B];simp) (o:=some (.lrow l1.length)) (.inr ⟨_,rfl⟩) (by rw[B];exact rfl);by_cases L:b.2.length+y.length<=c
       ·rcases u with⟨_,rfl,M,R3⟩|⟨bb,o,o',U,et,hG,rfl,N,v,V⟩
        ·have R4:y=[]:=a0s (by omega)
         obtain⟨bk,bl⟩:=b;dsimp only at*;subst M R4 R3;obtain⟨t1,s1⟩:=DU n.hrep O l I;have r:q=[]:=a0s (by have:=f.newsLen;simpa using this);subst r;exact⟨_,_,_,_,_,h,g9 Z H none (by rw[K];exact f),n.trans t1,s1⟩
        ·exact DV C O W m f A B hG N v L V I h
       ·obtain⟨s',ow2,v',w2,G2,q1,q2,q3,q4⟩:=tT (P:=P) (tx:=tx) (ty:=ty) (a:=a) (c:=c) (l0:=b.2) n.hrep O W m f (A.mono λx cs D=>ct.mono (tR n) _ D) (by
         rcases u with⟨_,_,M,_⟩|⟨bb,o,o',U,et,hG,ha,N,v,_⟩
         ·exact .inl M
         ·exact .inr ⟨bb,o,U,ha,aP N,v.mono λx cs D=>ct.mono (tR n) _ D⟩) (by omega) g I h
        exact⟨s',ow2,v',w2,G2,q1,q2,n.trans q3,q4⟩
      ·exact h.elim
     ·exact h.elim
    ·exact h.elim
   ·exact h.elim
  ·exact h.elim
end
end Go.Pev
namespace Go.Pev
variable {t:TypeId}
section
variable {F:Nat->Prop} {G:Gh} {ow ow':OW} {w:World} {P:Program}
def qY (q:bx F G ow w.heap) (P:∀b,F b->b<w.heap.size) {d j:Nat} {A ob':OB} (k:ak ow d j=some (some A)) (B:bB (some (some A))) (Q:EC (some (some A)) (some (some ob'))) (R:bB (some (some ob')))
 {b C:Nat} (L:G d j 0=some (b,C)) {r:Array Value} {et:TypeId} (M:w.heap[b]?=some (.cells r et (0,0))) {p:Nat} {vs:List Value} (N:p+vs.length<=r.size)
 (D:(w.setCells b p vs).heap[b]?=some (.cells (nF r p vs) et (0,0))->(∀s v,Sv F G ow w.heap s v->Sv F G (bw ow d j (some ob')) (w.setCells b p vs).heap s v)->
  (∀g t,cU F G ow g->am w.heap g=some t->cU F G (bw ow d j (some ob')) g/\am (w.setCells b p vs).heap g=some t)->
  df (w.setCells b p vs).heap (cU F G (bw ow d j (some ob'))) G (bw ow d j (some ob')) d j ob'):
 Tr F G ow w G (bw ow d j (some ob')) (w.setCells b p vs):=by
 have E:ak ow d j≠none:=by rw[k];simp
 have i:=λd' j'=>aU (o:=some ob') (d':=d') (j':=j') E
 have l:ci G ow b:=aK.2 ⟨d,j,0,C,by rw[k];exact B,L⟩;have m:=cV vs p w M N;have a:∀ {d' j'},bB (ak (bw ow d j (some ob')) d' j')->bB (ak ow d' j'):=by
  intro d' j' h;rw[i]at h;split at h
  ·rename_i e;rw[e.1,e.2,k];exact B
  ·exact h
 refine tQ q P (λ_ _ _=>rfl) (λd' j'=> ?_) (gS l w _ _) (λg H=> ?_) (λg t I u=> ?_) (λd' j' o f=> ?_) (λS T x U V W y J X K Y Z g2=>q.apart S T x U V W y J X (a K) (a Y) Z g2) bG
 ·rw[i]
  split
  ·rename_i e;rw[e.1,e.2,k];exact Q
  ·exact .refl _
 ·obtain⟨d',j',i',J,K,z⟩:=aK.1 H
  exact .inl (aK.2 ⟨d',j',i',J,a K,z⟩)
 ·by_cases c:g=b
  ·subst c
   rw[aP M]at u
   cases u
   exact⟨_,aP m,bR N⟩
  ·refine⟨t,?_,rfl⟩
   unfold am;rw[World.heap_setCells_other w b _ _ (cB u) c];exact u
 ·rw[i]at f
  split at f
  ·rename_i e
   obtain⟨rfl,rfl⟩:=e;have f:ob'=o:=by simpa using f
   subst f;exact .inr (D m)
  ·rename_i e
   refine .inl ⟨f,rfl,λI x y O z=> ?_⟩;have n:ci G ow y:=aK.2 ⟨d',j',x,O,by rw[f];exact I,z⟩;refine World.heap_setCells_other w b _ _ (ci.lt q n) λc=> ?_
   subst c;have:=q.apart d' j' x d j 0 y O C (by rw[f];exact I) (by rw[k];exact B) z L;exact e ⟨this.1,this.2.1⟩
def oe {s:SV} {a:List SV} (h:fQ P t s=some a):∃i,P.info? t=some i:=by
 unfold fQ at h;split at h
 ·rename_i b
  unfold dO d5 at b
  cases hu:P.underlying t with
  |none=>rw[hu]at b;cases b
  |some d=>exact hZ hu
 ·split at h
  ·rename_i c
   simp only[a0e,a0v]at c
   cases hi:P.info? t with
   |none=>simp[cR,Program.cellsOf,hi]at c
   |some i=>exact⟨i,rfl⟩
  ·cases h
def f9 {i:TypeInfo} (d:P.info? t=some i) {b o:Nat} {r:Array Value} {et:TypeId} (e:w.heap[b]?=some (.cells r et (0,0))) {v:Value} {vs:List Value} (f:v.cells=vs.toArray) (g:∀u∈vs,u.oneCell'=true) (h:vs.length=cR P t) (l:o+vs.length<=r.size):(Instr.storeAt t (.pointer (some ⟨b,o,none⟩)) v).run P w= .ok () (w.setCells b o vs):=by
 have a:=run_storeCells_cells (P:=P) b o vs 0 w (λj k=>by rw[bQ (aP e)];simp;omega) (λj k=>by unfold World.frozen?;simp only;rw[e];simp) g;have c:vs.length=i.size:=by rw[h];simp[cR,Program.cellsOf,d]
 simp only[a4p]at a;simp[Instr.storeAt,Instr.sureAddr,storeVar,sizeOf,typeInfo,d,f,c,a]
def Mr {a:Kd} (h:a.isSt=false):a.n=1:=by cases a<;>simp_all[Kd.n,Kd.isSt]
def qZ {h:Array Obj} {ok:Nat->Prop} {a b:Kd} (f:a.isSt=false) {x:(Kd.cons a b).T} {cs:List Value} (e:ct h ok (.cons a b) x cs):∃v r,cs=v::r/\ct h ok a x.1 [v]/\ct h ok b x.2 r:=by
 obtain⟨c1,c2,rfl,c,g⟩:=e;have d:=ct.length a c;rw[Mr f]at d
 match c1,d,c with
 |[v],_,c=>exact⟨v,c2,rfl,c,g⟩
def tU {h:Array Obj} {ok:Nat->Prop}:(k:Kd)->k.leafy=true-> {x:k.T}-> {cs:List Value}->(d:Kd)-> {y:d.T}-> {vs:List Value}-> {r:k.T}->de k x d y=some r->ct h ok k x cs->ct h ok d y vs->d.leafy=true->ct h ok k r (vs++cs.drop vs.length)
 |k,hk,x,cs,.nil,y,vs,r,e,ex,ey,_=>by
  cases ey
  have:de k x .nil y=some x:=by unfold de;cases k<;>rfl
  rw[this]at e
  cases e
  simpa using ex
 | .cons a b,hk,x,cs,.cons a' b',y,vs,r,e,ex,ey,hk'=>by
  simp only[Kd.leafy,a0e,a2o]at hk hk';simp only[de]at e;split at e
  ·rename_i m
   subst m;split at e
   ·rename_i n f
    cases e
    obtain⟨v,g,rfl,_,i⟩:=qZ hk.1 ex;obtain⟨u,c,rfl,j,l⟩:=qZ hk'.1 ey;exact⟨[u],c++g.drop c.length,rfl,j,tU b hk.2 b' f i l hk'.2⟩
   ·cases e
  ·cases e
 | .nil,_,_,_,.cons _ _,_,_,_,e,_,_,_=>by simp[de]at e
 | .int _,hk,_,_,_,_,_,_,_,_,_,_=>by cases hk
 | .bool,hk,_,_,_,_,_,_,_,_,_,_=>by cases hk
 | .str,hk,_,_,_,_,_,_,_,_,_,_=>by cases hk
 | .err,hk,_,_,_,_,_,_,_,_,_,_=>by cases hk
 | .any,hk,_,_,_,_,_,_,_,_,_,_=>by cases hk
 | .sl _ _,hk,_,_,_,_,_,_,_,_,_,_=>by cases hk
 | .tree _,hk,_,_,_,_,_,_,_,_,_,_=>by cases hk
 | .cons _ _,_,_,_,.int _,_,_,_,e,_,_,_=>by simp[de]at e
 | .cons _ _,_,_,_,.bool,_,_,_,e,_,_,_=>by simp[de]at e
 | .cons _ _,_,_,_,.str,_,_,_,e,_,_,_=>by simp[de]at e
 | .cons _ _,_,_,_,.err,_,_,_,e,_,_,_=>by simp[de]at e
 | .cons _ _,_,_,_,.any,_,_,_,e,_,_,_=>by simp[de]at e
 | .cons _ _,_,_,_,.sl _ _,_,_,_,e,_,_,_=>by simp[de]at e
 | .cons _ _,_,_,_,.tree _,_,_,_,e,_,_,_=>by simp[de]at e
 | .nil,_,_,_,.int _,_,_,_,e,_,_,_=>by simp[de]at e
 | .nil,_,_,_,.bool,_,_,_,e,_,_,_=>by simp[de]at e
 | .nil,_,_,_,.str,_,_,_,e,_,_,_=>by simp[de]at e
 | .nil,_,_,_,.err,_,_,_,e,_,_,_=>by simp[de]at e
 | .nil,_,_,_,.any,_,_,_,e,_,_,_=>by simp[de]at e
 | .nil,_,_,_,.sl _ _,_,_,_,e,_,_,_=>by simp[de]at e
 | .nil,_,_,_,.tree _,_,_,_,e,_,_,_=>by simp[de]at e
def tV {h:Array Obj} {ok:Nat->Prop}:(k:Kd)->k.leafy=true-> {x:k.T}-> {cs:List Value}->(c:Nat)->(d:Kd)-> {y:d.T}-> {vs:List Value}-> {r:k.T}->mi k x c d y=some r->ct h ok k x cs->ct h ok d y vs->d.leafy=true->ct h ok k r (cs.take c++vs++cs.drop (c+vs.length))
 |k,hk,x,cs,0,d,y,vs,r,e,ex,ey,hk'=>by
  have:mi k x 0 d y=de k x d y:=by unfold mi;cases k<;>rfl
  rw[this]at e;simpa using tU k hk d e ex ey hk'
 | .cons a b,hk,x,cs,c+1,d,y,vs,r,e,ex,ey,hk'=>by
  simp only[Kd.leafy,a0e,a2o]at hk;simp only[mi]at e;split at e
  ·rename_i l f
   cases e
   obtain⟨v,j,rfl,g,i⟩:=qZ hk.1 ex;have:=tV b hk.2 c d f i ey hk';refine⟨[v],_,?_,g,this⟩;simp[show c+1+vs.length=(c+vs.length)+1 by omega]
  ·cases e
 | .nil,_,_,_,_+1,_,_,_,_,e,_,_,_=>by simp[mi]at e
 | .int _,hk,_,_,_+1,_,_,_,_,_,_,_,_=>by cases hk
 | .bool,hk,_,_,_+1,_,_,_,_,_,_,_,_=>by cases hk
 | .str,hk,_,_,_+1,_,_,_,_,_,_,_,_=>by cases hk
 | .err,hk,_,_,_+1,_,_,_,_,_,_,_,_=>by cases hk
 | .any,hk,_,_,_+1,_,_,_,_,_,_,_,_=>by cases hk
 | .sl _ _,hk,_,_,_+1,_,_,_,_,_,_,_,_=>by cases hk
 | .tree _,hk,_,_,_+1,_,_,_,_,_,_,_,_=>by cases hk
def Ms {h:Array Obj} {ok:Nat->Prop}:(k:Kd)-> {x:k.ch.T}-> {cs:List Value}->ct h ok k.ch x cs->ct h ok k (vT k x) cs
 | .int _,x,cs,e=>by obtain⟨c1,c2,rfl,a,b⟩:=e;cases b;simpa [vT]using a
 | .bool,x,cs,e=>by obtain⟨c1,c2,rfl,a,b⟩:=e;cases b;simpa [vT]using a
 | .str,x,cs,e=>by obtain⟨c1,c2,rfl,a,b⟩:=e;cases b;simpa [vT]using a
 | .err,x,cs,e=>by obtain⟨c1,c2,rfl,a,b⟩:=e;cases b;simpa [vT]using a
 | .any,x,cs,e=>by obtain⟨c1,c2,rfl,a,b⟩:=e;cases b;simpa [vT]using a
 | .sl _ _,x,cs,e=>by obtain⟨c1,c2,rfl,a,b⟩:=e;cases b;simpa [vT]using a
 | .nil,_,_,e=>e
 | .cons _ _,_,_,e=>e
 | .tree _,x,cs,e=>by obtain⟨c1,c2,rfl,a,b⟩:=e;cases b;simpa [vT]using a
def tW:(k:Kd)->k.leafy=true->(n:Nat)-> {r:Kd}->lO k n=some r->r.leafy=true
 |k,_,0,r,h=>by
  have:lO k 0=some .nil:=by cases k<;>rfl
  rw[this]at h;cases h;rfl
 | .cons a b,hk,n+1,r,h=>by
  simp only[Kd.leafy,a0e]at hk;simp only[lO]at h;split at h
  ·rename_i d c
   cases h
   simp only[Kd.leafy,a0e];exact⟨hk.1,tW b hk.2 n c⟩
  ·cases h
 | .nil,_,_+1,_,h=>by simp[lO]at h
 | .int _,_,_+1,_,h=>by simp[lO]at h
 | .bool,_,_+1,_,h=>by simp[lO]at h
 | .str,_,_+1,_,h=>by simp[lO]at h
 | .err,_,_+1,_,h=>by simp[lO]at h
 | .any,_,_+1,_,h=>by simp[lO]at h
 | .sl _ _,_,_+1,_,h=>by simp[lO]at h
 | .tree _,_,_+1,_,h=>by simp[lO]at h
def tX:(k:Kd)->k.leafy=true-> {x:k.T}->(c:Nat)-> {y:Sigma Kd.T}->jx k x c=some y->y.1.leafy=true
 |k,hk,x,0,y,hy=>by
  have:y=⟨k,x⟩:=by unfold jx at hy;cases k<;>simp_all
  subst this;exact hk
 | .cons a b,hk,x,c+1,y,hy=>by
  simp only[Kd.leafy,a0e]at hk;exact tX b hk.2 c (by simpa [jx]using hy)
 | .nil,_,_,_+1,_,hy=>by simp[jx]at hy
 | .int _,hk,_,_+1,_,_=>by cases hk
 | .bool,hk,_,_+1,_,_=>by cases hk
 | .str,hk,_,_+1,_,_=>by cases hk
 | .err,hk,_,_+1,_,_=>by cases hk
 | .any,hk,_,_+1,_,_=>by cases hk
 | .sl _ _,hk,_,_+1,_,_=>by cases hk
 | .tree _,hk,_,_+1,_,_=>by cases hk
def Iz:(k:Kd)->k.leafy=true-> {x:k.T}->(c:Nat)-> {y:Sigma Kd.T}->jx k x c=some y->c+y.1.n=k.n
 |k,hk,x,0,y,hy=>by
  have:y=⟨k,x⟩:=by unfold jx at hy;cases k<;>simp_all
  subst this;simp
 | .cons a b,hk,x,c+1,y,hy=>by
  simp only[Kd.leafy,a0e,a2o]at hk;have:=Iz b hk.2 c (x:=x.2) (y:=y) (by simpa [jx]using hy);simp only[Kd.n,Mr hk.1];omega
 | .nil,_,_,_+1,_,hy=>by simp[jx]at hy
 | .int _,hk,_,_+1,_,_=>by cases hk
 | .bool,hk,_,_+1,_,_=>by cases hk
 | .str,hk,_,_+1,_,_=>by cases hk
 | .err,hk,_,_+1,_,_=>by cases hk
 | .any,hk,_,_+1,_,_=>by cases hk
 | .sl _ _,hk,_,_+1,_,_=>by cases hk
 | .tree _,hk,_,_+1,_,_=>by cases hk
def zF {p s:SV} {pv sv:Value} (hh:bx F G ow w.heap) (hF:∀b,F b->b<w.heap.size) (Y:Sv F G ow w.heap p pv) (hs:Sv F G ow w.heap s sv) {Q:OW->Prop} (h:(BP P t p s ow).can Q):∃ow' w',Q ow'/\(Instr.storeAt t pv sv).run P w= .ok () w'/\Tr F G ow w G ow' w':=by
 unfold BP at h;split at h
 ·exact h.elim
 rename_i u L;obtain⟨i,hi⟩:=oe L;obtain⟨vs,Z,N,h1,hl⟩:=fH hs L;split at h
 ·rename_i d j c
  split at h
  ·rename_i a hg
   split at h
   ·rename_i R4 I
    have O:=aG hg;obtain⟨R,b,o,r,et,S,hb,Sc,hc⟩:=hh.obs d j _ O
    cases Y with
    |bp Y=>
    simp only[O]at Y;obtain⟨b',o',R0,rfl⟩:=Y;rw[S]at R0;cases R0
    unfold jy at I;split at I
    ·rename_i Sd
     cases I
     have B:u.length=vs.length:=N.1;have g:o+c+vs.length<=r.size:=by omega
     refine⟨_,_,h,f9 hi hb Z h1 hl g,qY (ob':= .box (a.take c++u++a.drop (c+u.length))) hh hF O trivial trivial trivial S hb g λT C _=> ?_⟩;refine⟨R,b,o,_,et,S,T,?_,λq hq hr=> ?_⟩
     ·rw[bR g]
      simp;omega
     ·have A:=iD g (o+q)
      rw[a1o hr]at A;simp only[a0j,a1h,a2p]at hq;by_cases h2:q<c
      ·rw[ifNegQ,a1o (by omega)]at A
       have e2:(a.take c++u++a.drop (c+u.length))[q]=a[q]'(by omega):=by
        simp only[a1u];rw[a1k (by simp;omega),a5c]
       rw[a1e A,e2];exact C _ _ (hc q (by omega) (by omega))
      ·by_cases h3:q<c+vs.length
       ·rw[ifPosQ,a0a (by omega)]at A
        have e2:(a.take c++u++a.drop (c+u.length))[q]=u[q-c]'(by omega):=by
         rw[a1k (by simp;omega),a1x (by simp;omega)]
         congr 1
         simp;omega
        have e3:o+q-(o+c)=q-c:=by omega
        simp only[e3]at A;rw[a1e A,e2];exact C _ _ (N.2 (q-c) (by omega) (by omega))
       ·rw[ifNegQ,a1o (by omega)]at A
        have e2:(a.take c++u++a.drop (c+u.length))[q]=a[q]'(by omega):=by
         rw[a1x (by simp;omega),a6m]
         congr 1
         simp;omega
        rw[a1e A,e2];exact C _ _ (hc q (by omega) (by omega))
    ·cases I
   ·exact h.elim
  ·exact h.elim
 ·rename_i d j Sb e c
  split at h
  ·rename_i k ver l hg
   split at h
   ·rename_i kt J
    split at h
    ·rename_i y hy
     split at h
     ·rename_i f D W R5
      split at h
      ·rename_i hk
       subst hk;obtain⟨x,hx,h⟩:=h;dsimp only at h;split at h
       ·rename_i x' R6
        obtain⟨t1,U⟩:=jq hF kt (x:=y.1) (ow':=y.2) hh N hy;have O:=aG R5;obtain⟨R,E,ho⟩:=t1.hrep.obs d j _ O;have v:=(a0e _ _▸E:f.noOwn=true/\f.ch.leafy=true).2;have K:=t1.sv _ _ Y
        cases K with
        |rp K=>
        simp only[O]at K;obtain⟨R1,b,o,S,rfl⟩:=K;simp only[S]at ho;obtain⟨r,et,hb,hE⟩:=ho;have hx:W[e]?=some x:=hx;obtain⟨_,rfl⟩:=a0r.1 hx;have H:kt.leafy=true/\c<=f.n:=by
         unfold Iq at J;split at J
         ·rename_i z X
          have:=Iz _ v c X;rw[Mn]at this;exact⟨tW z.1 (tX _ v c X) _ J,by omega⟩
         ·cases J
        obtain⟨H,Se⟩:=H;have R7:=Gq f (hE.2 e R1);have M:=tV f.ch v c kt R6 R7 U H;have B:=ct.length _ M;rw[Mn]at B;have R2:(e+1)*f.n<=W.length*f.n:=a0q _ R1;rw[a1a,a2w]at R2;have R8:=hE.1;have m:(bT r (o+e*f.n) f.n).length=f.n:=aW;have Sf:c+vs.length<=f.n:=by
         simp only[a0j,a1h,a2p,m]at B;omega
        have g:o+e*f.n+c+vs.length<=r.size:=by omega
        have R9:EC (some (some (.row f D W))) (some (some (.row f D (W.set e (vT f x'))))):=⟨rfl,by simp⟩;have ht:=qY (ob':= .row f D (W.set e (vT f x'))) t1.hrep hF O trivial R9 trivial S hb g (λT _ R3=>by
         refine⟨R,E,?_⟩;simp only[S];refine⟨_,et,T,?_,λq hq=> ?_⟩
         ·rw[bR g];simpa using R8
         ·simp only[a4s]at hq
          have Sa:(q+1)*f.n<=W.length*f.n:=a0q _ hq;rw[a1a,a2w]at Sa;by_cases V:e=q
          ·subst V
           rw[a3j];have A:bT (nF r (o+e*f.n+c) vs) (o+e*f.n) f.n=(bT r (o+e*f.n) f.n).take c++vs++(bT r (o+e*f.n) f.n).drop (c+vs.length):=by
            apply a2e;intro z;by_cases X:z<f.n
            ·rw[aN X,iD g]
             by_cases h2:z<c
             ·rw[ifNegQ,a1u,a1l (by simp[m];omega),a5e h2,aN X]
             ·by_cases h3:z<c+vs.length
              ·rw[ifPosQ,a1l (by simp[m];omega),a0y (by simp[m];omega)]
               congr 1
               simp[m];omega
              ·rw[ifNegQ,a0y (by simp[m];omega)]
               simp only[a0j,a1h,m,a2y];rw[show c+vs.length+(z-(min c f.n+vs.length))=z by omega,aN X]
            ·rw[kw,a1f]
             simp[m];omega
           rw[A];exact ct.mono R3 _ (Ms f M)
          ·rw[a3c V]
           have A:bT (nF r (o+e*f.n+c) vs) (o+q*f.n) f.n=bT r (o+q*f.n) f.n:=by
            rcases Nat.lt_or_gt_of_ne V with h2|h2
            ·have:(e+1)*f.n<=q*f.n:=a0q _ h2
             rw[a1a,a2w]at this;exact iE g
            ·have:(q+1)*f.n<=e*f.n:=a0q _ h2
             rw[a1a,a2w]at this;exact ca g
           rw[A];exact ct.mono R3 _ (hE.2 q hq))
        exact⟨_,_,h,f9 hi hb Z h1 hl g,t1.trans ht⟩
       ·exact h.elim
      ·exact h.elim
     ·exact h.elim
    ·exact h.elim
   ·exact h.elim
  ·exact h.elim
 ·exact h.elim
end
end Go.Pev
namespace Go.Pev
variable {a b:OW} {k:Kd} {s:SV}
def FP (F:Nat->Prop) (a:List Nat) (b:Nat):Prop:=F b\/b∈a
def gK (h:Array Obj) (ok:Nat->Prop):(s:Sh)->s.Out->List Value->List Nat->Prop
 | .pur _,_,vs,fp=>(∃v,vs=[v])/\fp=[]
 | .own _,_,vs,fp=>(∃v,vs=[v])/\fp=[]
 | .rows _,_,vs,fp=>(∃v,vs=[v])/\fp=[]
 | .row k,l,vs,fp=>∃v,vs=[v]/\sq h ok k l v fp
 | .nrw s,l,vs,fp=>ck h ok (.nrw s) l vs fp
 | .box l,x,vs,fp=>∃b o r et c,vs=[.pointer (some ⟨b,o,none⟩)]/\fp=b::c/\h[b]?=some (.cells r et (0,0))/\o+l.len<=r.size/\ck h ok l x (bT r o l.len) c
 | .agg l,x,vs,fp=>∃cs,vs=[.agg cs.toArray]/\gK h ok l x cs fp
 | .fn f n l,x,vs,fp=>∃xs ys,vs=[.func f xs.toArray ys.toArray]/\xs.length=n/\gK h ok l x (xs++ys) fp
 | .ign,_,vs,fp=>(∃v,vs=[v])/\fp=[]
 | .nl,_,vs,fp=>(∃v,vs=[v])/\fp=[]
 | .nil,_,vs,fp=>vs=[]/\fp=[]
 | .cons a b,x,vs,fp=>∃v r f1 f2,vs=v::r/\fp=f1++f2/\(a.noOuts=true/\f1=[]\/a.noOuts=false/\gK h ok a x.1 [v] f1)/\gK h ok b x.2 r f2
def gK.mono {h j:Array Obj} {ok ok':Nat->Prop} (d:∀b r,ok b->am h b=some r->ok' b/\am j b=some r):(s:Sh)-> {x:s.Out}-> {vs:List Value}-> {k:List Nat}->(∀b∈k,j[b]?=h[b]?)->gK h ok s x vs k->gK j ok' s x vs k
 | .pur _,_,_,_,_,e=>e
 | .own _,_,_,_,_,e=>e
 | .rows _,_,_,_,_,e=>e
 | .row _,_,_,_,hf,e=>by obtain⟨v,c,e⟩:=e;exact⟨v,c,e.mono d hf⟩
 | .nrw s,_,_,_,hf,e=>ck.mono d (.nrw s) hf e
 | .box l,_,_,_,hf,e=>by
  obtain⟨b,o,r,et,m,c,rfl,n,p,e⟩:=e;exact⟨b,o,r,et,m,c,rfl,by rw[hf b (by simp),n],p,ck.mono d l (λf g=>hf f (by simp[g])) e⟩
 | .agg l,_,_,_,hf,e=>by obtain⟨cs,c,e⟩:=e;exact⟨cs,c,gK.mono d l hf e⟩
 | .fn _ _ l,_,_,_,hf,e=>by obtain⟨xs,ys,c,q,e⟩:=e;exact⟨xs,ys,c,q,gK.mono d l hf e⟩
 | .ign,_,_,_,_,e=>e
 | .nl,_,_,_,_,e=>e
 | .nil,_,_,_,_,e=>e
 | .cons a b,_,_,_,hf,e=>by
  obtain⟨v,r,f1,f2,c,rfl,i,t⟩:=e;refine⟨v,r,f1,f2,c,rfl,?_,gK.mono d b (λf g=>hf f (by simp[g])) t⟩;rcases i with i|⟨h0,i⟩
  ·exact .inl i
  ·exact .inr ⟨h0,gK.mono d a (λf g=>hf f (by simp[g])) i⟩
def Ot (o n:Option (Option OB)):Prop:=n=o\/(bB o/\n=some none)\/LY o n
def Ot.trans {o n m:Option (Option OB)} (b:Ot o n) (a:Ot n m):Ot o m:=by
 rcases b with rfl|⟨h,rfl⟩|hz
 ·exact a
 ·rcases a with rfl|⟨h',_⟩|h'
  ·exact .inr (.inl ⟨h,rfl⟩)
  ·exact h'.elim
  ·exact h'.own.elim
 ·rcases a with rfl|⟨h',_⟩|h'
  ·exact .inr (.inr hz)
  ·exact absurd h' hz.not.1
  ·exact absurd h'.own hz.not.1
def Ot.own {o n:Option (Option OB)} (h:Ot o n) (a:bB n):n=o:=by
 rcases h with h|⟨_,rfl⟩|hz
 ·exact h
 ·exact a.elim
 ·exact absurd a hz.not.1
def Ot.ec {o n:Option (Option OB)} (h:Ot o n):EC o n:=by
 rcases h with rfl|⟨_,rfl⟩|hz
 ·exact .refl _
 ·exact .dead
 ·exact hz.ec
structure du (ow ow1:OW):Prop where
 len:ow1.length=ow.length
 names:∀d j,Ot (ak ow d j) (ak ow1 d j)
def du.refl (ow:OW):du ow ow:=⟨rfl,λ_ _=> .inl rfl⟩
def du.trans {a b c:OW} (e:du a b) (f:du b c):du a c:=⟨by rw[f.len,e.len],λd j=>(e.names d j).trans (f.names d j)⟩
def Gw (G:Gh) (ow ow1:OW) (b:Nat):Prop:=∃d j i o,bB (ak ow d j)/\G d j i=some (b,o)/\ak ow1 d j=some none
def jA (G:Gh) (ow ow1:OW) (a:List Nat):Prop:=∀b,b∈a↔Gw G ow ow1 b
def Gw.trans {G:Gh} {c:OW} (k:du a b) (l:du b c) (x:Nat):Gw G a c x↔Gw G a b x\/Gw G b c x:=by
 constructor
 ·rintro⟨d,j,i,o,g,h,f⟩
  rcases k.names d j with e|⟨_,e⟩|hz
  ·exact .inr ⟨d,j,i,o,by rw[e];exact g,h,f⟩
  ·exact .inl ⟨d,j,i,o,g,h,e⟩
  ·rcases l.names d j with e2|⟨h',_⟩|h'
   ·rw[f]at e2;exact absurd e2.symm hz.not.2.1
   ·exact absurd h' hz.not.1
   ·exact absurd h'.own hz.not.1
 ·rintro(⟨d,j,i,o,g,h,f⟩|⟨d,j,i,o,g,h,f⟩)
  ·refine⟨d,j,i,o,g,h,?_⟩
   rcases l.names d j with e2|⟨h',_⟩|h'
   ·rw[e2,f]
   ·rw[f]at h';exact h'.elim
   ·have:=h'.own;rw[f]at this;exact this.elim
  ·exact⟨d,j,i,o,by rw[<-(k.names d j).own g];exact g,h,f⟩
def jA.refl (G:Gh) (ow:OW):jA G ow ow []:=λb=>by
 constructor
 ·intro h;simp at h
 ·rintro⟨d,j,i,o,a,_,c⟩
  rw[c]at a;exact a.elim
section
variable {F:Nat->Prop} {G:Gh} {ow ow1 ow2:OW} {h:Array Obj} {fp:List Nat}
def du.own (c:du ow ow1) {b:Nat} (e:ci G ow1 b):ci G ow b:=by
 obtain⟨d,j,i,o,a,f⟩:=aK.1 e;exact aK.2 ⟨d,j,i,o,by rw[<-(c.names d j).own a];exact a,f⟩
def jA.own (a:jA G ow ow1 fp) {b:Nat} (c:b∈fp):ci G ow b:=by
 obtain⟨d,j,i,o,e,f,_⟩:=(a b).1 c;exact aK.2 ⟨d,j,i,o,e,f⟩
def jA.notOwn (f:bx F G ow h) (g:du ow ow1) (k:jA G ow ow1 fp) {b:Nat} (l:b∈fp):¬ci G ow1 b:=by
 intro m;obtain⟨d,j,i,o,n,p,q⟩:=(k b).1 l;obtain⟨d',j',r,s,a,c⟩:=aK.1 m;have e:=(g.names d' j').own a;obtain⟨rfl,rfl,_⟩:=f.apart d j i d' j' r b o s n (by rw[<-e];exact a) p c;rw[q]at a;exact a
def en (c:du ow ow1) (d:jA G ow ow1 fp) {b:Nat} (a:cU F G ow b):cU (FP F fp) G ow1 b:=⟨λhx=>by
 rcases hx with hx|hx
 ·exact a.1 hx
 ·exact a.2 (d.own hx),λe=>a.2 (c.own e)⟩
def cM (f:bx F G ow h) (g:du ow ow1) (y:jA G ow ow1 fp):bx (FP F fp) G ow1 h/\∀s v,Sv F G ow h s v->Sv (FP F fp) G ow1 h s v:=by
 have k:∀b r,cU F G ow b->am h b=some r->cU (FP F fp) G ow1 b/\am h b=some r:=λb r w n=>⟨en g y w,n⟩
 have B:∀d j,EC (ak ow d j) (ak ow1 d j):=λd j=>(g.names d j).ec
 refine⟨⟨λd j o p=> ?_,λd j i d' j' q b o t C D=> ?_,λb w hx=> ?_⟩,λs v e=>cn.mono (λ_ _ _=>rfl) B k (λb r n=>⟨r,n,rfl⟩) e⟩
 ·rcases g.names d j with e|⟨_,e⟩|hz
  ·have c:ak ow d j=some (some o):=by rw[<-e];exact p
   exact df.mono (λ_ _ _=>rfl) B k (λb r n=>⟨r,n,rfl⟩) rfl (λ_ _ _ _ _=>rfl) (f.obs d j o c)
  ·rw[p]at e;cases e
  ·have a:=hz.own
   have u:=hz.not.1;rw[p]at hz u
   generalize hx:ak ow d j=x at hz a
   match x,a,hz with
   |some (some ob),a,hz=>
    refine hz.rep rfl k (λi b o z=>⟨⟨λhx'=> ?_,λE=> ?_⟩,rfl⟩) (f.obs d j ob hx)
    ·have A:ci G ow b:=aK.2 ⟨d,j,i,o,by rw[hx];exact a,z⟩
     rcases hx' with hx'|hx'
     ·exact f.notF b A hx'
     ·obtain⟨d',j',q,t,m,l,c⟩:=(y b).1 hx'
      obtain⟨rfl,rfl,_⟩:=f.apart d' j' q d j i b t o m (by rw[hx];exact a) l z;rw[p]at c;cases c
    ·obtain⟨d',j',q,t,m,l⟩:=aK.1 E
     have e:=(g.names d' j').own m;obtain⟨rfl,rfl,_⟩:=f.apart d' j' q d j i b t o (by rw[<-e];exact m) (by rw[hx];exact a) l z;rw[p]at m;exact u m
 ·exact f.apart d j i d' j' q b o t (by rw[<-(g.names d j).own C];exact C) (by rw[<-(g.names d' j').own D];exact D)
 ·rcases hx with hx|hx
  ·exact f.notF b (g.own w) hx
  ·exact y.notOwn f g hx w
def sy {d j:Nat} (a:bB (ak ow d j)):du ow (bw ow d j none):=by
 have b:ak ow d j≠none:=by intro h;rw[h]at a;exact a
 refine⟨bG,λd' j'=> ?_⟩;rw[aU b];split
 ·rename_i e
  rw[e.1,e.2];exact .inr (.inl ⟨a,rfl⟩)
 ·exact .inl rfl
structure gL (ow ow1:OW):Prop where
 len:ow1.length=ow.length
 names:∀d j,ak ow1 d j=ak ow d j\/LY (ak ow d j) (ak ow1 d j)
def gL.refl (ow:OW):gL ow ow:=⟨rfl,λ_ _=> .inl rfl⟩
def gL.trans {c:OW} (g:gL a b) (f:gL b c):gL a c:=⟨by rw[f.len,g.len],λd j=>by
 rcases g.names d j with e|hz
 ·rcases f.names d j with e'|hz
  ·exact .inl (by rw[e',e])
  ·exact .inr (by rw[<-e];exact hz)
 ·rcases f.names d j with e'|hz'
  ·exact .inr (by rw[e'];exact hz)
  ·exact absurd hz'.own hz.not.1⟩
def gL.taken (h:gL a b):du a b:=⟨h.len,λd j=>by
 rcases h.names d j with e|e
 ·exact .inl e
 ·exact .inr (.inr e)⟩
def gL.fpOk (h:gL a b):jA G a b []:=λx=>by
 constructor
 ·intro h;simp at h
 ·rintro⟨d,j,i,o,c,_,f⟩
  rcases h.names d j with e|hz
  ·rw[<-e,f]at c;exact c.elim
  ·exact absurd f hz.not.2.1
def Jr (d j:Nat):gL ow (Az ow d j):=by
 unfold Az;split
 ·rename_i k ver l b
  have a:=aG b;refine⟨bG,λd' j'=> ?_⟩;rw[aU (by rw[a];simp)];split
  ·rename_i e
   rw[e.1,e.2,a];exact .inr (.inl ⟨k,ver,l,rfl,rfl⟩)
  ·exact .inl rfl
 ·exact .refl _
def Gx (d j:Nat):gL ow (Ge ow d j):=by
 rcases qd (ow:=ow) d j with e|⟨s,l,l',hn,hz,e⟩
 ·rw[e];exact .refl _
 ·rw[e]
  refine⟨bG,λd' j'=> ?_⟩;rw[aU (by rw[hn];simp)];split
  ·rename_i e
   rw[e.1,e.2,hn];exact .inr hz
  ·exact .inl rfl
def mA {x:k.T} (e:eS k s ow=some (x,ow1)):gL ow ow1:=by
 unfold eS at e;split at e
 ·split at e
  ·cases e;exact .refl _
  ·cases e
 ·split at e
  ·cases e;exact .refl _
  ·cases e
 ·split at e
  ·cases e;exact .refl _
  ·cases e
 ·split at e
  ·split at e
   ·split at e
    ·simp only[a0l,a0z]at e
     rw[<-e.2];exact Jr _ _
    ·cases e
   ·split at e
    ·split at e
     ·simp only[a0l,a0z]at e
      rw[<-e.2];exact Gx _ _
     ·cases e
    ·cases e
   ·cases e
  ·cases e
def lG:(k:Kd)-> {l:List SV}-> {ow ow1:OW}-> {x:k.T}->bI k l ow=some (x,ow1)->gL ow ow1
 | .cons a b,l,ow,ow1,x,e=>by
  cases l with
  |nil=>simp[bI]at e
  |cons s r=>
   simp only[bI]at e;split at e
   ·rename_i y c
    split at e
    ·rename_i z d
     cases e
     exact(mA (x:=y.1) (ow1:=y.2) c).trans (lG b (x:=z.1) (ow1:=z.2) d)
    ·cases e
   ·cases e
 | .nil,l,ow,ow1,x,e=>by
  cases l with
  |nil=>
   simp only[bI,a0l,a0z]at e;rw[<-e.2];exact .refl _
  |cons s r=>simp[bI]at e
 | .int _,_,_,_,_,e=>by simp[bI]at e
 | .bool,_,_,_,_,e=>by simp[bI]at e
 | .str,_,_,_,_,e=>by simp[bI]at e
 | .err,_,_,_,_,e=>by simp[bI]at e
 | .any,_,_,_,_,e=>by simp[bI]at e
 | .sl _ _,_,_,_,_,e=>by simp[bI]at e
 | .tree _,_,_,_,_,e=>by simp[bI]at e
def Cj {a:Kd} {d j c:Nat} {x:cg a.T} (h:r9 a d j c ow=some (x,ow1)):gL ow ow1:=by
 unfold r9 at h;split at h
 ·split at h
  ·rename_i y g
   split at h
   ·rename_i z i
    split at h
    ·rename_i k
     simp only[a0l,a0z]at h;obtain⟨_,rfl⟩:=h;obtain⟨f,b⟩:=mv k.2.2;refine((lG a (x:=y.1) (ow1:=y.2) g).trans (mA (x:=z.1) (ow1:=z.2) i)).trans ⟨bG,λd' j'=> ?_⟩;rw[aU (by rw[b];simp)];split
     ·rename_i e
      rw[e.1,e.2,b];exact .inr (.inr (.inr ⟨f,rfl,rfl⟩))
     ·exact .inl rfl
    ·cases h
   ·cases h
  ·cases h
 ·cases h
def tY {x:k.T} (e:tK k s ow=some (x,ow1)):gL ow ow1:=by
 unfold tK at e;split at e
 ·split at e
  ·exact lG k e
  ·cases e
 ·rcases lF e with e|⟨a,d,j,c,y,rfl,rfl,rfl,e⟩
  ·exact mA e
  ·exact Cj e
def DW {w:World} {v:Value} (b:Sv F G ow w.heap s v) {x:k.T} (e:eS k s ow=some (x,ow1)):k.isSt=false:=by
 unfold eS at e;split at e
 ·split at e
  ·rename_i a
   subst a
   cases b with
   |v a _=>exact a
  ·cases e
 ·split at e
  ·rfl
  ·cases e
 ·split at e
  ·rfl
  ·cases e
 ·split at e
  ·rfl
  ·cases e
def pJ {w:World} (g:∀b,F b->b<w.heap.size):(k:Kd)-> {ow ow1:OW}->bx F G ow w.heap-> {l:List SV}-> {vs:List Value}->dq F G ow w.heap l vs-> {x:k.T}->bI k l ow=some (x,ow1)->k.leafy=true
 | .cons a b,ow,ow1,hh,l,vs,hl,x,e=>by
  cases l with
  |nil=>simp[bI]at e
  |cons s r=>
   simp only[bI]at e;obtain⟨v,n,rfl,h,c⟩:=hl.uncons;split at e
   ·rename_i y j
    split at e
    ·rename_i z o
     obtain⟨m,_⟩:=jU (x:=y.1) (ow':=y.2) hh g h j;have d:=DW (x:=y.1) (ow1:=y.2) h j;have f:=pJ g b (x:=z.1) (ow1:=z.2) m.hrep ⟨c.1,λi d f=>m.sv _ _ (c.2 i d f)⟩ o;simp[Kd.leafy,d,f]
    ·cases e
   ·cases e
 | .nil,_,_,_,_,_,_,_,_=>rfl
 | .int _,_,_,_,_,_,_,_,e=>by simp[bI]at e
 | .bool,_,_,_,_,_,_,_,e=>by simp[bI]at e
 | .str,_,_,_,_,_,_,_,e=>by simp[bI]at e
 | .err,_,_,_,_,_,_,_,e=>by simp[bI]at e
 | .any,_,_,_,_,_,_,_,e=>by simp[bI]at e
 | .sl _ _,_,_,_,_,_,_,_,e=>by simp[bI]at e
 | .tree _,_,_,_,_,_,_,_,e=>by simp[bI]at e
def Js {w:World} (d:bx F G ow w.heap) (f:∀b,F b->b<w.heap.size) {v:Value} (g:Sv F G ow w.heap s v) {x:k.T} (e:tK k s ow=some (x,ow1)):nY w.heap (cU F G ow1) k x v:=by
 obtain⟨_,i,h⟩:=tS d f g e;refine⟨i,λa=> ?_,λa=>by simpa [a]using h⟩;refine⟨by simpa [a]using h,?_⟩;unfold tK at e;rw[a0f a]at e;split at e
 ·obtain⟨vs,_,c⟩:=g.agg_inv
  exact pJ f k d c e
 ·cases e
end
end Go.Pev
section
namespace Go.Pev
variable {d j off len:Nat} {s:Sh} {fps:List (List Nat)}
def o6:(l:List (List Nat))->(e:Nat)->(f:List Nat)->l[e]?=some []->(l.set e f).flatten.Perm (f++l.flatten)
 |[],e,f,h=>by simp at h
 |a::l,0,f,h=>by
  have:a=[]:=by simpa using h
  subst this;simp
 |a::l,e+1,f,h=>by
  have h:l[e]?=some []:=by simpa using h
  have:=o6 l e f h;simp only[a7d,a3f];exact(this.append_left a).trans (a6x a f l.flatten)
def wB (l:List (List Nat)) {e:Nat} (f:List Nat) (h:e<l.length):(l.set e f++[l[e]]).flatten.Perm (f++l.flatten):=by
 have b:=o6 (l.set e []) e f (by simp[h]);have a:=o6 (l.set e []) e l[e] (by simp[h]);rw[List.set_set]at b a;rw[a5o]at a;refine a3k.2 λx=> ?_
 have b:=a3k.1 b x;have a:=a3k.1 a x;simp only[a4t,a3f,a7t,a2b,a6n]at b a⊢;omega
def zG (l:List (List Nat)) (off len:Nat):List (List Nat):=aM l off len++(l.take off++l.drop (off+len))
def AJ (l:List (List Nat)) (off len:Nat):(zG l off len).flatten.Perm l.flatten:=by
 refine List.Perm.flatten ?_
 unfold zG aM;have e:l=l.take off++((l.drop off).take len++l.drop (off+len)):=by
  rw[<-a4o,a3u,a3u]
 conv=>rhs;rw[e]
 exact a6x _ _ _
def jB {α:Type} {l:List α} (h:off+len<=l.length:=by omega):(aM l off len).length=len:=by simp[aM];omega
def wC {α:Type} {l:List α} {i:Nat} (h:off+len<=l.length) (a:i<(aM l off len).length):(aM l off len)[i]=l[off+i]'(by rw[jB h]at a;omega):=by
 simp[aM]
def Mt {l:List (List Nat)} (h:off+len<=l.length):(zG l off len).length=l.length:=by
 simp[zG,aM];omega
def Mu {l:List (List Nat)} {i:Nat} (h:off+len<=l.length) (a:i<len):(zG l off len)[i]?=l[off+i]?:=by
 unfold zG;rw[a1l (by rw[jB h];exact a)];simp[aM,a]
section
variable {F:Nat->Prop} {G:Gh} {ow ow1 ow2:OW} {h:Array Obj}
def tZ {f:List SV->OW->Option (s.T×OW)} (e:gi s f ow d j=some ow1):
 (∃l,ak ow d j=some (some (.nrow s l none))/\ow1=ow)\/
 ∃l p x l2 a,ak ow d j=some (some (.nrow s l (some p)))/\f p.2 ow=some x/\ak x.2 d j=some (some (.nrow s l2 a))/\ow1=bw x.2 d j (some (.nrow s (l2.set p.1 x.1) none)):=by
 unfold gi at e;split at e
 ·rename_i m l h g
  split at e
  ·rename_i i
   subst i;split at e
   ·cases e
    exact .inl ⟨l,aG g,rfl⟩
   ·rename_i p
    split at e
    ·rename_i x k
     split at e
     ·rename_i n l2 a b
      split at e
      ·rename_i c
       subst c
       cases e
       exact .inr ⟨l,p,x,l2,a,aG g,k,aG b,rfl⟩
      ·cases e
     ·cases e
    ·cases e
  ·cases e
 ·cases e
def zH {v:SV} {a:List s.T} (e:nP s v ow=some (a,ow1)):∃d j l,ak ow d j=some (some (.nrow s l none))/\ow1=bw ow d j none/\jP v=some (d,j)/\((∃ver,v= .wh d j ver []/\a=l)\/∃ver off len,v= .os d j ver [] off len/\a=aM l off len):=by
 unfold nP at e;split at e
 ·rename_i d j ver
  split at e
  ·rename_i f l b
   split at e
   ·rename_i c
    subst c
    cases e
    exact⟨d,j,l,aG b,rfl,rfl,.inl ⟨ver,rfl,rfl⟩⟩
   ·cases e
  ·cases e
 ·rename_i d j ver off len
  split at e
  ·rename_i f l b
   split at e
   ·rename_i c
    subst c
    cases e
    exact⟨d,j,l,aG b,rfl,rfl,.inr ⟨ver,off,len,rfl,rfl⟩⟩
   ·cases e
  ·cases e
 ·cases e
def og (c:∀i,G d j (i+1)=(fps.flatten[i]?).map λb=>(b,0)) {b:Nat}:(∃i o,G d j i=some (b,o))↔(∃o,G d j 0=some (b,o))\/b∈fps.flatten:=by
 constructor
 ·rintro⟨i,o,a⟩
  cases i with
  |zero=>exact .inl ⟨o,a⟩
  |succ i=>
   rw[c]at a;simp only[a2j,a0z]at a;obtain⟨g,hb,rfl,_⟩:=a;exact .inr (a3n hb)
 ·rintro(⟨o,a⟩|hb)
  ·exact⟨0,o,a⟩
  ·obtain⟨i,f,e⟩:=a2h.1 hb
   exact⟨i+1,0,by rw[c,a0a f,e];rfl⟩
def iW (m:bx F G ow h) (a:bB (ak ow d j)) (c:∀i,G d j (i+1)=(fps.flatten[i]?).map λb=>(b,0)):fps.flatten.Nodup/\∀b o,G d j 0=some (b,o)->b∉fps.flatten:=by
 constructor
 ·refine a7i.2 λx y f g p q=> ?_
  have k:G d j (x+1)=some (fps.flatten[x],0):=by rw[c,a0a f];rfl
  have n:G d j (y+1)=some (fps.flatten[y],0):=by rw[c,a0a g];rfl
  rw[<-q]at n;obtain⟨_,_,e⟩:=m.apart d j _ d j _ _ _ _ a a k n;omega
 ·intro b o r s
  obtain⟨i,l,e⟩:=a2h.1 s;have k:G d j (i+1)=some (b,0):=by rw[c,a0a l,e];rfl
  obtain⟨_,_,e⟩:=m.apart d j _ d j _ _ _ _ a a r k
  cases e
def wD (B:bx F G ow h) (C:bB (ak ow d j)) {fps':List (List Nat)} {fp1:List Nat} (s:∀i,G d j (i+1)=(fps.flatten[i]?).map λb=>(b,0))
 (D:du ow ow1) (E:jA G ow ow1 fp1) (v:fp1.Nodup) (a:bB (ak ow1 d j)) (q:ow2.length=ow1.length) (m:∀d' j',ak ow2 d' j'=if d'=d/\j'=j then some none else ak ow1 d' j')
 (w:fps'.flatten.Perm (fp1++fps.flatten)) {b o:Nat} (t:G d j 0=some (b,o)):
 du ow ow2/\jA G ow ow2 (b::fps'.flatten)/\(b::fps'.flatten).Nodup/\∀x,cU (FP F fp1) G ow1 x->cU (FP F (b::fps'.flatten)) G ow2 x:=by
 have n:du ow1 ow2:=⟨q,λd' j'=>by
  rw[m];split
  ·rename_i e
   rw[e.1,e.2];exact .inr (.inl ⟨a,rfl⟩)
  ·exact .inl rfl⟩
 have r:∀x,x∈b::fps.flatten↔Gw G ow1 ow2 x:=by
  intro x;constructor
  ·intro hx
   have:∃i o,G d j i=some (x,o):=by
    rw[og s];rcases a1j.1 hx with rfl|hx
    ·exact .inl ⟨o,t⟩
    ·exact .inr hx
   obtain⟨i,u,p⟩:=this;exact⟨d,j,i,u,a,p,by rw[m];simp⟩
  ·rintro⟨d',j',H,u,f,p,c⟩
   rw[m]at c;split at c
   ·rename_i e
    rw[e.1,e.2]at p;rcases(og s).1 ⟨H,u,p⟩with⟨I,g⟩|hx
    ·rw[t]at g;cases g;simp
    ·exact a3a _ hx
   ·rw[c]at f;exact f.elim
 have k:∀x,x∈b::fps'.flatten↔x∈fp1\/x∈b::fps.flatten:=by
  intro x;simp only[a1j,w.mem_iff,a0k];constructor
  ·rintro(h|h|h)
   ·exact .inr (.inl h)
   ·exact .inl h
   ·exact .inr (.inr h)
  ·rintro(h|h|h)
   ·exact .inr (.inl h)
   ·exact .inl h
   ·exact .inr (.inr h)
 have J:jA G ow ow2 (b::fps'.flatten):=λx=>by
  rw[Gw.trans D n,<-E x,<-r x,k]
 obtain⟨K,n2⟩:=iW B C s;have l:∀x∈fp1,x∉b::fps.flatten:=by
  intro x hx z;obtain⟨d',j',H,u,f,p,c⟩:=(E x).1 hx;have:∃i o,G d j i=some (x,o):=by
   rw[og s];rcases a1j.1 z with rfl|hx
   ·exact .inl ⟨o,t⟩
   ·exact .inr hx
  obtain⟨M,I,g⟩:=this;obtain⟨rfl,rfl,_⟩:=B.apart _ _ _ _ _ _ _ _ _ f C p g;rw[c]at a;exact a
 refine⟨D.trans n,J,?_,λx hx=> ?_⟩
 ·refine a4u.2 ⟨λhx=> ?_,w.nodup_iff.2 (a2d.2 ⟨v,K,λx hx y L A=>l x hx (by rw[A];exact a3a _ L)⟩)⟩
  rcases a0k.1 (w.mem_iff.1 hx)with hx|hx
  ·exact l b hx (by simp)
  ·exact n2 b o t hx
 ·have:=en n r hx
  refine⟨λhx'=>this.1 ?_,this.2⟩;rcases hx' with hx'|hx'
  ·exact .inl (.inl hx')
  ·rcases(k x).1 hx' with hx'|hx'
   ·exact .inl (.inr hx')
   ·exact .inr hx'
end
section
variable {F:Nat->Prop} {G:Gh} {ow ow1:OW} {w:World}
def AK (hh:bx F G ow w.heap) {s0:SV} {v:Value} (Q:Sv F G ow w.heap s0 v) (hk:jP s0=some (d,j)) {B:OW} (e0:gi s (pk s) ow d j=some B) {x:List s.T} (e1:nP s s0 B=some (x,ow1))
 (ih:∀(R3:List SV) (vs:List Value),dq F G ow w.heap R3 vs->∀(x:s.T) (ow1:OW),pk s R3 ow=some (x,ow1)->∃N,du ow ow1/\jA G ow ow1 N/\N.Nodup/\ck w.heap (cU (FP F N) G ow1) s x vs N):
 ∃N,du ow ow1/\jA G ow ow1 N/\N.Nodup/\ck w.heap (cU (FP F N) G ow1) (.rows s) x [v] N:=by
 obtain⟨d',j',l1,I,R,R4,Si⟩:=zH e1;rw[hk]at R4
 cases R4
 have R5:∃(l:List s.T) (R6:Option (Nat×List SV)) (k:OW) (h:List Nat),ak ow d j=some (some (.nrow s l R6))/\l1.length=l.length/\du ow k/\jA G ow k h/\h.Nodup/\bB (ak k d j)/\B.length=k.length/\
  (∀d' j',ak B d' j'=if d'=d/\j'=j then some (some (.nrow s l1 none))else ak k d' j')/\s.elem=true/\
  ∃fps:List (List Nat),(∀i,G d j (i+1)=(fps.flatten[i]?).map λb=>(b,0))/\(match G d j 0 with
  |none=>l1=[]/\fps=[]/\h=[]
  |some (b,o)=>∃r et,w.heap[b]?=some (.cells r et (0,0))/\(∀H∈fps.flatten,∃r et,w.heap[H]?=some (Obj.cells r et (0,0)))/\(∀H∈h,∃r et,w.heap[H]?=some (Obj.cells r et (0,0)))/\o+l1.length*s.w<=r.size/\∃f:List (List Nat),l1.length<=f.length/\f.flatten.Perm (h++fps.flatten)/\∀i (S:i<l1.length) (hf:i<f.length),ck w.heap (cU (FP F h) G k) s l1[i] (bT r (o+i*s.w) s.w) f[i]):=by
  rcases tZ e0 with⟨l,C,rfl⟩|⟨l,p,y,l2,Sx,C,hy,J,rfl⟩
  ·rw[C]at I
   cases I
   obtain⟨z,fps,hG,t⟩:=hh.obs d j _ C;refine⟨l1,none,B,[],C,rfl,.refl _,.refl _ _,a2i,by rw[C];trivial,rfl,λd' j'=> ?_,z,fps,hG,?_⟩
   ·split
    ·rename_i e;rw[e.1,e.2,C]
    ·rfl
   ·cases hg:G d j 0 with
    |none=>simp only[hg]at t;exact⟨t.1,t.2.2,rfl⟩
    |some q=>
     obtain⟨b,o⟩:=q;simp only[hg]at t;obtain⟨r,et,hb,O,X,hj,z,_⟩:=t;refine⟨r,et,hb,hj,λH hb'=>by simp at hb',O,fps,X,by simp,λi S hf=> ?_⟩;exact ck.mono (λH r' hb' A=>⟨⟨λhx=>by rcases hx with hx|hx;exact hb'.1 hx;simp at hx,hb'.2⟩,A⟩) s (λ_ _=>rfl) (z i S hf (λm hc=>by cases hc))
  ·obtain⟨e,m⟩:=p
   obtain⟨z,fps,hG,t⟩:=hh.obs d j _ C
   cases hg:G d j 0 with
   |none=>simp only[hg]at t;cases t.2.1
   |some q=>
    obtain⟨b,o⟩:=q;simp only[hg]at t;obtain⟨r,et,hb,O,X,hj,K,R7⟩:=t;obtain⟨q1,q2,q4⟩:=R7 e m rfl;have Sy:e*s.w+s.w<=l.length*s.w:=by
     have:(e+1)*s.w<=l.length*s.w:=a0q _ q1;rw[a6s]at this;exact this
    have Sj:dq F G ow w.heap m (bT r (o+e*s.w) s.w):=by
     refine⟨by rw[aW,q2],λc h1 h2=> ?_⟩;have e1:(bT r (o+e*s.w) s.w)[c]=r[o+e*s.w+c]'(by omega):=by
      have:=aN (r:=r) (o:=o+e*s.w) (n:=s.w) (i:=c) (by omega);rw[a0a h2,a1o (by omega)]at this;exact a1e this
     rw[e1];exact q4 c h1 (by omega)
    obtain⟨h,Y,L,Z,hS⟩:=ih m _ Sj y.1 y.2 hy;have R8:ak y.2 d j=ak ow d j:=by
     rcases Y.names d j with e|⟨_,e⟩|hz
     ·exact e
     ·rw[J]at e;cases e
     ·have:=hz.not.1;rw[J]at this;exact absurd trivial this
    rw[C,J]at R8
    cases R8
    have Sk:ak y.2 d j≠none:=by rw[J];simp
    have D:=λd' j'=>aU (o:=some (.nrow s (l.set e y.1) none)) (d':=d') (j':=j') Sk
    have:ak (bw y.2 d j (some (.nrow s (l.set e y.1) none))) d j=some (some (.nrow s (l.set e y.1) none)):=by rw[D];simp
    rw[this]at I
    cases I
    refine⟨l,some (e,m),y.2,h,C,by simp,Y,L,Z,by rw[J];trivial,bG,D,z,fps,hG,?_⟩;simp only[hg];have Sl:e<fps.length:=by omega
    refine⟨r,et,hb,hj,hS.cells,by simpa using O,fps.set e h++[fps[e]],by simp at X⊢;omega,wB fps h Sl,λi S hf=> ?_⟩;have R9:i<(fps.set e h).length:=by simp at S⊢;omega
    rw[a1k R9];by_cases R0:i=e
    ·subst R0
     simp only[a3j];exact hS
    ·simp only[a3c (Ne.symm R0)]
     have P:i<l.length:=by simpa using S
     have Sm:i<fps.length:=by simpa using R9
     exact ck.mono (λH r' hb' A=>⟨en Y L hb',A⟩) s (λ_ _=>rfl) (K i P Sm (λSg hc=>by cases hc;exact R0 rfl))
 obtain⟨l,R6,k,h,C,Sn,Y,L,Z,U,R1,Sa,z,fps,hG,u⟩:=R5;have Sb:ak B d j≠none:=by rw[I];simp
 have V:ow1.length=k.length:=by rw[R,bG,R1]
 have D:∀d' j',ak ow1 d' j'=if d'=d/\j'=j then some none else ak k d' j':=by
  intro d' j';rw[R,aU Sb];split
  ·rfl
  ·rename_i hx
   rw[Sa,a0d hx]
 have Sc:∃off len,off+len<=l1.length/\x=aM l1 off len/\nZ w.heap G s.w d j off len v:=by
  rcases Si with⟨ver,rfl,rfl⟩|⟨ver,off,len,rfl,rfl⟩
  ·cases Q with
   |wh Q=>
    simp only[cX,C,a2q]at Q;exact⟨0,x.length,by omega,by simp[aM],by rw[Sn];exact Q.2⟩
  ·cases Q with
   |os Q=>
    simp only[cX,C,a2r]at Q;exact⟨off,len,by omega,rfl,Q.2⟩
 obtain⟨off,len,Sd,rfl,a,c,rfl,Se,hV⟩:=Sc;have E:(aM l1 off len).length=len:=jB Sd
 cases hg:G d j 0 with
 |none=>
  simp only[hg]at u;obtain⟨rfl,rfl,rfl⟩:=u;rcases hV with⟨_,rfl,rfl⟩|⟨b,o,o',r,g,_⟩
  ·have Sf:du k ow1:=⟨V,λd' j'=>by
    rw[D];split
    ·rename_i e
     rw[e.1,e.2];exact .inr (.inl ⟨U,rfl⟩)
    ·exact .inl rfl⟩
   have So:jA G k ow1 []:=λx=>by
    constructor
    ·intro hx;simp at hx
    ·rintro⟨d',j',i',o',P,g,R2⟩
     rw[D]at R2;split at R2
     ·rename_i e
      rw[e.1,e.2]at g
      cases i' with
      |zero=>rw[hg]at g;cases g
      |succ i'=>rw[hG]at g;simp at g
     ·rw[R2]at P;exact P.elim
   have Sp:len=0:=by simpa using Se
   subst Sp;refine⟨[],Y.trans Sf,λx=>by rw[Gw.trans Y Sf,<-L x,<-So x];simp,a2i,_,rfl,z,none,0,by rw[E],by rw[E];exact a1m _,.inl ⟨rfl,by simp[aM],rfl,rfl⟩⟩
  ·rw[hg]at g;cases g
 |some q=>
  obtain⟨b,o⟩:=q;simp only[hg]at u;obtain⟨r,et,hb,hj,Sq,O,f,Sz,M,K⟩:=u;have W:off+len<=f.length:=by omega
  obtain⟨t1,t2,t3,t4⟩:=wD (fps':=zG f off len) hh (by rw[C];trivial) hG Y L Z U V D ((AJ f off len).trans M) hg;rcases hV with⟨g,_⟩|⟨H,o1,o',r',g,ha,A,Sr,Ss⟩
  ·rw[hg]at g;cases g
  ·rw[hg]at g
   cases g
   have:r'=r:=by
    have:=aP hb;rw[this]at A;exact(a1e A).symm
   subst this;refine⟨b::(zG f off len).flatten,t1,t2,t3,_,rfl,z,a,c,by rw[E],by rw[E];exact Se,.inr ⟨b,o',r',et,zG f off len,ha,rfl,hb,Ss,by rw[E,Mt W];omega,λH hb'=> ?_,λi S hf=> ?_⟩⟩
   ·rcases a0k.1 (((AJ f off len).trans M).mem_iff.1 hb')with hb'|hb'
    ·exact Sq H hb'
    ·exact hj H hb'
   ·rw[E]at S
    have Su:0<c:=by omega
    have e1:=Sr Su;have Sw:(zG f off len)[i]=f[off+i]'(by omega):=by
     have:=Mu W S;rw[a0a hf,a0a (by omega)]at this;exact a1e this
    rw[Sw,wC Sd,e1,show o+off*s.w+i*s.w=o+(off+i)*s.w by rw[a1a];omega];exact ck.mono (λH r' hb' A=>⟨t4 H hb',A⟩) s (λ_ _=>rfl) (K (off+i) (by omega) (by omega))
def Jt {h:Array Obj} {ok:Nat->Prop} {l:List s.T} {v:Value} {u:List Nat} (e:ck h ok (.rows s) l [v] u) (d j:Nat):∃q:Option (Nat×Nat),∃w:List Nat,(q.map (·.1)).toList++w=u/\∀(G:Gh) (ow:OW),ak ow d j=some (some (.nrow s l none))->G d j 0=q->(∀i,G d j (i+1)=(w[i]?).map λb=>(b,0))->cn h ok G ow (.wh d j 0 []) v/\df h ok G ow d j (.nrow s l none):=by
 obtain⟨F,m,g,a,c,rfl,f,e⟩:=e;have m:v= .slice a l.length c:=by simpa using m
 subst m;rcases e with⟨rfl,rfl,rfl,rfl⟩|⟨b,o,r,et,fps,rfl,rfl,x,y,z,A,B⟩
 ·refine⟨none,[],rfl,λG ow n k p=>⟨.wh ?_,g,[],by simpa using p,by rw[k];exact⟨rfl,rfl,rfl⟩⟩⟩
  simp only[cX,n,a2q];exact⟨by simp,_,_,rfl,f,.inl ⟨k,rfl,rfl⟩⟩
 ·refine⟨some (b,o),fps.flatten,rfl,λG ow n k p=>⟨.wh ?_,g,fps,p,by rw[k];exact⟨r,et,x,a5m (Nat.add_le_add_left (a0q _ f) _) y,z,A,λi C D _=>B i C D,λe t E=>by cases E⟩⟩⟩
  simp only[cX,n,a2q];exact⟨by omega,_,_,rfl,f,.inr ⟨b,o,o,r,k,rfl,aP x,λ_=>by simp,y⟩⟩
