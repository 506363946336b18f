/-
  PEV, part 1: a symbolic evaluator of loaded Go code over typed payloads. Nothing is proved here.
-/
import GoSem.Dispatch
import Derived.Calls
import Derived.Laws.Sem
import Derived.Deep.MidRow
import Derived.Deep.AppendSrc
import Derived.Laws.Slices
import Derived.Laws.Strings
import Derived.Laws.Concat
import Derived.Laws.BytesArg
import Derived.Laws.StructEq
import Derived.Great.FillDense
import Derived.Deep.Upon
import Derived.Laws.MakeOwn
set_option linter.all false
namespace Go
def a0a:=@List.getElem?_eq_getElem
def a0b:=@decide_eq_true
def a0c:=@if_neg
def a0d:=@Option.bind_some
def a0e:=@if_pos
def a0f:=@Bool.and_eq_true
def a0g:=@Int.toNat_natCast
def a0h:=@List.getElem_mem
def a0i:=@decide_eq_false
def a0j:=@Bool.not_true
def a0k:=@Option.some.injEq
def a0l:=@List.mem_append
def a0m:=@List.length_append
def a0n:=@Bool.eq_false_or_eq_true
def a0o:=@List.length_cons
def a0p:=@Nat.mul_le_mul_right
def a0q:=@List.length_nil
def a0r:=@Bool.false_eq_true
def a0s:=@List.eq_nil_of_length_eq_zero
def a0t:=@List.getElem?_eq_some_iff
def a0u:=@decide_eq_true_eq
def a0v:=@Bool.not_false
def a0w:=@List.getElem?_append_right
def a0x:=@of_decide_eq_true
def a0y:=@Prod.mk.injEq
def a0z:=@cond_true
def a1a:=@List.drop_eq_getElem_cons
def a1b:=@Array.getElem?_eq_some_iff
def a1c:=@List.mem_singleton
def a1d:=@Nat.add_mul
def a1e:=@List.all_eq_true
def a1f:=@List.take_length
def a1g:=@List.getElem?_eq_none
def a1h:=@Option.some.inj
def a1i:=@Bool.true_and
def a1j:=@List.getElem_append_left
def a1k:=@List.getElem?_append_left
def a1l:=@Nat.le_refl
def a1m:=@List.length_take
def a1n:=@Array.getElem?_eq_getElem
def a1o:=@Nat.zero_add
def a1p:=@List.length_replicate
def a1q:=@cond_false
def a1r:=@List.append_assoc
def a1s:=@List.mem_cons
def a1t:=@List.getElem?_cons_zero
def a1u:=@List.foldl_cons
def a1v:=@congrArg
def a1w:=@Option.map_some
def a1x:=@bne_self_eq_false
def a1y:=@if_false
def a1z:=@List.getElem_append_right
def a2a:=@List.drop_of_length_le
def a2b:=@List.append_nil
def a2c:=@if_true
def a2d:=@List.nodup_append
def a2e:=@List.take_succ_eq_append_getElem
def a2f:=@List.mem_iff_getElem
def a2g:=@List.ext_getElem?
def a2h:=@List.mem_range
def a2i:=@List.map_cons
def a2j:=@List.nodup_nil
def a2k:=@Option.map_eq_some_iff
def a2l:=@Option.bind_eq_some_iff
def a2m:=@List.nil_append
def a2n:=@List.length_zipWith
def a2o:=@Nat.add_assoc
def a2p:=@Bool.not_eq_true'
def a2q:=@Option.getD_none
def a2r:=@Option.getD_some
def a2s:=@List.foldl_nil
def a2t:=@List.size_toArray
def a2u:=@List.length_drop
def a2v:=@List.getElem?_drop
def a2w:=@beq_iff_eq
def a2x:=@Nat.one_mul
def a2y:=@List.getElem?_set_ne
def a2z:=@List.mem_cons_of_mem
def a3a:=@List.length_map
def a3b:=@List.getElem_set_ne
def a3c:=@List.map_congr_left
def a3d:=@List.map_append
def a3e:=@Array.size_append
def a3f:=@List.flatten_cons
def a3g:=@List.foldl_append
def a3h:=@Int.toNat_zero
def a3i:=@List.mem_of_mem_take
def a3j:=@List.take_append_getElem
def a3k:=@List.getElem_set_self
def a3l:=@List.perm_iff_count
def a3m:=@List.any_eq_true
def a3n:=@Bool.false_and
def a3o:=@List.length_eq_zero_iff
def a3p:=@List.eq_nil_iff_forall_not_mem
def a3q:=@List.zipWith_cons_cons
def a3r:=@List.mem_or_eq_of_mem_set
def a3s:=@List.mem_flatMap
def a3t:=@List.take_append_drop
def a3u:=@List.concat_eq_append
def a3v:=@Bool.and_self
def a3w:=@List.mem_of_getElem?
def a3x:=@List.range_eq_range'
def a3y:=@Nat.lt_or_ge
def a3z:=@Bool.not_eq_true
def a4a:=@List.map_nil
def a4b:=@List.take_of_length_le
def a4c:=@List.getElem_of_mem
def a4d:=@Nat.add_zero
def a4e:=@Bool.or_eq_true
def a4f:=@Array.getElem?_modify
def a4g:=@Bool.eq_iff_iff
def a4h:=@List.eq_nil_or_concat
def a4i:=@List.getElem?_take
def a4j:=@List.eq_of_mem_replicate
def a4k:=@List.getElem_map
def a4l:=@List.pairwise_append
def a4m:=@Nat.le_mul_of_pos_right
def a4n:=@List.drop_drop
def a4o:=@List.mem_map
def a4p:=@Array.ext'
def a4q:=@Nat.zero_le
def a4r:=@List.flatten_append
def a4s:=@List.nodup_cons
def a4t:=@List.mem_filter
def a4u:=@List.getElem_replicate
def a4v:=@Array.getElem?_append_left
def a4w:=@List.singleton_append
def a4x:=@List.pairwise_cons
def a4y:=@List.drop_zero
def a4z:=@List.pairwise_iff_getElem
def a5a:=@Int.le_refl
def a5b:=@BEq.rfl
def a5c:=@Array.mem_toList_iff
def a5d:=@List.getElem_take
def a5e:=@List.cons.injEq
def a5f:=@List.getElem?_take_of_lt
def a5g:=@List.getElem?_cons_succ
def a5h:=@List.getElem?_replicate
def a5i:=@Bool.false_or
def a5j:=@List.reverse_append
def a5k:=@List.cons_append
def a5l:=@Array.mem_append
def a5m:=@Option.bind_none
def a5n:=@List.getElem?_set_self
def a5o:=@List.mem_cons_self
def a5p:=@Nat.le_trans
def a5q:=@Array.getElem?_toList
def a5r:=@List.length_filter_le
def a5s:=@List.all_append
def a5t:=@List.all_cons
def a5u:=@List.getElem?_map
def a5v:=@List.length_range
def a5w:=@List.dropLast_concat
def a5x:=@beq_self_eq_true
def a5y:=@List.filter_cons
def a5z:=@List.not_mem_nil
def a6a:=@Nat.mul_one
def a6b:=@Array.length_toList
def a6c:=@List.filter_eq_self
def a6d:=@List.flatMap_append
def a6e:=@List.zipWith_append
def a6f:=@Nat.mul_comm
def a6g:=@Int.natCast_mul
def a6h:=@List.filter_append
def a6i:=@List.set_cons_zero
def a6j:=@List.not_all_eq_any_not
def a6k:=@List.getElem_drop
def a6l:=@List.count_append
def a6m:=@List.flatMap_cons
def a6n:=@List.filter_congr
def a6o:=@List.reverse_cons
def a6p:=@List.take_left
def a6q:=@Nat.succ_mul
def a6r:=@List.perm_append_comm
def a6s:=@List.reverse_nil
def a6t:=@Array.toArray_toList
def a6u:=@Nat.lt_irrefl
def a6v:=@Nat.min_eq_left
def a6w:=@List.perm_append_comm_assoc
def a6x:=@dif_pos
def a6y:=@List.range_succ
def a6z:=@Int.fdiv_eq_ediv_of_nonneg
def a7a:=@Nat.zero_mul
def a7b:=@Nat.lt_of_lt_of_le
def a7c:=@List.set_cons_succ
def a7d:=@List.find?_eq_none
def a7e:=@Nat.sub_self
def a7f:=@Bool.true_or
def a7g:=@BitVec.toNat_ofInt
def a7h:=@Bool.not_not
def a7i:=@List.mapM_cons
def a7j:=@Array.mapM_eq_mapM_toList
def a7k:=@List.rel_of_pairwise_cons
def a7l:=@Option.isSome_iff_exists
def a7m:=@Function.comp_def
def a7n:=@List.Sublist.refl
def a7o:=@List.drop_sublist
def a7p:=@List.mem_range'_1
def a7q:=@List.any_eq_false
def a7r:=@Int.eq_ofNat_of_zero_le
def a7s:=@List.any_beq'
def a7t:=@decide_eq_false_iff_not
def a7u:=@Nat.mod_eq_of_lt
def a7v:=@List.range'_succ
def a7w:=@List.flatten_nil
def a7x:=@List.mem_toArray
def a7y:=@List.ext_getElem
def a7z:=@List.getElem_cons_zero
def a8a:=@List.getElem_cons_succ
def a8b:=@List.pairwise_lt_range
def a8c:=@List.getElem?_toArray
def a8d:=@Nat.sub_zero
def a8e:=@List.length_set
def a8f:=@List.set_getElem_self
def a8g:=@List.mem_iff_getElem?
def a8h:=@List.Perm.append_left
def a8i:=@Nat.max_eq_left
def a8j:=@List.set_append_right
def a8k:=@List.any_append
def a8l:=@BitVec.eq_of_toNat_eq
def a8m:=@List.length_singleton
def a8n:=@or_false
def a8o:=@List.drop_take
def a8p:=@Nat.mul_le_mul
def a8q:=@Int.mul_nonneg
def a8r:=@Bool.and_false
def a8s:=@List.drop_left
def a8t:=@Nat.min_def
def a8u:=@Bool.and_true
def a8v:=@Bool.or_false
def a8w:=@List.map_map
def a8x:=@Int.tdiv_one
def a8y:=@congrFun
end Go
noncomputable section
namespace Go.Pev
inductive ck (α:Type)where
 |node (a:α) (kids:List (ck α))
def ck.lab {α:Type}:ck α->α| .node a _=>a
def ck.kids {α:Type}:ck α->List (ck α)| .node _ l=>l
inductive Kd where
 |int (k:IntKind)|bool|str|err|any
 |sl (o:Bool) (e:Kd)
 |nil|cons (a b:Kd)
 |tree (a:Kd)
 deriving DecidableEq
@[reducible] def Kd.T:Kd->Type
 | .int _=>Int
 | .bool=>Bool
 | .str=>List UInt8
 | .err=>Bool
 | .any=>TypeId×(Int⊕List UInt8)
 | .sl _ e=>List e.T
 | .nil=>Unit
 | .cons a b=>a.T×b.T
 | .tree a=>ck a.T
def Kd.z:(k:Kd)->k.T
 | .int _=>(0:Int)
 | .bool=>false
 | .str=>([]:List UInt8)
 | .err=>false
 | .any=>(0,.inl 0)
 | .sl _ _=>[]
 | .nil=>()
 | .cons a b=>(a.z,b.z)
 | .tree a=> .node a.z []
def Kd.n:Kd->Nat
 | .nil=>0
 | .cons a b=>a.n+b.n
 |_=>1
def Kd.isSt:Kd->Bool
 | .nil| .cons _ _=>true
 |_=>false
def Kd.leafy:Kd->Bool
 | .nil=>true
 | .cons a b=> !a.isSt&& b.leafy
 |_=>false
def Kd.allOwn:Kd->Bool
 | .sl o e=>o&& e.allOwn
 | .cons a b=>a.allOwn&& b.allOwn
 | .tree _=>false
 |_=>true
def Kd.noOwn:Kd->Bool
 | .sl o e=> !o&& e.noOwn
 | .cons a b=>a.noOwn&& b.noOwn
 | .tree a=>a.noOwn
 |_=>true
def Kd.ch (k:Kd):Kd:=if k.isSt then k else .cons k .nil
def Kd.good (k:Kd):Bool:=k.noOwn&& k.ch.leafy
inductive Sh where
 |pur (kd:Kd)
 |own (k:Kd)
 |row (k:Kd)
 |rows (s:Sh)
 |nrw (s:Sh)
 |box (l:Sh)
 |agg (l:Sh)
 |fn (f:Fn) (n:Nat) (l:Sh)
 |ign|nl
 |nil|cons (a b:Sh)
 deriving DecidableEq
@[reducible] def Sh.T:Sh->Type
 | .pur kd=>kd.T
 | .own k=>List k.T
 | .row k=>List k.T
 | .rows s=>List s.T
 | .nrw s=>List s.T
 | .box l=>l.T
 | .agg l=>l.T
 | .fn _ _ l=>l.T
 | .ign=>Unit
 | .nl=>Unit
 | .nil=>Unit
 | .cons a b=>a.T×b.T
@[reducible] def Sh.Out:Sh->Type
 | .pur _=>Unit
 | .own _=>Unit
 | .row k=>List k.T
 | .rows _=>Unit
 | .nrw s=>List s.T
 | .box l=>l.T
 | .agg l=>l.Out
 | .fn _ _ l=>l.Out
 | .ign=>Unit
 | .nl=>Unit
 | .nil=>Unit
 | .cons a b=>a.Out×b.Out
def Sh.z:(s:Sh)->s.T
 | .pur kd=>kd.z
 | .own _=>[]
 | .row _=>[]
 | .rows _=>[]
 | .nrw _=>[]
 | .box l=>l.z
 | .agg l=>l.z
 | .fn _ _ l=>l.z
 | .ign=>()
 | .nl=>()
 | .nil=>()
 | .cons a b=>(a.z,b.z)
def Sh.zo:(s:Sh)->s.Out
 | .pur _=>()
 | .own _=>()
 | .row _=>[]
 | .rows _=>()
 | .nrw _=>[]
 | .box l=>l.z
 | .agg l=>l.zo
 | .fn _ _ l=>l.zo
 | .ign=>()
 | .nl=>()
 | .nil=>()
 | .cons a b=>(a.zo,b.zo)
def Sh.m:Sh->Nat
 | .own _| .row _| .rows _| .nrw _=>1
 | .box l=>l.m+1
 | .agg l=>l.m
 | .fn _ _ l=>l.m
 | .cons a b=>a.m+b.m
 |_=>0
def Sh.len:Sh->Nat
 | .cons _ b=>b.len+1
 |_=>0
def Sh.fresh:Sh->Bool
 | .pur kd=>kd.allOwn
 | .own k| .row k=>k.allOwn
 | .rows s=>s.fresh
 | .nrw s=>s.fresh
 | .box l| .agg l| .fn _ _ l=>l.fresh
 | .cons a b=>a.fresh&& b.fresh
 |_=>true
def Sh.freshOut:Sh->Bool
 | .row k=>k.allOwn
 | .nrw s=>s.fresh
 | .box l=>l.fresh
 | .agg l| .fn _ _ l=>l.freshOut
 | .cons a b=>a.freshOut&& b.freshOut
 |_=>true
def Sh.w:Sh->Nat
 | .cons _ b=>b.w+1
 | .nil=>0
 |_=>1
def Sh.one:Sh->Bool
 | .cons _ _| .nil=>false
 |_=>true
def Sh.chn:Sh->Bool
 | .nil=>true
 | .cons _ b=>b.chn
 |_=>false
def Sh.elem:Sh->Bool
 | .pur kd=>kd.noOwn&& !kd.isSt
 | .own k=>k.good
 | .rows s=>s.elem
 | .nil=>true
 | .cons a b=>(a.one&& b.chn)&& a.elem&& b.elem
 |_=>false
def Sh.kd:Sh->Kd
 | .pur k=>k
 | .own k=> .sl false k
 | .rows s=> .sl false s.kd
 | .cons a b=> .cons a.kd b.kd
 |_=> .nil
def Sh.kd_T:(s:Sh)->s.elem=true->s.kd.T=s.T
 | .pur _,_=>rfl
 | .own _,_=>rfl
 | .rows s,h=>by
  have:=Sh.kd_T s h;simp only[Sh.kd,Kd.T,Sh.T,this]
 | .nil,_=>rfl
 | .cons a b,h=>by
  simp only[Sh.elem,a0f]at h;have c:=Sh.kd_T a h.1.2;have d:=Sh.kd_T b h.2;simp only[Sh.kd,Kd.T,Sh.T,c,d]
 | .row _,h=>by simp[Sh.elem]at h
 | .nrw _,h=>by simp[Sh.elem]at h
 | .box _,h=>by simp[Sh.elem]at h
 | .agg _,h=>by simp[Sh.elem]at h
 | .fn _ _ _,h=>by simp[Sh.elem]at h
 | .ign,h=>by simp[Sh.elem]at h
 | .nl,h=>by simp[Sh.elem]at h
def LJ (s:Sh) (h:s.elem=true) (l:List s.T):List s.kd.T:=cast (a1v List (Sh.kd_T s h).symm) l
inductive SV where
 |v (k:Kd) (x:k.T)
 |lb (b:Bool)
 |dead
 |agg (l:List SV)
 |nils
 |wh (d j ver:Nat) (path:List (Nat×Nat))
 |os (d j ver:Nat) (path:List (Nat×Nat)) (off len:Nat)
 |bp (d j c:Nat)
 |rp (d j ver:Nat) (path:List (Nat×Nat)) (e c:Nat)
 |ip (k:Kd) (x:k.T)
 |fn (f:Fn) (first capt:List SV)
 |tup (l:List SV)
inductive OB where
 |box (cells:List SV)
 |row (k:Kd) (ver:Nat) (l:List k.T)
 |frow (k:Kd) (ver:Nat) (l:List k.T)
 |nrow (s:Sh) (l:List s.T) (foc:Option (Nat×List SV))
 |lrow (n:Nat)
abbrev OW:=List (List (Option OB))
structure St where
 sl:List SV
 ow:OW
inductive aX (β:Type):Type 1 where
 |ret (b:β)
 |fail
 |chk (c:Bool) (k:aX β)
 |bnd {γ:Type} (z:γ) (m:Option γ) (f:γ->aX β)
 |amb (c:Bool) (f g:aX β)
 |ite (c:Bool) (f g:aX β)
open Classical in
def mY {α:Type} (x y:Option α):Option α:=if x=y then x else none
@[simp] theorem vA {α:Type} (x:Option α):mY x x=x:=by simp[mY]
def Qh (n:Nat) (c:Bool):Bool:=Nat.rec c (λ_ _=>c) n
def Qi {α:Type} (n:Nat) (m:Option α):Option α:=Nat.rec m (λ_ _=>m) n
def br {α:Type} (n:Nat) (c:Bool) (x y:Option α):Option α:=cond (Qh n c) x y
def bd {α β:Type} (n:Nat) (m:Option β) (f:β->Option α):Option α:=(Qi n m).bind f
def jn {α β:Type} (n:Nat) (f:β->Option α) (y:β):Option α:=Nat.rec (f y) (λ_ _=>f y) n
def mZ {α β:Type} (n:Nat) (f:β->Option α) (y:β):jn n f y=f y:=by cases n<;>rfl
def eA {α:Type} (n:Nat) (c:Bool) (x y:Option α):br n c x y=cond c x y:=by cases n<;>rfl
def Dm {α β:Type} (n:Nat) (m:Option β) (f:β->Option α):bd n m f=m.bind f:=by cases n<;>rfl
def aX.run {α β:Type} (n:Nat):aX β->(β->Option α)->Option α
 | .ret b,k=>k b
 | .fail,_=>none
 | .chk c t,k=>br n c (t.run n k) none
 | .bnd _ m f,k=>bd n m λy=>(f y).run n k
 | .amb c f g,k=>br n c (mY (f.run n k) (g.run n k)) (g.run n k)
 | .ite c f g,k=>br n c (f.run n k) (g.run n k)
def aX.bind {β γ:Type}:aX β->(β->aX γ)->aX γ
 | .ret b,k=>k b
 | .fail,_=> .fail
 | .chk c t,k=> .chk c (t.bind k)
 | .bnd z m f,k=> .bnd z m λy=>(f y).bind k
 | .amb c f g,k=> .amb c (f.bind k) (g.bind k)
 | .ite c f g,k=> .ite c (f.bind k) (g.bind k)
def aX.ofOpt {β:Type}:Option β->aX β
 |some b=> .ret b
 |none=> .fail
def co (ow:OW) (d j:Nat):Option OB:=
 match ow[d]? with
 |some l=>(match l[j]? with|some o=>o|none=>none)
 |none=>none
def bw (ow:OW) (d j:Nat) (o:Option OB):OW:=
 match ow[d]? with
 |some l=>ow.set d (l.set j o)
 |none=>ow
def bV (ow:OW) (d:Nat) (l:List OB):Option OW:=
 match l with
 |[]=>some ow
 |_=>(match ow[d]? with
  |some []=>some (ow.set d (l.map some))
  |_=>none)
def O4:(k:Kd)->k.T->k.ch.T
 | .int _,x=>(x,())
 | .bool,x=>(x,())
 | .str,x=>(x,())
 | .err,x=>(x,())
 | .any,x=>(x,())
 | .sl _ _,x=>(x,())
 | .nil,x=>x
 | .cons _ _,x=>x
 | .tree _,x=>(x,())
def jr:(k:Kd)->k.T->Nat->Option (Sigma Kd.T)
 |k,x,0=>some ⟨k,x⟩
 | .cons _ b,x,c+1=>jr b x.2 c
 |_,_,_+1=>none
def da:(k:Kd)->k.T->(c:Kd)->c.T->Option k.T
 |k,x,.nil,_=>some x
 | .cons a b,x,.cons a' b',y=>if h:a'=a then(match da b x.2 b' y.2 with|some r=>some (h▸y.1,r)|none=>none)else none
 |_,_,_,_=>none
def l9:(k:Kd)->k.T->Nat->(a:Kd)->a.T->Option k.T
 |k,x,0,a,y=>da k x a y
 | .cons _ b,x,c+1,a,y=>(match l9 b x.2 c a y with|some r=>some (x.1,r)|none=>none)
 |_,_,_+1,_,_=>none
def vB:(k:Kd)->k.ch.T->k.T
 | .int _,x=>x.1
 | .bool,x=>x.1
 | .str,x=>x.1
 | .err,x=>x.1
 | .any,x=>x.1
 | .sl _ _,x=>x.1
 | .nil,x=>x
 | .cons _ _,x=>x
 | .tree _,x=>x.1
def lG:Kd->Nat->Option Kd
 |_,0=>some .nil
 | .cons a b,n+1=>(match lG b n with|some r=>some (.cons a r)|none=>none)
 |_,_+1=>none
def ma:(k:Kd)->k.T->List SV
 | .cons a b,x=> .v a x.1::ma b x.2
 |_,_=>[]
def O5 (k:Kd) (x:k.T):SV:=if k.isSt then .agg (ma k x)else .v k x
def aQ {α:Type} (l:List α) (off len:Nat):List α:=(l.drop off).take len
section
variable (P:Program)
def ee (t:TypeId):Option TypeDesc:=P.underlying t
def dU (t:TypeId):Bool:=match ee P t with|some (.struct _)|some (.array _ _)=>true|_=>false
def cP (t:TypeId):Nat:=P.cellsOf t
def c7 (t:TypeId):Nat:=P.bytesOf t
def Kd.app:Kd->Kd->Kd
 | .cons a b,c=> .cons a (b.app c)
 |_,c=>c
def ls:Nat->TypeId->Option Kd
 |0,_=>none
 |f+1,t=>
  match ee P t with
  |some (.int k)=>some (.int k)
  |some .bool=>some .bool
  |some .string=>some .str
  |some (.slice e)=>(match ls f e with|some k=>some (.sl false k)|none=>none)
  |some (.struct fs)=>fs.toList.foldr (λx a=>match ls f x.type,a with|some k,some r=>some (k.ch.app r)|_,_=>none) (some .nil)
  |some (.interface ms)=>if ms.size=0 then some .any else some .err
  |_=>none
def Kd.own:Kd->Kd
 | .sl _ e=> .sl true e.own
 | .cons a b=> .cons a.own b.own
 |k=>k
def O6 (t:TypeId):Option Kd:=
 match ee P t with
 |some (.pointer s)=>
  (match ee P s with
  |some (.struct fs)=>
   (match fs.toList.getLast? with
   |some f=>(match ee P f.type with
    |some (.slice e)=>if e=t then(match fs.toList.dropLast.foldr (λx b=>match ls P 8 x.type,b with|some k,some r=>some (k.ch.app r)|_,_=>none) (some .nil)with|some a=>if a.leafy then some (.tree a)else none|none=>none)else none
    |_=>none)
   |none=>none)
  |_=>none)
 |_=>none
def O7 (t:TypeId):Option Kd:=match ls P 16 t with|some k=>some k|none=>O6 P t
def lH (t:TypeId):Option TypeId:=match ee P t with|some (.slice e)=>some e|_=>none
def pJ (t:TypeId) (j:Nat):Option Field:=match ee P t with|some (.struct fs)=>fs[j]?|_=>none
end
def nu:Nat->Value->SV
 |_,.bool b=> .lb b
 |_,.int k n=> .v (.int k) n
 |_,.string s=> .v .str s.data.toList
 |_,.slice none 0 0=> .nils
 |_,.nilIface=> .v .err false
 |f+1,.agg cs=> .agg (cs.toList.map (nu f))
 |f+1,.func g a b=> .fn g (a.toList.map (nu f)) (b.toList.map (nu f))
 |_,_=> .dead
def vC {a b:Kd} (h:a=b) (l:List a.T):List b.T:=h▸l
def Ao {a b:Sh} (h:a=b) (l:List a.T):List b.T:=h▸l
def LK {a b:Kd} (h:a=b) (x:a.T):b.T:=h▸x
def nw (ow:OW) (d j:Nat) (a:List (Nat×Nat)):Option (Sigma λk:Kd=>List k.T):=
 match a,co ow d j with
 |[],some (.row k _ l)=>some ⟨k,l⟩
 |[],some (.frow k _ l)=>some ⟨k,l⟩
 |_,_=>none
def zf (ow:OW) (d j:Nat) (a:List (Nat×Nat)):Option (Nat×Nat):=
 match a,co ow d j with
 |[],some (.row k _ l)=>some (k.n,l.length)
 |[],some (.frow k _ l)=>some (k.n,l.length)
 |[],some (.nrow s l _)=>some (s.w,l.length)
 |_,_=>none
def ny (ow:OW) (d j:Nat) (a:List (Nat×Nat)):Option (Sigma λs:Sh=>List s.T):=
 match a,co ow d j with
 |[],some (.nrow s l none)=>some ⟨s,l⟩
 |_,_=>none
def vD:(s:Sh)->s.T->List SV
 | .pur kd,x=>[.v kd x]
 | .nil,_=>[]
 | .cons a b,x=>vD a x.1++vD b x.2
 |_,_=>[.dead]
def kY (ow:OW):SV->Option (Sigma λk:Kd=>List k.T)
 | .wh d j _ path=>nw ow d j path
 | .os d j _ path off len=>(match nw ow d j path with|some r=>some ⟨r.1,aQ r.2 off len⟩|none=>none)
 |_=>none
def jH:SV->Option (Nat×Nat)
 | .wh d j _ _=>some (d,j)
 | .os d j _ _ _ _=>some (d,j)
 |_=>none
def nz (ow:OW) (d j:Nat):Bool:=match co ow d j with|some (.row _ _ _)=>true|_=>false
def Ap (ow:OW) (d j:Nat):OW:=
 match co ow d j with
 |some (.row k ver l)=>bw ow d j (some (.frow k ver l))
 |_=>ow
def FR (ow:OW) (d j:Nat):OW:=
 match ny ow d j []with
 |some r=>if hs:r.1.elem=true then bw ow d j (some (.frow r.1.kd 0 (LJ r.1 hs r.2)))else ow
 |none=>ow
def Kd.nodeK (a:Kd):Kd:=a.app (.cons (.sl false (.tree a)) .nil)
def O8:(a:Kd)->a.T->(b:Kd)->b.T->(a.app b).T
 | .cons _ r,x,b,y=>(x.1,O8 r x.2 b y)
 | .int _,_,_,y=>y
 | .bool,_,_,y=>y
 | .str,_,_,y=>y
 | .err,_,_,y=>y
 | .any,_,_,y=>y
 | .sl _ _,_,_,y=>y
 | .nil,_,_,y=>y
 | .tree _,_,_,y=>y
def FS (a:Kd) (x:ck a.T):a.nodeK.T:=O8 a x.lab (.cons (.sl false (.tree a)) .nil) (x.kids,())
def eT (k:Kd) (s:SV) (ow:OW):Option (k.T×OW):=
 match s with
 | .v k' x=>if h:k'=k then some (LK h x,ow)else none
 | .lb b=>(match k with| .bool=>some (b,ow)|_=>none)
 | .nils=>(match k with| .sl false _=>some ([],ow)|_=>none)
 |s=>(match k with
  | .sl false e=>
   (match jH s,kY ow s with
   |some (d,j),some r=>if h:r.1=e then some (vC h r.2,Ap ow d j)else none
   |some (d,j),none=>(match kY (FR ow d j) s with|some r=>if h:r.1=e then some (vC h r.2,FR ow d j)else none|none=>none)
   |_,_=>none)
  |_=>none)
def bF:(k:Kd)->List SV->OW->Option (k.T×OW)
 | .cons a b,s::r,ow=>
  (match eT a s ow with
  |some x=>(match bF b r x.2 with|some y=>some ((x.1,y.1),y.2)|none=>none)
  |none=>none)
 | .nil,[],ow=>some ((),ow)
 |_,_,_=>none
def iR (ow:OW) (d j:Nat):Bool:=match co ow d j with|some (.box _)=>true|_=>false
def rE (a:Kd) (d j c:Nat) (ow:OW):Option (ck a.T×OW):=
 match co ow d j with
 |some (.box cells)=>
  (match bF a (cells.take a.n) ow with
  |some x=>
   (match eT (.sl false (.tree a)) (cells.getD a.n .dead) x.2 with
   |some y=>if c=0/\cells.length=a.n+1/\iR y.2 d j then some (.node x.1 y.1,bw y.2 d j (some (.lrow 0)))else none
   |none=>none)
  |none=>none)
 |_=>none
def ve:(k:Kd)->SV->OW->Option (k.T×OW)
 | .tree a,.bp d j c,ow=>rE a d j c ow
 | .tree a,s,ow=>eT (.tree a) s ow
 | .int k,s,ow=>eT (.int k) s ow
 | .bool,s,ow=>eT .bool s ow
 | .str,s,ow=>eT .str s ow
 | .err,s,ow=>eT .err s ow
 | .any,s,ow=>eT .any s ow
 | .sl o e,s,ow=>eT (.sl o e) s ow
 | .nil,s,ow=>eT .nil s ow
 | .cons a b,s,ow=>eT (.cons a b) s ow
def s8 (k:Kd) (s:SV) (ow:OW):Option (k.T×OW):=if k.isSt then(match s with| .agg l=>bF k l ow|_=>none)else ve k s ow
def it:Option OB->Option OB->Option OB
 |some (.row k v l),some (.frow _ _ _)=>some (.row k v l)
 |some (.nrow s l none),some (.frow _ _ _)=>some (.nrow s l none)
 |_,n=>n
def vE:List (Option OB)->List (Option OB)->List (Option OB)
 |o::os,n::ns=>it o n::vE os ns
 |_,ns=>ns
def nA:OW->OW->OW
 |o::os,n::ns=>vE o n::nA os ns
 |_,ns=>ns
end Go.Pev
namespace Go.Pev
def qq (k:Kd) (v:SV) (ow:OW):Option (List k.T×OW):=
 match jH v,kY ow v with
 |some (d,j),some r=>if nz ow d j then(if h:r.1=k then some (vC h r.2,bw ow d j none)else none)else none
 |_,_=>none
def f8 (s:Sh) (f:List SV->OW->Option (s.T×OW)) (ow:OW) (d j:Nat):Option OW:=
 match co ow d j with
 |some (.nrow s' l foc)=>
  if s'=s then
   (match foc with
   |none=>some ow
   |some p=>
    (match f p.2 ow with
    |some x=>
     (match co x.2 d j with
     |some (.nrow s2 l2 _)=>if h:s2=s then some (bw x.2 d j (some (.nrow s ((Ao h l2).set p.1 x.1) none)))else none
     |_=>none)
    |none=>none))
  else none
 |_=>none
def nB (s:Sh) (v:SV) (ow:OW):Option (List s.T×OW):=
 match v with
 | .wh d j _ []=>
  (match co ow d j with
  |some (.nrow s' l none)=>if h:s'=s then some (Ao h l,bw ow d j none)else none
  |_=>none)
 | .os d j _ [] off len=>
  (match co ow d j with
  |some (.nrow s' l none)=>if h:s'=s then some (aQ (Ao h l) off len,bw ow d j none)else none
  |_=>none)
 |_=>none
def pk:(s:Sh)->List SV->OW->Option (s.T×OW)
 | .pur kd,[v],ow=>s8 kd v ow
 | .own k,[v],ow=>(match v with| .nils=>if k.good then some ([],ow)else none|v=>qq k v ow)
 | .row k,[v],ow=>(match v with| .wh d j ver path=>qq k (.wh d j ver path) ow|_=>none)
 | .rows s,[v],ow=>
  (match v with
  | .nils=>if s.elem then some ([],ow)else none
  |v=>
   (match jH v with
   |some (d,j)=>(match f8 s (pk s) ow d j with|some ow1=>nB s v ow1|none=>none)
   |none=>none))
 | .nrw s,[v],ow=>
  (match v with
  | .wh d j ver path=>(match f8 s (pk s) ow d j with|some ow1=>nB s (.wh d j ver path) ow1|none=>none)
  |_=>none)
 | .box l,[.bp d j c],ow=>
  (match co ow d j with
  |some (.box cells)=>if c=0/\cells.length=l.len then pk l cells (bw ow d j none)else none
  |_=>none)
 | .agg l,[.agg cs],ow=>pk l cs ow
 | .fn f n l,[.fn g a b],ow=>if f=g/\a.length=n then pk l (a++b) ow else none
 | .ign,[_],ow=>some ((),ow)
 | .nl,[.nils],ow=>some ((),ow)
 | .nil,[],ow=>some ((),ow)
 | .cons a b,v::r,ow=>
  (match pk a [v] ow with
  |some x=>(match pk b r x.2 with|some y=>some ((x.1,y.1),y.2)|none=>none)
  |none=>none)
 |_,_,_=>none
def vf (ow:OW) (v:SV):OW:=
 match jH v with
 |some (d,j)=>
  (match co ow d j with
  |some (.nrow s _ (some _))=>(match f8 s (pk s) ow d j with|some ow1=>ow1|none=>ow)
  |_=>ow)
 |none=>ow
def Dn:SV->List SV
 | .agg l=>l
 |v=>[v]
def kb (l:List SV) (ow:OW):OW:=(l.flatMap Dn).foldl vf ow
def bH (d:Nat):(s:Sh)->s.T->Nat->List SV×List OB
 | .pur kd,x,_=>([O5 kd x],[])
 | .own k,l,j=>([.wh d j 0 []],[.row k 0 l])
 | .row k,l,j=>([.wh d j 0 []],[.row k 0 l])
 | .rows s,l,j=>([.wh d j 0 []],[.nrow s l none])
 | .nrw s,l,j=>([.wh d j 0 []],[.nrow s l none])
 | .box l,x,j=>let r:=bH d l x (j+1);([.bp d j 0],.box r.1::r.2)
 | .agg l,x,j=>let r:=bH d l x j;([.agg r.1],r.2)
 | .fn f n l,x,j=>let r:=bH d l x j;([.fn f (r.1.take n) (r.1.drop n)],r.2)
 | .ign,_,_=>([.dead],[])
 | .nl,_,_=>([.nils],[])
 | .nil,_,_=>([],[])
 | .cons a b,x,j=>let r:=bH d a x.1 j;let s:=bH d b x.2 (j+r.2.length);(r.1++s.1,r.2++s.2)
def Sh.noOuts:Sh->Bool
 | .row _| .nrw _| .box _=>false
 | .agg l| .fn _ _ l=>l.noOuts
 | .cons a b=>a.noOuts&& b.noOuts
 |_=>true
def eU (d:Nat) (e:OW):(s:Sh)->List SV->s.Out->OW×List OB->Option (OW×List OB)
 | .row k,[.wh dd j _ _],y,st=>
  (match co e dd j with
  |some (.row k' ver _)=>if k'=k then some (bw st.1 dd j (some (.row k (ver+1) y)),st.2)else none
  |_=>none)
 | .nrw s,[.wh dd j _ _],y,st=>
  (match co e dd j with
  |some (.nrow s' _ none)=>if s'=s then some (bw st.1 dd j (some (.nrow s y none)),st.2)else none
  |_=>none)
 | .box l,[.bp dd j c],y,st=>
  (match co e dd j with
  |some (.box _)=>if c=0 then some (bw st.1 dd j (some (.box (bH d l y st.2.length).1)),st.2++(bH d l y st.2.length).2)else none
  |_=>none)
 | .agg l,[.agg cs],y,st=>eU d e l cs y st
 | .fn _ _ l,[.fn _ a b],y,st=>eU d e l (a++b) y st
 | .cons a b,v::r,y,st=>if a.noOuts then eU d e b r y.2 st else(match eU d e a [v] y.1 st with|some st=>eU d e b r y.2 st|none=>none)
 | .pur _,[_],_,st=>some st
 | .own _,[_],_,st=>some st
 | .rows _,[_],_,st=>some st
 | .ign,[_],_,st=>some st
 | .nl,[_],_,st=>some st
 | .nil,[],_,st=>some st
 |_,_,_,_=>none
def gu:(s:Sh)->List SV->OW->Option (s.Out×OW)
 | .row k,l,ow=>pk (.row k) l ow
 | .nrw s,l,ow=>pk (.nrw s) l ow
 | .box s,l,ow=>pk (.box s) l ow
 | .agg l,[.agg cs],ow=>gu l cs ow
 | .fn f n l,[.fn g a b],ow=>if f=g/\a.length=n then gu l (a++b) ow else none
 | .cons a b,v::r,ow=>
  if a.noOuts then(match gu b r ow with|some y=>some ((a.zo,y.1),y.2)|none=>none)else
  (match gu a [v] ow with
  |some x=>(match gu b r x.2 with|some y=>some ((x.1,y.1),y.2)|none=>none)
  |none=>none)
 | .pur _,[_],ow=>some ((),ow)
 | .own _,[_],ow=>some ((),ow)
 | .rows _,[_],ow=>some ((),ow)
 | .ign,[_],ow=>some ((),ow)
 | .nl,[_],ow=>some ((),ow)
 | .nil,[],ow=>some ((),ow)
 |_,_,_=>none
structure jV where
 args:Sh
 res:Sh
 den:args.T->Option (res.T×args.Out)
 al:List (Nat×Nat×Nat×List Nat)
def rF (ow:OW):SV->List Nat->Option SV
 |s,[]=>some s
 | .bp d j c,i::r=>(match co ow d j with|some (.box cells)=>(match cells[c+i]? with|some s=>rF ow s r|none=>none)|_=>none)
 |_,_=>none
def nC (ow:OW) (s:SV) (c:Nat) (p:List Nat):Option SV:=
 match s with
 | .fn _ a b=>(match(a++b)[c]? with|some s=>rF ow s p|none=>none)
 |_=>none
def OT (ow:OW) (d j:Nat):Bool:=match co ow d j with|some (.box _)=>true|_=>false
def vF (ow:OW):SV->SV->Bool
 | .bp d j c,.bp d' j' c'=>d==d'&& j==j'&& c==c'&& OT ow d j
 |_,_=>false
def LL (a:List SV) (ow:OW) (q:Nat×Nat×Nat×List Nat):Bool:=
 match a[q.1]?,a[q.2.1]? with
 |some s,some t=>(match nC ow t q.2.2.1 q.2.2.2 with|some s'=>vF ow s s'|none=>false)
 |_,_=>false
def NO (a:List (Nat×Nat×Nat×List Nat)) (b:List SV) (ow:OW):Bool:=a.all (LL b ow)
def LM (ow:OW):List (Nat×Nat×Nat×List Nat)->List SV->List SV
 |[],sl=>sl
 |q::r,sl=>LM ow r (match sl[q.2.1]? with|some t=>(match nC ow t q.2.2.1 q.2.2.2 with|some s=>sl.set q.1 s|none=>sl)|none=>sl)
def LN (a:List (Nat×Nat×Nat×List Nat)) (st:St):St:=⟨LM st.ow a st.sl,st.ow⟩
structure NN where
 keys:List (Nat×Nat):=[]
 draws:List (Nat×List (List Nat×Bool)):=[]
structure eB where
 P:Program
 sigs:List (FuncId×List jV)
 fuel:Nat
 deep:List (Nat×Sh)
 inl:List (FuncId×List (Nat×NN))
def eB.deepOf (C:eB) (d:Nat):Option Sh:=match C.deep.find? (λx=>x.1==d)with|some x=>some x.2|none=>none
def eB.sigsOf (C:eB) (f:FuncId):List jV:=match C.sigs.find? (λx=>x.1==f)with|some x=>x.2|none=>[]
structure LA where
 loops:List (Nat×List (Nat×Sh)):=[]
 joins:List (Nat×List (Nat×Kd)):=[]
 keys:List (Nat×List (List Nat×Bool)):=[]
 heads:List (Nat×List (Nat×Sh)):=[]
 al:List (Nat×Nat×Nat×List Nat):=[]
 lal:List (Nat×Nat×Nat×List Nat):=[]
def vG:SV->Bool
 | .agg _| .tup _| .dead=>false
 |_=>true
def fO (P:Program) (t:TypeId) (s:SV):Option (List SV):=
 if dU P t then(match s with| .agg l=>if l.length=cP P t&& l.all vG then some l else none|_=>none)
 else if vG s&& cP P t=1 then some [s]else none
def dD (P:Program) (t:TypeId) (l:List SV):Option SV:=
 match ee P t with
 |none=>none
 |some _=>
  if dU P t then(if 0<cP P t/\cP P t<=l.length then some (.agg (l.take (cP P t)))else none)
  else(match l with|s::_=>some s|[]=>none)
def rG (P:Program) (t:TypeId) (p:SV) (ow:OW):aX SV:=
 match p with
 | .bp d j c=>(match co ow d j with|some (.box cells)=> .ofOpt (dD P t (cells.drop c))|_=> .fail)
 | .rp d j _ path e c=>
  (match nw ow d j path with
  |some r=> .bnd r.1.z r.2[e]? λx=>(match jr r.1.ch (O4 r.1 x) c with|some y=> .ofOpt (dD P t (ma y.1 y.2))|none=> .fail)
  |none=>(match ny ow d j path with|some r=> .bnd r.1.z r.2[e]? λx=> .ofOpt (dD P t ((vD r.1 x).drop c))|none=> .fail))
 | .ip k x=> .ofOpt (dD P t (ma k x))
 | .v (.tree a) x=>if a.leafy then .ofOpt (dD P t (ma a.nodeK (FS a x)))else .fail
 |_=> .fail
def js (a:List SV) (c:Nat) (b:List SV):Option (List SV):=if c+b.length<=a.length then some (a.take c++b++a.drop (c+b.length))else none
def H5 (k:Kd) (c n:Nat):Option Kd:=match jr k.ch (O4 k k.z) c with|some y=>lG y.1 n|none=>none
def BC (P:Program) (t:TypeId) (p s:SV) (ow:OW):aX OW:=
 match fO P t s with
 |none=> .fail
 |some new=>
  (match p with
  | .bp d j c=>
   (match co ow d j with
   |some (.box cells)=>(match js cells c new with|some cells'=> .ret (bw ow d j (some (.box cells')))|none=> .fail)
   |_=> .fail)
  | .rp d j _ [] e c=>
   (match co ow d j with
   |some (.row k ver l)=>
    (match H5 k c new.length with
    |some kt=>
     (match bF kt new ow with
     |some y=>
      (match co y.2 d j with
      |some (.row k' ver' l')=>
       if h:k'=k then .bnd k.z (vC h l')[e]? λx=>
        (match l9 k.ch (O4 k x) c kt y.1 with
        |some x'=> .ret (bw y.2 d j (some (.row k ver' ((vC h l').set e (vB k x')))))
        |none=> .fail)
       else .fail
      |_=> .fail)
     |none=> .fail)
    |none=> .fail)
   |_=> .fail)
  |_=> .fail)
def kZ (P:Program) (t:TypeId) (p:SV) (f:Nat) (ow:OW):aX SV:=
 match pJ P t f with
 |none=> .fail
 |some fd=>if cP P fd.type=0 then .fail else
  (match p with
  | .bp d j c=>if iR ow d j then .ret (.bp d j (c+fd.offset))else .fail
  | .rp d j ver path e c=>(match zf ow d j path with|some _=> .ret (.rp d j ver path e (c+fd.offset))|none=> .fail)
  | .ip k x=>(match jr k x fd.offset with|some y=> .ret (.ip y.1 y.2)|none=> .fail)
  | .v (.tree a) x=>if a.leafy then(match jr a.nodeK (FS a x) fd.offset with|some y=> .ret (.ip y.1 y.2)|none=> .fail)else .fail
  |_=> .fail)
def jg (P:Program) (t:TypeId) (n:Nat):Bool:=
 match ee P t with
 |some (.slice e)=>(match P.info? e with|some i=>i.size==n|none=>false)
 |_=>false
def nD (P:Program) (t:TypeId) (x i:SV) (ow:OW):aX SV:=
 match i with
 | .v (.int _) n=>
  (match x with
  | .v (.sl _ e) l=>if e.ch.leafy&& jg P t e.n then .chk (decide (0<=n)) (.bnd e.z l[n.toNat]? λy=> .ret (.ip e.ch (O4 e y)))else .fail
  | .wh d j ver path=>(match zf ow d j path with|some r=>if jg P t r.1 then .chk (decide (0<=n/\n<r.2)) (.ret (.rp d j ver path n.toNat 0))else .fail|none=> .fail)
  | .os d j ver path off len=>(match zf ow d j path with|some r=>if jg P t r.1 then .chk (decide (0<=n/\n<len)) (.ret (.rp d j ver path (off+n.toNat) 0))else .fail|none=> .fail)
  |_=> .fail)
 |_=> .fail
def Do {α:Type} (l:List α) (c d:Option Int):List α:=
 match c,d with
 |none,none=>l
 |some a,none=>l.drop a.toNat
 |none,some b=>l.take b.toNat
 |some a,some b=>(l.take b.toNat).drop a.toNat
def qr (n:Nat) (c d:Option Int):Bool:=
 match c,d with
 |none,none=>true
 |some a,none=>decide (0<=a/\a<=n)
 |none,some b=>decide (0<=b/\b<=n)
 |some a,some b=>decide (0<=a/\a<=b/\b<=n)
def BD:Option SV->Option (Option Int)
 |none=>some none
 |some (.v (.int _) n)=>some (some n)
 |_=>none
def lu (P:Program) (t:TypeId):Bool:=match ee P t with|some .string=>true|_=>false
def BE (P:Program) (t:TypeId) (x:SV) (c f:Option SV) (ow:OW):aX SV:=
 match BD c,BD f with
 |some a,some b=>
  (match x with
  | .v .str s=>if lu P t then .chk (qr s.length a b) (.ret (.v .str (Do s a b)))else .fail
  | .v (.sl o e) l=>if jg P t e.n then .chk (qr l.length a b) (.ret (.v (.sl o e) (Do l a b)))else .fail
  | .wh d j ver path=>(match zf ow d j path with|some r=>if jg P t r.1 then .chk (qr r.2 a b) (.ret (.os d j ver path (a.getD 0).toNat ((b.getD r.2).toNat-(a.getD 0).toNat)))else .fail|none=> .fail)
  | .os d j ver path off len=>(match zf ow d j path with|some r=>if jg P t r.1 then .chk (qr len a b) (.ret (.os d j ver path (off+(a.getD 0).toNat) ((b.getD len).toNat-(a.getD 0).toNat)))else .fail|none=> .fail)
  |_=> .fail)
 |_,_=> .fail
def f9 (P:Program) (t:TypeId):Bool:=match ee P t with|some (.slice _)=>true|_=>false
def OU (ow:OW) (d j:Nat):Option Nat:=
 match co ow d j with
 |some (.lrow n)=>some n
 |_=>none
def LO (P:Program) (t:TypeId) (x:SV) (ow:OW):aX SV:=
 match x with
 | .v .str s=>if lu P t then .ret (.v (.int .i64) s.length)else .fail
 |x=>if f9 P t then(match x with
  | .v (.sl _ _) l=> .ret (.v (.int .i64) l.length)
  | .nils=> .ret (.v (.int .i64) 0)
  | .wh d j _ path=>(match zf ow d j path with|some r=> .ret (.v (.int .i64) r.2)|none=>(match OU ow d j with|some n=> .ret (.v (.int .i64) n)|none=> .fail))
  | .os d j _ path _ len=>(match zf ow d j path with|some _=> .ret (.v (.int .i64) len)|none=> .fail)
  |_=> .fail)else .fail
def ai:Nat:=140737488355328
def qs (k:Kd) (x:SV) (ow:OW):Option (List k.T):=
 match x with
 | .nils=>some []
 | .v (.sl _ k') l=>if h:k'=k then some (vC h l)else none
 |x=>(match kY ow x with|some r=>if h:r.1=k then some (vC h r.2)else none|none=>none)
def O9 (ow:OW) (x:SV):Option Kd:=
 match x with
 | .v (.sl _ k) _=>some k
 |x=>(match kY ow x with|some r=>some r.1|none=>none)
def kc (P:Program) (e:TypeId) (k:Kd):Bool:=k.good&& decide (0<k.n)&& decide (k.n=cP P e)&& decide (0<c7 P e)&& (match(P.info? e).bind (·.zero)with|some z=>decide (z.cells.size=k.n)|none=>false)
def dI:Kd->List Value->Bool
 | .int k,[.int k' n]=>k==k'&& n==0
 | .bool,[.bool b]=> !b
 | .str,[.string s]=>s.data.size==0
 | .err,[.nilIface]=>true
 | .sl false _,[.slice none 0 0]=>true
 | .nil,[]=>true
 | .cons a b,v::r=> !a.isSt&& dI a [v]&& dI b r
 |_,_=>false
def FT (P:Program) (e:TypeId) (k:Kd):Bool:=match(P.info? e).bind (·.zero)with|some z=>dI k z.cells.toList|none=>false
def FU (ow:OW) (d j:Nat):OW:=
 match co ow d j with
 |some (.row _ _ l)=>bw ow d j (some (.lrow l.length))
 |some (.nrow _ l _)=>bw ow d j (some (.lrow l.length))
 |_=>bw ow d j none
def vH (P:Program) (t:TypeId) (s x:SV) (ow:OW) (d:Nat):aX (SV×OW):=
 match lH P t with
 |none=> .fail
 |some e=>
  (match s with
  | .nils=>
   (match x with
   | .nils=>if(P.info? e).isSome then .ret (.nils,ow)else .fail
   |x=>
    (match O9 ow x with
    |some k=>(match qs k x ow with
     |some y=>if kc P e k then .chk (decide (y.length*c7 P e<=ai)) (match bV ow d [.row k 0 y]with|some ow'=> .ret (.wh d 0 0 [],ow')|none=> .fail)else .fail
     |none=> .fail)
    |none=> .fail))
  |s=>
   (match jH s,kY ow s with
   |some (dd,j),some b=>if nz ow dd j then
    (match qs b.1 x ow with
    |some y=>if kc P e b.1 then .chk (decide ((b.2.length+y.length)*c7 P e<=ai)) (match bV (FU ow dd j) d [.row b.1 0 (b.2++y)]with|some ow'=> .ret (.wh d 0 0 [],ow')|none=> .fail)else .fail
    |none=> .fail)else .fail
   |_,_=> .fail))
def nE (P:Program) (t:TypeId) (n c:SV) (ow:OW) (d:Nat):aX (SV×OW):=
 match lH P t,n,c with
 |some e,.v (.int .i64) n,.v (.int .i64) c=>
  (match ls P 16 e with
  |some k=>if kc P e k&& FT P e k then
   .chk (decide (0<=n/\n<=c/\c*c7 P e<=ai)) (match bV ow d [.row k 0 (List.replicate n.toNat k.z)]with|some ow'=> .ret (.wh d 0 0 [],ow')|none=> .fail)else .fail
  |none=> .fail)
 |_,_,_=> .fail
def vI (k:Kd):List SV->OW->Option (List k.T×OW)
 |[],ow=>some ([],ow)
 |s::r,ow=>
  (match s8 k s ow with
  |some x=>(match vI k r x.2 with|some y=>some (x.1::y.1,y.2)|none=>none)
  |none=>none)
def mc (P:Program) (t:TypeId) (n:Nat) (a:List (Nat×SV)) (ow:OW) (d:Nat):aX (SV×OW):=
 match lH P t with
 |none=> .fail
 |some e=>
  (match O7 P e with
  |none=> .fail
  |some k=>
   if a.map (·.1)=List.range n/\n*cP P e<=16777216/\kc P e k then
    (match vI k (a.map (·.2)) ow with
    |some y=>(match bV y.2 d [.row k 0 y.1]with|some ow'=> .ret (.wh d 0 0 [],ow')|none=> .fail)
    |none=> .fail)
   else .fail)
def lI (P:Program) (t:TypeId):Option (List SV):=
 match P.info? t with
 |some i=>(match i.zero with
  |some v=>if v.cells.size=i.size then some (v.cells.toList.map (nu 4))else none
  |none=>none)
 |none=>none
def H6 (P:Program) (t:TypeId):List SV->List (Nat×SV)->Option (List SV)
 |cells,[]=>some cells
 |cells,(f,s)::r=>
  (match pJ P t f with
  |some fd=>(match fO P fd.type s with|some new=>(match js cells fd.offset new with|some cells'=>H6 P t cells' r|none=>none)|none=>none)
  |none=>none)
def BF (P:Program) (t:TypeId) (a:List (Nat×SV)):aX SV:=
 match lI P t,ee P t with
 |some cells,some (.struct fs)=>if fs.toList.all (λf=>(P.info? f.type).isSome)then(match H6 P t cells a with|some r=> .ret (.agg r)|none=> .fail)else .fail
 |_,_=> .fail
def BG (P:Program) (t:TypeId) (x:SV) (f:Nat):aX SV:=
 match x,pJ P t f with
 | .agg cs,some fd=> .ofOpt (dD P fd.type (cs.drop fd.offset))
 |_,_=> .fail
def rH (P:Program) (src a:TypeId) (x:SV) (ow:OW):aX SV:=
 match ee P src,ee P a,x with
 |some (.int _),some (.int k),.v (.int _) n=> .ret (.v (.int k) (k.wrap n))
 |some (.slice e),some .string,x=>
  (match ee P e with
  |some (.int .u8)=>
   (match x with
   | .nils=> .ret (.v .str [])
   | .v (.sl _ (.int .u8)) l=> .ret (.v .str (l.map λn:Int=>UInt8.ofNat n.toNat))
   |x=>(match kY ow x with|some ⟨.int .u8,l⟩=> .ret (.v .str (l.map λn:Int=>UInt8.ofNat n.toNat))|_=> .fail))
  |_=> .fail)
 |_,_,_=> .fail
def eV (P:Program):Nat->List Field->List SV->List SV->Option Bool
 |_,[],[],[]=>some true
 |i,f::fs,a::r,b::s=>
  if f.name != "_" && f.offset==i then
   (match a,b with
   | .v (.int k) a,.v (.int k') b=>if k=k' then(match ee P f.type with|some (.int _)=>(match eV P (i+1) fs r s with|some c=>some ((a==b)&& c)|none=>none)|_=>none)else none
   | .v .str a,.v .str b=>(match ee P f.type with|some .string=>(match eV P (i+1) fs r s with|some c=>some ((a==b)&& c)|none=>none)|_=>none)
   | .v .bool a,.v .bool b=>(match ee P f.type with|some .bool=>(match eV P (i+1) fs r s with|some c=>some ((a==b)&& c)|none=>none)|_=>none)
   |_,_=>none)
  else none
 |_,_,_,_=>none
def rI:SV->Option Bool
 | .v .bool b=>some b
 | .lb b=>some b
 |_=>none
def FV (op:BinOp) (k:IntKind) (a b:Int):aX SV:=
 match op with
 | .add=> .ret (.v (.int k) (k.wrap (a+b)))
 | .sub=> .ret (.v (.int k) (k.wrap (a-b)))
 | .mul=> .ret (.v (.int k) (k.wrap (a*b)))
 | .quo=> .chk (!decide (b=0)) (.ret (.v (.int k) (k.wrap (a.tdiv b))))
 | .rem=> .chk (!decide (b=0)) (.ret (.v (.int k) (a.tmod b)))
 | .and=> .ret (.v (.int k) (k.wrap (BitVec.ofInt k.bits a&&& BitVec.ofInt k.bits b).toNat))
 | .or=> .ret (.v (.int k) (k.wrap (BitVec.ofInt k.bits a|||BitVec.ofInt k.bits b).toNat))
 | .xor=> .ret (.v (.int k) (k.wrap (BitVec.ofInt k.bits a^^^BitVec.ofInt k.bits b).toNat))
 | .andNot=> .ret (.v (.int k) (k.wrap (BitVec.ofInt k.bits a&&& ~~~BitVec.ofInt k.bits b).toNat))
 | .eql=> .ret (.v .bool (a==b))
 | .neq=> .ret (.v .bool (a !=b))
 | .lss=> .ret (.v .bool (decide (a<b)))
 | .leq=> .ret (.v .bool (decide (a<=b)))
 | .gtr=> .ret (.v .bool (decide (a>b)))
 | .geq=> .ret (.v .bool (decide (a>=b)))
 |_=> .fail
def LP:Int:=9223372036854775807
def FW (op:BinOp) (a b:List UInt8):aX SV:=
 match op with
 | .add=> .chk (decide (((a.length+b.length:Nat):Int)<=LP)) (.ret (.v .str (a++b)))
 | .eql=> .ret (.v .bool (a==b))
 | .neq=> .ret (.v .bool (!(a==b)))
 |_=> .fail
def vJ (P:Program) (t:TypeId):Bool:=match ee P t with|some (.interface _)=>true|_=>false
def BH (P:Program) (t:TypeId):Bool:=match ee P t with|some .bool=>true|_=>false
def NP (op:BinOp) (c:Bool):Option Bool:=match op with| .eql=>some c| .neq=>some (!c)|_=>none
def LQ (op:BinOp) (c:Bool):aX SV:=match NP op c with|some c=> .ret (.v .bool c)|none=> .fail
def BI (op:BinOp) (e:Bool):aX SV:=match op with| .eql=> .amb e (.ret (.lb true)) (.ret (.lb false))| .neq=> .amb e (.ret (.lb false)) (.ret (.lb true))|_=> .fail
def BJ (ow:OW) (x:SV):Option Bool:=
 match x with
 | .v (.sl _ _) l=>some l.isEmpty
 |x=>(match kY ow x with|some r=>some r.2.isEmpty|none=>none)
def LR (P:Program) (op:BinOp) (t:TypeId) (d:Bool) (x y:SV) (ow:OW):aX SV:=
 match x,y with
 | .v (.int k) a,.v (.int k') b=>
  (match op with
  | .shl=> .chk (decide (0<=b)) (.ret (.v (.int k) (k.wrap (a*2^(min b.toNat k.bits)))))
  | .shr=> .chk (decide (0<=b)) (.ret (.v (.int k) (a.fdiv (2^(min b.toNat k.bits)))))
  |op=>if k=k' then FV op k a b else .fail)
 | .v .str a,.v .str b=>if lu P t then FW op a b else .fail
 | .v .err a,.v .err b=>if vJ P t&& d then .chk (!(a&& b)) (LQ op (a==b))else .fail
 | .agg a,.agg b=>
  (match ee P t with
  |some (.struct fs)=>
   if P.stoodInHeld t||P.eqGuardType P.depth t then .fail else
   (match eV P 0 fs.toList a b with
   |some c=>LQ op c
   |none=> .fail)
  |_=> .fail)
 | .nils,.nils=>if f9 P t then(match NP op true with|some c=> .ret (.lb c)|none=> .fail)else .fail
 |x,.nils=>if f9 P t then(match BJ ow x with|some e=>BI op e|none=> .fail)else .fail
 |x,y=>
  (match rI x,rI y with
  |some a,some b=>if BH P t then LQ op (a==b)else .fail
  |_,_=> .fail)
def Pa (op:UnOp) (x:SV):aX SV:=
 match op,x with
 | .not,.v .bool b=> .ret (.v .bool (!b))
 | .not,.lb b=> .ret (.lb (!b))
 | .neg,.v (.int k) n=> .ret (.v (.int k) (k.wrap (0-n)))
 | .xor,.v (.int k) n=> .ret (.v (.int k) (k.wrap (BitVec.ofInt k.bits (if k.signed then-1 else k.max)^^^BitVec.ofInt k.bits n).toNat))
 |_,_=> .fail
def FX (c a b:SV):aX SV:=
 match c with
 | .lb c=> .ret (if c then a else b)
 | .v .bool c=>
  (match rI a,rI b with
  |some x,some y=> .ret (.v .bool (cond c x y))
  |_,_=> .fail)
 |_=> .fail
def BK (x i:SV):aX SV:=
 match x,i with
 | .v .str s,.v (.int _) n=> .chk (decide (0<=n)) (.bnd 0 s[n.toNat]? λb=> .ret (.v (.int .u8) b.toNat))
 |_,_=> .fail
def NQ (k:IntKind):List SV->Int->Option Int
 |[],a=>some a
 | .v (.int k') y::r,x=>if k=k' then NQ k r (if(y:Int)<x then y else x)else none
 |_,_=>none
def NR (k:IntKind):List SV->Int->Option Int
 |[],a=>some a
 | .v (.int k') y::r,x=>if k=k' then NR k r (if(y:Int)>x then y else x)else none
 |_,_=>none
def PC (l:List SV):SV:=match l with|[a]=>a|l=> .tup l
def FY (a:jV) (ow ow1:OW):OW:=if a.res.fresh&& a.args.freshOut then nA ow ow1 else ow1
def LS (a:jV) (args:List SV) (ow:OW) (d:Nat):Option (aX (SV×OW)):=
 if NO a.al args ow then
 match pk a.args args ow with
 |none=>none
 |some p=>some (.bnd (a.res.z,a.args.zo) (a.den p.1) λy=>
  (match eU d ow a.args args y.2 (FY a ow p.2,(bH d a.res y.1 0).2)with
  |some q=>(match bV q.1 d q.2 with|some ow'=> .ret (PC (bH d a.res y.1 0).1,ow')|none=> .fail)
  |none=> .fail))
 else none
def vg (args:List SV) (ow:OW) (d:Nat):List jV->aX (SV×OW)
 |[]=> .fail
 |sg::r=>(match LS sg args ow d with|some c=>c|none=>vg args ow d r)
def BL (P:Program) (t:TypeId) (x:SV):aX SV:=
 match ee P t,x with
 |some (.int .i64),.v (.int .i64) n=> .ret (.v .any (t,.inl n))
 |some .string,.v .str s=> .ret (.v .any (t,.inr s))
 |_,_=> .fail
def BM (P:Program) (t:TypeId):Bool:=match(P.info? t).bind (·.zero)with|some (.int .i64 0)=>true|_=>false
def BN (P:Program) (t:TypeId):Bool:=match(P.info? t).bind (·.zero)with|some (.string s)=>s.data.size==0|_=>false
def vK (P:Program) (t:TypeId) (x:SV):aX SV:=
 match ee P t,x with
 |some (.int .i64),.v .any y=>if BM P t then .chk (!(y.1==t)||y.2.isLeft) (.ret (.tup [.v (.int .i64) (cond (y.1==t) (match y.2 with| .inl n=>n| .inr _=>0) 0),.v .bool (y.1==t)]))else .fail
 |some .string,.v .any y=>if BN P t then .chk (!(y.1==t)||y.2.isRight) (.ret (.tup [.v .str (cond (y.1==t) (match y.2 with| .inr s=>s| .inl _=>[]) []),.v .bool (y.1==t)]))else .fail
 |_,_=> .fail
def md (x:SV) (ow:OW):aX SV:=
 match x with
 | .bp d j c=>if iR ow d j then .ret (.bp d j c)else .fail
 | .rp d j ver path e c=>(match zf ow d j path with|some _=> .ret (.rp d j ver path e c)|none=> .fail)
 | .ip k x=> .ret (.ip k x)
 | .v (.tree a) x=> .ret (.v (.tree a) x)
 | .fn (.func f) a b=> .ret (.fn (.func f) a b)
 |_=> .fail
def pi (P:Program) (o:Op) (ρ:Operand->SV) (ow:OW):aX SV:=
 match o with
 | .move x| .assign x=> .ret (ρ x)
 | .pick c a b=>FX (ρ c) (ρ a) (ρ b)
 | .build t parts=>BF P t (parts.toList.map λx=>(x.1,ρ x.2))
 | .load t a=>rG P t (ρ a) ow
 | .nilCheck x=>md (ρ x) ow
 | .binOp op t x y _=>LR P op t ((x matches .const _)||(y matches .const _)) (ρ x) (ρ y) ow
 | .unOp op _ x=>Pa op (ρ x)
 | .convert s t x=>rH P s t (ρ x) ow
 | .makeFunc f a b=> .ret (.fn f (a.toList.map ρ) (b.toList.map ρ))
 | .makeInterface t x=>BL P t (ρ x)
 | .typeAssert x _ t true=>vK P t (ρ x)
 | .slice t x lo hi none=>BE P t (ρ x) (lo.map ρ) (hi.map ρ) ow
 | .fieldAddr t x f=>kZ P t (ρ x) f ow
 | .field t x f=>BG P t (ρ x) f
 | .indexAddr t x i=>nD P t (ρ x) (ρ i) ow
 | .index t x i=>if lu P t then BK (ρ x) (ρ i)else .fail
 | .extract t i=>(match ρ t with| .tup l=>(match l[i]? with|some s=> .ret s|none=> .fail)|_=> .fail)
 | .call c=>
  (match c.callee with
  | .builtin .len=>(match c.args.toList,c.argTypes.toList with|[x],t::_=>LO P t (ρ x) ow|_,_=> .fail)
  | .builtin .min=>(match c.args.toList.map ρ with| .v (.int k) a::r=>(match NQ k r a with|some n=> .ret (.v (.int k) n)|none=> .fail)|_=> .fail)
  | .builtin .max=>(match c.args.toList.map ρ with| .v (.int k) a::r=>(match NR k r a with|some n=> .ret (.v (.int k) n)|none=> .fail)|_=> .fail)
  |_=> .fail)
 |_=> .fail
def aI:Sh->Bool
 | .nil=>true
 | .cons (.pur _) b=>aI b
 |_=>false
def vL (args:List SV) (ow:OW):List jV->aX SV
 |[]=> .fail
 |sg::r=>
  if aI sg.args&& aI sg.res&& sg.res.fresh&& sg.al.isEmpty then
   (match pk sg.args args ow with
   |some p=> .bnd (sg.res.z,sg.args.zo) (sg.den p.1) λy=> .ret (PC (bH 0 sg.res y.1 0).1)
   |none=>vL args ow r)
  else vL args ow r
def Aq (C:eB) (o:Op) (ρ:Operand->SV) (ow:OW):aX SV:=
 match o with
 | .call {callee:= .value f,args,.. }=>(match ρ f with| .fn (.func id) a b=>vL (a++args.toList.map ρ++b) ow (C.sigsOf id)|_=> .fail)
 |o=>pi C.P o ρ ow
def Pb (ow:OW) (p:SV):Option (Nat×Nat×Nat×Nat×Sh):=
 match p with
 | .rp d j _ [] e c=>(match co ow d j with|some (.nrow s _ _)=>some (d,j,e,c,s)|_=>none)
 |_=>none
def Ar:Sh->List Bool
 | .cons a b=>(match a with| .pur _=>true|_=>false)::Ar b
 | .nil=>[]
 | .pur _=>[true]
 |_=>[false]
def NS (P:Program) (t:TypeId):Nat:=if dU P t then cP P t else 1
def BO (P:Program) (t:TypeId) (p:SV) (d j e c:Nat) (s:Sh) (ow:OW) (dk:Nat):aX (SV×OW):=
 match f8 s (pk s) ow d j with
 |none=> .fail
 |some ow1=>
  (match ny ow1 d j []with
  |none=> .fail
  |some r=>
   if((Ar r.1).drop c|>.take (NS P t)).all id then(rG P t p ow1).bind λv=> .ret (v,ow1)
   else .bnd r.1.z r.2[e]? λx=>
    (match bV (bw ow1 d j (some (.nrow r.1 r.2 (some (e,List.replicate r.1.w .dead))))) dk (bH dk r.1 x 0).2 with
    |some ow2=>(match dD P t ((bH dk r.1 x 0).1.drop c)with
     |some v=> .ret (v,bw ow2 d j (some (.nrow r.1 r.2 (some (e,(bH dk r.1 x 0).1)))))
     |none=> .fail)
    |none=> .fail))
def jK:(s:Sh)->s.T->Nat->List SV->OW->Option (s.T×OW)
 | .cons a b,y,0,v::r,ow=>
  (match pk a [v] ow with
  |some x=>(match jK b y.2 0 r x.2 with|some z=>some ((x.1,z.1),z.2)|none=>none)
  |none=>none)
 | .cons a b,y,0,[],ow=>some (y,ow)
 | .cons a b,y,c+1,new,ow=>(match jK b y.2 c new ow with|some z=>some ((y.1,z.1),z.2)|none=>none)
 | .nil,y,0,[],ow=>some (y,ow)
 | .own k,_,0,[v],ow=>pk (.own k) [v] ow
 | .rows s,_,0,[v],ow=>pk (.rows s) [v] ow
 |_,_,_,_,_=>none
def NT (ow:OW) (d j:Nat) (a:List SV):Bool:=
 match co ow d j with
 |some (.nrow _ _ (some p))=>a.any λv=>match jH v with|some k=>p.2.any (λc=>jH c==some k)|none=>false
 |_=>false
def BP (a:List SV) (s:Sh) (ow:OW) (d j:Nat):Option OW:=if NT ow d j a then none else f8 s (pk s) ow d j
def BQ {a:List SV} {s:Sh} {ow ow1:OW} {d j:Nat} (h:BP a s ow d j=some ow1):f8 s (pk s) ow d j=some ow1:=by
 unfold BP at h;split at h
 ·cases h
 ·exact h
def vM (P:Program) (t:TypeId) (x:SV) (d j e c:Nat) (s:Sh) (ow:OW):aX OW:=
 match fO P t x with
 |none=> .fail
 |some new=>
  (match BP new s ow d j with
  |some ow1=>
   (match ny ow1 d j []with
   |none=> .fail
   |some r=> .bnd r.1.z r.2[e]? λy=>
    (match jK r.1 y c new ow1 with
    |some z=>
     (match ny z.2 d j []with
     |some r2=>if h:r2.1=r.1 then .ret (bw z.2 d j (some (.nrow r.1 ((Ao h r2.2).set e z.1) none)))else .fail
     |none=> .fail)
    |none=> .fail))
  |none=>
   (match co ow d j with
   |some (.nrow s' l (some p))=>
    .chk (decide (e=p.1)) (match js p.2 c new with|some cells'=> .ret (bw ow d j (some (.nrow s' l (some (p.1,cells')))))|none=> .fail)
   |_=> .fail))
def k0 (P:Program) (e:TypeId) (s:Sh):Bool:=s.elem&& decide (0<s.w)&& decide (s.w=cP P e)&& decide (0<c7 P e)&& (match(P.info? e).bind (·.zero)with|some z=>decide (z.cells.size=s.w)|none=>false)
def PF (P:Program) (e:TypeId) (s:Sh):List SV->OW->Option (List s.T×OW)
 |[],ow=>some ([],ow)
 |v::r,ow=>
  (match fO P e v with
  |some cs=>(match pk s cs ow with
   |some x=>(match PF P e s r x.2 with|some y=>some (x.1::y.1,y.2)|none=>none)
   |none=>none)
  |none=>none)
def vN (P:Program) (t:TypeId) (n:Nat) (a:List (Nat×SV)) (s:Sh) (ow:OW) (d:Nat):aX (SV×OW):=
 match lH P t with
 |none=> .fail
 |some e=>
  if a.map (·.1)=List.range n/\n*cP P e<=16777216/\k0 P e s then
   (match PF P e s (a.map (·.2)) ow with
   |some y=>(match bV y.2 d [.nrow s y.1 none]with|some ow'=> .ret (.wh d 0 0 [],ow')|none=> .fail)
   |none=> .fail)
  else .fail
def BR:List Value->Bool
 |[.slice none 0 0]=>true
 |_=>false
def lJ:Sh->List Value->Bool
 | .pur kd,[v]=>dI kd [v]
 | .own k,vs=>BR vs&& k.good
 | .rows s,vs=>BR vs&& s.elem
 | .nil,[]=>true
 | .cons a b,v::r=>lJ a [v]&& lJ b r
 |_,_=>false
def BS (P:Program) (e:TypeId) (s:Sh):Bool:=match(P.info? e).bind (·.zero)with|some z=>lJ s z.cells.toList|none=>false
def BT (P:Program) (t:TypeId) (n c:SV) (s:Sh) (ow:OW) (d:Nat):aX (SV×OW):=
 match lH P t,n,c with
 |some e,.v (.int .i64) n,.v (.int .i64) c=>
  if k0 P e s&& BS P e s then
   .chk (decide (0<=n/\n<=c/\c*c7 P e<=ai)) (match bV ow d [.nrow s (List.replicate n.toNat s.z) none]with|some ow'=> .ret (.wh d 0 0 [],ow')|none=> .fail)
  else .fail
 |_,_,_=> .fail
def rJ (P:Program) (t:TypeId) (s x:SV) (a:Sh) (ow:OW) (d:Nat):aX (SV×OW):=
 match lH P t with
 |none=> .fail
 |some e=>
  (match pk (.rows a) [s] ow with
  |some y1=>(match pk (.rows a) [x] y1.2 with
   |some y2=>
    if k0 P e a then .chk (decide ((y1.1.length+y2.1.length)*c7 P e<=ai)) (match bV y2.2 d [.nrow a (y1.1++y2.1) none]with|some ow'=> .ret (.wh d 0 0 [],ow')|none=> .fail)
    else .fail
   |none=> .fail)
  |none=> .fail)
def NU (s x:SV):Bool:=
 match s,x with
 | .os d j _ _ _ _,.os d' j' _ _ _ _=>d==d'&& j==j'
 |_,_=>false
def FZ (P:Program) (t:TypeId) (s x:SV) (a:Sh) (ow:OW) (d:Nat):aX (SV×OW):=
 match s,x,lH P t with
 | .os d1 j1 _ [] o1 n1,.os d2 j2 _ [] o2 n2,some e=>
  if d1=d2/\j1=j2 then
   (match f8 a (pk a) ow d1 j1 with
   |some ow1=>
    (match ny ow1 d1 j1 []with
    |some r=>
     if h:r.1=a then
      if k0 P e a then .chk (decide (o1+n1<=o2)) (.chk (decide ((n1+n2)*c7 P e<=ai)) (match bV (bw ow1 d1 j1 none) d [.nrow a (aQ (Ao h r.2) o1 n1++aQ (Ao h r.2) o2 n2) none]with|some ow'=> .ret (.wh d 0 0 [],ow')|none=> .fail))
      else .fail
     else .fail
    |none=> .fail)
   |none=> .fail)
  else .fail
 |_,_,_=> .fail
def LU (ow:OW) (x:SV):Option Sh:=
 match jH x with
 |some (d,j)=>(match co ow d j with|some (.nrow s _ _)=>some s|_=>none)
 |none=>none
def NV (ow:OW) (s x:SV):Option Sh:=match LU ow s with|some sh=>some sh|none=>LU ow x
def m0 (C:eB) (o:Op) (ρ:Operand->SV) (ow:OW) (d:Nat):aX (SV×OW):=
 match o with
 | .alloc t=>(match lI C.P t with|some cells=>(match bV ow d [.box cells]with|some ow'=> .ret (.bp d 0 0,ow')|none=> .fail)|none=> .fail)
 | .box t x=>(match fO C.P t (ρ x)with|some cells=>(match bV ow d [.box cells]with|some ow'=> .ret (.bp d 0 0,ow')|none=> .fail)|none=> .fail)
 | .buildSlice t n parts=>mc C.P t n (parts.toList.map λx=>(x.1,ρ x.2)) ow d
 | .store t a x=>(BC C.P t (ρ a) (ρ x) ow).bind λow'=> .ret (.tup [],ow')
 | .makeSlice t n c=>nE C.P t (ρ n) (ρ c) ow d
 | .call {callee:= .builtin .append,args,argTypes}=>(match args.toList,argTypes.toList with|[s,x],[t,tx]=>if f9 C.P tx then vH C.P t (ρ s) (ρ x) ow d else .fail|_,_=> .fail)
 | .call {callee:= .value f,args,.. }=>(match ρ f with| .fn (.func id) a b=>vg (a++args.toList.map ρ++b) (kb (a++args.toList.map ρ++b) ow) d (C.sigsOf id)|_=> .fail)
 |o=>(pi C.P o ρ ow).bind λs=> .ret (s,ow)
def zg (C:eB) (o:Op) (ρ:Operand->SV) (ow:OW) (d:Nat):aX (SV×OW):=
 match o with
 | .load t a=>(match Pb ow (ρ a)with|some q=>BO C.P t (ρ a) q.1 q.2.1 q.2.2.1 q.2.2.2.1 q.2.2.2.2 ow d|none=>m0 C (.load t a) ρ ow d)
 | .store t a x=>(match Pb ow (ρ a)with|some q=>(vM C.P t (ρ x) q.1 q.2.1 q.2.2.1 q.2.2.2.1 q.2.2.2.2 ow).bind λow'=> .ret (.tup [],ow')|none=>m0 C (.store t a x) ρ ow d)
 | .buildSlice t n parts=>(match C.deepOf d with|some s=>vN C.P t n (parts.toList.map λx=>(x.1,ρ x.2)) s ow d|none=>m0 C (.buildSlice t n parts) ρ ow d)
 | .makeSlice t n c=>(match C.deepOf d with|some s=>BT C.P t (ρ n) (ρ c) s ow d|none=>m0 C (.makeSlice t n c) ρ ow d)
 | .call c=>
  (match c.callee,c.args.toList,c.argTypes.toList with
  | .builtin .append,[s,x],[t,tx]=>(match NV ow (ρ s) (ρ x)with|some sh=>if f9 C.P tx then(if NU (ρ s) (ρ x)then FZ C.P t (ρ s) (ρ x) sh ow d else rJ C.P t (ρ s) (ρ x) sh ow d)else .fail|none=>m0 C (.call c) ρ ow d)
  |_,_,_=>m0 C (.call c) ρ ow d)
 |o=>m0 C o ρ ow d
def iS (a:List SV):Operand->SV
 | .tmp t=>(match a[t]? with|some s=>s|none=> .dead)
 | .const v=>nu 4 v
 | .global _=> .dead
 | .func f=> .fn (.func f) [] []
def bn (a:List SV) (d:Option Tmp) (s:SV):List SV:=match d with|some d=>a.set d s|none=>a
def d9 (a:Array Oper) (i:Nat):Bool:=a.toList.any λo=>match o.guard with|some (j,_)=>j==i|none=>false
def split {α:Type} (n:Nat) (src:Bool) (s:SV) (k:SV->Option α):Option α:=if src then(match s with| .v .bool b=>br n b (k (.lb true)) (k (.lb false))|s=>k s)else k s
def dG (a:Array Oper) (o:Oper) (c:List SV):Option Bool:=
 match o.guard with
 |none=>some true
 |some (j,want)=>
  (match(a[j]?).bind (·.dst)with
  |none=>some false
  |some g=>(match c[g]? with|some (.lb b)=>some (b==want)|some (.tup [])=>some false|_=>none))
def kf (a:Array Oper) (o:Oper):List Tmp:=(o.op.operands.toList.filterMap λ| .tmp t=>some t|_=>none)++(match o.guard with|some (g,_)=>((a[g]?).bind (·.dst)).toList|none=>[])
def F0 (a:Array Oper) (x y:Oper):Bool:=
 (match x.dst with|some d=> !(kf a y).contains d&& y.dst !=some d|none=>true)&&
 (match y.dst with|some d=> !(kf a x).contains d|none=>true)
def iu (a:Array Oper) (i j:Nat):Bool:=match a[i]?,a[j]? with|some x,some y=>F0 a x y|_,_=>false
def nF (a:List Nat) (o:Oper):Nat:=o.after.toList.foldl (λm e=>if Region.binds .any e then m|||(1<<<e.on)|||a.getD e.on 0 else m) 0
def gv (a:List Oper) (b:List Nat):List Nat:=match a with|[]=>b|o::r=>gv r (b++[nF b o])
def NW:Nat->List Oper->Bool
 |_,[]=>true
 |j,o::r=>o.after.toList.all (λe=> !Region.binds .any e||decide (e.on<j))&& NW (j+1) r
def lK (a:Array Oper) (b:Nat->Nat->Bool):Bool:=
 let ms:=gv a.toList []
 NW 0 a.toList&& (List.range a.size).all λj=>(List.range j).all λi=>(ms.getD j 0).testBit i||b i j
def rK (src:Bool) (s:SV):aX SV:=if src then(match s with| .v .bool b=> .ite b (.ret (.lb true)) (.ret (.lb false))|s=> .ret s)else .ret s
def aX.noAmb {β:Type}:aX β->aX β
 | .ret b=> .ret b
 | .fail=> .fail
 | .chk c t=> .chk c t.noAmb
 | .bnd z m f=> .bnd z m λy=>(f y).noAmb
 | .amb _ _ _=> .fail
 | .ite c f g=> .ite c f.noAmb g.noAmb
def BU:List (Option OB):=List.replicate 16 none
def aL (K:List Nat):Nat->OW->OW
 |_,[]=>[]
 |i,l::r=>(if K.contains i then l else BU)::aL K (i+1) r
def bQ (K:List Nat):Nat->OW->OW->OW
 |_,[],_=>[]
 |i,a::r,s=>(if K.contains i then s.headD a else a)::bQ K (i+1) r s.tail
def cU (ow:OW):Bool:=ow.all λl=>decide (l.length<=16)
def jL (K:List Nat):Nat->SV->Bool
 |0,_=>false
 |_+1,.wh d _ _ _=>K.contains d
 |_+1,.os d _ _ _ _ _=>K.contains d
 |_+1,.rp d _ _ _ _ _=>K.contains d
 |_+1,.bp d _ _=>K.contains d
 |f+1,.agg l=>l.all (jL K f)
 |f+1,.tup l=>l.all (jL K f)
 |f+1,.fn _ a b=>a.all (jL K f)&& b.all (jL K f)
 |_+1,_=>true
def H7:OB->List SV
 | .box cells=>cells
 | .nrow _ _ (some p)=>p.2
 |_=>[]
def Pc (K:List Nat):Option OB->Bool
 |some o=>(H7 o).all (jL K 8)
 |none=>true
def qt (K:List Nat):Nat->OW->Bool
 |_,[]=>true
 |i,l::r=>(if K.contains i then l.all (Pc K)else l.all (·.isNone)&& l.length==16)&& qt K (i+1) r
def Dp (K:List Nat) (ow:OW):Bool:=qt K 0 ow&& cU ow
def As (o:Op) (ρ:Operand->SV):Option SV:=
 match o with
 | .move x| .assign x=>some (ρ x)
 | .extract t i=>(match ρ t with| .tup l=>l[i]?|_=>none)
 |_=>none
def P4:SV->SV
 | .wh d j ver path=> .wh d j ver path
 | .bp d j c=> .bp d j c
 |_=> .dead
def PG:Option OB->Option OB
 |some (.box cells)=>some (.box (cells.map P4))
 |_=>none
def nG:List (Option OB)->List (Option OB)
 |[]=>[]
 |o::r=>(match o,nG r with|none,[]=>[]|o,r'=>o::r')
def zh (ow:OW):OW:=ow.map λl=>nG (l.map PG)
def LV:Option OB->Option OB
 |some (.box _)=>some (.box [])
 |_=>none
def nH (ow:OW):OW:=ow.map λl=>nG (l.map LV)
def PY:SV->SV->Bool
 | .wh d j ver path,.wh d' j' ver' path'=>d==d'&& j==j'&& ver==ver'&& path==path'
 | .bp d j c,.bp d' j' c'=>d==d'&& j==j'&& c==c'
 | .dead,.dead=>true
 |_,_=>false
def PZ:List SV->List SV->Bool
 |[],[]=>true
 |a::r,b::s=>PY a b&& PZ r s
 |_,_=>false
def Qg:Option OB->Option OB->Bool
 |some (.box a),some (.box b)=>PZ a b
 |none,none=>true
 |_,_=>false
def NX:List (Option OB)->List (Option OB)->Bool
 |[],[]=>true
 |a::r,b::s=>Qg a b&& NX r s
 |_,_=>false
def vO (e:Option OB->Option OB) (K:List Nat) (d:Nat) (ow ow':OW):Bool:=K.all λn=>n==d||(match ow[n]?,ow'[n]? with|some a,some b=>NX (nG (a.map e)) (nG (b.map e))|none,none=>true|_,_=>false)
def BV (K:List Nat) (d:Nat) (ow ow':OW):Bool:=vO PG K d ow ow'
def vh (K:List Nat) (d:Nat) (ow ow':OW):Bool:=vO LV K d ow ow'
def pK (q:List Nat×Bool):Bool:=q.1.contains 1000000
def vP (q:List Nat×Bool):Bool:=q.1.contains 1000001
def vi (q:List Nat×Bool):Bool:=q.1.contains 1000002
def qu (q:List Nat×Bool):Bool:=q.1.contains 1000003
def LW:SV->Bool
 | .wh _ _ _ _=>true
 | .bp _ _ _=>true
 |_=>false
def fX (P:Program) (o:Op) (ρ:Operand->SV) (ow:OW):Option SV:=
 match o with
 | .load t a=>(match ρ a with| .bp d j c=>(match co ow d j with|some (.box cells)=>dD P t (cells.drop c)|_=>none)|_=>none)
 | .fieldAddr t a f=>(match ρ a,pJ P t f with| .bp d j c,some fd=>if cP P fd.type=0 then none else if iR ow d j then some (.bp d j (c+fd.offset))else none|_,_=>none)
 | .nilCheck a=>(match ρ a with| .bp d j c=>if iR ow d j then some (.bp d j c)else none|_=>none)
 |_=>none
def me (args:List SV) (ow:OW) (d:Nat):List jV->aX (SV×OW)
 |[]=> .fail
 |sg::r=>
  if aI sg.args&& sg.res.fresh&& sg.al.isEmpty then
   (match pk sg.args args ow with
   |some p=> .bnd (sg.res.z,sg.args.zo) (sg.den p.1) λy=>(match bV ow d (bH d sg.res y.1 0).2 with|some ow'=> .ret (PC (bH d sg.res y.1 0).1,ow')|none=> .fail)
   |none=>me args ow d r)
  else me args ow d r
def LX:Op->Bool
 | .call {callee:= .value _,.. }=>true
 |_=>false
def At (C:eB) (o:Op) (ρ:Operand->SV):Bool:=
 match o with
 | .call {callee:= .value f,.. }=>(match ρ f with| .fn (.func id) _ _=>(C.sigsOf id).any λa=> !aI a.res|_=>false)
 |_=>false
def s9 (C:eB) (o:Op) (ρ:Operand->SV) (ow:OW) (d:Nat):aX (SV×OW):=
 match o with
 | .call {callee:= .value f,args,.. }=>(match ρ f with| .fn (.func id) a b=>me (a++args.toList.map ρ++b) ow d (C.sigsOf id)|_=> .fail)
 |_=> .fail
def pL (C:eB) (E:aX (SV×OW)) (o:Op) (q:List Nat×Bool) (ρ:Operand->SV) (a:OW) (d:Nat):aX (SV×Option (List Nat×OW)):=
 if q.2 then E.bind λx=>if Dp q.1 x.2&& jL q.1 8 x.1&& (!vP q||BV q.1 d a x.2)&& (!qu q||vh q.1 d a x.2)then .ret (x.1,some (q.1,x.2))else .fail
 else if pK q then(match fX C.P o ρ (zh a)with|some s=>if LW s then .ret (s,none)else .fail|none=> .fail)
 else if vi q then(match fX C.P o ρ (nH a)with|some s=> .ret (s,none)|none=> .fail)
 else match As o ρ with
  |some x=> .ret (x,none)
  |none=>(match fX C.P o ρ a with
   |some s=> .ret (s,none)
   |none=>
    if At C o ρ then(s9 C o ρ a d).bind λx=>if Dp q.1 x.2&& jL q.1 8 x.1&& q.1.contains d then .ret (x.1,some ([d],x.2))else .fail
    else(Aq C o ρ a).bind λs=>if Dp q.1 a&& jL q.1 8 s then .ret (s,none)else .fail)
def mf (ow:OW):Option (List Nat×OW)->OW
 |some s=>bQ s.1 0 ow s.2
 |none=>ow
def PD (d:Nat) (o:Op) (q:List Nat×Bool):List Nat:=if q.2 then q.1 else if LX o then [d]else []
def LY (a b:List Nat):Bool:=a.all λd=> !b.contains d
def BW (d:Nat) (o:Op) (x y:List Nat×Bool):Bool:=LY (PD d o x) y.1||(x.2&& vP x&& pK y&& !y.2&& !y.1.contains d)||(x.2&& qu x&& !pK y&& vi y&& !y.2&& !y.1.contains d)
def pM (dk:Oper->Nat) (c:Array Oper) (ks:List (List Nat×Bool)) (i j:Nat):Bool:=iu c i j&& (match ks[i]?,ks[j]?,c[i]?,c[j]? with
 |some x,some y,some a,some b=>BW (dk a) a.op x y&& BW (dk b) b.op y x&& LY (PD (dk a) a.op x) (PD (dk b) b.op y)
 |_,_,_,_=>false)
def qv (o:Oper):Nat:=o.dst.getD 0
def rL (C:eB) (b:Option Nat->Nat) (a:Array Oper):List (Oper×Nat)->St->aX St
 |[],st=> .ret st
 |(o,i)::r,st=>
  match dG a o st.sl with
  |none=> .fail
  |some false=>rL C b a r ⟨bn st.sl o.dst (.tup []),st.ow⟩
  |some true=>(zg C o.op (iS st.sl) st.ow (b o.dst)).bind λx=>(rK (d9 a i) x.1).bind λs=>rL C b a r ⟨bn st.sl o.dst s,x.2⟩
def Au (C:eB) (a:Array Oper) (ow:OW):List (Oper×Nat)->List SV->aX (List SV)
 |[],sl=> .ret sl
 |(o,i)::r,sl=>
  match dG a o sl with
  |none=> .fail
  |some false=>Au C a ow r (bn sl o.dst (.tup []))
  |some true=>(Aq C o.op (iS sl) ow).noAmb.bind λx=>(rK (d9 a i) x).bind λs=>Au C a ow r (bn sl o.dst s)
def oK (C:eB) (a:Option Nat->Nat) (b:Array Oper) (ks:List (List Nat×Bool)):List (Oper×Nat)->St->aX St
 |[],st=> .ret st
 |(o,i)::r,st=>
  match dG b o st.sl with
  |none=> .fail
  |some false=>oK C a b ks r ⟨bn st.sl o.dst (.tup []),st.ow⟩
  |some true=>
   (match ks[i]? with
   |some q=>if cU st.ow then(pL C (zg C o.op (iS st.sl) (aL q.1 0 st.ow) (a o.dst)) o.op q (iS st.sl) (aL q.1 0 st.ow) (a o.dst)).noAmb.bind λx=>(rK (d9 b i) x.1).bind λs=>oK C a b ks r ⟨bn st.sl o.dst s,mf st.ow x.2⟩else .fail
   |none=> .fail)
def Pd (A:NN) (d:Nat) (a:Option Nat):Nat:=match A.keys.find? (λz=>a==some z.1)with|some z=>z.2|none=>d
inductive P5 where
 |normal
 |exit (i:Nat)
 |ret
def d7 (C:eB) (A:NN) (d:Option Nat->Nat):Code->Nat->St->aX (P5×St)
 | .skip,_,st=> .ret (.normal,st)
 | .region id ops draw,_,st=>
  if draw then(match A.draws.find? (λx=>x.1==id)with|some (_,ks)=>if lK ops (pM (λo=>d o.dst) ops ks)then(oK C d ops ks ops.toList.zipIdx st).bind λst=> .ret (.normal,st)else .fail|none=>if lK ops (iu ops)then(Au C ops st.ow ops.toList.zipIdx st.sl).bind λe=> .ret (.normal,⟨e,st.ow⟩)else .fail)
  else(rL C d ops ops.toList.zipIdx st).bind λst=> .ret (.normal,st)
 | .seq a b,bid,st=>(d7 C A d a bid st).bind λx=>match x.1 with| .normal=>d7 C A d b bid x.2|w=> .ret (w,x.2)
 | .cond c a b,bid,st=>
  (match iS st.sl c with
  | .lb t=>if t then d7 C A d a bid st else d7 C A d b bid st
  | .v .bool t=> .ite t (d7 C A d a bid st) (d7 C A d b bid st)
  |_=> .fail)
 | .block id c,_,st=>(d7 C A d c id st).bind λx=>match x.1 with| .exit i=>if i==id then .ret (.normal,x.2)else .ret (.exit i,x.2)|w=> .ret (w,x.2)
 | .exit id,_,st=> .ret (.exit id,st)
 | .ret,_,st=> .ret (.ret,st)
 |_,_,_=> .fail
def Av (P:Program) (st:St):List ResultVar->aX (List SV)
 |[]=> .ret []
 | .tmp t::r=>(Av P st r).bind λl=> .ret (iS st.sl (.tmp t)::l)
 | .cell a t::r=>(rG P t (iS st.sl (.tmp a)) st.ow).bind λs=>(Av P st r).bind λl=> .ret (s::l)
def LZ (C:eB) (fn:Func) (args:List SV) (ow:OW) (A:NN) (d:Nat):aX (SV×OW):=
 match fn.body with
 |none=> .fail
 |some c=>
  if args.length<=fn.ntmps then
   (d7 C A (Pd A d) c 0 ⟨args++List.replicate (fn.ntmps-args.length) .dead,ow⟩).bind λx=>match x.1 with
   | .exit _=> .fail
   |_=>(Av C.P x.2 fn.results.toList).bind λl=> .ret (PC l,x.2.ow)
  else .fail
def L0 (C:eB) (f:SV):Option (FuncId×Func×List SV×List SV):=
 match f with
 | .fn (.func id) a b=>if C.inl.any (λx=>x.1==id)then(match C.P.funcs[id]? with|some fn=>if !(fn.name== "runtime.NumGoroutine")&& !fn.body.isNone then some (id,fn,a,b)else none|none=>none)else none
 |_=>none
def P6 (C:eB) (f:FuncId) (d:Nat):NN:=match C.inl.find? (λx=>x.1==f)with|some x=>(match x.2.find? (λy=>y.1==d)with|some y=>y.2|none=> {})|none=> {}
def ta (C:eB) (o:Op) (ρ:Operand->SV) (ow:OW) (d:Nat):aX (SV×OW):=
 match o with
 | .call {callee:= .value f,args,.. }=>(match L0 C (ρ f)with|some q=>LZ C q.2.1 (q.2.2.1++args.toList.map ρ++q.2.2.2) ow (P6 C q.1 d) d|none=>zg C o ρ ow d)
 |o=>zg C o ρ ow d
def Aw {α:Type} (C:eB) (a:Array Oper):List (Oper×Nat)->St->(St->Option α)->Option α
 |[],st,k=>k st
 |(o,i)::r,st,k=>
  match dG a o st.sl with
  |none=>none
  |some false=>Aw C a r ⟨bn st.sl o.dst (.tup []),st.ow⟩ k
  |some true=>(ta C o.op (iS st.sl) st.ow (o.dst.getD 0)).run C.fuel λx=>split C.fuel (d9 a i) x.1 λs=>Aw C a r ⟨bn st.sl o.dst s,x.2⟩ k
def IN {α:Type} (C:eB) (a:Array Oper) (ow:OW):List (Oper×Nat)->List SV->(List SV->Option α)->Option α
 |[],sl,k=>k sl
 |(o,i)::r,sl,k=>
  match dG a o sl with
  |none=>none
  |some false=>IN C a ow r (bn sl o.dst (.tup [])) k
  |some true=>(Aq C o.op (iS sl) ow).run C.fuel λx=>split C.fuel (d9 a i) x λs=>IN C a ow r (bn sl o.dst s) k
def aX.runA {α β:Type} (n:Nat):aX β->(β->Option α)->Option α
 | .ret b,k=>k b
 | .fail,_=>none
 | .chk c t,k=>br n c (t.runA n k) none
 | .bnd _ m f,k=>bd n m λy=>(f y).runA n k
 | .amb _ _ _,_=>none
 | .ite c f g,k=>br n c (f.runA n k) (g.runA n k)
def vQ {α:Type} (C:eB) (a:Array Oper) (ow:OW):List (Oper×Nat)->List SV->(List SV->Option α)->Option α
 |[],sl,k=>k sl
 |(o,i)::r,sl,k=>
  match dG a o sl with
  |none=>none
  |some false=>vQ C a ow r (bn sl o.dst (.tup [])) k
  |some true=>(Aq C o.op (iS sl) ow).runA C.fuel λx=>split C.fuel (d9 a i) x λs=>vQ C a ow r (bn sl o.dst s) k
def rM {α:Type} (C:eB) (a:Array Oper) (ks:List (List Nat×Bool)):List (Oper×Nat)->St->(St->Option α)->Option α
 |[],st,k=>k st
 |(o,i)::r,st,k=>
  match dG a o st.sl with
  |none=>none
  |some false=>rM C a ks r ⟨bn st.sl o.dst (.tup []),st.ow⟩ k
  |some true=>
   (match ks[i]? with
   |some q=>if cU st.ow then(pL C (ta C o.op (iS st.sl) (aL q.1 0 st.ow) (qv o)) o.op q (iS st.sl) (aL q.1 0 st.ow) (qv o)).run C.fuel λx=>split C.fuel (d9 a i) x.1 λs=>rM C a ks r ⟨bn st.sl o.dst s,mf st.ow x.2⟩ k else none
   |none=>none)
def Dq:List (Nat×Kd)->Type
 |[]=>Unit
 |(_,k)::r=>k.T×Dq r
def nI:(l:List (Nat×Kd))->Dq l->List SV->List SV
 |[],_,sl=>sl
 |(d,k)::r,x,sl=>(nI r x.2 sl).set d (.v k x.1)
def vR (k:Kd) (s:SV):Option k.T:=
 match s with
 | .v k' x=>if h:k'=k then some (LK h x)else none
 | .lb b=>(match k with| .bool=>some b|_=>none)
 | .nils=>(match k with| .sl false _=>some []|_=>none)
 |_=>none
def kg:(l:List (Nat×Kd))->List SV->Option (Dq l)
 |[],_=>some ()
 |(d,k)::r,sl=>
  (match vR k (iS sl (.tmp d))with
  |some x=>(match kg r sl with|some y=>some (x,y)|none=>none)
  |none=>none)
structure Ks (α:Type)where
 normal:St->Option α
 exit:Nat->St->Option α
 ret:St->Option α
def gY:List (Nat×Sh)->Sh
 |[]=> .nil
 |(_,s)::r=> .cons s (gY r)
def qw (nt:Nat):(l:List (Nat×Sh))->(gY l).T->St
 |[],_=>⟨List.replicate nt .dead,List.replicate nt []⟩
 |(s,sh)::r,x=>
  let st:=qw nt r x.2
  let u:=bH s sh x.1 0
  ⟨st.sl.set s (u.1.headD .dead),st.ow.set s (u.2.map some)⟩
def pN (nt:Nat):List (Nat×Sh)->Bool
 |[]=>true
 |(s,_)::r=>decide (s<nt)&& !(r.map (·.1)).contains s&& pN nt r
def aG {A R:Type} (b:(A->Option R)->A->Option R):Nat->A->Option R
 |0,_=>none
 |n+1,x=>b (aG b n) x
def L3 {α:Type} (nt:Nat) (a:List (Nat×Sh)) (b:List (Nat×Nat×Nat×List Nat)) (F:St->(St->Option α)->Option α) (n:Nat) (x:(gY a).T):Option α:=aG (λG x=>F (LN b (qw nt a x)) λst=>if NO b st.sl st.ow then(match pk (gY a) (a.map λp=>iS st.sl (.tmp p.1)) st.ow with|some y=>G y.1|none=>none)else none) n x
def H8 {α:Type} (C:eB) (d:LA) (e:Nat) (a:Array Oper) (c:Bool) (st:St) (k:St->Option α):Option α:=
 (match d.joins.find? (λx=>x.1==e)with
 |some (_,kept)=>
  if c then(if lK a (iu a)then
   (vQ C a st.ow a.toList.zipIdx st.sl λb=>kg kept b).bind λp=>
   k ⟨nI kept p (a.toList.foldl (λb o=>bn b o.dst .dead) st.sl),st.ow⟩
  else none)else
   (IN C a st.ow a.toList.zipIdx st.sl λb=>kg kept b).bind λp=>
   k ⟨nI kept p (a.toList.foldl (λb o=>bn b o.dst .dead) st.sl),st.ow⟩
 |none=>
  if c then
   (match d.keys.find? (λx=>x.1==e)with
   |some (_,ks)=>if lK a (pM qv a ks)then rM C a ks a.toList.zipIdx st k else none
   |none=>if lK a (iu a)then vQ C a st.ow a.toList.zipIdx st.sl λb=>k ⟨b,st.ow⟩else none)
  else Aw C a a.toList.zipIdx st k)
def ef {α:Type} (C:eB) (d:LA) (nt:Nat):Code->Nat->St->Ks α->Option α
 | .skip,_,st,K=>K.normal st
 | .region id ops draw,_,st,K=>
  (match d.heads.find? (λx=>x.1==id)with
  |some (_,live)=>if pN nt live then(match pk (gY live) (live.map λp=>iS st.sl (.tmp p.1)) st.ow with
   |some y=>jn C.fuel (λx=>H8 C d id ops draw (qw nt live x) K.normal) y.1
   |none=>none)else none
  |none=>H8 C d id ops draw st K.normal)
 | .seq a b,bid,st,K=>ef C d nt a bid st {K with normal:=λe=>ef C d nt b bid e K}
 | .cond c a b,bid,st,K=>
  (match iS st.sl c with
  | .lb t=>if t then ef C d nt a bid st K else ef C d nt b bid st K
  | .v .bool t=>br C.fuel t (ef C d nt a bid st K) (ef C d nt b bid st K)
  |_=>none)
 | .block id c,_,st,K=>ef C d nt c id st {K with exit:=λi e=>if i==id then K.normal e else K.exit i e}
 | .loop c,bid,st,K=>
  (match d.loops.find? (λx=>x.1==bid)with
  |none=>none
  |some (_,live)=>if pN nt live then(match pk (gY live) (live.map λp=>iS st.sl (.tmp p.1)) st.ow with
   |some y=>L3 nt live ((d.al++d.lal).filter λq=>LL st.sl st.ow q&& ((live.map (·.1)).contains q.1&& (live.map (·.1)).contains q.2.1)) (λe k=>ef C d nt c bid e {K with normal:=k}) C.fuel y.1
   |none=>none)else none)
 | .exit id,_,st,K=>K.exit id st
 | .ret,_,st,K=>K.ret st
 |_,_,_,_=>none
def m4 (nt:Nat):(s:Sh)->s.T->Nat->St
 | .cons a b,x,i=>
  let st:=m4 nt b x.2 (i+1)
  let u:=bH i a x.1 0
  ⟨st.sl.set i (u.1.headD .dead),st.ow.set i (u.2.map some)⟩
 |_,_,_=>⟨List.replicate nt .dead,List.replicate nt []⟩
def k6:Sh->Nat->Bool
 | .cons a _,0=>a.noOuts
 | .cons _ b,i+1=>k6 b i
 |_,_=>true
def lL (fr:Nat->Bool):Code->Bool
 | .region _ ops _=>ops.toList.all λo=>match o.dst with|some d=>fr d|none=>true
 | .seq a b=>lL fr a&& lL fr b
 | .cond _ a b=>lL fr a&& lL fr b
 | .block _ c=>lL fr c
 | .loop c=>lL fr c
 |_=>true
def Sh.chain:Sh->Bool
 | .nil=>true
 | .cons _ b=>b.chain
 |_=>false
def L4 (C:eB) (fn:Func) (args a:Sh) (st:St):Option (a.T×args.Out):=(Av C.P st fn.results.toList).run C.fuel λl=>
 (match pk a l (kb l st.ow)with
 |some x=>(match gu args (st.sl.take args.len) x.2 with|some y=>some (x.1,y.1)|none=>none)
 |none=>none)
def nJ (C:eB) (b:LA) (fn:Func) (args a:Sh) (x:args.T):Option (a.T×args.Out):=
 match fn.body with
 |none=>none
 |some c=>
  if args.chain&& decide (args.len<=fn.ntmps)&& lL (k6 args) c then
  ef C b fn.ntmps c 0 (LN b.al (m4 fn.ntmps args x 0)) {normal:=L4 C fn args a,exit:=λ_ _=>none,ret:=L4 C fn args a}
  else none
def ap (h:Array Obj) (b:Nat):Option (Array Value):=
 match h[b]? with
 |some (.cells c _ _)=>some c
 |_=>none
def bP (r:Array Value) (o n:Nat):List Value:=(r.toList.drop o).take n
def bA {α:Type} (R:α->List Value->Prop) (n:Nat) (l:List α) (r:Array Value) (o:Nat):Prop:=o+l.length*n<=r.size/\∀i (a:i<l.length),R l[i] (bP r (o+i*n) n)
def Pe:Int⊕List UInt8->Value
 | .inl n=> .int .i64 n
 | .inr s=> .string ⟨s.toArray⟩
inductive qx {α:Type} (h:Array Obj) (ok:Nat->Prop) (n:Nat) (R:α->List Value->Prop):ck α->Value->Prop
 |leaf {lab:α} {b o c:Nat} {r:Array Value} {p:Option Addr}:ok b->ap h b=some r->o+n+1<=r.size->R lab (bP r o n)->r[o+n]?=some (.slice p 0 c)->qx h ok n R (.node lab []) (.pointer (some ⟨b,o,none⟩))
 |node {lab:α} {kids:List (ck α)} {b o c b' o':Nat} {r r':Array Value}:ok b->ap h b=some r->o+n+1<=r.size->R lab (bP r o n)->r[o+n]?=some (.slice (some ⟨b',o',none⟩) kids.length c)->kids.length<=c->ok b'->ap h b'=some r'->o'+kids.length<=r'.size->(∀i (hi:i<kids.length) (hr:o'+i<r'.size),qx h ok n R kids[i] r'[o'+i])->qx h ok n R (.node lab kids) (.pointer (some ⟨b,o,none⟩))
def qx.mono {α:Type} {h f:Array Obj} {ok ok':Nat->Prop} {n:Nat} {R g:α->List Value->Prop} (a:∀b r,ok b->ap h b=some r->ok' b/\ap f b=some r) (i:∀x cs,R x cs->g x cs) {x:ck α} {v:Value} (e:qx h ok n R x v):qx f ok' n g x v:=by
 induction e with
 |leaf hb hr hs hl hk=>obtain⟨c,d⟩:=a _ _ hb hr;exact .leaf c d hs (i _ _ hl) hk
 |node hb hr hs hl hk hc hb' hr' hs' _ ih=>obtain⟨c,d⟩:=a _ _ hb hr;obtain⟨j,k⟩:=a _ _ hb' hr';exact .node c d hs (i _ _ hl) hk hc j k hs' ih
def qx.ptr {α:Type} {h:Array Obj} {ok:Nat->Prop} {n:Nat} {R:α->List Value->Prop} {x:ck α} {v:Value} (e:qx h ok n R x v):∃b o,v= .pointer (some ⟨b,o,none⟩):=by
 cases e<;>exact⟨_,_,rfl⟩
def cz (h:Array Obj) (ok:Nat->Prop):(k:Kd)->k.T->List Value->Prop
 | .int kk,n,cs=>cs=[.int kk n]
 | .bool,b,cs=>cs=[.bool b]
 | .str,s,cs=>cs=[.string ⟨s.toArray⟩]
 | .err,b,cs=>(b=false/\cs=[.nilIface])\/(b=true/\∃t v,cs=[.iface t v])
 | .any,y,cs=>cs=[.iface y.1 (Pe y.2)]
 | .sl true _,_,_=>False
 | .sl false e,l,cs=>∃a c,cs=[.slice a l.length c]/\l.length<=c/\(l=[]\/∃b o r,a=some ⟨b,o,none⟩/\ok b/\ap h b=some r/\bA (λx cs=>cz h ok e x cs) e.n l r o)
 | .nil,_,cs=>cs=[]
 | .cons a b,x,cs=>∃c1 c2,cs=c1++c2/\cz h ok a x.1 c1/\cz h ok b x.2 c2
 | .tree a,x,cs=>∃v,cs=[v]/\qx h ok a.n (λy cs=>cz h ok a y cs) x v
def cz.length {h:Array Obj} {ok:Nat->Prop}:(k:Kd)-> {x:k.T}-> {cs:List Value}->cz h ok k x cs->cs.length=k.n
 | .int _,_,_,e=>by cases e;rfl
 | .bool,_,_,e=>by cases e;rfl
 | .str,_,_,e=>by cases e;rfl
 | .err,_,_,e=>by rcases e with⟨_,rfl⟩|⟨_,_,_,rfl⟩<;>rfl
 | .any,_,_,e=>by cases e;rfl
 | .sl true _,_,_,e=>e.elim
 | .sl false _,_,_,e=>by obtain⟨_,_,rfl,_⟩:=e;rfl
 | .nil,_,_,e=>by cases e;rfl
 | .cons a b,_,_,e=>by
  obtain⟨c1,c2,rfl,c,d⟩:=e;simp[Kd.n,cz.length a c,cz.length b d]
 | .tree _,_,_,e=>by obtain⟨_,rfl,_⟩:=e;rfl
def cz.mono {h j:Array Obj} {ok ok':Nat->Prop} (d:∀b r,ok b->ap h b=some r->ok' b/\ap j b=some r):(k:Kd)-> {x:k.T}-> {cs:List Value}->cz h ok k x cs->cz j ok' k x cs
 | .int _,_,_,e=>e
 | .bool,_,_,e=>e
 | .str,_,_,e=>e
 | .err,_,_,e=>e
 | .any,_,_,e=>e
 | .sl true _,_,_,e=>e
 | .sl false k,_,_,e=>by
  obtain⟨a,c,rfl,l,e⟩:=e;refine⟨a,c,rfl,l,?_⟩;rcases e with e|⟨b,o,r,ha,hb,hr,hs,he⟩
  ·exact .inl e
  ·obtain⟨f,g⟩:=d b r hb hr
   exact .inr ⟨b,o,r,ha,f,g,hs,λi m=>cz.mono d k (he i m)⟩
 | .nil,_,_,e=>e
 | .cons a b,_,_,e=>by
  obtain⟨c1,c2,rfl,n,p⟩:=e;exact⟨c1,c2,rfl,cz.mono d a n,cz.mono d b p⟩
 | .tree a,_,_,e=>by obtain⟨v,rfl,e⟩:=e;exact⟨v,rfl,e.mono d λ_ _ h=>cz.mono d a h⟩
def cz.any_heap {h c:Array Obj} {ok ok':Nat->Prop}:(k:Kd)->k.allOwn=true-> {x:k.T}-> {cs:List Value}->cz h ok k x cs->cz c ok' k x cs
 | .int _,_,_,_,e=>e
 | .bool,_,_,_,e=>e
 | .str,_,_,_,e=>e
 | .err,_,_,_,e=>e
 | .any,_,_,_,e=>e
 | .sl true _,_,_,_,e=>e
 | .sl false _,hk,_,_,_=>by simp[Kd.allOwn]at hk
 | .nil,_,_,_,e=>e
 | .cons a b,hk,_,_,e=>by
  simp[Kd.allOwn]at hk;obtain⟨c1,c2,rfl,d,f⟩:=e;exact⟨c1,c2,rfl,cz.any_heap a hk.1 d,cz.any_heap b hk.2 f⟩
 | .tree _,hk,_,_,_=>by simp[Kd.allOwn]at hk
def bA.mono {α:Type} {R a:α->List Value->Prop} {n:Nat} {l:List α} {r:Array Value} {o:Nat} (b:∀x cs,R x cs->a x cs) (e:bA R n l r o):bA a n l r o:=⟨e.1,λi c=>b _ _ (e.2 i c)⟩
def nK (h:Array Obj) (ok:Nat->Prop) (k:Kd) (x:k.T) (v:Value):Prop:=cz h ok k x v.cells.toList/\(k.isSt=true->(∃cs,v= .agg cs)/\k.leafy=true)/\(k.isSt=false->v.oneCell'=true)
def rN (h:Array Obj) (ok:Nat->Prop) (k:Kd) (l:List k.T) (v:Value) (d:List Nat):Prop:=k.good=true/\∃a c,v= .slice a l.length c/\l.length<=c/\((a=none/\l=[]/\c=0/\d=[])\/∃b o r et,a=some ⟨b,o,none⟩/\d=[b]/\h[b]?=some (.cells r et (0,0))/\bA (λx cs=>cz h ok k x cs) k.n l r o/\o+c*k.n<=r.size)
def cq (h:Array Obj) (ok:Nat->Prop):(s:Sh)->s.T->List Value->List Nat->Prop
 | .pur kd,x,vs,fp=>∃v,vs=[v]/\fp=[]/\nK h ok kd x v
 | .own k,l,vs,fp=>∃v,vs=[v]/\rN h ok k l v fp
 | .row k,l,vs,fp=>∃v,vs=[v]/\rN h ok k l v fp
 | .rows s,l,vs,fp=>∃v,vs=[v]/\s.elem=true/\∃a c,v= .slice a l.length c/\l.length<=c/\((a=none/\l=[]/\c=0/\fp=[])\/∃(b o:Nat) (r:Array Value) (et:TypeId) (fps:List (List Nat)),a=some ⟨b,o,none⟩/\fp=b::fps.flatten/\h[b]?=some (.cells r et (0,0))/\o+c*s.w<=r.size/\l.length<=fps.length/\(∀e∈fps.flatten,∃r et,h[e]?=some (Obj.cells r et (0,0)))/\∀i (g:i<l.length) (j:i<fps.length),cq h ok s l[i] (bP r (o+i*s.w) s.w) fps[i])
 | .nrw s,l,vs,fp=>∃v,vs=[v]/\s.elem=true/\∃a c,v= .slice a l.length c/\l.length<=c/\((a=none/\l=[]/\c=0/\fp=[])\/∃(b o:Nat) (r:Array Value) (et:TypeId) (fps:List (List Nat)),a=some ⟨b,o,none⟩/\fp=b::fps.flatten/\h[b]?=some (.cells r et (0,0))/\o+c*s.w<=r.size/\l.length<=fps.length/\(∀e∈fps.flatten,∃r et,h[e]?=some (Obj.cells r et (0,0)))/\∀i (g:i<l.length) (j:i<fps.length),cq h ok s l[i] (bP r (o+i*s.w) s.w) fps[i])
 | .box l,x,vs,fp=>∃b o r et d,vs=[.pointer (some ⟨b,o,none⟩)]/\fp=b::d/\h[b]?=some (.cells r et (0,0))/\o+l.len<=r.size/\cq h ok l x (bP r o l.len) d
 | .agg l,x,vs,fp=>∃cs,vs=[.agg cs.toArray]/\cq h ok l x cs fp
 | .fn f n l,x,vs,fp=>∃xs ys,vs=[.func f xs.toArray ys.toArray]/\xs.length=n/\cq h ok l x (xs++ys) fp
 | .ign,_,vs,fp=>∃v,vs=[v]/\fp=[]
 | .nl,_,vs,fp=>vs=[.slice none 0 0]/\fp=[]
 | .nil,_,vs,fp=>vs=[]/\fp=[]
 | .cons a b,x,vs,fp=>∃v r f1 f2,vs=v::r/\fp=f1++f2/\cq h ok a x.1 [v] f1/\cq h ok b x.2 r f2
def iw {fps:List (List Nat)} {i:Nat} (a:i<fps.length) {b:Nat} (c:b∈fps[i]):b∈fps.flatten:=List.mem_flatten.2 ⟨_,a0h a,c⟩
def nK.mono {h a:Array Obj} {ok ok':Nat->Prop} (c:∀b r,ok b->ap h b=some r->ok' b/\ap a b=some r) {k:Kd} {x:k.T} {v:Value} (e:nK h ok k x v):nK a ok' k x v:=⟨cz.mono c _ e.1,e.2⟩
def rN.mono {h d:Array Obj} {ok ok':Nat->Prop} (i:∀b r,ok b->ap h b=some r->ok' b/\ap d b=some r) {k:Kd} {l:List k.T} {v:Value} {f:List Nat} (j:∀b∈f,d[b]?=h[b]?) (e:rN h ok k l v f):rN d ok' k l v f:=by
 obtain⟨m,a,c,n,g,e⟩:=e;refine⟨m,a,c,n,g,?_⟩;rcases e with e|⟨b,o,r,et,ha,rfl,hb,hel,hs⟩
 ·exact .inl e
 ·exact .inr ⟨b,o,r,et,ha,rfl,by rw[j b (by simp),hb],hel.mono λx cs p=>cz.mono i _ p,hs⟩
def cq.mono {h n:Array Obj} {ok ok':Nat->Prop} (g:∀b r,ok b->ap h b=some r->ok' b/\ap n b=some r):(s:Sh)-> {x:s.T}-> {vs:List Value}-> {p:List Nat}->(∀b∈p,n[b]?=h[b]?)->cq h ok s x vs p->cq n ok' s x vs p
 | .pur _,_,_,_,_,e=>by obtain⟨v,d,q,e⟩:=e;exact⟨v,d,q,e.mono g⟩
 | .own _,_,_,_,hf,e=>by obtain⟨v,d,e⟩:=e;exact⟨v,d,e.mono g hf⟩
 | .row _,_,_,_,hf,e=>by obtain⟨v,d,e⟩:=e;exact⟨v,d,e.mono g hf⟩
 | .rows s,_,_,_,hf,e| .nrw s,_,_,_,hf,e=>by
  obtain⟨v,w,y,a,c,t,z,e⟩:=e;refine⟨v,w,y,a,c,t,z,?_⟩;rcases e with e|⟨b,o,r,et,fps,t,rfl,hr,hc,hn,hj,he⟩
  ·exact .inl e
  ·exact .inr ⟨b,o,r,et,fps,t,rfl,by rw[hf b (by simp),hr],hc,hn,λf j=>by rw[hf f (by simp only[a1s];exact .inr j)];exact hj f j,λi A k=>cq.mono g s (λf j=>hf f (by simp only[a1s];exact .inr (iw k j))) (he i A k)⟩
 | .box l,_,_,_,hf,e=>by
  obtain⟨b,o,r,et,u,d,rfl,B,C,e⟩:=e;exact⟨b,o,r,et,u,d,rfl,by rw[hf b (by simp),B],C,cq.mono g l (λf m=>hf f (by simp[m])) e⟩
 | .agg l,_,_,_,hf,e=>by obtain⟨cs,d,e⟩:=e;exact⟨cs,d,cq.mono g l hf e⟩
 | .fn _ _ l,_,_,_,hf,e=>by obtain⟨xs,ys,d,q,e⟩:=e;exact⟨xs,ys,d,q,cq.mono g l hf e⟩
 | .ign,_,_,_,_,e=>e
 | .nl,_,_,_,_,e=>e
 | .nil,_,_,_,_,e=>e
 | .cons a b,_,_,_,hf,e=>by
  obtain⟨v,r,f1,f2,d,rfl,D,E⟩:=e;exact⟨v,r,f1,f2,d,rfl,cq.mono g a (λf m=>hf f (by simp[m])) D,cq.mono g b (λf m=>hf f (by simp[m])) E⟩
abbrev Gh:=Nat->Nat->Nat->Option (Nat×Nat)
def aj (ow:OW) (d j:Nat):Option (Option OB):=(ow[d]?).bind λl=>l[j]?
def lM (ow:OW) (d j:Nat):co ow d j=(aj ow d j).bind id:=by
 unfold co aj
 cases ow[d]? with
 |none=>rfl
 |some l=>cases h:l[j]?<;>simp[h]
def aH {ow:OW} {d j:Nat} {o:OB} (h:co ow d j=some o):aj ow d j=some (some o):=by
 rw[lM]at h
 cases hn:aj ow d j with
 |none=>simp[hn]at h
 |some x=>simp[hn]at h;rw[h]
def bB:Option (Option OB)->Prop
 |some (some (.box _))=>True
 |some (some (.row _ _ _))=>True
 |some (some (.nrow _ _ _))=>True
 |_=>False
def cm (G:Gh) (ow:OW) (b:Nat):Prop:=∃d j i o,bB (aj ow d j)/\G d j i=some (b,o)
def nL (h:Array Obj) (G:Gh) (n:Nat) (d j off len:Nat) (e:Value):Prop:=∃a c,e= .slice a len c/\len<=c/\((G d j 0=none/\a=none/\c=0)\/∃b o f r,G d j 0=some (b,o)/\a=some ⟨b,f,none⟩/\ap h b=some r/\(0<c->f=o+off*n)/\f+c*n<=r.size)
def cV (h:Array Obj) (G:Gh) (ow:OW) (d j off:Nat) (len:Option Nat) (b:Value):Prop:=
 match aj ow d j with
 |none=>False
 |some none=>b.oneCell'=true
 |some (some (.box _))=>False
 |some (some (.row k _ l))=>off+len.getD l.length<=l.length/\nL h G k.n d j off (len.getD l.length) b
 |some (some (.frow k _ l))=>off+len.getD l.length<=l.length/\nL h G k.n d j off (len.getD l.length) b
 |some (some (.nrow k l _))=>off+len.getD l.length<=l.length/\nL h G k.w d j off (len.getD l.length) b
 |some (some (.lrow n))=>∃a c,b= .slice a (len.getD n) c
inductive ct (h:Array Obj) (ok:Nat->Prop) (G:Gh) (ow:OW):SV->Value->Prop where
 |v {k:Kd} {x:k.T} {val:Value}:k.isSt=false->cz h ok k x [val]->ct h ok G ow (.v k x) val
 |lb (b:Bool):ct h ok G ow (.lb b) (.bool b)
 |dead (val:Value):ct h ok G ow .dead val
 |nils:ct h ok G ow .nils (.slice none 0 0)
 |agg {l:List SV} {vs:List Value}:l.length=vs.length->(∀i (h1:i<l.length) (h2:i<vs.length),ct h ok G ow l[i] vs[i])->ct h ok G ow (.agg l) (.agg vs.toArray)
 |tup {l:List SV} {vs:List Value}:l.length=vs.length->(∀i (h1:i<l.length) (h2:i<vs.length),ct h ok G ow l[i] vs[i])->ct h ok G ow (.tup l) (.tuple vs.toArray)
 |fn {f:Fn} {a b:List SV} {xs ys:List Value}:a.length=xs.length->b.length=ys.length->(∀i (h1:i<a.length) (h2:i<xs.length),ct h ok G ow a[i] xs[i])->(∀i (h1:i<b.length) (h2:i<ys.length),ct h ok G ow b[i] ys[i])->ct h ok G ow (.fn f a b) (.func f xs.toArray ys.toArray)
 |wh {d j ver:Nat} {val:Value}:cV h G ow d j 0 none val->ct h ok G ow (.wh d j ver []) val
 |os {d j ver off len:Nat} {val:Value}:cV h G ow d j off (some len) val->ct h ok G ow (.os d j ver [] off len) val
 |bp {d j c:Nat} {val:Value}:(match aj ow d j with
  |none=>False
  |some none=>val.oneCell'=true
  |some (some (.box _))=>∃b o,G d j 0=some (b,o)/\val= .pointer (some ⟨b,o+c,none⟩)
  |some (some (.lrow _))=>val.oneCell'=true
  |_=>False)->ct h ok G ow (.bp d j c) val
 |rp {d j ver e c:Nat} {val:Value}:(match aj ow d j with
  |none=>False
  |some none=>val.oneCell'=true
  |some (some (.row k _ l))=>e<l.length/\∃b o,G d j 0=some (b,o)/\val= .pointer (some ⟨b,o+e*k.n+c,none⟩)
  |some (some (.frow k _ l))=>e<l.length/\∃b o,G d j 0=some (b,o)/\val= .pointer (some ⟨b,o+e*k.n+c,none⟩)
  |some (some (.nrow k l _))=>e<l.length/\∃b o,G d j 0=some (b,o)/\val= .pointer (some ⟨b,o+e*k.w+c,none⟩)
  |some (some (.lrow _))=>val.oneCell'=true
  |_=>False)->ct h ok G ow (.rp d j ver [] e c) val
 |ip {k:Kd} {x:k.T} {b o:Nat} {r:Array Value}:k.leafy=true->ok b->ap h b=some r->o+k.n<=r.size->cz h ok k x (bP r o k.n)->ct h ok G ow (.ip k x) (.pointer (some ⟨b,o,none⟩))
def db (h:Array Obj) (ok:Nat->Prop) (G:Gh) (ow:OW) (d j:Nat):OB->Prop
 | .box a=>(∀i,G d j (i+1)=none)/\∃b o r et,G d j 0=some (b,o)/\h[b]?=some (.cells r et (0,0))/\o+a.length<=r.size/\∀i (f:i<a.length) (g:o+i<r.size),ct h ok G ow a[i] r[o+i]
 | .row k _ l=>(∀i,G d j (i+1)=none)/\k.good=true/\(match G d j 0 with
  |none=>l=[]
  |some (b,o)=>∃r et,h[b]?=some (.cells r et (0,0))/\bA (λx cs=>cz h ok k x cs) k.n l r o)
 | .frow k _ l=>k.good=true/\(match G d j 0 with
  |none=>l=[]
  |some (b,o)=>l=[]\/(ok b/\∃r,ap h b=some r/\bA (λx cs=>cz h ok k x cs) k.n l r o))
 | .nrow s l foc=>s.elem=true/\∃fps:List (List Nat),(∀i,G d j (i+1)=(fps.flatten[i]?).map λb=>(b,0))/\(match G d j 0 with
  |none=>l=[]/\foc=none/\fps=[]
  |some (b,o)=>∃r et,h[b]?=some (.cells r et (0,0))/\o+l.length*s.w<=r.size/\l.length<=fps.length/\(∀m∈fps.flatten,∃r et,h[m]?=some (Obj.cells r et (0,0)))/\
   (∀i (f:i<l.length) (p:i<fps.length),(∀a,foc≠some (i,a))->cq h ok s l[i] (bP r (o+i*s.w) s.w) fps[i])/\
   ∀e a,foc=some (e,a)->e<l.length/\a.length=s.w/\∀c (q:c<a.length) (g:o+e*s.w+c<r.size),ct h ok G ow a[c] r[o+e*s.w+c])
 | .lrow _=>True
def cR (F:Nat->Prop) (G:Gh) (ow:OW) (b:Nat):Prop:=¬F b/\¬cm G ow b
structure bz (F:Nat->Prop) (G:Gh) (ow:OW) (h:Array Obj):Prop where
 obs:∀d j o,aj ow d j=some (some o)->db h (cR F G ow) G ow d j o
 apart:∀d j i d' j' i' b o o',bB (aj ow d j)->bB (aj ow d' j')->G d j i=some (b,o)->G d' j' i'=some (b,o')->d=d'/\j=j'/\i=i'
 notF:∀b,cm G ow b->¬F b
def Sv (F:Nat->Prop) (G:Gh) (ow:OW) (h:Array Obj) (s:SV) (v:Value):Prop:=ct h (cR F G ow) G ow s v
def dn (F:Nat->Prop) (G:Gh) (ow:OW) (h:Array Obj) (l:List SV) (vs:List Value):Prop:=l.length=vs.length/\∀i (a:i<l.length) (b:i<vs.length),Sv F G ow h l[i] vs[i]
structure fh (I:Nat->Prop) (w0 w:World):Prop where
 size:w0.heap.size<=w.heap.size
 heap:∀b,b<w0.heap.size->¬I b->w.heap[b]?=w0.heap[b]?
 cells:∀(b:Nat) (r:Array Value) (et:TypeId) (f:Nat×Nat),w0.heap[b]?=some (Obj.cells r et f)->∃r':Array Value,w.heap[b]?=some (Obj.cells r' et f)/\r'.size=r.size
 os:w.os=w0.os
 output:w.output=w0.output
 tape:w.tape=w0.tape
structure Qj (F I:Nat->Prop) (w0:World) (st:St) (a:Act) (w:World):Prop where
 ex:∃G,dn F G st.ow w.heap st.sl a.tmps.toList/\bz F G st.ow w.heap/\∀b,cm G st.ow b->I b\/w0.heap.size<=b
 kept:fh I w0 w
 defers:a.defers=[]
 wide:∀b,F b->b<w0.heap.size
 lens:st.ow.length=st.sl.length
def aX.can {β:Type}:aX β->(β->Prop)->Prop
 | .ret b,Q=>Q b
 | .fail,_=>False
 | .chk c t,Q=>c=true/\t.can Q
 | .bnd _ m f,Q=>∃y,m=some y/\(f y).can Q
 | .amb c f g,Q=>if c=true then f.can Q/\g.can Q else g.can Q
 | .ite c f g,Q=>if c=true then f.can Q else g.can Q
def vS {α:Type} {x y:Option α} {r:α} (h:mY x y=some r):x=some r/\y=some r:=by
 unfold mY at h;split at h
 ·rename_i e;exact⟨h,e▸h⟩
 ·cases h
def aX.can_of_run {α β:Type} {n:Nat} {k:β->Option α} {r:α}:(c:aX β)->c.run n k=some r->c.can λb=>k b=some r
 | .ret _,h=>h
 | .fail,h=>by cases h
 | .chk c t,h=>by
  rw[aX.run,eA]at h
  cases c with
  |false=>cases h
  |true=>exact⟨rfl,aX.can_of_run t h⟩
 | .bnd _ m f,h=>by
  rw[aX.run,Dm]at h
  cases m with
  |none=>cases h
  |some y=>exact⟨y,rfl,aX.can_of_run (f y) h⟩
 | .amb c f g,h=>by
  rw[aX.run,eA]at h
  cases c with
  |false=>exact aX.can_of_run g h
  |true=>
   obtain⟨a,d⟩:=vS (x:=f.run n k) (y:=g.run n k) h;exact⟨aX.can_of_run f a,aX.can_of_run g d⟩
 | .ite c f g,h=>by
  rw[aX.run,eA]at h
  cases c with
  |false=>exact aX.can_of_run g h
  |true=>exact aX.can_of_run f h
def aX.can_bind {β γ:Type} {Q:γ->Prop} {f:β->aX γ}:(c:aX β)->(c.bind f).can Q->c.can λb=>(f b).can Q
 | .ret _,h=>h
 | .fail,h=>h
 | .chk _ t,h=>⟨h.1,aX.can_bind t h.2⟩
 | .bnd _ _ g,h=>by obtain⟨y,a,h⟩:=h;exact⟨y,a,aX.can_bind (g y) h⟩
 | .amb c f g,h=>by
  cases c with
  |false=>exact aX.can_bind g h
  |true=>exact⟨aX.can_bind f h.1,aX.can_bind g h.2⟩
 | .ite c f g,h=>by
  cases c with
  |false=>exact aX.can_bind g h
  |true=>exact aX.can_bind f h
def aX.can_mono {β:Type} {Q d:β->Prop} (a:∀b,Q b->d b):(c:aX β)->c.can Q->c.can d
 | .ret _,h=>a _ h
 | .fail,h=>h
 | .chk _ t,h=>⟨h.1,aX.can_mono a t h.2⟩
 | .bnd _ _ g,h=>by obtain⟨y,e,h⟩:=h;exact⟨y,e,aX.can_mono a (g y) h⟩
 | .amb c f g,h=>by
  cases c with
  |false=>exact aX.can_mono a g h
  |true=>exact⟨aX.can_mono a f h.1,aX.can_mono a g h.2⟩
 | .ite c f g,h=>by
  cases c with
  |false=>exact aX.can_mono a g h
  |true=>exact aX.can_mono a f h
def aX.can_ofOpt {β:Type} {Q:β->Prop} {o:Option β} (h:(aX.ofOpt o).can Q):∃b,o=some b/\Q b:=by
 cases o with
 |none=>exact h.elim
 |some b=>exact⟨b,rfl,h⟩
def aY {r:Array Value} {o n:Nat} (h:o+n<=r.size):(bP r o n).length=n:=by simp[bP];omega
def aM {r:Array Value} {o n i:Nat} (h:i<n):(bP r o n)[i]?=r[o+i]?:=by
 simp[bP,h]
def gw {r:Array Value} {o n p m:Nat} (h:p+m<=n):bP r (o+p) m=((bP r o n).drop p).take m:=by
 simp only[bP,a8o,a4n,List.take_take]
 congr 1
 omega
def bL {w:World} {b:Nat} {r:Array Value} (h:ap w.heap b=some r) (i:Nat):w.cell? ⟨b,i,none⟩=r[i]?:=by
 unfold ap at h;unfold World.cell?;split at h
 ·rename_i c _ _ e;cases h;simp[e]
 ·cases h
def aO {h:Array Obj} {b:Nat} {r:Array Value} {e:TypeId} {f:Nat×Nat} (a:h[b]?=some (.cells r e f)):ap h b=some r:=by simp[ap,a]
def Dr {w:World} {b o n:Nat} {r:Array Value} (h:ap w.heap b=some r):w.rangeAt b o (bP r o n):=by
 intro j v a;rw[bL h];have c:j<n:=by
  rcases a3y j n with h'|h'
  ·exact h'
  ·rw[a1g (by simp[bP];omega)]at a;cases a
 rw[aM c]at a;exact a
def qy (a:Bool) (cs:List Value):Value:=if a then .agg cs.toArray else cs.headD undef
def mg {P:Program} {t:TypeId} {d:TypeDesc} (a:P.underlying t=some d) (w:World):(isAgg t).run P w= .ok (dU P t) w:=by
 unfold isAgg dU ee;rw[Sem.run_bind,run_underlying a w]
 cases d<;>simp[a]
def Ax {P:Program} {t:TypeId} {i:TypeInfo} (a:P.info? t=some i) (w:World):(sizeOf t).run P w= .ok (cP P t) w:=by
 simp[sizeOf,typeInfo,a,cP,Program.cellsOf]
def g9 {P:Program} {t:TypeId} {d:TypeDesc} (a:P.underlying t=some d):∃i,P.info? t=some i:=by
 unfold Program.underlying at a
 cases h:P.info? t with
 |none=>simp[h]at a
 |some i=>exact⟨i,rfl⟩
def eW {P:Program} {w:World} {t:TypeId} {d:TypeDesc} {b o n:Nat} {r:Array Value} (a:P.underlying t=some d) (e:ap w.heap b=some r) (c:n=if dU P t then cP P t else 1) (g:o+n<=r.size):(Instr.loadAt t (.pointer (some ⟨b,o,none⟩))).run P w= .ok (qy (dU P t) (bP r o n)) w:=by
 obtain⟨i,f⟩:=g9 a
 cases ha:dU P t with
 |true=>
  simp only[ha,a2c]at c;rw[run_loadAt_mid w b o t (bP r o n) d (Dr e) a (by unfold dU ee at ha;rw[a]at ha;cases d<;>simp_all[TypeDesc.isRow]) (by rw[aY g,f,c];simp[cP,Program.cellsOf,f])];simp[qy]
 |false=>
  simp only[ha,a0r,a1y]at c;subst c;have h:w.cell? ⟨b,o,none⟩=some (r[o]'(by omega)):=by rw[bL e];simp
  have k:bP r o 1=[r[o]'(by omega)]:=by
   apply a2g;intro j
   cases j with
   |zero=>rw[aM (by omega)];simp
   |succ j=>simp[bP];omega
  simp[Instr.loadAt,Instr.sureAddr,loadVar,mg a,ha,qy,run_load,h,k,Result.andThen]
section
variable {F:Nat->Prop} {G:Gh} {ow:OW} {w:World} {P:Program}
def dn.nil:dn F G ow w.heap [] []:=⟨rfl,λi h=>by simp at h⟩
def dn.cons {s:SV} {l:List SV} {v:Value} {vs:List Value} (h:Sv F G ow w.heap s v) (a:dn F G ow w.heap l vs):dn F G ow w.heap (s::l) (v::vs):=⟨by simp[a.1],λi b c=>by
 cases i with
 |zero=>exact h
 |succ i=>exact a.2 i (by simpa using b) (by simpa using c)⟩
def dn.uncons {s:SV} {l:List SV} {vs:List Value} (c:dn F G ow w.heap (s::l) vs):∃v a,vs=v::a/\Sv F G ow w.heap s v/\dn F G ow w.heap l a:=by
 obtain⟨b,h⟩:=c
 cases vs with
 |nil=>simp at b
 |cons v a=>exact⟨v,a,rfl,h 0 (by simp) (by simp),by simpa using b,λi d e=>h (i+1) (by simpa using d) (by simpa using e)⟩
def dn.drop {l:List SV} {vs:List Value} (a:dn F G ow w.heap l vs) (n:Nat):dn F G ow w.heap (l.drop n) (vs.drop n):=⟨by simp[a.1],λi b c=>by simp only[a6k];exact a.2 _ _ _⟩
def dn.take {l:List SV} {vs:List Value} (a:dn F G ow w.heap l vs) (n:Nat):dn F G ow w.heap (l.take n) (vs.take n):=⟨by simp[a.1],λi b c=>by simp only[a5d];exact a.2 _ _ _⟩
def dn.append {l d:List SV} {vs a:List Value} (b:dn F G ow w.heap l vs) (c:dn F G ow w.heap d a):dn F G ow w.heap (l++d) (vs++a):=by
 refine⟨by simp[b.1,c.1],λi e f=> ?_⟩;rcases a3y i l.length with h|h
 ·rw[a1j h,a1j (b.1▸h)]
  exact b.2 _ _ _
 ·rw[a1z h,a1z (b.1▸h)]
  simp only[b.1];exact c.2 _ _ _
def dn.agg {l:List SV} {vs:List Value} (a:dn F G ow w.heap l vs):Sv F G ow w.heap (.agg l) (.agg vs.toArray):= .agg a.1 a.2
def Sv.agg_inv {l:List SV} {v:Value} (h:Sv F G ow w.heap (.agg l) v):∃vs,v= .agg vs.toArray/\dn F G ow w.heap l vs:=by
 cases h with
 |agg h1 h2=>exact⟨_,rfl,h1,h2⟩
def Sv.tup_inv {l:List SV} {v:Value} (h:Sv F G ow w.heap (.tup l) v):∃vs,v= .tuple vs.toArray/\dn F G ow w.heap l vs:=by
 cases h with
 |tup h1 h2=>exact⟨_,rfl,h1,h2⟩
def mh:(k:Kd)-> {x:k.T}-> {cs:List Value}->(k.leafy=true)->cz w.heap (cR F G ow) k x cs->dn F G ow w.heap (ma k x) cs
 | .nil,_,_,_,e=>by cases e;exact .nil
 | .cons a b,x,cs,hk,e=>by
  obtain⟨c1,c2,rfl,d,g⟩:=e;simp only[Kd.leafy,a0f,a2p]at hk;have c:=cz.length a d;have f:a.n=1:=by cases a<;>simp_all[Kd.n,Kd.isSt]
  obtain⟨v,rfl⟩:∃v,c1=[v]:=by
   match c1,c with
   |[v],_=>exact⟨v,rfl⟩
   |[],c=>simp[f]at c
   |_::_::_,c=>simp[f]at c
  exact .cons (.v hk.1 d) (mh b hk.2 g)
 | .int _,_,_,hk,_=>by cases hk
 | .bool,_,_,hk,_=>by cases hk
 | .str,_,_,hk,_=>by cases hk
 | .err,_,_,hk,_=>by cases hk
 | .any,_,_,hk,_=>by cases hk
 | .sl _ _,_,_,hk,_=>by cases hk
 | .tree _,_,_,hk,_=>by cases hk
def F3 {h:Array Obj} {ok:Nat->Prop}:(k:Kd)-> {x:k.T}-> {cs:List Value}->cz h ok k x cs->cz h ok k.ch (O4 k x) cs
 | .int _,_,cs,e=>⟨cs,[],by simp,e,rfl⟩
 | .bool,_,cs,e=>⟨cs,[],by simp,e,rfl⟩
 | .str,_,cs,e=>⟨cs,[],by simp,e,rfl⟩
 | .err,_,cs,e=>⟨cs,[],by simp,e,rfl⟩
 | .any,_,cs,e=>⟨cs,[],by simp,e,rfl⟩
 | .sl _ _,_,cs,e=>⟨cs,[],by simp,e,rfl⟩
 | .nil,_,_,e=>e
 | .cons _ _,_,_,e=>e
 | .tree _,_,cs,e=>⟨cs,[],by simp,e,rfl⟩
def L5 (k:Kd):k.ch.n=k.n:=by cases k<;>simp[Kd.ch,Kd.isSt,Kd.n]
def oL {h:Array Obj} {ok:Nat->Prop}:(k:Kd)->k.leafy=true-> {x:k.T}-> {cs:List Value}->(c:Nat)-> {y:Sigma Kd.T}->jr k x c=some y->cz h ok k x cs->c+y.1.n=k.n/\y.1.leafy=true/\cz h ok y.1 y.2 (cs.drop c)
 |k,hk,x,cs,0,y,hy,e=>by
  have:y=⟨k,x⟩:=by unfold jr at hy;cases k<;>simp_all
  subst this;exact⟨by simp,hk,by simpa using e⟩
 | .cons a b,hk,x,cs,c+1,y,hy,e=>by
  obtain⟨c1,c2,rfl,g,i⟩:=e;simp only[Kd.leafy,a0f,a2p]at hk;have d:=cz.length a g;have f:a.n=1:=by cases a<;>simp_all[Kd.n,Kd.isSt]
  obtain⟨v,rfl⟩:∃v,c1=[v]:=by
   match c1,d with
   |[v],_=>exact⟨v,rfl⟩
   |[],d=>simp[f]at d
   |_::_::_,d=>simp[f]at d
  obtain⟨m,j,l⟩:=oL b hk.2 c (by simpa [jr]using hy) i;exact⟨by simp only[Kd.n,f];omega,j,by simpa using l⟩
 | .nil,_,_,_,_+1,_,hy,_=>by simp[jr]at hy
 | .int _,hk,_,_,_+1,_,_,_=>by cases hk
 | .bool,hk,_,_,_+1,_,_,_=>by cases hk
 | .str,hk,_,_,_+1,_,_,_=>by cases hk
 | .err,hk,_,_,_+1,_,_,_=>by cases hk
 | .any,hk,_,_,_+1,_,_,_=>by cases hk
 | .sl _ _,hk,_,_,_+1,_,_,_=>by cases hk
 | .tree _,hk,_,_,_+1,_,_,_=>by cases hk
def jh:(k:Kd)->k.leafy=true->(x:k.T)->(ma k x).length=k.n
 | .nil,_,_=>rfl
 | .cons a b,hk,x=>by
  simp only[Kd.leafy,a0f,a2p]at hk;have c:a.n=1:=by cases a<;>simp_all[Kd.n,Kd.isSt]
  simp[ma,Kd.n,c,jh b hk.2];omega
 | .int _,hk,_=>by cases hk
 | .bool,hk,_=>by cases hk
 | .str,hk,_=>by cases hk
 | .err,hk,_=>by cases hk
 | .any,hk,_=>by cases hk
 | .sl _ _,hk,_=>by cases hk
 | .tree _,hk,_=>by cases hk
def eK {t:TypeId} {l:List SV} {vs:List Value} {s:SV} (c:dn F G ow w.heap l vs) (h:dD P t l=some s):(∃d,P.underlying t=some d)/\(0<if dU P t then cP P t else 1)/\(if dU P t then cP P t else 1)<=l.length/\Sv F G ow w.heap s (qy (dU P t) (vs.take (if dU P t then cP P t else 1))):=by
 unfold dD at h;split at h
 ·cases h
 rename_i d e;refine⟨⟨d,e⟩,?_⟩
 cases ha:dU P t with
 |true=>
  simp only[ha,a2c]at h⊢;split at h
  ·rename_i b
   cases h
   refine⟨b.1,b.2,?_⟩;simp only[qy,a2c];exact(c.take _).agg
  ·cases h
 |false=>
  simp only[ha,a0r,a1y]at h⊢
  cases l with
  |nil=>cases h
  |cons a r=>
   cases h
   obtain⟨v,f,rfl,g,_⟩:=c.uncons;exact⟨by simp,by simp,by simpa [qy]using g⟩
def Pf (z:bz F G ow w.heap) {d j e c:Nat} {i:List (Nat×Nat)} {r:Sigma λk:Kd=>List k.T} (m:nw ow d j i=some r) (u:e<r.2.length) {h:Value}
 (t:match aj ow d j with
  |none=>False
  |some none=>h.oneCell'=true
  |some (some (.row k _ l))=>e<l.length/\∃b o,G d j 0=some (b,o)/\h= .pointer (some ⟨b,o+e*k.n+c,none⟩)
  |some (some (.frow k _ l))=>e<l.length/\∃b o,G d j 0=some (b,o)/\h= .pointer (some ⟨b,o+e*k.n+c,none⟩)
  |some (some (.nrow k l _))=>e<l.length/\∃b o,G d j 0=some (b,o)/\h= .pointer (some ⟨b,o+e*k.w+c,none⟩)
  |some (some (.lrow _))=>h.oneCell'=true
  |_=>False):
 ∃b o f,G d j 0=some (b,o)/\h= .pointer (some ⟨b,o+e*r.1.n+c,none⟩)/\ap w.heap b=some f/\r.1.good=true/\bA (λx cs=>cz w.heap (cR F G ow) r.1 x cs) r.1.n r.2 f o:=by
 unfold nw at m;split at m
 ·rename_i k ver l v
  cases m
  have p:=aH v;simp only[p]at t;obtain⟨_,b,o,q,rfl⟩:=t;obtain⟨_,a,s⟩:=z.obs d j _ p;simp only[q]at s;obtain⟨f,et,y,g⟩:=s;exact⟨b,o,f,q,rfl,aO y,a,g⟩
 ·rename_i k ver l v
  cases m
  have p:=aH v;simp only[p]at t;obtain⟨_,b,o,q,rfl⟩:=t;obtain⟨a,s⟩:=z.obs d j _ p;simp only[q]at s;rcases s with rfl|⟨_,f,y,g⟩
  ·simp at u
  ·exact⟨b,o,f,q,rfl,y,a,g⟩
 ·cases m
def pO:(s:Sh)->s.elem=true-> {x:s.T}-> {vs:List Value}-> {c:List Nat}->cq w.heap (cR F G ow) s x vs c->dn F G ow w.heap (vD s x) vs
 | .pur kd,hs,x,vs,c,e=>by
  obtain⟨v,rfl,_,d,_,g⟩:=e;have f:kd.isSt=false:=by simpa using(a0f _ _▸hs:kd.noOwn=true/\(!kd.isSt)=true).2
  have:v.cells= #[v]:=by have:=g f;cases v<;>simp_all[Value.cells,Value.oneCell']
  rw[this]at d;exact .cons (.v f d) .nil
 | .own _,_,_,_,_,e=>by obtain⟨v,rfl,_⟩:=e;exact .cons (.dead v) .nil
 | .rows _,_,_,_,_,e=>by obtain⟨v,rfl,_⟩:=e;exact .cons (.dead v) .nil
 | .nil,_,_,_,_,e=>by rw[e.1];exact .nil
 | .cons a b,hs,_,_,_,e=>by
  simp only[Sh.elem,a0f]at hs;obtain⟨v,r,f1,f2,rfl,rfl,h,i⟩:=e;exact(pO a hs.1.2 h).append (pO b hs.2 i)
 | .row _,hs,_,_,_,_=>by simp[Sh.elem]at hs
 | .nrw _,hs,_,_,_,_=>by simp[Sh.elem]at hs
 | .box _,hs,_,_,_,_=>by simp[Sh.elem]at hs
 | .agg _,hs,_,_,_,_=>by simp[Sh.elem]at hs
 | .fn _ _ _,hs,_,_,_,_=>by simp[Sh.elem]at hs
 | .ign,hs,_,_,_,_=>by simp[Sh.elem]at hs
 | .nl,hs,_,_,_,_=>by simp[Sh.elem]at hs
def hX {d j:Nat} {a:List (Nat×Nat)} {r:Sigma λs:Sh=>List s.T} (h:ny ow d j a=some r):a=[]/\aj ow d j=some (some (.nrow r.1 r.2 none)):=by
 unfold ny at h;split at h
 ·rename_i s l e;cases h;exact⟨rfl,aH e⟩
 ·cases h
def Ay:(a:Kd)->a.leafy=true-> {b:Kd}->b.leafy=true->(a.app b).leafy=true
 | .nil,_,_,hb=>hb
 | .cons a r,ha,_,hb=>by
  simp only[Kd.leafy,a0f]at ha;simp only[Kd.app,Kd.leafy,a0f];exact⟨ha.1,Ay r ha.2 hb⟩
 | .int _,ha,_,_=>by cases ha
 | .bool,ha,_,_=>by cases ha
 | .str,ha,_,_=>by cases ha
 | .err,ha,_,_=>by cases ha
 | .any,ha,_,_=>by cases ha
 | .sl _ _,ha,_,_=>by cases ha
 | .tree _,ha,_,_=>by cases ha
def OV:(a:Kd)->a.leafy=true->(b:Kd)->(a.app b).n=a.n+b.n
 | .nil,_,_=>by simp[Kd.app,Kd.n]
 | .cons a r,ha,b=>by
  simp only[Kd.leafy,a0f]at ha;simp only[Kd.app,Kd.n,OV r ha.2 b,a2o]
 | .int _,ha,_=>by cases ha
 | .bool,ha,_=>by cases ha
 | .str,ha,_=>by cases ha
 | .err,ha,_=>by cases ha
 | .any,ha,_=>by cases ha
 | .sl _ _,ha,_=>by cases ha
 | .tree _,ha,_=>by cases ha
def Ds {h:Array Obj} {ok:Nat->Prop}:(a:Kd)->a.leafy=true-> {b:Kd}-> {x:a.T}-> {y:b.T}-> {c1 c2:List Value}->cz h ok a x c1->cz h ok b y c2->cz h ok (a.app b) (O8 a x b y) (c1++c2)
 | .nil,_,_,_,_,_,_,e1,e2=>by cases e1;exact e2
 | .cons a r,ha,_,_,_,_,_,e1,e2=>by
  simp only[Kd.leafy,a0f]at ha;obtain⟨c,f,rfl,d,e⟩:=e1;exact⟨c,_,a1r _ _ _,d,Ds r ha.2 e e2⟩
 | .int _,ha,_,_,_,_,_,_,_=>by cases ha
 | .bool,ha,_,_,_,_,_,_,_=>by cases ha
 | .str,ha,_,_,_,_,_,_,_=>by cases ha
 | .err,ha,_,_,_,_,_,_,_=>by cases ha
 | .any,ha,_,_,_,_,_,_,_=>by cases ha
 | .sl _ _,ha,_,_,_,_,_,_,_=>by cases ha
 | .tree _,ha,_,_,_,_,_,_,_=>by cases ha
def Dt {h:Array Obj} {ok:Nat->Prop} {a:Kd} {x:ck a.T} {v:Value}:cz h ok (.tree a) x [v]↔∃b o r w,v= .pointer (some ⟨b,o,none⟩)/\ok b/\ap h b=some r/\o+a.n+1<=r.size/\cz h ok a x.lab (bP r o a.n)/\r[o+a.n]?=some w/\cz h ok (.sl false (.tree a)) x.kids [w]:=by
 constructor
 ·rintro⟨E,C,e⟩
  cases C
  cases e with
  |leaf f g j k l=>exact⟨_,_,_,_,rfl,f,g,j,k,l,_,_,rfl,a4q _,.inl rfl⟩
  | @node A d b o c b' o' r r' f g j k l z hb' hr' hs' hx=>
   refine⟨_,_,_,_,rfl,f,g,j,k,l,_,_,rfl,z,.inr ⟨b',o',r',rfl,hb',hr',⟨by simp only[Kd.n,a6a];exact hs',λi m=> ?_⟩⟩⟩;have m:i<d.length:=m;have q:o'+i<r'.size:=by omega
   refine⟨r'[o'+i],?_,hx i m q⟩;show bP r' (o'+i*1) 1=_;simp only[bP,a6a];rw[a1a (by simpa using q)];simp
 ·rintro⟨b,o,r,w,rfl,f,g,j,k,l,p,c,y,z,e⟩
  cases y
  obtain⟨A,d⟩:=x;refine⟨_,rfl,?_⟩;rcases e with e|⟨b',o',r',rfl,hb',hr',s,hx⟩
  ·have e:d=[]:=e
   subst e;exact .leaf f g j k l
  ·have s:o'+d.length*1<=r'.size:=s
   refine .node f g j k l z hb' hr' (by omega) λi m B=> ?_
   obtain⟨u,t,D⟩:=hx i m;have t:bP r' (o'+i*1) 1=[u]:=t;simp only[bP,a6a]at t;rw[a1a (by simpa using B)]at t;have:r'[o'+i]=u:=by simpa using t
   rw[this];exact D
def H9 {a:Kd} (c:a.leafy=true) {x:ck a.T} {f:Value} (h:Sv F G ow w.heap (.v (.tree a) x) f):Sv F G ow w.heap (.ip a.nodeK (FS a x)) f:=by
 cases h with
 |v _ hx=>
 obtain⟨b,o,r,g,rfl,i,j,s,k,l,d⟩:=Dt.1 hx;have m:a.nodeK.n=a.n+1:=OV a c _;refine .ip (Ay a c (by simp[Kd.leafy,Kd.isSt])) i j (by omega) ?_
 have e:bP r o a.nodeK.n=bP r o a.n++[g]:=by
  rw[m];obtain⟨p,rfl⟩:=a1b.1 l;have q:a.n<(r.toList.drop o).length:=by simp;omega
  simp only[bP];rw[<-a3j q];simp
 rw[e];exact Ds a c k ⟨[g],[],rfl,d,rfl⟩
def mi {t:TypeId} (V:bz F G ow w.heap) {p:SV} {pv:Value} (q:Sv F G ow w.heap p pv) {Q:SV->Prop} (h:(rG P t p ow).can Q):∃s v,Q s/\(Instr.loadAt t pv).run P w= .ok v w/\Sv F G ow w.heap s v:=by
 unfold rG at h;split at h
 ·rename_i d j c
  split at h
  ·rename_i f hg
   obtain⟨s,A,B⟩:=aX.can_ofOpt h;have K:=aH hg;obtain⟨_,b,o,r,et,T,L,z,W⟩:=V.obs d j _ K
   cases q with
   |bp q=>
   simp only[K]at q;obtain⟨b',o',M,rfl⟩:=q;rw[T]at M;cases M
   have N:dn F G ow w.heap f (bP r o f.length):=⟨by rw[aY z],λi U h2=>by
    have:=W i U (by omega);have e:(bP r o f.length)[i]=r[o+i]:=by
     have:=aM (r:=r) (o:=o) U;rw[a0a h2,a1n (by omega)]at this;exact a1h this
    rw[e];exact this⟩
   obtain⟨⟨d',C⟩,E,g,l⟩:=eK (N.drop c) A;simp only[a2u]at g;refine⟨s,_,B,eW C (aO L) rfl (by omega),?_⟩;rw[gw (n:=f.length) (by omega)];exact l
  ·exact h.elim
 ·rename_i d j ver Ql e c
  split at h
  ·rename_i r H
   obtain⟨x,X,h⟩:=h;dsimp only at h;split at h
   ·rename_i y hy
    obtain⟨s,A,B⟩:=aX.can_ofOpt h
    cases q with
    |rp q=>
    obtain⟨u,rfl⟩:=a0t.1 X;obtain⟨b,o,Y,T,rfl,O,I,D⟩:=Pf V H u q;have J:=(a0f _ _▸I:r.1.noOwn=true/\r.1.ch.leafy=true).2;have U:=F3 r.1 (D.2 e u);obtain⟨e1,e2,e3⟩:=oL r.1.ch J c hy U;rw[L5]at e1;obtain⟨⟨d',C⟩,E,g,l⟩:=eK (mh y.1 e2 e3) A;rw[jh y.1 e2]at g;have L:(e+1)*r.1.n<=r.2.length*r.1.n:=a0p _ u;have z:=D.1;rw[a1d,a2x]at L;refine⟨s,_,B,eW C O rfl (by omega),?_⟩;rw[gw (n:=r.1.n) (by omega)];exact l
   ·exact h.elim
  ·split at h
   ·rename_i r H
    obtain⟨rfl,K⟩:=hX H;obtain⟨x,X,h⟩:=h;obtain⟨s,A,B⟩:=aX.can_ofOpt h
    cases q with
    |rp q=>
    obtain⟨u,rfl⟩:=a0t.1 X;simp only[K]at q;obtain⟨_,b,o,T,rfl⟩:=q;obtain⟨D,fps,_,R⟩:=V.obs d j _ K;simp only[T]at R;obtain⟨Y,et,L,z,Qm,_,S,_⟩:=R;have hS:=pO r.1 D (S e u (by omega) (λf W=>by cases W));have Z:(e+1)*r.1.w<=r.2.length*r.1.w:=a0p _ u;rw[a1d,a2x]at Z;have Qn:(vD r.1 r.2[e]).length=r.1.w:=by rw[hS.1,aY (by omega)]
    obtain⟨⟨d',C⟩,E,g,l⟩:=eK (hS.drop c) A;simp only[a2u]at g;refine⟨s,_,B,eW C (aO L) rfl (by omega),?_⟩;rw[gw (n:=r.1.w) (by omega)];exact l
   ·exact h.elim
 ·rename_i k x
  obtain⟨s,A,B⟩:=aX.can_ofOpt h
  cases q with
  | @ip _ _ b o r J hok H z he=>
  obtain⟨⟨d',C⟩,_,g,l⟩:=eK (mh k J he) A;rw[jh k J]at g;refine⟨s,_,B,eW C H rfl (by omega),?_⟩;have:=gw (r:=r) (o:=o) (n:=k.n) (p:=0) (m:=if dU P t then cP P t else 1) (by omega);simp only[a4d,a4y]at this;rw[this];exact l
 ·rename_i a x
  split at h
  ·rename_i ha
   obtain⟨s,A,B⟩:=aX.can_ofOpt h
   cases H9 ha q with
   | @ip _ _ b o r J hok H z he=>
   obtain⟨⟨d',C⟩,_,g,l⟩:=eK (mh a.nodeK J he) A;rw[jh a.nodeK J]at g;refine⟨s,_,B,eW C H rfl (by omega),?_⟩;have:=gw (r:=r) (o:=o) (n:=a.nodeK.n) (p:=0) (m:=if dU P t then cP P t else 1) (by omega);simp only[a4d,a4y]at this;rw[this];exact l
  ·exact h.elim
 ·exact h.elim
end
variable {F:Nat->Prop} {G:Gh} {ow:OW} {w:World} {P:Program}
def nM {t:TypeId} {j:Nat} {b:Field} (h:pJ P t j=some b):∃a,P.underlying t=some (.struct a)/\a[j]?=some b:=by
 unfold pJ ee at h;split at h
 ·rename_i a e;exact⟨a,e,h⟩
 ·cases h
def k8 {t:TypeId} {j:Nat} {a:Field} (h:pJ P t j=some a) (c:¬cP P a.type=0) (b o:Nat):(Instr.fieldAt t (.pointer (some ⟨b,o,none⟩)) j).run P w= .ok (.pointer (some ⟨b,o+a.offset,none⟩)) w:=by
 obtain⟨k,e,f⟩:=nM h;obtain⟨i,d⟩:∃i,P.info? a.type=some i:=by
  cases hq:P.info? a.type with
  |none=>simp[cP,Program.cellsOf,hq]at c
  |some i=>exact⟨i,rfl⟩
 have g:¬i.size=0:=by simpa [cP,Program.cellsOf,d]using c
 simp[Instr.fieldAt,run_underlying e,f,Instr.sureAddr,fieldPlace,sizeOf,typeInfo,d,g,Addr.add_mid]
def mj {d j:Nat} (h:iR ow d j=true):∃a,aj ow d j=some (some (.box a)):=by
 unfold iR at h;split at h
 ·rename_i a e;exact⟨a,aH e⟩
 ·cases h
def vT {d j:Nat} {a:List (Nat×Nat)} {r:Sigma λk:Kd=>List k.T} (h:nw ow d j a=some r):a=[]/\∃ver,aj ow d j=some (some (.row r.1 ver r.2))\/aj ow d j=some (some (.frow r.1 ver r.2)):=by
 unfold nw at h;split at h
 ·rename_i k ver l e;cases h;exact⟨rfl,ver,.inl (aH e)⟩
 ·rename_i k ver l e;cases h;exact⟨rfl,ver,.inr (aH e)⟩
 ·cases h
def hY {d j:Nat} {a:List (Nat×Nat)} {r:Nat×Nat} (h:zf ow d j a=some r):a=[]/\((∃k v l,aj ow d j=some (some (.row k v l))/\r=(k.n,l.length))\/(∃k v l,aj ow d j=some (some (.frow k v l))/\r=(k.n,l.length))\/∃k l f,aj ow d j=some (some (.nrow k l f))/\r=(k.w,l.length)):=by
 unfold zf at h;split at h
 ·rename_i k ver l e;cases h;exact⟨rfl,.inl ⟨k,ver,l,aH e,rfl⟩⟩
 ·rename_i k ver l e;cases h;exact⟨rfl,.inr (.inl ⟨k,ver,l,aH e,rfl⟩)⟩
 ·rename_i k l f e;cases h;exact⟨rfl,.inr (.inr ⟨k,l,f,aH e,rfl⟩)⟩
 ·cases h
def qz {t:TypeId} {p:SV} {J:Value} {f:Nat} (g:Sv F G ow w.heap p J) {Q:SV->Prop} (h:(kZ P t p f ow).can Q):∃s v,Q s/\(Instr.fieldAt t J f).run P w= .ok v w/\Sv F G ow w.heap s v:=by
 unfold kZ at h;split at h
 ·exact h.elim
 rename_i z A;split at h
 ·exact h.elim
 rename_i B;split at h
 ·rename_i d j c
  split at h
  ·rename_i M
   obtain⟨C,i⟩:=mj M
   cases g with
   |bp g=>
   simp only[i]at g;obtain⟨b,o,D,rfl⟩:=g;exact⟨_,_,h,k8 A B _ _,.bp (by simp only[i];exact⟨b,o,D,by rw[a2o]⟩)⟩
  ·exact h.elim
 ·rename_i d j ver K e c
  split at h
  ·rename_i r q
   obtain⟨rfl,i⟩:=hY q
   cases g with
   |rp g=>
   rcases i with⟨k,L,l,i,rfl⟩|⟨k,L,l,i,rfl⟩|⟨k,l,L,i,rfl⟩<;>
   ·simp only[i]at g
    obtain⟨u,b,o,D,rfl⟩:=g;exact⟨_,_,h,k8 A B _ _,.rp (by simp only[i];exact⟨u,b,o,D,by rw[a2o]⟩)⟩
  ·exact h.elim
 ·rename_i k x
  split at h
  ·rename_i y E
   cases g with
   | @ip _ _ b o r hk hok q hsz u=>
   obtain⟨N,H,I⟩:=oL k hk z.offset E u;refine⟨_,_,h,k8 A B _ _,.ip H hok q (by omega) ?_⟩;have:=gw (r:=r) (o:=o) (n:=k.n) (p:=z.offset) (m:=y.1.n) (by omega);rw[this,a4b (by simp[aY hsz];omega)];exact I
  ·exact h.elim
 ·rename_i a x
  split at h
  ·rename_i O
   split at h
   ·rename_i y E
    cases H9 O g with
    | @ip _ _ b o r hk hok q hsz u=>
    obtain⟨N,H,I⟩:=oL a.nodeK hk z.offset E u;refine⟨_,_,h,k8 A B _ _,.ip H hok q (by omega) ?_⟩;have:=gw (r:=r) (o:=o) (n:=a.nodeK.n) (p:=z.offset) (m:=y.1.n) (by omega);rw[this,a4b (by simp[aY hsz];omega)];exact I
   ·exact h.elim
  ·exact h.elim
 ·exact h.elim
def qA {t:TypeId} {n:Nat} (h:jg P t n=true):∃e i,P.underlying t=some (.slice e)/\P.info? e=some i/\i.size=n:=by
 unfold jg ee at h;split at h
 ·rename_i e a
  split at h
  ·rename_i i b;exact⟨e,i,a,b,by simpa using h⟩
  ·cases h
 ·cases h
def nN {t:TypeId} {n:Nat} (a:jg P t n=true) (b o len c:Nat) (k:IntKind) (i:Int) (d:0<=i) (f:i<len):(Instr.indexAt t (.slice (some ⟨b,o,none⟩) len c) (.int k i)).run P w= .ok (.pointer (some ⟨b,o+i.toNat*n,none⟩)) w:=by
 obtain⟨e,j,g,h,rfl⟩:=qA a;simp[Instr.indexAt,asIntOf,run_underlying g,d,f,sizeOf,typeInfo,h,Addr.add_mid]
def qB {t:TypeId} {x i:SV} {xv O:Value} (f:Sv F G ow w.heap x xv) (I:Sv F G ow w.heap i O) {Q:SV->Prop} (h:(nD P t x i ow).can Q):∃s v,Q s/\(Instr.indexAt t xv O).run P w= .ok v w/\Sv F G ow w.heap s v:=by
 unfold nD at h;split at h
 ·rename_i J n
  cases I with
  |v _ I=>
  cases I
  split at h
  ·rename_i R e l
   split at h
   ·rename_i m
    simp only[a0f]at m;obtain⟨K,y,S,h⟩:=h;have K:0<=n:=by simpa using K
    obtain⟨q,rfl⟩:=a0t.1 S
    cases f with
    |v hk f=>
    cases R with
    |true=>exact f.elim
    |false=>
    obtain⟨a,c,z,A,f⟩:=f;simp only[a5e,and_true]at z;subst z;rcases f with rfl|⟨b,o,r,rfl,hok,C,hel⟩
    ·simp at q
    have T:(n.toNat+1)*e.n<=l.length*e.n:=a0p _ q;rw[a1d,a2x]at T;have U:=hel.1;refine⟨_,_,h,nN m.2 b o l.length c J n K (by omega),?_⟩;refine .ip m.1 hok C (by rw[L5];omega) ?_
    rw[L5];exact F3 e (hel.2 n.toNat q)
   ·exact h.elim
  ·rename_i d j ver B
   split at h
   ·rename_i r C
    split at h
    ·rename_i L
     obtain⟨m,h⟩:=h;simp only[a0u]at m;have p:(0:Int)<=n:=m.1;have aD:n<(r.2:Int):=m.2;have D:n.toNat<r.2:=(Int.toNat_lt p).2 aD;obtain⟨rfl,g⟩:=hY C
     cases f with
     |wh f=>
     rcases g with⟨k,E,l,g,rfl⟩|⟨k,E,l,g,rfl⟩|⟨k,l,E,g,rfl⟩<;>
     ·simp only[cV,g,a2q,a1o]at f
      obtain⟨_,a,c,rfl,A,f⟩:=f;rcases f with⟨_,_,V⟩|⟨b,o,W,M,N,rfl,H,u,_⟩
      ·omega
      ·have u:=u (by omega)
       subst u;simp only[a7a,a4d];exact⟨_,_,h,nN L b o _ c J n p aD,.rp (by simp only[g];exact⟨D,b,o,N,by simp⟩)⟩
    ·exact h.elim
   ·exact h.elim
  ·rename_i d j ver B off len
   split at h
   ·rename_i r C
    split at h
    ·rename_i L
     obtain⟨m,h⟩:=h;simp only[a0u]at m;have p:(0:Int)<=n:=m.1;have aD:n<(len:Int):=m.2;have D:n.toNat<len:=(Int.toNat_lt p).2 aD;obtain⟨rfl,g⟩:=hY C
     cases f with
     |os f=>
     rcases g with⟨k,E,l,g,rfl⟩|⟨k,E,l,g,rfl⟩|⟨k,l,E,g,rfl⟩<;>
     ·simp only[cV,g,a2r]at f
      obtain⟨X,a,c,rfl,A,f⟩:=f;rcases f with⟨_,_,V⟩|⟨b,o,W,M,N,rfl,H,u,_⟩
      ·omega
      ·have u:=u (by omega)
       subst u;exact⟨_,_,h,nN L b _ len c J n p aD,.rp (by simp only[g];exact⟨by omega,b,o,N,by rw[a1d,a2o];rfl⟩)⟩
    ·exact h.elim
   ·exact h.elim
  ·exact h.elim
 ·exact h.elim
end Go.Pev
namespace Go.Pev
variable {F:Nat->Prop} {G:Gh} {ow:OW} {w:World} {P:Program}
def Sv.int_inv {k:IntKind} {n:Int} {v:Value} (h:Sv F G ow w.heap (.v (.int k) n) v):v= .int k n:=by
 cases h with
 |v _ h=>cases h;rfl
def Sv.str_inv {s:List UInt8} {v:Value} (h:Sv F G ow w.heap (.v .str s) v):v= .string ⟨s.toArray⟩:=by
 cases h with
 |v _ h=>cases h;rfl
def Sv.bool_inv {b:Bool} {v:Value} (h:Sv F G ow w.heap (.v .bool b) v):v= .bool b:=by
 cases h with
 |v _ h=>cases h;rfl
def Sv.lb_inv {b:Bool} {v:Value} (h:Sv F G ow w.heap (.lb b) v):v= .bool b:=by cases h;rfl
def Sv.int (k:IntKind) (n:Int):Sv F G ow w.heap (.v (.int k) n) (.int k n):= .v rfl rfl
def Sv.str (s:List UInt8):Sv F G ow w.heap (.v .str s) (.string ⟨s.toArray⟩):= .v rfl rfl
def Sv.bool (b:Bool):Sv F G ow w.heap (.v .bool b) (.bool b):= .v rfl rfl
def Sv.sl_inv {o:Bool} {e:Kd} {l:List e.T} {v:Value} (h:Sv F G ow w.heap (.v (.sl o e) l) v):o=false/\∃a c,v= .slice a l.length c/\l.length<=c/\(l=[]\/∃b of r,a=some ⟨b,of,none⟩/\cR F G ow b/\ap w.heap b=some r/\bA (λx cs=>cz w.heap (cR F G ow) e x cs) e.n l r of):=by
 cases h with
 |v _ h=>
 cases o with
 |true=>exact h.elim
 |false=>
 obtain⟨a,c,d,h⟩:=h;simp only[a5e,and_true]at d;exact⟨rfl,a,c,d,h⟩
def tb {x:Option SV} {v:Option Value} (b:∀s,x=some s->∃u,v=some u/\Sv F G ow w.heap s u) (c:x=none->v=none) {a:Option Int} (h:BD x=some a):(v=none/\a=none)\/∃k n,v=some (.int k n)/\a=some n:=by
 unfold BD at h;split at h
 ·cases h;exact .inl ⟨c rfl,rfl⟩
 ·rename_i k n
  cases h
  obtain⟨u,rfl,d⟩:=b _ rfl;exact .inr ⟨k,n,by rw[d.int_inv],rfl⟩
 ·cases h
def mm {n:Nat} {a b:Option Int} (h:qr n a b=true):(∀x,a=some x->0<=x)/\(∀x,b=some x->0<=x)/\(a.getD 0).toNat<=(b.getD n).toNat/\(b.getD n).toNat<=n:=by
 cases a<;>cases b<;>simp[qr]at h⊢<;>omega
def vj {α:Type} (l:List α) (a b:Option Int):Do l a b=(l.take (b.getD l.length).toNat).drop (a.getD 0).toNat:=by
 cases a<;>cases b<;>simp[Do]
def m5 {s:Bool} {len c:Nat} {d e:Option Value} {a b:Option Int} (m:(d=none/\a=none)\/∃k n,d=some (.int k n)/\a=some n)
 (o:(e=none/\b=none)\/∃k n,e=some (.int k n)/\b=some n) (t:len<=c) (h:qr len a b=true):
 (Instr.sliceBounds s len c d e none).run P w= .ok ((a.getD 0).toNat,(b.getD len).toNat,c) w:=by
 obtain⟨i,j,f,g⟩:=mm h;rcases m with⟨rfl,rfl⟩|⟨p,l,rfl,rfl⟩<;>rcases o with⟨rfl,rfl⟩|⟨v,u,rfl,rfl⟩
 ·simp[Instr.sliceBounds]
 ·have:=j u rfl
  simp at f g;simp[Instr.sliceBounds,run_sliceBound,this,show u<=(c:Int) by omega]
 ·have:=i l rfl
  simp at f g;simp[Instr.sliceBounds,run_sliceBound,this,show l<=(len:Int) by omega]
 ·have q:=i l rfl
  have r:=j u rfl;simp at f g;simp[Instr.sliceBounds,run_sliceBound,r,show u<=(c:Int) by omega,run_sliceBound w p l u.toNat .sliceB q (by omega)]
def zi {t:TypeId} (c:lu P t=true) {s:List UInt8} {d e:Option Value} {a b:Option Int} (i:(d=none/\a=none)\/∃k n,d=some (.int k n)/\a=some n)
 (j:(e=none/\b=none)\/∃k n,e=some (.int k n)/\b=some n) (h:qr s.length a b=true):
 (Instr.sliceAt t (.string ⟨s.toArray⟩) d e none).run P w= .ok (.string ⟨(Do s a b).toArray⟩) w:=by
 have g:P.underlying t=some .string:=by
  unfold lu ee at c;split at c
  ·assumption
  ·cases c
 rw[run_sliceAt_string w t _ _ _ _ g];have f:(ByteArray.mk s.toArray).size=s.length:=by simp[ByteArray.size]
 simp only[Instr.slice,Sem.run_bind,run_underlying g,Result.andThen_ok];simp only[Option.isSome_none,a0r,a1y,Sem.run_pure,Sem.run_bind,f];rw[m5 i j (a1l _) h];simp only[Result.andThen_ok]
 congr 2
 rw[vj];apply ByteArray.ext;simp[ByteArray.data_extract,a8o]
def mn {t:TypeId} {n:Nat} (o:jg P t n=true) {f:Option Addr} {len c:Nat} (p:len<=c) {g i:Option Value} {a b:Option Int}
 (q:(g=none/\a=none)\/∃k n,g=some (.int k n)/\a=some n) (r:(i=none/\b=none)\/∃k n,i=some (.int k n)/\b=some n) (h:qr len a b=true):
 (Instr.sliceAt t (.slice f len c) g i none).run P w= .ok (.slice (if c=(a.getD 0).toNat then f else f.map (·.add ((a.getD 0).toNat*n))) ((b.getD len).toNat-(a.getD 0).toNat) (c-(a.getD 0).toNat)) w:=by
 obtain⟨e,s,l,j,rfl⟩:=qA o;have m:P.elem t=e:=by simp[Program.elem,l]
 have d:P.underlying t=some (.slice (P.elem t)):=by rw[m];exact l
 rw[run_sliceAt_slice w t _ _ _ _ d,run_slice_any w t f len c d,m5 q r p h];simp only[Result.andThen_ok,sizeOf,typeInfo,m];simp[j,sliced]
def nL.slice {h:Array Obj} {n d j off len:Nat} {v:Value} (g:nL h G n d j off len v) {l u:Nat} (t:l<=u) (w:u<=len) {a:Option Addr} {c:Nat} (p:v= .slice a len c):nL h G n d j (off+l) (u-l) (.slice (if c=l then a else a.map (·.add (l*n))) (u-l) (c-l)):=by
 obtain⟨x,y,f,z,g⟩:=g;rw[p]at f;cases f
 refine⟨_,_,rfl,by omega,?_⟩;rcases g with⟨q,rfl,A⟩|⟨b,o,i,r,k,rfl,m,s,B⟩
 ·exact .inl ⟨q,by split<;>rfl,by omega⟩
 ·by_cases e:c=l
  ·refine .inr ⟨b,o,i,r,k,by simp[e],m,λh=>by omega,?_⟩
   subst e;simp;omega
  ·refine .inr ⟨b,o,i+l*n,r,k,by simp only[e,a1y,a1w,Addr.add_mid],m,λ_=> ?_,?_⟩
   ·rw[s (by omega),a1d,a2o]
   ·have:l*n+(c-l)*n=c*n:=by rw[<-a1d];congr 1;omega
    omega
def zj {t:TypeId} {x:SV} {N I:Option SV} {xv:Value} {lov hiv:Option Value} (f:Sv F G ow w.heap x xv)
 (O:∀s,N=some s->∃u,lov=some u/\Sv F G ow w.heap s u) (B:N=none->lov=none) (R:∀s,I=some s->∃u,hiv=some u/\Sv F G ow w.heap s u) (C:I=none->hiv=none)
 {Q:SV->Prop} (h:(BE P t x N I ow).can Q):∃s v,Q s/\(Instr.sliceAt t xv lov hiv none).run P w= .ok v w/\Sv F G ow w.heap s v:=by
 unfold BE at h;split at h
 ·rename_i a b U V
  have J:=tb O B U;have K:=tb R C V;split at h
  ·rename_i s
   split at h
   ·rename_i y
    obtain⟨p,h⟩:=h;rw[f.str_inv];exact⟨_,_,h,zi y J K p,.str _⟩
   ·exact h.elim
  ·rename_i o e l
   split at h
   ·rename_i y
    obtain⟨p,h⟩:=h;obtain⟨rfl,T,c,rfl,z,f⟩:=f.sl_inv;refine⟨_,_,h,mn y z J K p,?_⟩;obtain⟨_,_,L,M⟩:=mm p;have q:(Do l a b).length=(b.getD l.length).toNat-(a.getD 0).toNat:=by rw[vj];simp;omega
    refine .v rfl ⟨_,_,by rw[q],by rw[q];omega,?_⟩;rcases f with rfl|⟨bb,o,r,rfl,hok,E,hel⟩
    ·exact .inl (by rw[vj];simp)
    ·by_cases S:c=(a.getD 0).toNat
     ·exact .inl (a0s (by omega))
     ·refine .inr ⟨bb,o+(a.getD 0).toNat*e.n,r,by simp[S,Addr.add_mid],hok,E,?_⟩
      have W:=hel.1;refine⟨?_,λi I=> ?_⟩
      ·have:((a.getD 0).toNat+(Do l a b).length)*e.n<=l.length*e.n:=a0p _ (by omega)
       rw[a1d]at this;omega
      ·have X:(Do l a b)[i]=l[(a.getD 0).toNat+i]'(by omega):=by simp only[vj];simp
       rw[X];have:=hel.2 ((a.getD 0).toNat+i) (by omega);rw[a1d,<-a2o]at this;exact this
   ·exact h.elim
  ·rename_i d j ver D
   split at h
   ·rename_i r E
    obtain⟨Y,Z⟩:=r;dsimp only at h;split at h
    ·rename_i y
     obtain⟨p,h⟩:=h;obtain⟨rfl,m⟩:=hY E;obtain⟨_,_,L,M⟩:=mm p
     cases f with
     |wh f=>
     rcases m with⟨k,H,l,m,g⟩|⟨k,H,l,m,g⟩|⟨k,l,H,m,g⟩<;>cases g<;>
     ·simp only[cV,m,a2q]at f
      obtain⟨z,f⟩:=f;obtain⟨T,c,rfl,A,_⟩:=id f;refine⟨_,_,h,mn y A J K p,.os ?_⟩;simp only[cV,m,a2r];have:=f.slice L M rfl;rw[a1o]at this;exact⟨by omega,this⟩
    ·exact h.elim
   ·exact h.elim
  ·rename_i d j ver D off len
   split at h
   ·rename_i r E
    obtain⟨Y,Z⟩:=r;dsimp only at h;split at h
    ·rename_i y
     obtain⟨p,h⟩:=h;obtain⟨rfl,m⟩:=hY E;obtain⟨_,_,L,M⟩:=mm p
     cases f with
     |os f=>
     rcases m with⟨k,H,l,m,g⟩|⟨k,H,l,m,g⟩|⟨k,l,H,m,g⟩<;>cases g<;>
     ·simp only[cV,m,a2r]at f
      obtain⟨z,f⟩:=f;obtain⟨T,c,rfl,A,_⟩:=id f;refine⟨_,_,h,mn y A J K p,.os ?_⟩;simp only[cV,m,a2r];exact⟨by omega,f.slice L M rfl⟩
    ·exact h.elim
   ·exact h.elim
  ·exact h.elim
 ·exact h.elim
def Du {t ty:TypeId} {ts:List TypeId} {x:SV} {xv:Value} (b:Sv F G ow w.heap x xv) {Q:SV->Prop} (h:(LO P t x ow).can Q):∃s v,Q s/\(Builtin.len_ (t::ts).toArray ty #[xv]).run P w= .ok v w/\Sv F G ow w.heap s v:=by
 unfold LO at h;split at h
 ·rename_i s
  split at h
  ·rename_i g
   have o:P.underlying t=some .string:=by
    unfold lu ee at g;split at g
    ·assumption
    ·cases g
   rw[b.str_inv];have p:(ByteArray.mk s.toArray).size=s.length:=by simp[ByteArray.size]
   exact⟨_,_,h,by simp[Builtin.len_,run_underlying o,goInt,p],.int _ _⟩
  ·exact h.elim
 ·split at h
  ·rename_i g
   obtain⟨e,o⟩:∃e,P.underlying t=some (.slice e):=by
    unfold f9 ee at g;split at g
    ·exact⟨_,by assumption⟩
    ·cases g
   have d:∀a n c,(Builtin.len_ (t::ts).toArray ty #[.slice a n c]).run P w= .ok (.int .i64 n) w:=λa n c=>by simp[Builtin.len_,run_underlying o,goInt]
   split at h
   ·obtain⟨_,_,_,rfl,_⟩:=b.sl_inv
    exact⟨_,_,h,d _ _ _,.int _ _⟩
   ·cases b
    exact⟨_,_,h,d _ _ _,.int _ _⟩
   ·split at h
    ·rename_i r q
     obtain⟨rfl,f⟩:=hY q
     cases b with
     |wh b=>
     rcases f with⟨k,i,l,f,rfl⟩|⟨k,i,l,f,rfl⟩|⟨k,l,i,f,rfl⟩<;>
     ·simp only[cV,f,a2q]at b
      obtain⟨_,_,_,rfl,_⟩:=b;exact⟨_,_,h,d _ _ _,.int _ _⟩
    ·split at h
     ·rename_i n j
      cases b with
      |wh b=>
      unfold OU at j;split at j
      ·rename_i m u
       cases j
       simp only[cV,aH u,a2q]at b;obtain⟨_,_,rfl⟩:=b;exact⟨_,_,h,d _ _ _,.int _ _⟩
      ·cases j
     ·exact h.elim
   ·split at h
    ·rename_i r q
     obtain⟨rfl,f⟩:=hY q
     cases b with
     |os b=>
     rcases f with⟨k,i,l,f,rfl⟩|⟨k,i,l,f,rfl⟩|⟨k,l,i,f,rfl⟩<;>
     ·simp only[cV,f,a2r]at b
      obtain⟨_,_,_,rfl,_⟩:=b;exact⟨_,_,h,d _ _ _,.int _ _⟩
    ·exact h.elim
   ·exact h.elim
  ·exact h.elim
def Dv {t:TypeId} (a:lu P t=true):P.underlying t=some .string:=by
 unfold lu ee at a;split at a
 ·assumption
 ·cases a
def zk {t:TypeId} (e:lu P t=true) {x i:SV} {xv d:Value} (f:Sv F G ow w.heap x xv) (g:Sv F G ow w.heap i d) {Q:SV->Prop} (h:(BK x i).can Q):∃s v,Q s/\(Instr.index t xv d).run P w= .ok v w/\Sv F G ow w.heap s v:=by
 unfold BK at h;split at h
 ·rename_i s k n
  obtain⟨a,b,j,h⟩:=h;have a:(0:Int)<=n:=by simpa using a
  rw[f.str_inv,g.int_inv];refine⟨_,_,h,?_,.int _ _⟩;obtain⟨c,rfl⟩:=a0t.1 j;have:(ByteArray.mk s.toArray)[n.toNat]?=some (s[n.toNat]):=by
   rw[ByteArray.getElem?_lt' _ _ (by simpa [ByteArray.size]using c)];rfl
  simp[Instr.index,asIntOf,run_underlying (Dv e),a,this]
 ·exact h.elim
def nO {src a e:TypeId} (h:P.underlying src=some (.slice e)) (j:P.underlying e=some (.int .u8)) (k:P.underlying a=some .string) {b o c:Nat} {l:List Int} {r:Array Value}
 (m:ap w.heap b=some r) (d:bA (λ(x:Int) cs=>cs=[Value.int .u8 x]) 1 l r o):
 (convert src a (.slice (some ⟨b,o,none⟩) l.length c)).run P w= .ok (.string ⟨(l.map λn:Int=>UInt8.ofNat n.toNat).toArray⟩) w:=by
 rw[run_convert_bytes_arg w src e h j b o l.length c l rfl (λi g=> ?_) a k]
 ·rfl
 ·rw[bL m]
  have:=d.2 i g;have p:=d.1;have f:=aM (r:=r) (o:=o+i*1) (n:=1) (i:=0) (by omega);rw[this]at f;simp only[a1t,a6a,a4d]at f;rw[<-f];simp[List.getD,g]
def bA.part {α:Type} {R:α->List Value->Prop} {n:Nat} {l:List α} {r:Array Value} {o:Nat} (h:bA R n l r o) {off len:Nat} (a:off+len<=l.length):bA R n (aQ l off len) r (o+off*n):=by
 have b:(aQ l off len).length=len:=by simp[aQ];omega
 refine⟨?_,λi c=> ?_⟩
 ·have:=h.1
  have e:(off+len)*n<=l.length*n:=a0p _ a;rw[a1d]at e;rw[b];omega
 ·have:=h.2 (off+i) (by omega)
  rw[a1d,<-a2o]at this;have e:(aQ l off len)[i]=l[off+i]'(by omega):=by simp[aQ]
  rw[e];exact this
def jt (L:bz F G ow w.heap) {x:SV} {xv:Value} (p:Sv F G ow w.heap x xv) {r:Sigma λk:Kd=>List k.T} (s:kY ow x=some r):∃d j ver l0,jH x=some (d,j)/\(aj ow d j=some (some (.row r.1 ver l0))\/aj ow d j=some (some (.frow r.1 ver l0)))/\r.1.good=true/\∃a c,xv= .slice a r.2.length c/\r.2.length<=c/\(r.2=[]\/∃b o g,(∃A,G d j 0=some (b,A))/\a=some ⟨b,o,none⟩/\ap w.heap b=some g/\bA (λx cs=>cz w.heap (cR F G ow) r.1 x cs) r.1.n r.2 g o/\(nz ow d j=false->cR F G ow b)):=by
 have B:∀ {d j off:Nat} {len:Option Nat} {k:Kd} {l0:List k.T},cV w.heap G ow d j off len xv->nw ow d j []=some ⟨k,l0⟩->
  ∃ver,(aj ow d j=some (some (.row k ver l0))\/aj ow d j=some (some (.frow k ver l0)))/\k.good=true/\off+len.getD l0.length<=l0.length/\∃a c,xv= .slice a (len.getD l0.length) c/\len.getD l0.length<=c/\
  (aQ l0 off (len.getD l0.length)=[]\/∃b o g,(∃A,G d j 0=some (b,A))/\a=some ⟨b,o,none⟩/\ap w.heap b=some g/\bA (λx cs=>cz w.heap (cR F G ow) k x cs) k.n (aQ l0 off (len.getD l0.length)) g o/\(nz ow d j=false->cR F G ow b)):=by
  intro d j off len k l0 p s;unfold nw at s;split at s
  ·rename_i N ver O _ I
   cases s
   have t:=aH I;simp only[cV,t]at p;obtain⟨i,a,c,rfl,l,p⟩:=p;obtain⟨_,f,C⟩:=L.obs d j _ t;refine⟨ver,.inl t,f,i,a,c,rfl,l,?_⟩;rcases p with⟨_,_,P⟩|⟨b,o,A,g,D,rfl,m,q,_⟩
   ·exact .inl (by simp[aQ];omega)
   ·by_cases y:0<c
    ·have q:=q y
     subst q;simp only[D]at C;obtain⟨Q,et,J,z⟩:=C;have:=aO J;rw[m]at this;cases this
     exact .inr ⟨b,_,g,⟨o,D⟩,rfl,m,z.part i,λR=>by simp[nz,I]at R⟩
    ·exact .inl (by simp[aQ];omega)
  ·rename_i N ver O _ I
   cases s
   have t:=aH I;simp only[cV,t]at p;obtain⟨i,a,c,rfl,l,p⟩:=p;obtain⟨f,C⟩:=L.obs d j _ t;refine⟨ver,.inr t,f,i,a,c,rfl,l,?_⟩;rcases p with⟨_,_,P⟩|⟨b,o,A,g,D,rfl,m,q,_⟩
   ·exact .inl (by simp[aQ];omega)
   ·by_cases y:0<c
    ·have q:=q y
     subst q;simp only[D]at C;rcases C with rfl|⟨hok,Q,J,z⟩
     ·exact .inl (by simp[aQ])
     rw[m]at J;cases J
     exact .inr ⟨b,_,g,⟨o,D⟩,rfl,m,z.part i,λ_=>hok⟩
    ·exact .inl (by simp[aQ];omega)
  ·cases s
 unfold kY at s;split at s
 ·rename_i d j ver E
  have K:=(vT s).1;subst K
  cases p with
  |wh p=>
  obtain⟨u,t,f,i,a,c,v,l,h⟩:=B p s;have e:aQ r.2 0 r.2.length=r.2:=by simp[aQ]
  simp only[a2q,e]at v l h;exact⟨d,j,u,r.2,rfl,t,f,a,c,v,l,h⟩
 ·rename_i d j ver E off len
  split at s
  ·rename_i M H
   cases s
   have K:=(vT H).1;subst K
   cases p with
   |os p=>
   obtain⟨u,t,f,i,a,c,v,l,h⟩:=B p H;simp only[a2r]at v l h i;have e:(aQ M.2 off len).length=len:=by simp[aQ];omega
   refine⟨d,j,u,M.2,rfl,t,f,a,c,?_,?_,h⟩<;>simp only[e]<;>assumption
  ·cases s
 ·cases s
def uE {src f:TypeId} {x:SV} {xv:Value} (y:bz F G ow w.heap) (g:Sv F G ow w.heap x xv) {Q:SV->Prop} (h:(rH P src f x ow).can Q):∃s v,Q s/\(convert src f xv).run P w= .ok v w/\Sv F G ow w.heap s v:=by
 unfold rH ee at h;split at h
 ·rename_i A k B n m p
  rw[g.int_inv];exact⟨_,_,h,by simp[convert,run_underlying m,run_underlying p,Conv.intToInt],.int _ _⟩
 ·rename_i e m p
  split at h
  ·rename_i u
   have q:∀l c,(convert src f (.slice none l c)).run P w= .ok (.string ByteArray.empty) w:=λl c=>run_convert_bytes_nil w src e m u l c f p
   have i:∀a c,(convert src f (.slice a 0 c)).run P w= .ok (.string ⟨#[]⟩) w:=λa c=>by
    cases a with
    |none=>exact q _ _
    |some a=>
     rw[run_convert_bytes_string w src f e _ 0 c m u p,run_bytesToString w a 0 c [] (by simpa using run_loadCells_list (P:=P) w a [] (λj v z=>by simp at z))];rfl
   split at h
   ·cases g
    exact⟨_,_,h,i _ _,.str _⟩
   ·rename_i o l
    obtain⟨rfl,a,c,rfl,_,g⟩:=g.sl_inv;rcases g with rfl|⟨b,of,r,rfl,_,hr,hel⟩
    ·exact⟨_,_,h,i _ _,.str _⟩
    ·exact⟨_,_,h,nO m u p hr hel,.str _⟩
   ·split at h
    ·rename_i l t
     obtain⟨d,j,ver,l0,_,_,_,a,c,rfl,_,g⟩:=jt y g t;rcases g with g|⟨b,of,r,_,rfl,hr,hel,_⟩
     ·simp only at g
      subst g;exact⟨_,_,h,i _ _,.str _⟩
     ·exact⟨_,_,h,nO m u p hr hel,.str _⟩
    ·exact h.elim
  ·exact h.elim
 ·exact h.elim
end Go.Pev
namespace Go.Pev
variable {F:Nat->Prop} {G:Gh} {ow:OW} {w:World} {P:Program}
def nP (op:BinOp) (t:TypeId) (c d:Operand) (a b:Value) (h:(match a,b with
 | .nilIface,.nilIface=>do
  if(c matches .const _)||(d matches .const _)then return
  if<-Op.eqGuardIn Op.maxDepth t a b then unsupported (.noEntry "binop/eql: two nil values of an interface type with methods, neither of them the literal nil")
 | .agg _,.agg _=>do
  if !(<-program).eqGuardType (<-program).depth t then return
  if<-Op.eqGuardIn Op.maxDepth t a b then unsupported (.noEntry "binop/eql: two nil values of an interface type with methods, in a part of a struct or an array")
 |_,_=>pure ():Sem Unit).run P w= .ok () w):(eqGuard op t c d a b).run P w= .ok () w:=by
 cases op<;>simp only[eqGuard,a0j,a0v,a0r,a1y,a2c]<;>first|exact h|rfl
def cW (op:BinOp) (t:TypeId) (c d:Operand) (a b:Value) (e:¬(a= .nilIface/\b= .nilIface)) (f:∀xs ys,¬(a= .agg xs/\b= .agg ys)):(eqGuard op t c d a b).run P w= .ok () w:=by
 apply nP;split
 ·exact absurd ⟨rfl,rfl⟩ e
 ·exact absurd ⟨rfl,rfl⟩ (f _ _)
 ·rfl
def gZ {op:BinOp} {t:TypeId} {c d:Operand} {a b v:Value} (e:(eqGuard op t c d a b).run P w= .ok () w) (f:(binOp op t a b).run P w= .ok v w):(do eqGuard op t c d a b;binOp op t a b:Sem Value).run P w= .ok v w:=by
 rw[Sem.run_bind,e,Result.andThen_ok,f]
def BX {op:BinOp} {t:TypeId} {k:IntKind} {a b:Int} {Q:SV->Prop} (h:(FV op k a b).can Q):∃s v,Q s/\(binOp op t (.int k a) (.int k b)).run P w= .ok v w/\Sv F G ow w.heap s v:=by
 cases op<;>simp only[FV]at h<;>first
  |exact⟨_,_,h,by simp[binOp,Op.intArith,Op.intBits,Op.intCmp],.int _ _⟩
  |exact⟨_,_,h,by simp[binOp,Op.intArith,Op.intBits,Op.intCmp],.bool _⟩
  |exact h.elim
  |(
   obtain⟨c,h⟩:=h
   have c:¬b=0:=by simpa using c
   exact⟨_,_,h,by simp[binOp,Op.intDiv,c],.int _ _⟩)
def BY {op:BinOp} {t:TypeId} {a b:List UInt8} {Q:SV->Prop} (h:(FW op a b).can Q):∃s v,Q s/\(binOp op t (.string ⟨a.toArray⟩) (.string ⟨b.toArray⟩)).run P w= .ok v w/\Sv F G ow w.heap s v:=by
 cases op<;>simp only[FW]at h<;>first
  |exact h.elim
  |exact⟨_,_,h,by simp[binOp,Op.stringOp],.bool _⟩
  |(
   obtain⟨c,h⟩:=h
   have c:((a.length+b.length:Nat):Int)<=9223372036854775807:=a0x c;refine⟨_,_,h,?_,.str _⟩;have e:(binOp .add t (.string ⟨a.toArray⟩) (.string ⟨b.toArray⟩)).run P w=(Op.stringOp .add ⟨a.toArray⟩ ⟨b.toArray⟩).run P w:=by simp only[binOp]
   rw[e,run_string_add_sum,ByteArray.mk_append_mk];have d:(ByteArray.mk a.toArray).size=a.length:=by simp[ByteArray.size]
   have f:(ByteArray.mk b.toArray).size=b.length:=by simp[ByteArray.size]
   rw[d,f];omega)
def gx {t:TypeId} {a b:Value} {c:Bool} (h:∀d,(Op.equalIn (d+1) t a b).run P w= .ok c w):(Op.equal t a b).run P w= .ok c w:=h 9999
def m6 {t e:TypeId} (b:P.underlying t=some (.slice e)) (a:Option Addr) (n c d:Nat):(Op.equalIn (d+1) t (.slice a n c) (.slice none 0 0)).run P w= .ok a.isNone w:=by
 cases a<;>simp[Op.equalIn,run_underlying b]
def vU {t:TypeId} {ms} (a:P.underlying t=some (.interface ms)) (d:Nat):(Op.equalIn (d+1) t .nilIface .nilIface).run P w= .ok true w:=by
 simp[Op.equalIn,run_underlying a]
def vV {t:TypeId} {ms} (a:P.underlying t=some (.interface ms)) (d:Nat) (ty:TypeId) (v:Value):(Op.equalIn (d+1) t .nilIface (.iface ty v)).run P w= .ok false w:=by
 simp[Op.equalIn,run_underlying a]
def vW {t:TypeId} {ms} (a:P.underlying t=some (.interface ms)) (d:Nat) (ty:TypeId) (v:Value):(Op.equalIn (d+1) t (.iface ty v) .nilIface).run P w= .ok false w:=by
 simp[Op.equalIn,run_underlying a]
def kj {op:BinOp} {t:TypeId} {a b:Value} {c:Bool} {Q:SV->Prop} (h:(LQ op c).can Q) (d:(Op.equal t a b).run P w= .ok c w)
 (e:∀op,op= .eql\/op= .neq->binOp op t a b=(do let r<-Op.equal t a b;pure (.bool (if op= .eql then r else !r)))):
 ∃s v,Q s/\(binOp op t a b).run P w= .ok v w/\Sv F G ow w.heap s v:=by
 unfold LQ NP at h
 cases op<;>first
  |exact h.elim
  |exact⟨_,_,h,by rw[e _ (.inl rfl)];simp[d],.bool _⟩
  |exact⟨_,_,h,by rw[e _ (.inr rfl)];simp[d],.bool _⟩
def mo {s:SV} {v:Value} {b:Bool} (h:Sv F G ow w.heap s v) (a:rI s=some b):v= .bool b:=by
 unfold rI at a;split at a
 ·cases a;exact h.bool_inv
 ·cases a;exact h.lb_inv
 ·cases a
def m7 {xs ys:List Value}:(l:List Field)->(i:Nat)-> {a b:List SV}-> {c:Bool}->eV P i l a b=some c->(d:Nat)->dn F G ow w.heap a (xs.drop i)->dn F G ow w.heap b (ys.drop i)->(Op.eqFields (d+1) xs.toArray ys.toArray l).run P w= .ok c w
 |[],_,[],[],_,h,_,_,_=>by cases h;rfl
 |[],_,_::_,_,_,h,_,_,_=>by simp[eV]at h
 |[],_,[],_::_,_,h,_,_,_=>by simp[eV]at h
 |_::_,_,[],_,_,h,_,_,_=>by simp[eV]at h
 |_::_,_,_::_,[],_,h,_,_,_=>by simp[eV]at h
 |f::l,i,a::r,b::s,c,h,d,ha,hb=>by
  obtain⟨x,p,C,q,n⟩:=ha.uncons;obtain⟨y,t,D,u,o⟩:=hb.uncons;have I:xs.drop (i+1)=p:=by rw[<-a4n,C];rfl
  have J:ys.drop (i+1)=t:=by rw[<-a4n,D];rfl
  rw[<-I]at n;rw[<-J]at o;have K:xs[i]?=some x:=by have:=a1v (·[0]?) C;simpa using this
  have L:ys[i]?=some y:=by have:=a1v (·[0]?) D;simpa using this
  simp only[eV]at h;split at h
  ·rename_i E
   simp only[a0f,bne_iff_ne,ne_eq,a2w]at E;obtain⟨M,N⟩:=E;have H:∀(d':TypeDesc),P.underlying f.type=some d'->d'.isRow=false->∀(v:List Value) z,v[i]?=some z->(part f.type v.toArray f.offset).run P w= .ok z w:=by
    intro d' j A v z O;have B:dU P f.type=false:=by unfold dU ee;rw[j];cases d'<;>simp_all[TypeDesc.isRow]
    simp[part,mg j,B,N,O]
   have step:∀(d':TypeDesc),P.underlying f.type=some d'->d'.isRow=false->∀e,(Op.equalIn (d+1) f.type x y).run P w= .ok e w->∀m,eV P (i+1) l r s=some m->(Op.eqFields (d+1) xs.toArray ys.toArray (f::l)).run P w= .ok (e&& m) w:=by
    intro d' j A e Q m g;have ih:=m7 l (i+1) g d n o;simp only[Op.eqFields,ne_eq,M,not_false_eq_true,a2c,Sem.run_bind,H d' j A xs x K,H d' j A ys y L,Result.andThen_ok,Q]
    cases e
    ·simp
    ·simpa using ih
   split at h
   ·rename_i k a T b
    rw[q.int_inv,u.int_inv]at step;split at h
    ·rename_i R
     subst R;split at h
     ·rename_i S j
      split at h
      ·rename_i m g
       cases h
       exact step _ j rfl _ (run_equalIn_int w d f.type k S a b j) _ g
      ·cases h
     ·cases h
    ·cases h
   ·rename_i a b
    rw[q.str_inv,u.str_inv]at step;split at h
    ·rename_i j
     split at h
     ·rename_i m g
      cases h
      exact step _ j rfl _ (by rw[run_equalIn_string w d f.type _ _ j];simp) _ g
     ·cases h
    ·cases h
   ·rename_i a b
    rw[q.bool_inv,u.bool_inv]at step;split at h
    ·rename_i j
     split at h
     ·rename_i m g
      cases h
      exact step _ j rfl _ (run_equalIn_bool' w d f.type a b j) _ g
     ·cases h
    ·cases h
   ·cases h
  ·cases h
def zl {t:TypeId} (h:vJ P t=true):∃a,P.underlying t=some (.interface a):=by
 unfold vJ ee at h;split at h
 ·exact⟨_,by assumption⟩
 ·cases h
def BZ {t:TypeId} (h:BH P t=true):P.underlying t=some .bool:=by
 unfold BH ee at h;split at h
 ·assumption
 ·cases h
def gP {t:TypeId} (h:f9 P t=true):∃e,P.underlying t=some (.slice e):=by
 unfold f9 ee at h;split at h
 ·exact⟨_,by assumption⟩
 ·cases h
def zm {op:BinOp} {t i:TypeId} (j:P.underlying t=some (.slice i)) {a:Option Addr} {n c:Nat} {e:Bool} {Q:SV->Prop} (h:(BI op e).can Q) (f:e=false->a.isSome=true):∃s v,Q s/\(binOp op t (.slice a n c) (.slice none 0 0)).run P w= .ok v w/\Sv F G ow w.heap s v:=by
 have g:(Op.equal t (.slice a n c) (.slice none 0 0)).run P w= .ok a.isNone w:=gx λd=>m6 j a n c d
 unfold BI at h;split at h
 ·have b:(binOp .eql t (.slice a n c) (.slice none 0 0)).run P w= .ok (.bool a.isNone) w:=by simp[binOp,g]
  cases a with
  |none=>
   cases e with
   |true=>exact⟨_,_,h.1,b,.lb _⟩
   |false=>simp at f
  |some a=>
   cases e with
   |true=>exact⟨_,_,h.2,b,.lb _⟩
   |false=>exact⟨_,_,h,b,.lb _⟩
 ·have b:(binOp .neq t (.slice a n c) (.slice none 0 0)).run P w= .ok (.bool !a.isNone) w:=by simp[binOp,g]
  cases a with
  |none=>
   cases e with
   |true=>exact⟨_,_,h.1,b,.lb _⟩
   |false=>simp at f
  |some a=>
   cases e with
   |true=>exact⟨_,_,h.2,b,.lb _⟩
   |false=>exact⟨_,_,h,b,.lb _⟩
 ·exact h.elim
def zn (f:bz F G ow w.heap) {x:SV} {xv:Value} (b:Sv F G ow w.heap x xv) {e:Bool} (h:BJ ow x=some e):∃a n c,xv= .slice a n c/\(e=false->a.isSome=true):=by
 unfold BJ at h;split at h
 ·cases h
  obtain⟨_,a,c,rfl,_,b⟩:=b.sl_inv;refine⟨_,_,_,rfl,λd=> ?_⟩;rcases b with rfl|⟨_,_,_,rfl,_⟩
  ·simp at d
  ·rfl
 ·split at h
  ·rename_i r g
   cases h
   obtain⟨_,_,_,_,_,_,_,a,c,rfl,_,b⟩:=jt f b g;refine⟨_,_,_,rfl,λd=> ?_⟩;rcases b with b|⟨_,_,_,_,rfl,_⟩
   ·simp[b]at d
   ·rfl
  ·cases h
def Dw {op:BinOp} {t:TypeId} {u:Bool} {z A:Operand} (B:u=((z matches .const _)||(A matches .const _))) {x y:SV} {xv H:Value} (T:bz F G ow w.heap)
 (m:Sv F G ow w.heap x xv) (o:Sv F G ow w.heap y H) {Q:SV->Prop} (h:(LR P op t u x y ow).can Q):
 ∃s v,Q s/\(do eqGuard op t z A xv H;binOp op t xv H:Sem Value).run P w= .ok v w/\Sv F G ow w.heap s v:=by
 unfold LR at h;split at h
 ·rename_i k a U b
  rw[m.int_inv,o.int_inv];have r:(eqGuard op t z A (.int k a) (.int U b)).run P w= .ok () w:=cW _ _ _ _ _ _ (by simp) (by simp);split at h
  ·obtain⟨f,h⟩:=h
   have f:¬b<(0:Int):=Int.not_lt.2 (a0x f);exact⟨_,_,h,gZ r (by simp[binOp,Op.shift,f]),.int _ _⟩
  ·obtain⟨f,h⟩:=h
   have f:¬b<(0:Int):=Int.not_lt.2 (a0x f);exact⟨_,_,h,gZ r (by simp[binOp,Op.shift,f]),.int _ _⟩
  ·split at h
   ·rename_i V
    subst V;obtain⟨s,v,g,i,j⟩:=BX (F:=F) (G:=G) (ow:=ow) (w:=w) (P:=P) (t:=t) h;exact⟨s,v,g,gZ r i,j⟩
   ·exact h.elim
 ·rename_i a b
  split at h
  ·rw[m.str_inv,o.str_inv]
   obtain⟨s,v,g,i,j⟩:=BY (F:=F) (G:=G) (ow:=ow) (w:=w) (P:=P) (t:=t) h;exact⟨s,v,g,gZ (cW _ _ _ _ _ _ (by simp) (by simp)) i,j⟩
  ·exact h.elim
 ·rename_i a b
  split at h
  ·rename_i f
   simp only[a0f]at f;obtain⟨X,l⟩:=zl f.1;obtain⟨I,h⟩:=h;have C:=f.2;rw[B]at C
   cases m with
   |v _ m=>
   cases o with
   |v _ o=>
   rcases m with⟨rfl,m⟩|⟨rfl,tx,N,m⟩<;>rcases o with⟨rfl,o⟩|⟨rfl,ty,O,o⟩<;>cases m<;>cases o
   ·obtain⟨s,v,g,i,j⟩:=kj (F:=F) (G:=G) (ow:=ow) (w:=w) (P:=P) (t:=t) (a:= .nilIface) (b:= .nilIface) h (gx λd=>vU l d) (λop p=>by rcases p with rfl|rfl<;>simp[binOp])
    refine⟨s,v,g,gZ (nP _ _ _ _ _ _ ?_) i,j⟩;simp only[];rw[a0e (by simpa using C)];rfl
   ·obtain⟨s,v,g,i,j⟩:=kj (F:=F) (G:=G) (ow:=ow) (w:=w) (P:=P) (t:=t) (a:= .nilIface) (b:= .iface ty O) h (gx λd=>vV l d ty O) (λop p=>by rcases p with rfl|rfl<;>simp[binOp])
    exact⟨s,v,g,gZ (cW _ _ _ _ _ _ (by simp) (by simp)) i,j⟩
   ·obtain⟨s,v,g,i,j⟩:=kj (F:=F) (G:=G) (ow:=ow) (w:=w) (P:=P) (t:=t) (a:= .iface tx N) (b:= .nilIface) h (gx λd=>vW l d tx N) (λop p=>by rcases p with rfl|rfl<;>simp[binOp])
    exact⟨s,v,g,gZ (cW _ _ _ _ _ _ (by simp) (by simp)) i,j⟩
   ·simp at I
  ·exact h.elim
 ·rename_i a b
  split at h
  ·rename_i R l
   split at h
   ·exact h.elim
   rename_i q;simp only[a4e,not_or,a3z]at q;split at h
   ·rename_i c f
    obtain⟨xs,rfl,J⟩:=m.agg_inv;obtain⟨ys,rfl,K⟩:=o.agg_inv;have S:P.fieldsOf t=R:=by simp[Program.fieldsOf,ee]at l⊢;rw[l]
    have L:P.underlying t=some (.struct (P.fieldsOf t)):=by rw[S];exact l
    have E:(Op.equal t (.agg xs.toArray) (.agg ys.toArray)).run P w= .ok c w:=by
     show(Op.equalIn (9998+1+1) t _ _).run P w=_
     generalize (9998:Nat)=d
     rw[run_equalIn_struct w (d+1) t _ _ L q.1,S];exact m7 R.toList 0 f d (by simpa using J) (by simpa using K)
    obtain⟨s,v,g,i,j⟩:=kj (F:=F) (G:=G) (ow:=ow) (w:=w) (P:=P) (t:=t) h E (λop p=>by rcases p with rfl|rfl<;>simp[binOp]);exact⟨s,v,g,gZ (run_eqGuard_agg w op t z A _ _ q.2) i,j⟩
   ·exact h.elim
  ·exact h.elim
 ·split at h
  ·rename_i D
   obtain⟨e,l⟩:=gP D;split at h
   ·rename_i c f
    cases m
    cases o
    have E:(Op.equal t (.slice none 0 0) (.slice none 0 0)).run P w= .ok true w:=gx λd=>m6 l none 0 0 d
    have r:(eqGuard op t z A (.slice none 0 0) (.slice none 0 0)).run P w= .ok () w:=cW _ _ _ _ _ _ (by simp) (by simp)
    cases op<;>simp[NP]at f
    ·subst f;exact⟨_,_,h,gZ r (by simp[binOp,E]),.lb _⟩
    ·subst f;exact⟨_,_,h,gZ r (by simp[binOp,E]),.lb _⟩
   ·exact h.elim
  ·exact h.elim
 ·split at h
  ·rename_i D
   obtain⟨e,l⟩:=gP D;split at h
   ·rename_i c f
    cases o
    obtain⟨a,n,Y,rfl,M⟩:=zn T m f;obtain⟨s,v,g,i,j⟩:=zm (F:=F) (G:=G) (ow:=ow) (w:=w) l h M;exact⟨s,v,g,gZ (cW _ _ _ _ _ _ (by simp) (by simp)) i,j⟩
   ·exact h.elim
  ·exact h.elim
 ·split at h
  ·rename_i a b M W
   split at h
   ·rename_i D
    have l:=BZ D;rw[mo m M,mo o W];obtain⟨s,v,g,i,j⟩:=kj (F:=F) (G:=G) (ow:=ow) (w:=w) (P:=P) (t:=t) (a:= .bool a) (b:= .bool b) h (gx λd=>run_equalIn_bool' w d t a b l) (λop p=>by rcases p with rfl|rfl<;>simp[binOp])
    exact⟨s,v,g,gZ (cW _ _ _ _ _ _ (by simp) (by simp)) i,j⟩
   ·exact h.elim
  ·exact h.elim
def F4 {op:UnOp} {x:SV} {xv:Value} (a:Sv F G ow w.heap x xv) {Q:SV->Prop} (h:(Pa op x).can Q):∃s v,Q s/\(Op.unary op xv).run P w= .ok v w/\Sv F G ow w.heap s v:=by
 unfold Pa at h;split at h
 ·rw[a.bool_inv];exact⟨_,_,h,by simp[Op.unary],.bool _⟩
 ·rw[a.lb_inv];exact⟨_,_,h,by simp[Op.unary],.lb _⟩
 ·rw[a.int_inv];exact⟨_,_,h,by simp[Op.unary,Op.intArith],.int _ _⟩
 ·rw[a.int_inv];exact⟨_,_,h,by simp[Op.unary,Op.intBits],.int _ _⟩
 ·exact h.elim
def B0 {c a b:SV} {f d e:Value} (g:Sv F G ow w.heap c f) (i:Sv F G ow w.heap a d) (j:Sv F G ow w.heap b e) {Q:SV->Prop} (h:(FX c a b).can Q):∃s v,Q s/\(do pure (if<-asBool f then d else e):Sem Value).run P w= .ok v w/\Sv F G ow w.heap s v:=by
 unfold FX at h;split at h
 ·rename_i t
  rw[g.lb_inv]
  cases t
  ·exact⟨_,e,h,by simp[asBool],j⟩
  ·exact⟨_,d,h,by simp[asBool],i⟩
 ·rename_i t
  split at h
  ·rename_i x y k l
   rw[g.bool_inv,mo i k,mo j l]
   cases t
   ·exact⟨_,_,h,by simp[asBool],.bool _⟩
   ·exact⟨_,_,h,by simp[asBool],.bool _⟩
  ·exact h.elim
 ·exact h.elim
end Go.Pev
namespace Go.Pev
variable {F:Nat->Prop} {G:Gh} {ow:OW} {w:World} {P:Program}
def F5 {s:SV} {v:Value} (h:Sv F G ow w.heap s v) (b:vG s=true):v.oneCell'=true:=by
 cases h with
 | @v k x val hk a=>
  cases k with
  |int _=>cases a;rfl
  |bool=>cases a;rfl
  |str=>cases a;rfl
  |err=>rcases a with⟨_,a⟩|⟨_,_,_,a⟩<;>cases a<;>rfl
  |any=>cases a;rfl
  |sl o e=>
   cases o with
   |true=>exact a.elim
   |false=>obtain⟨_,_,a,_⟩:=a;cases a;rfl
  |nil=>cases hk
  |cons _ _=>cases hk
  |tree _=>obtain⟨v,a,c⟩:=a;cases a;obtain⟨_,_,rfl⟩:=c.ptr;rfl
 |lb=>rfl
 |dead=>cases b
 |nils=>rfl
 |agg=>cases b
 |tup=>cases b
 |fn=>rfl
 |wh h=>
  unfold cV at h;split at h
  ·exact h.elim
  ·exact h
  ·exact h.elim
  ·obtain⟨_,_,_,rfl,_⟩:=h;rfl
  ·obtain⟨_,_,_,rfl,_⟩:=h;rfl
  ·obtain⟨_,_,_,rfl,_⟩:=h;rfl
  ·obtain⟨_,_,rfl⟩:=h;rfl
 |os h=>
  unfold cV at h;split at h
  ·exact h.elim
  ·exact h
  ·exact h.elim
  ·obtain⟨_,_,_,rfl,_⟩:=h;rfl
  ·obtain⟨_,_,_,rfl,_⟩:=h;rfl
  ·obtain⟨_,_,_,rfl,_⟩:=h;rfl
  ·obtain⟨_,_,rfl⟩:=h;rfl
 |bp h=>
  split at h
  ·exact h.elim
  ·exact h
  ·obtain⟨_,_,_,rfl⟩:=h;rfl
  ·exact h
  ·exact h.elim
 |rp h=>
  split at h
  ·exact h.elim
  ·exact h
  ·obtain⟨_,_,_,_,rfl⟩:=h;rfl
  ·obtain⟨_,_,_,_,rfl⟩:=h;rfl
  ·obtain⟨_,_,_,_,rfl⟩:=h;rfl
  ·exact h
  ·exact h.elim
 |ip=>rfl
def ix {v:Value} (h:v.oneCell'=true):v.cells= #[v]:=by cases v<;>simp_all[Value.cells,Value.oneCell']
def fI {t:TypeId} {s:SV} {v:Value} (d:Sv F G ow w.heap s v) {b:List SV} (h:fO P t s=some b):∃vs,v.cells=vs.toArray/\dn F G ow w.heap b vs/\(∀u∈vs,u.oneCell'=true)/\vs.length=cP P t:=by
 unfold fO at h;split at h
 ·split at h
  ·split at h
   ·rename_i l e
    simp only[a0f,a0u]at e
    cases h
    obtain⟨vs,rfl,a⟩:=d.agg_inv;refine⟨vs,rfl,a,λu j=> ?_,by rw[<-a.1,e.1]⟩;obtain⟨i,g,rfl⟩:=a4c j;have c:i<b.length:=by rw[a.1];exact g
    exact F5 (a.2 i c g) (a1e.1 e.2 _ (a0h c))
   ·cases h
  ·cases h
 ·split at h
  ·rename_i f
   simp only[a0f,a0u]at f
   cases h
   have c:=F5 d f.1;exact⟨[v],ix c,.cons d .nil,by simpa using c,by simp[f.2]⟩
  ·cases h
def tc:(n:Nat)->(v:Value)->Sv F G ow w.heap (nu n v) v:=by
 intro n
 induction n with
 |zero=>
  intro v;unfold nu;split
  ·exact .lb _
  ·exact .int _ _
  ·rename_i s;exact .v rfl (by simp[cz])
  ·exact .nils
  ·exact .v rfl (.inl ⟨rfl,rfl⟩)
  ·rename_i e;cases e
  ·rename_i e;cases e
  ·exact .dead _
 |succ n ih=>
  intro v;unfold nu;split
  ·exact .lb _
  ·exact .int _ _
  ·rename_i s;exact .v rfl (by simp[cz])
  ·exact .nils
  ·exact .v rfl (.inl ⟨rfl,rfl⟩)
  ·rename_i f cs e
   cases e
   have:Sv F G ow w.heap (.agg (cs.toList.map (nu n))) (.agg cs.toList.toArray):= .agg (by simp) (λi c d=>by simp only[a4k];exact ih _);simpa using this
  ·rename_i f g a b e
   cases e
   have:Sv F G ow w.heap (.fn g (a.toList.map (nu n)) (b.toList.map (nu n))) (.func g a.toList.toArray b.toList.toArray):= .fn (by simp) (by simp) (λi c d=>by simp only[a4k];exact ih _) (λi c d=>by simp only[a4k];exact ih _)
   simpa using this
  ·exact .dead _
def m8 {t:TypeId} {a:List SV} (h:lI P t=some a):∃i v,P.info? t=some i/\i.zero=some v/\v.cells.size=i.size/\dn F G ow w.heap a v.cells.toList:=by
 unfold lI at h;split at h
 ·rename_i i b
  split at h
  ·rename_i v c
   split at h
   ·rename_i d
    cases h
    exact⟨i,v,b,c,d,by simp,λj e f=>by simp only[a4k];exact tc 4 _⟩
   ·cases h
  ·cases h
 ·cases h
def fP {t:TypeId} {i:TypeInfo} {v:Value} (a:P.info? t=some i) (b:i.zero=some v):(zeroValue t).run P w= .ok v w:=by
 simp[zeroValue,typeInfo,a,b]
def vX {b c:List SV} {cs vs:List Value} (f:dn F G ow w.heap b cs) (g:dn F G ow w.heap c vs) {off:Nat} {r:List SV} (h:js b off c=some r):
 off+vs.length<=cs.length/\dn F G ow w.heap r (cs.take off++vs++cs.drop (off+vs.length))/\
 vs.toArray.zipIdx.foldl (λa (x:Value×Nat)=>a.setIfInBounds (off+x.2) x.1) cs.toArray=(cs.take off++vs++cs.drop (off+vs.length)).toArray:=by
 unfold js at h;split at h
 ·rename_i i
  cases h
  have d:off+vs.length<=cs.length:=by rw[<-f.1,<-g.1];exact i
  refine⟨d,?_,?_⟩
  ·rw[g.1]
   exact((f.take off).append g).append (f.drop _)
  ·obtain⟨n,j⟩:=Great.foldl_set off vs 0 cs.toArray
   have e:vs.toArray.zipIdx.foldl (λa (x:Value×Nat)=>a.setIfInBounds (off+x.2) x.1) cs.toArray=(vs.zipIdx 0).foldl (λa (x:Value×Nat)=>a.setIfInBounds (off+x.2) x.1) cs.toArray:=by
    rw[<-Array.foldl_toList];simp
   rw[e];apply Array.ext_getElem?;intro k;rw[j k];simp only[a4d,a2t,a8c];by_cases l:k<off
   ·rw[a0c (by omega),a1r,a1k (by simp;omega),a5f l]
   ·by_cases m:k<off+vs.length
    ·rw[a0e (by omega),a1k (by simp;omega),a0w (by simp;omega)]
     simp[a6v (show off<=cs.length by omega)]
    ·rw[a0c (by omega),a0w (by simp;omega)]
     simp only[a0m,a1m,a2v]
     congr 1
     omega
 ·cases h
def te {t:TypeId} {l:Array Field} (y:P.underlying t=some (.struct l)):(ps:List (Nat×SV))-> {a r:List SV}->H6 P t a ps=some r-> {cs:List Value}->dn F G ow w.heap a cs->
 {vps:List (Nat×Value)}->ps.map (·.1)=vps.map (·.1)->dn F G ow w.heap (ps.map (·.2)) (vps.map (·.2))->
 ∃vs,Instr.fill ((l.map λf=>(f.offset,cP P f.type))[·]?) cs.toArray vps=some vs.toArray/\dn F G ow w.heap r vs
 |[],_,_,h,cs,hc,vps,c,_=>by
  cases h
  cases vps with
  |nil=>exact⟨cs,rfl,hc⟩
  |cons _ _=>simp at c
 |(f,s)::ps,a,r,h,cs,hc,vps,c,h2=>by
  cases vps with
  |nil=>simp at c
  |cons p vps=>
  obtain⟨L,v⟩:=p;simp only[a2i,a5e]at c;obtain⟨rfl,c⟩:=c;obtain⟨M,A,e,B,m⟩:=h2.uncons;simp only[a2i,a5e]at e;obtain⟨rfl,rfl⟩:=e;simp only[H6]at h;split at h
  ·rename_i z n
   split at h
   ·rename_i C g
    split at h
    ·rename_i k b
     obtain⟨vs,o,D,_,i⟩:=fI B g;obtain⟨E,q,d⟩:=vX hc D b;obtain⟨H,I,u⟩:=te y ps h q c m;refine⟨H,?_,u⟩;obtain⟨J,j,x⟩:=nM n;rw[y]at j
     cases j
     have K:(l.map λf=>(f.offset,cP P f.type))[f]?=some (z.offset,cP P z.type):=by simp[x]
     unfold Instr.fill;simp only[K,o,a2t];rw[a0c (by simp[i];omega),d];exact I
    ·cases h
   ·cases h
  ·cases h
def F6 (l:List Field) (h:l.all (λf=>(P.info? f.type).isSome)=true):(l.mapM λf=>(do pure (f.offset,<-sizeOf f.type):Sem (Nat×Nat))).run P w= .ok (l.map λf=>(f.offset,cP P f.type)) w:=by
 induction l with
 |nil=>rfl
 |cons f l ih=>
  simp only[a5t,a0f]at h;obtain⟨i,a⟩:=a7l.1 h.1;simp only[a7i,Sem.run_bind,Ax a,Result.andThen_ok,Sem.run_pure,ih h.2,a2i]
def zp {t:TypeId} {ps:List (Nat×SV)} {vps:List (Nat×Value)} (m:ps.map (·.1)=vps.map (·.1)) (n:dn F G ow w.heap (ps.map (·.2)) (vps.map (·.2))) {Q:SV->Prop} (h:(BF P t ps).can Q):∃s v,Q s/\(Instr.build t vps.toArray).run P w= .ok v w/\Sv F G ow w.heap s v:=by
 unfold BF ee at h;split at h
 ·rename_i c k o l
  split at h
  ·rename_i a
   split at h
   ·rename_i r p
    obtain⟨i,z,q,d,_,g⟩:=m8 (F:=F) (G:=G) (ow:=ow) (w:=w) o;obtain⟨vs,b,j⟩:=te l ps p g m n;refine⟨_,.agg vs.toArray,h,?_,j.agg⟩;simp only[Instr.build,Sem.run_bind,fP q d,Result.andThen_ok,run_underlying l];have e:(k.mapM λf=>(do pure (f.offset,<-sizeOf f.type):Sem (Nat×Nat))).run P w= .ok (k.map λf=>(f.offset,cP P f.type)) w:=by
     rw[a7j,Sem.run_map,F6 _ a];simp only[Result.andThen_ok]
     congr 1
     apply a4p;simp
    rw[e];simp only[Result.andThen_ok];simp only[a6t]at b;rw[b];rfl
   ·exact h.elim
  ·exact h.elim
 ·exact h.elim
def L6 {t:TypeId} {d:TypeDesc} (a:P.underlying t=some d) {cs:List Value} {off:Nat} (b:(if dU P t then cP P t else 1)<=(cs.drop off).length):(part t cs.toArray off).run P w= .ok (qy (dU P t) ((cs.drop off).take (if dU P t then cP P t else 1))) w:=by
 obtain⟨i,c⟩:=g9 a
 cases ha:dU P t with
 |true=>
  simp only[part,Sem.run_bind,mg a,ha,Result.andThen_ok,a2c,Ax c,Sem.run_pure,qy]
  congr 2
  apply a4p;simp
 |false=>
  simp only[ha,a0r,a1y,a2u]at b;have f:cs[off]?=some (cs[off]'(by omega)):=a0a (by omega);have e:(cs.drop off).take 1=[cs[off]'(by omega)]:=by rw[a1a (by omega)];rfl
  simp[part,mg a,ha,f,qy,e]
def zq {t:TypeId} {x:SV} {xv:Value} {f:Nat} (i:Sv F G ow w.heap x xv) {Q:SV->Prop} (h:(BG P t x f).can Q):∃s v,Q s/\(Instr.field t xv f).run P w= .ok v w/\Sv F G ow w.heap s v:=by
 unfold BG at h;split at h
 ·rename_i cs g j
  obtain⟨s,k,l⟩:=aX.can_ofOpt h;obtain⟨vs,rfl,a⟩:=i.agg_inv;obtain⟨o,m,c⟩:=nM j;obtain⟨⟨d,n⟩,_,b,e⟩:=eK (a.drop g.offset) k;rw[(a.drop g.offset).1]at b;refine⟨s,_,l,?_,e⟩;simp only[Instr.field,Sem.run_bind,run_underlying m,Result.andThen_ok,c,asAgg,Sem.run_pure];exact L6 n b
 ·exact h.elim
def zr {t:TypeId} {x:SV} {xv:Value} (b:Sv F G ow w.heap x xv) {Q:SV->Prop} (h:(BL P t x).can Q):∃s v,Q s/\(Instr.makeInterface t xv).run P w= .ok v w/\Sv F G ow w.heap s v:=by
 unfold BL ee at h;split at h
 ·rename_i n a
  rw[b.int_inv];exact⟨_,.iface t (.int .i64 n),h,by simp[Instr.makeInterface,run_underlying a],.v rfl rfl⟩
 ·rename_i s a
  rw[b.str_inv];exact⟨_,.iface t (.string ⟨s.toArray⟩),h,by simp[Instr.makeInterface,run_underlying a],.v rfl rfl⟩
 ·exact h.elim
def B1 {t:TypeId} (h:BM P t=true):∃i,P.info? t=some i/\i.zero=some (.int .i64 0):=by
 unfold BM at h;split at h
 ·rename_i e
  simp only[a2l]at e;exact e
 ·cases h
def B2 {t:TypeId} (h:BN P t=true):∃i,P.info? t=some i/\i.zero=some (.string ⟨#[]⟩):=by
 unfold BN at h;split at h
 ·rename_i s e
  simp only[a2l]at e;obtain⟨i,a,b⟩:=e;refine⟨i,a,?_⟩;rw[b];obtain⟨d⟩:=s;simp at h;rw[h]
 ·cases h
def vY {xt t:TypeId} {x:SV} {xv:Value} (c:Sv F G ow w.heap x xv) {Q:SV->Prop} (h:(vK P t x).can Q):∃s v,Q s/\(Instr.typeAssert xv xt t true).run P w= .ok v w/\Sv F G ow w.heap s v:=by
 unfold vK ee at h;split at h
 ·rename_i y d
  split at h
  ·rename_i e
   obtain⟨i,f,a⟩:=B1 e;obtain⟨g,h⟩:=h
   cases c with
   |v _ c=>
   cases c
   obtain⟨ty,u⟩:=y;by_cases b:ty=t
   ·subst b
    cases u with
    |inl n=>
     refine⟨_,.tuple #[.int .i64 n,.bool true],h,by simp[Instr.typeAssert,run_underlying d,Pe],?_⟩;simp only[a5x,a0z];exact .tup rfl (dn.cons (.int _ _) (.cons (.bool _) .nil)).2
    |inr s=>simp at g
   ·refine⟨_,.tuple #[.int .i64 0,.bool false],h,by simp[Instr.typeAssert,run_underlying d,b,fP f a],?_⟩
    have:(ty==t)=false:=by simpa using b
    simp only[this,a1q];exact .tup rfl (dn.cons (.int _ _) (.cons (.bool _) .nil)).2
  ·exact h.elim
 ·rename_i y d
  split at h
  ·rename_i e
   obtain⟨i,f,a⟩:=B2 e;obtain⟨g,h⟩:=h
   cases c with
   |v _ c=>
   cases c
   obtain⟨ty,u⟩:=y;by_cases b:ty=t
   ·subst b
    cases u with
    |inr n=>
     refine⟨_,.tuple #[.string ⟨n.toArray⟩,.bool true],h,by simp[Instr.typeAssert,run_underlying d,Pe],?_⟩;simp only[a5x,a0z];exact .tup rfl (dn.cons (.str _) (.cons (.bool _) .nil)).2
    |inl s=>simp at g
   ·refine⟨_,.tuple #[.string ⟨#[]⟩,.bool false],h,by simp[Instr.typeAssert,run_underlying d,b,fP f a],?_⟩
    have:(ty==t)=false:=by simpa using b
    simp only[this,a1q];exact .tup rfl (dn.cons (.str []) (.cons (.bool _) .nil)).2
  ·exact h.elim
 ·exact h.elim
def vZ {k:IntKind}:(l:List SV)-> {vs:List Value}->dn F G ow w.heap l vs-> {a n:Int}->NQ k l a=some n->(vs.foldlM Builtin.min2 (.int k a)).run P w= .ok (.int k n) w
 |[],vs,hl,a,n,h=>by
  cases h
  have:vs=[]:=a0s hl.1.symm;subst this;rfl
 |s::r,vs,hl,a,n,h=>by
  obtain⟨v,c,rfl,d,b⟩:=hl.uncons;unfold NQ at h;split at h
  ·rename_i e;cases e
  ·rename_i g y i e
   cases e
   split at h
   ·rename_i f
    subst f;rw[d.int_inv];simp only[List.foldlM_cons,Sem.run_bind,Builtin.min2,Sem.run_pure,Result.andThen_ok];exact vZ r b h
   ·cases h
  ·cases h
def v6 {k:IntKind}:(l:List SV)-> {vs:List Value}->dn F G ow w.heap l vs-> {a n:Int}->NR k l a=some n->(vs.foldlM Builtin.max2 (.int k a)).run P w= .ok (.int k n) w
 |[],vs,hl,a,n,h=>by
  cases h
  have:vs=[]:=a0s hl.1.symm;subst this;rfl
 |s::r,vs,hl,a,n,h=>by
  obtain⟨v,c,rfl,d,b⟩:=hl.uncons;unfold NR at h;split at h
  ·rename_i e;cases e
  ·rename_i g y i e
   cases e
   split at h
   ·rename_i f
    subst f;rw[d.int_inv];simp only[List.foldlM_cons,Sem.run_bind,Builtin.max2,Sem.run_pure,Result.andThen_ok];exact v6 r b h
   ·cases h
  ·cases h
def L7 (F:Nat->Prop) (G:Gh) (ow:OW) (h:Array Obj) (ρ:Operand->SV) (a:Operand->Value):Prop:=∀x,Sv F G ow h (ρ x) (a x)
def L7.svs {ρ:Operand->SV} {a:Operand->Value} (b:L7 F G ow w.heap ρ a) (l:List Operand):dn F G ow w.heap (l.map ρ) (l.map a):=⟨by simp,λi c d=>by simp only[a4k];exact b _⟩
def IP {P:Program} {w:World} {s:Sem Value} {v:Value} (h:s.run P w= .ok v w):(do pure (Next.value (<-s)):Sem Next).run P w= .ok (.value v) w:=by
 rw[Sem.run_bind,h];rfl
def rO {x:SV} {xv:Value} (c:Sv F G ow w.heap x xv) {Q:SV->Prop} (h:(md x ow).can Q):∃s,Q s/\Sv F G ow w.heap s xv/\((∃a,xv= .pointer (some a))\/∃f a b,xv= .func (.func f) a b):=by
 unfold md at h;split at h
 ·split at h
  ·rename_i j
   obtain⟨g,d⟩:=mj j;refine⟨_,h,c,.inl ?_⟩
   cases c with
   |bp hp=>
   simp only[d]at hp;obtain⟨b,o,_,rfl⟩:=hp;exact⟨_,rfl⟩
  ·exact h.elim
 ·split at h
  ·rename_i r m
   obtain⟨rfl,d⟩:=hY m;refine⟨_,h,c,.inl ?_⟩
   cases c with
   |rp hp=>
   rcases d with⟨k,i,l,d,rfl⟩|⟨k,i,l,d,rfl⟩|⟨k,l,i,d,rfl⟩<;>
   ·simp only[d]at hp
    obtain⟨_,b,o,_,rfl⟩:=hp;exact⟨_,rfl⟩
  ·exact h.elim
 ·refine⟨_,h,c,.inl ?_⟩
  cases c
  exact⟨_,rfl⟩
 ·refine⟨_,h,c,.inl ?_⟩
  cases c with
  |v _ c=>
  obtain⟨_,n,p⟩:=c
  cases n
  obtain⟨_,_,e⟩:=p.ptr;exact⟨_,e⟩
 ·refine⟨_,h,c,.inr ?_⟩
  cases c
  exact⟨_,_,_,rfl⟩
 ·exact h.elim
def v7 {o:Op} {op:Oper} (m:op.op=o) {ρ:Operand->SV} {p:Operand->Value} (H:bz F G ow w.heap) (d:L7 F G ow w.heap ρ p) {Q:SV->Prop} (h:(pi P o ρ ow).can Q):∃s v,Q s/\(execOp p op).run P w= .ok (.value v) w/\Sv F G ow w.heap s v:=by
 have g:∀ {c:Sem Value},(∃s v,Q s/\c.run P w= .ok v w/\Sv F G ow w.heap s v)->(execOp p op).run P w=(do pure (Next.value (<-c)):Sem Next).run P w->∃s v,Q s/\(execOp p op).run P w= .ok (.value v) w/\Sv F G ow w.heap s v:=by
  intro c y R;obtain⟨s,v,A,I,j⟩:=y;exact⟨s,v,A,by rw[R,IP I],j⟩
 unfold pi at h;split at h
 ·exact⟨_,_,h,by simp[execOp,m],d _⟩
 ·exact⟨_,_,h,by simp[execOp,m],d _⟩
 ·exact g (B0 (P:=P) (d _) (d _) (d _) h) (by simp[execOp,m])
 ·rename_i t q
  refine g (zp (vps:=q.toList.map λx=>(x.1,p x.2)) (by simp) (by simp only[a8w];exact(by simpa [a7m]using d.svs (q.toList.map (·.2)))) h) ?_
  simp only[execOp,m]
  congr 4
  apply a4p;simp
 ·exact g (mi (P:=P) H (d _) h) (by simp only[execOp,m])
 ·obtain⟨s,A,j,u⟩:=rO (d _) h
  refine⟨s,_,A,?_,j⟩;rcases u with⟨a,J⟩|⟨f,a,b,J⟩
  ·simp[execOp,m,J]
  ·simp[execOp,m,J]
 ·exact g (Dw rfl H (d _) (d _) h) (by simp only[execOp,m])
 ·exact g (F4 (P:=P) (d _) h) (by simp only[execOp,m])
 ·exact g (uE (P:=P) H (d _) h) (by simp only[execOp,m])
 ·rename_i f a b
  refine g (c:=Instr.makeFunc f (a.map p) (b.map p)) ⟨_,_,h,rfl,?_⟩ (by simp only[execOp,m]);have:=ct.fn (f:=f) (d.svs a.toList).1 (d.svs b.toList).1 (d.svs a.toList).2 (d.svs b.toList).2;have e:∀a:Array Operand,(a.toList.map p).toArray=a.map p:=λa=>by apply a4p;simp
  rw[e,e]at this;exact this
 ·exact g (zr (P:=P) (d _) h) (by simp only[execOp,m])
 ·rename_i x xt t
  exact g (vY (P:=P) (xt:=xt) (d _) h) (by simp only[execOp,m])
 ·rename_i t x K z
  refine g (zj (P:=P) (lov:=K.map p) (hiv:=z.map p) (d _) ?_ ?_ ?_ ?_ h) (by simp only[execOp,m];rfl)
  ·intro s j;cases K with
   |none=>cases j
   |some x=>cases j;exact⟨_,rfl,d _⟩
  ·intro j;cases K with
   |none=>rfl
   |some x=>cases j
  ·intro s j;cases z with
   |none=>cases j
   |some x=>cases j;exact⟨_,rfl,d _⟩
  ·intro j;cases z with
   |none=>rfl
   |some x=>cases j
 ·exact g (qz (P:=P) (d _) h) (by simp only[execOp,m])
 ·exact g (zq (P:=P) (d _) h) (by simp only[execOp,m])
 ·exact g (qB (P:=P) (d _) (d _) h) (by simp only[execOp,m])
 ·split at h
  ·rename_i L
   exact g (zk (P:=P) L (d _) (d _) h) (by simp only[execOp,m])
  ·exact h.elim
 ·rename_i t i
  split at h
  ·rename_i l S
   split at h
   ·rename_i s j
    have:=d t;rw[S]at this;obtain⟨vs,u,B⟩:=this.tup_inv;obtain⟨z,rfl⟩:=a0t.1 j;have C:i<vs.length:=by rw[<-B.1];exact z
    exact g (c:=Instr.extract (p t) i) ⟨_,vs[i],h,by simp[Instr.extract,u,C],B.2 i z C⟩ (by simp only[execOp,m])
   ·exact h.elim
  ·exact h.elim
 ·rename_i c
  split at h
  ·rename_i y
   split at h
   ·rename_i x t ts D L
    obtain⟨s,v,A,I,j⟩:=Du (P:=P) (ty:=op.type) (ts:=ts) (d x) h;refine⟨s,v,A,?_,j⟩;have E:c.args.map p= #[p x]:=by apply a4p;simp[D]
    have T:c.argTypes=(t::ts).toArray:=by apply a4p;simp[L]
    simp only[execOp,m,resolve,y,Sem.run_bind,Sem.run_pure,Result.andThen_ok,invoke,builtin,E,T,I]
   ·exact h.elim
  ·rename_i y
   split at h
   ·rename_i k a r D
    split at h
    ·rename_i n M
     have j:=d.svs c.args.toList;rw[D]at j;obtain⟨v,vs,u,N,O⟩:=j.uncons;rw[N.int_inv]at u;refine⟨_,.int k n,h,?_,.int _ _⟩;have E:(c.args.map p).toList= .int k a::vs:=by simpa using u
     simp only[execOp,m,resolve,y,Sem.run_bind,Sem.run_pure,Result.andThen_ok,invoke,builtin,Builtin.min_,E,vZ r O M]
    ·exact h.elim
   ·exact h.elim
  ·rename_i y
   split at h
   ·rename_i k a r D
    split at h
    ·rename_i n M
     have j:=d.svs c.args.toList;rw[D]at j;obtain⟨v,vs,u,N,O⟩:=j.uncons;rw[N.int_inv]at u;refine⟨_,.int k n,h,?_,.int _ _⟩;have E:(c.args.map p).toList= .int k a::vs:=by simpa using u
     simp only[execOp,m,resolve,y,Sem.run_bind,Sem.run_pure,Result.andThen_ok,invoke,builtin,Builtin.max_,E,v6 r O M]
    ·exact h.elim
   ·exact h.elim
  ·exact h.elim
 ·exact h.elim
end Go.Pev
namespace Go.Pev
def EC:Option (Option OB)->Option (Option OB)->Prop
 |none,_=>True
 |some _,some none=>True
 |some (some (.box _)),some (some (.box _))=>True
 |some (some (.row k _ l)),some (some (.row k' _ l'))=>k=k'/\l.length=l'.length
 |some (some (.row k _ l)),some (some (.frow k' _ l'))=>k=k'/\l.length=l'.length
 |some (some (.frow k _ l)),some (some (.frow k' _ l'))=>k=k'/\l.length=l'.length
 |some (some (.row _ _ l)),some (some (.lrow n))=>l.length=n
 |some (some (.nrow k l _)),some (some (.nrow k' l' _))=>k=k'/\l.length=l'.length
 |some (some (.nrow k l _)),some (some (.frow k' _ l'))=>k.w=k'.n/\l.length=l'.length
 |some (some (.nrow _ l _)),some (some (.lrow n))=>l.length=n
 |some (some (.lrow n)),some (some (.lrow m))=>n=m
 |some (some (.box _)),some (some (.lrow _))=>True
 |_,_=>False
def EC.refl (x:Option (Option OB)):EC x x:=by
 match x with
 |none=>trivial
 |some none=>trivial
 |some (some (.box _))=>trivial
 |some (some (.row _ _ _))=>exact⟨rfl,rfl⟩
 |some (some (.frow _ _ _))=>exact⟨rfl,rfl⟩
 |some (some (.nrow _ _ _))=>exact⟨rfl,rfl⟩
 |some (some (.lrow _))=>exact rfl
def EC.dead {x:Option (Option OB)}:EC x (some none):=by
 match x with
 |none=>trivial
 |some none=>trivial
 |some (some (.box _))=>trivial
 |some (some (.row _ _ _))=>trivial
 |some (some (.frow _ _ _))=>trivial
 |some (some (.nrow _ _ _))=>trivial
 |some (some (.lrow _))=>trivial
def cq.length {h:Array Obj} {ok:Nat->Prop}:(s:Sh)-> {x:s.T}-> {vs:List Value}-> {c:List Nat}->cq h ok s x vs c->vs.length=s.w
 | .pur _,_,_,_,e=>by obtain⟨_,rfl,_⟩:=e;rfl
 | .own _,_,_,_,e=>by obtain⟨_,rfl,_⟩:=e;rfl
 | .row _,_,_,_,e=>by obtain⟨_,rfl,_⟩:=e;rfl
 | .rows _,_,_,_,e| .nrw _,_,_,_,e=>by obtain⟨_,rfl,_⟩:=e;rfl
 | .box _,_,_,_,e=>by obtain⟨_,_,_,_,_,rfl,_⟩:=e;rfl
 | .agg _,_,_,_,e=>by obtain⟨_,rfl,_⟩:=e;rfl
 | .fn _ _ _,_,_,_,e=>by obtain⟨_,_,rfl,_⟩:=e;rfl
 | .ign,_,_,_,e=>by obtain⟨_,rfl,_⟩:=e;rfl
 | .nl,_,_,_,e=>by rw[e.1];rfl
 | .nil,_,_,_,e=>by rw[e.1];rfl
 | .cons a b,_,_,_,e=>by
  obtain⟨v,r,f1,f2,rfl,rfl,f,d⟩:=e;simp[Sh.w,cq.length b d]
def rN.cells {h:Array Obj} {ok:Nat->Prop} {k:Kd} {l:List k.T} {v:Value} {g:List Nat} (e:rN h ok k l v g):∀b∈g,∃r et,h[b]?=some (Obj.cells r et (0,0)):=by
 obtain⟨_,a,c,_,_,e⟩:=e;rcases e with⟨_,_,_,rfl⟩|⟨b,o,r,et,_,rfl,d,_,_⟩
 ·intro b d;simp at d
 ·intro i f
  have:i=b:=by simpa using f
  subst this;exact⟨r,et,d⟩
def cq.cells {h:Array Obj} {ok:Nat->Prop}:(s:Sh)-> {x:s.T}-> {vs:List Value}-> {g:List Nat}->cq h ok s x vs g->∀b∈g,∃r et,h[b]?=some (Obj.cells r et (0,0))
 | .pur _,_,_,_,e=>by obtain⟨_,_,rfl,_⟩:=e;intro b d;simp at d
 | .own _,_,_,_,e=>by obtain⟨_,_,e⟩:=e;exact e.cells
 | .row _,_,_,_,e=>by obtain⟨_,_,e⟩:=e;exact e.cells
 | .rows s,_,_,_,e| .nrw s,_,_,_,e=>by
  obtain⟨v,rfl,_,a,c,rfl,p,e⟩:=e;rcases e with⟨_,_,_,rfl⟩|⟨b,o,r,et,fps,q,rfl,i,t,u,j,w⟩
  ·intro b d;simp at d
  ·intro f hb'
   rcases a1s.1 hb' with rfl|hb'
   ·exact⟨r,et,i⟩
   ·exact j f hb'
 | .box l,_,_,_,e=>by
  obtain⟨b,o,r,et,k,rfl,rfl,d,_,e⟩:=e;intro f hb';rcases a1s.1 hb' with rfl|hb'
  ·exact⟨r,et,d⟩
  ·exact cq.cells l e f hb'
 | .agg l,_,_,_,e=>by obtain⟨_,_,e⟩:=e;exact cq.cells l e
 | .fn _ _ l,_,_,_,e=>by obtain⟨_,_,_,_,e⟩:=e;exact cq.cells l e
 | .ign,_,_,_,e=>by obtain⟨_,_,rfl⟩:=e;intro b d;simp at d
 | .nl,_,_,_,e=>by rw[e.2];intro b d;simp at d
 | .nil,_,_,_,e=>by rw[e.2];intro b d;simp at d
 | .cons a b,_,_,_,e=>by
  obtain⟨v,r,f1,f2,rfl,rfl,m,n⟩:=e;intro f hb';rcases a0l.1 hb' with hb'|hb'
  ·exact cq.cells a m f hb'
  ·exact cq.cells b n f hb'
def v8 {h:Array Obj} {ok:Nat->Prop} {G:Gh} {ow:OW} {d j:Nat} {k:Sh} {l:List k.T} {c:Option (Nat×List SV)} (e:db h ok G ow d j (.nrow k l c)) {i b o:Nat} (a:G d j i=some (b,o)):∃r et,h[b]?=some (Obj.cells r et (0,0)):=by
 obtain⟨_,fps,g,e⟩:=e
 cases i with
 |zero=>
  simp only[a]at e;obtain⟨r,et,f,_⟩:=e;exact⟨r,et,f⟩
 |succ i=>
  rw[g]at a
  cases hb:fps.flatten[i]? with
  |none=>rw[hb]at a;cases a
  |some b'=>
   rw[hb]at a;simp only[a1w,a0k,a0y]at a;obtain⟨rfl,_⟩:=a
   cases hm:G d j 0 with
   |none=>
    simp only[hm]at e;rw[e.2.2]at hb;simp at hb
   |some p=>
    simp only[hm]at e;obtain⟨r,et,f,n,q,m,_⟩:=e;exact m _ (a3w hb)
section
variable {F:Nat->Prop} {G G':Gh} {ow ow':OW} {h h':Array Obj}
def aJ {b:Nat}:cm G ow b↔∃d j i o,bB (aj ow d j)/\G d j i=some (b,o):=Iff.rfl
def cV.mono {d j off:Nat} {len:Option Nat} {v:Value} (p:aj ow d j≠none->G' d j 0=G d j 0) (g:EC (aj ow d j) (aj ow' d j)) (t:∀b r,ap h b=some r->∃s,ap h' b=some s/\s.size=r.size) (f:cV h G ow d j off len v):cV h' G' ow' d j off len v:=by
 have i:∀ {n off len:Nat},G' d j 0=G d j 0->nL h G n d j off len v->nL h' G' n d j off len v:=by
  intro n off len A f;obtain⟨a,c,rfl,u,f⟩:=f;refine⟨a,c,rfl,u,?_⟩;rcases f with⟨B,C⟩|⟨b,o,D,r,p,E,F,H,I⟩
  ·exact .inl ⟨by rw[A,B],C⟩
  ·obtain⟨s,w,z⟩:=t b r F
   exact .inr ⟨b,o,D,s,by rw[A,p],E,w,H,by rw[z];exact I⟩
 have q:∀ {n off len:Nat},nL h G n d j off len v->v.oneCell'=true:=by
  intro n off len f;obtain⟨a,c,rfl,_⟩:=f;rfl
 unfold cV at f⊢
 generalize aj ow d j=x at p g f
 generalize aj ow' d j=y at g
 match x,y,g,f with
 |some none,some none,_,f=>exact f
 |some (some (.row k _ l)),some none,_,f=>exact q f.2
 |some (some (.frow k _ l)),some none,_,f=>exact q f.2
 |some (some (.nrow k l _)),some none,_,f=>exact q f.2
 |some (some (.lrow n)),some none,_,f=>obtain⟨_,_,rfl⟩:=f;rfl
 |some (some (.row k _ l)),some (some (.row k' _ l')),g,f=>
  obtain⟨rfl,e⟩:=g;dsimp only at f⊢;rw[<-e];exact⟨f.1,i (p (by simp)) f.2⟩
 |some (some (.row k _ l)),some (some (.frow k' _ l')),g,f=>
  obtain⟨rfl,e⟩:=g;dsimp only at f⊢;rw[<-e];exact⟨f.1,i (p (by simp)) f.2⟩
 |some (some (.frow k _ l)),some (some (.frow k' _ l')),g,f=>
  obtain⟨rfl,e⟩:=g;dsimp only at f⊢;rw[<-e];exact⟨f.1,i (p (by simp)) f.2⟩
 |some (some (.nrow k l _)),some (some (.nrow k' l' _)),g,f=>
  obtain⟨rfl,e⟩:=g;dsimp only at f⊢;rw[<-e];exact⟨f.1,i (p (by simp)) f.2⟩
 |some (some (.nrow k l _)),some (some (.frow k' _ l')),g,f=>
  obtain⟨J,e⟩:=g;dsimp only at f⊢;rw[<-e,<-J];exact⟨f.1,i (p (by simp)) f.2⟩
 |some (some (.row k _ l)),some (some (.lrow n)),g,f=>
  obtain rfl:l.length=n:=g;obtain⟨_,a,c,rfl,_⟩:=f;exact⟨a,c,rfl⟩
 |some (some (.nrow k l _)),some (some (.lrow n)),g,f=>
  obtain rfl:l.length=n:=g;obtain⟨_,a,c,rfl,_⟩:=f;exact⟨a,c,rfl⟩
 |some (some (.lrow n)),some (some (.lrow m)),g,f=>
  obtain rfl:n=m:=g;exact f
def ct.mono {ok ok':Nat->Prop} (t:∀d j,aj ow d j≠none->G' d j 0=G d j 0) (u:∀d j,EC (aj ow d j) (aj ow' d j))
 (p:∀b r,ok b->ap h b=some r->ok' b/\ap h' b=some r) (q:∀b r,ap h b=some r->∃A,ap h' b=some A/\A.size=r.size)
 {s:SV} {v:Value} (e:ct h ok G ow s v):ct h' ok' G' ow' s v:=by
 induction e with
 |v hk hx=>exact .v hk (cz.mono p _ hx)
 |lb b=>exact .lb b
 |dead v=>exact .dead v
 |nils=>exact .nils
 |agg g _ ih=>exact .agg g ih
 |tup g _ ih=>exact .tup g ih
 |fn h1 h2 _ _ ih1 ih2=>exact .fn h1 h2 ih1 ih2
 |wh hv=>exact .wh (hv.mono (t _ _) (u _ _) q)
 |os hv=>exact .os (hv.mono (t _ _) (u _ _) q)
 | @bp d j c val hv=>
  refine .bp ?_
  have i:=t d j;have a:=u d j
  generalize aj ow d j=x at i a hv
  generalize aj ow' d j=y at a
  match x,y,a,hv with
  |some none,some none,_,hv=>exact hv
  |some (some (.box _)),some none,_,hv=>obtain⟨_,_,_,rfl⟩:=hv;rfl
  |some (some (.box _)),some (some (.box _)),_,hv=>obtain⟨b,o,f,rfl⟩:=hv;exact⟨b,o,by rw[i (by simp),f],rfl⟩
  |some (some (.box _)),some (some (.lrow _)),_,hv=>obtain⟨_,_,_,rfl⟩:=hv;rfl
  |some (some (.lrow _)),some none,_,hv=>exact hv
  |some (some (.lrow _)),some (some (.lrow _)),_,hv=>exact hv
 | @rp d j ver e c val hv=>
  refine .rp ?_
  have i:=t d j;have a:=u d j
  generalize aj ow d j=x at i a hv
  generalize aj ow' d j=y at a
  match x,y,a,hv with
  |some none,some none,_,hv=>exact hv
  |some (some (.row _ _ _)),some none,_,hv=>obtain⟨_,_,_,_,rfl⟩:=hv;rfl
  |some (some (.frow _ _ _)),some none,_,hv=>obtain⟨_,_,_,_,rfl⟩:=hv;rfl
  |some (some (.nrow _ _ _)),some none,_,hv=>obtain⟨_,_,_,_,rfl⟩:=hv;rfl
  |some (some (.lrow _)),some none,_,hv=>exact hv
  |some (some (.row k _ l)),some (some (.row k' _ l')),a,hv=>
   obtain⟨rfl,e⟩:=a;obtain⟨g,b,o,f,rfl⟩:=hv;exact⟨by omega,b,o,by rw[i (by simp),f],rfl⟩
  |some (some (.row k _ l)),some (some (.frow k' _ l')),a,hv=>
   obtain⟨rfl,e⟩:=a;obtain⟨g,b,o,f,rfl⟩:=hv;exact⟨by omega,b,o,by rw[i (by simp),f],rfl⟩
  |some (some (.frow k _ l)),some (some (.frow k' _ l')),a,hv=>
   obtain⟨rfl,e⟩:=a;obtain⟨g,b,o,f,rfl⟩:=hv;exact⟨by omega,b,o,by rw[i (by simp),f],rfl⟩
  |some (some (.nrow k l _)),some (some (.nrow k' l' _)),a,hv=>
   obtain⟨rfl,e⟩:=a;obtain⟨g,b,o,f,rfl⟩:=hv;exact⟨by omega,b,o,by rw[i (by simp),f],rfl⟩
  |some (some (.nrow k l _)),some (some (.frow k' _ l')),a,hv=>
   obtain⟨B,e⟩:=a;obtain⟨g,b,o,f,rfl⟩:=hv;exact⟨by omega,b,o,by rw[i (by simp),f],by rw[<-B]⟩
  |some (some (.row k _ l)),some (some (.lrow n)),a,hv=>
   obtain⟨g,b,o,f,rfl⟩:=hv;rfl
  |some (some (.nrow k l _)),some (some (.lrow n)),a,hv=>
   obtain⟨g,b,o,f,rfl⟩:=hv;rfl
  |some (some (.lrow n)),some (some (.lrow m)),a,hv=>exact hv
 |ip hk f hr hs hx=>
  obtain⟨w,z⟩:=p _ _ f hr;exact .ip hk w z hs (cz.mono p _ hx)
def db.mono {ok ok':Nat->Prop} (K:∀d j,aj ow d j≠none->G' d j 0=G d j 0) (L:∀d j,EC (aj ow d j) (aj ow' d j))
 (f:∀b r,ok b->ap h b=some r->ok' b/\ap h' b=some r) (u:∀b r,ap h b=some r->∃M,ap h' b=some M/\M.size=r.size)
 {d j:Nat} {o:OB} (a:G' d j=G d j) (t:bB (some (some o))->∀i b c,G d j i=some (b,c)->h'[b]?=h[b]?) (e:db h ok G ow d j o):db h' ok' G' ow' d j o:=by
 cases o with
 |box s=>
  obtain⟨D,b,o,r,et,g,q,E,v⟩:=e;exact⟨by rw[a];exact D,b,o,r,et,by rw[a,g],by rw[t trivial 0 b o g,q],E,λi w q=>(v i w q).mono K L f u⟩
 |row k ver l=>
  obtain⟨D,y,e⟩:=e;refine⟨by rw[a];exact D,y,?_⟩;rw[a]
  cases g:G d j 0 with
  |none=>simpa [g]using e
  |some p=>
   obtain⟨b,o⟩:=p;simp only[g]at e;obtain⟨r,et,q,z⟩:=e;exact⟨r,et,by rw[t trivial 0 b o g,q],z.mono λx cs F=>cz.mono f _ F⟩
 |frow k ver l=>
  obtain⟨y,e⟩:=e;refine⟨y,?_⟩;rw[a]
  cases g:G d j 0 with
  |none=>simpa [g]using e
  |some p=>
   obtain⟨b,o⟩:=p;simp only[g]at e;rcases e with e|⟨t,r,q,z⟩
   ·exact .inl e
   ·obtain⟨m,H⟩:=f b r t q
    exact .inr ⟨m,r,H,z.mono λx cs F=>cz.mono f _ F⟩
 |nrow k l foc=>
  obtain⟨y,fps,N,e⟩:=e;refine⟨y,fps,by rw[a];exact N,?_⟩;rw[a];have A:∀b∈fps.flatten,h'[b]?=h[b]?:=λb I=>by
   obtain⟨i,w,rfl⟩:=a2f.1 I;exact t trivial (i+1) _ 0 (by rw[N,a0a w];rfl)
  cases g:G d j 0 with
  |none=>simpa [g]using e
  |some p=>
   obtain⟨b,o⟩:=p;simp only[g]at e;obtain⟨r,et,q,E,O,P,z,Q⟩:=e;exact⟨r,et,by rw[t trivial 0 b o g,q],E,O,λC m=>by rw[A C m];exact P C m,λi w B J=>cq.mono f k (λC m=>A C (iw B m)) (z i w B J),λR s v=>by
    obtain⟨S,T,U⟩:=Q R s v;exact⟨S,T,λc v q=>(U c v q).mono K L f u⟩⟩
 |lrow n=>trivial
end
structure Tr (F:Nat->Prop) (G:Gh) (ow:OW) (w:World) (G':Gh) (ow':OW) (w':World):Prop where
 hrep:bz F G' ow' w'.heap
 sv:∀s v,Sv F G ow w.heap s v->Sv F G' ow' w'.heap s v
 kept:fh (cm G ow) w w'
 own:∀b,cm G' ow' b->cm G ow b\/w.heap.size<=b
 len:ow'.length=ow.length
def fh.refl (I:Nat->Prop) (w:World):fh I w w:=⟨a1l _,λ_ _ _=>rfl,λb r et f h=>⟨r,h,rfl⟩,rfl,rfl,rfl⟩
def fh.trans {I J:Nat->Prop} {w e d:World} (a:fh I w e) (c:fh J e d) (j:∀b,J b->I b\/w.heap.size<=b):fh I w d:=⟨a5p a.size c.size,λb g i=>by
 rw[c.heap b (a7b g a.size) (λk=>by rcases j b k with h|h;exact i h;omega),a.heap b g i],λb r et f h=>by
 obtain⟨l,m,p⟩:=a.cells b r et f h;obtain⟨n,o,q⟩:=c.cells b l et f m;exact⟨n,o,by omega⟩,by rw[c.os,a.os],by rw[c.output,a.output],by rw[c.tape,a.tape]⟩
def Tr.refl {F:Nat->Prop} {G:Gh} {ow:OW} {w:World} (h:bz F G ow w.heap):Tr F G ow w G ow w:=⟨h,λ_ _ h=>h,.refl _ _,λ_ h=> .inl h,rfl⟩
def Tr.trans {F:Nat->Prop} {G g d:Gh} {ow ow' a:OW} {w i e:World} (c:Tr F G ow w g ow' i) (f:Tr F g ow' i d a e):Tr F G ow w d a e:=⟨f.hrep,λs v h=>f.sv s v (c.sv s v h),c.kept.trans f.kept c.own,λb j=>by
 rcases f.own b j with h|h
 ·exact c.own b h
 ·exact .inr (a5p c.kept.size h),by rw[f.len,c.len]⟩
section
variable {F:Nat->Prop} {G G':Gh} {ow ow':OW} {w w':World}
def cm.lt (q:bz F G ow w.heap) {b:Nat} (s:cm G ow b):b<w.heap.size:=by
 obtain⟨d,j,i,o,g,a⟩:=aJ.1 s;have h:∀c,aj ow d j=some (some c)->bB (some (some c))->b<w.heap.size:=by
  intro c m p;have:=q.obs d j c m
  cases c with
  |box cells=>
   obtain⟨n,u,v,r,et,e,f,_⟩:=this
   cases i with
   |zero=>
    rw[a]at e;cases e
    exact(a1b.1 f).1
   |succ i=>rw[n]at a;cases a
  |row k ver l=>
   obtain⟨n,_,this⟩:=this
   cases i with
   |zero=>
    simp only[a]at this;obtain⟨r,et,f,_⟩:=this;exact(a1b.1 f).1
   |succ i=>rw[n]at a;cases a
  |nrow k l foc=>
   obtain⟨r,et,f⟩:=v8 this a;exact(a1b.1 f).1
  |frow _ _ _=>exact p.elim
  |lrow _=>exact p.elim
 generalize t:aj ow d j=x at g
 match x,g with
 |some (some c),g=>exact h c t g
def cE {h:Array Obj} {b:Nat} {r:Array Value} (a:ap h b=some r):b<h.size:=by
 unfold ap at a;split at a
 ·rename_i e;exact(a1b.1 e).1
 ·cases a
def Ia (e:fh (cm G ow) w w') (f:∀b,cm G' ow' b->cm G ow b\/w.heap.size<=b) (b:Nat) (r:Array Value) (a:cR F G ow b) (d:ap w.heap b=some r):cR F G' ow' b/\ap w'.heap b=some r:=by
 have c:=cE d;refine⟨⟨a.1,λh=> ?_⟩,?_⟩
 ·rcases f b h with h|h
  ·exact a.2 h
  ·omega
 ·unfold ap
  rw[e.heap b c a.2];exact d
def IQ (f:fh (cm G ow) w w') (c:∀b r,cm G ow b->ap w.heap b=some r->∃a,ap w'.heap b=some a/\a.size=r.size) (b:Nat) (r:Array Value) (d:ap w.heap b=some r):∃a,ap w'.heap b=some a/\a.size=r.size:=by
 by_cases e:cm G ow b
 ·exact c b r e d
 ·exact⟨r,by unfold ap;rw[f.heap b (cE d) e];exact d,rfl⟩
def tf (p:bz F G ow w.heap) (z:∀b,F b->b<w.heap.size) (q:∀d j,aj ow d j≠none->G' d j 0=G d j 0) (t:∀d j,EC (aj ow d j) (aj ow' d j))
 (g:fh (cm G ow) w w') (k:∀b,cm G' ow' b->cm G ow b\/w.heap.size<=b)
 (l:∀b r,cm G ow b->ap w.heap b=some r->∃u,ap w'.heap b=some u/\u.size=r.size)
 (m:∀d j o,aj ow' d j=some (some o)->
  (aj ow d j=some (some o)/\G' d j=G d j/\(bB (some (some o))->∀i b c,G d j i=some (b,c)->w'.heap[b]?=w.heap[b]?))\/
  ((∀s v,Sv F G ow w.heap s v->Sv F G' ow' w'.heap s v)->(∀b r,cR F G ow b->ap w.heap b=some r->cR F G' ow' b/\ap w'.heap b=some r)->db w'.heap (cR F G' ow') G' ow' d j o))
 (n:∀d j i d' j' x b o A,bB (aj ow' d j)->bB (aj ow' d' j')->G' d j i=some (b,o)->G' d' j' x=some (b,A)->d=d'/\j=j'/\i=x)
 (B:ow'.length=ow.length):Tr F G ow w G' ow' w':=by
 have a:=Ia (F:=F) g k;have y:=IQ g l;have f:∀s v,Sv F G ow w.heap s v->Sv F G' ow' w'.heap s v:=λs v e=>ct.mono q t a y e
 refine⟨⟨λd j o C=> ?_,n,λb D=> ?_⟩,f,g,k,B⟩
 ·rcases m d j o C with⟨h1,E,H⟩|h1
  ·exact db.mono q t a y E H (p.obs d j o h1)
  ·exact h1 f a
 ·rcases k b D with h|h
  ·exact p.notF b h
  ·intro I
   have:=z b I;omega
def aW {d j:Nat} {o:Option OB} {d' j':Nat} (a:aj ow d j≠none):aj (bw ow d j o) d' j'=if d'=d/\j'=j then some o else aj ow d' j':=by
 unfold aj at a⊢;unfold bw
 cases hd:ow[d]? with
 |none=>simp[hd]at a
 |some l=>
  simp only[hd,a0d]at a;have b:=(a0t.1 hd).1;have f:j<l.length:=by
   rcases a3y j l.length with h|h
   ·exact h
   ·exact absurd (a1g h) a
  by_cases c:d'=d
  ·subst c
   simp only[a5n b,a0d,true_and];by_cases e:j'=j
   ·subst e;simp[f]
   ·simp[e,hd,a2y (Ne.symm e)]
  ·simp[c,a2y (Ne.symm c)]
def bE {d j:Nat} {o:Option OB}:(bw ow d j o).length=ow.length:=by
 unfold bw;split<;>simp
def fj {d:Nat} {l:List OB} {ow':OW} (h:bV ow d l=some ow'):ow'.length=ow.length/\(l=[]\/ow[d]?=some [])/\∀d' j,aj ow' d' j=if d'=d/\l≠[]then l[j]?.map some else aj ow d' j:=by
 unfold bV at h;split at h
 ·cases h;exact⟨rfl,.inl rfl,λd' j=>by simp⟩
 ·rename_i g
  split at h
  ·rename_i f
   cases h
   refine⟨by simp,.inr f,λd' j=> ?_⟩;have a:=(a0t.1 f).1;have b:l≠[]:=λe=>g e
   unfold aj;by_cases c:d'=d
   ·subst c;simp[a5n a,b]
   ·simp[c,a2y (Ne.symm c)]
  ·cases h
def cX {d:Nat} (h:ow[d]?=some []) (j:Nat):aj ow d j=none:=by simp[aj,h]
def cu (w:World) (o:Obj) {b:Nat} (a:b<w.heap.size):(w.alloc o).heap[b]?=w.heap[b]?:=by
 show(w.heap.push o)[b]?=_;rw[Array.getElem?_push];rw[a0c (by omega)]
def cI (w:World) (o:Obj):(w.alloc o).heap[w.heap.size]?=some o:=by
 show(w.heap.push o)[w.heap.size]?=some o;simp
def km (I:Nat->Prop) (w:World) (o:Obj):fh I w (w.alloc o):=⟨by simp,λb a _=>cu w o a,λb r et f h=>⟨r,by rw[cu w o (a1b.1 h).1];exact h,rfl⟩,rfl,rfl,rfl⟩
def jW (I:Nat->Prop) (w:World):fh I w w.drew:=⟨a1l _,λ_ _ _=>rfl,λb r et f h=>⟨r,h,rfl⟩,rfl,rfl,rfl⟩
def Gh.new (G:Gh) (d:Nat) (p:Nat->Nat->Option (Nat×Nat)):Gh:=λd' j=>if d'=d then p j else G d' j
def fW (p:Option (Nat×Nat)):Nat->Nat->Option (Nat×Nat):=λ_ i=>if i=0 then p else none
def Dx (D:bz F G ow w.heap) (Y:∀b,F b->b<w.heap.size) {d:Nat} {K:OB} (Z:bV ow d [K]=some ow') {w1:World} (n:w1.heap=w.heap) (L:w1.os=w.os) (A:w1.output=w.output) (t:w1.tape=w.tape) (c:Obj) (o:Nat)
 (M:(∀s v,Sv F G ow w.heap s v->Sv F (G.new d (fW (some (w.heap.size,o)))) ow' (w1.alloc c).heap s v)->(∀b r,cR F G ow b->ap w.heap b=some r->cR F (G.new d (fW (some (w.heap.size,o)))) ow' b/\ap (w1.alloc c).heap b=some r)->db (w1.alloc c).heap (cR F (G.new d (fW (some (w.heap.size,o)))) ow') (G.new d (fW (some (w.heap.size,o)))) ow' d 0 K):
 Tr F G ow w (G.new d (fW (some (w.heap.size,o)))) ow' (w1.alloc c):=by
 obtain⟨hl,E,N⟩:=fj Z;have E:ow[d]?=some []:=by rcases E with h|h;cases h;exact h
 have a:∀d' j,aj ow' d' j=if d'=d then [K][j]?.map some else aj ow d' j:=λd' j=>by rw[N];simp
 have O:∀d' j,aj ow d' j≠none->(G.new d (fW (some (w.heap.size,o)))) d' j=G d' j:=λd' j g=>by
  unfold Gh.new;rw[a0c];intro e;rw[e,cX E]at g;exact g rfl
 have hk:fh (cm G ow) w (w1.alloc c):=⟨by simp[n],λb P _=>by rw[cu w1 c (by rw[n];exact P),n],λb r et f h=>⟨r,by rw[cu w1 c (by rw[n];exact(a1b.1 h).1),n];exact h,rfl⟩,L,A,t⟩;have k:∀d' j,d'≠d->(G.new d (fW (some (w.heap.size,o)))) d' j=G d' j:=λd' j m=>by simp[Gh.new,m]
 have l:∀ {j i u p},(G.new d (fW (some (w.heap.size,o)))) d j i=some (u,p)->i=0/\u=w.heap.size:=λ {j i u p} h=>by
  simp only[Gh.new,a2c,fW]at h;split at h
  ·rename_i e;cases h;exact⟨e,rfl⟩
  ·cases h
 have B:∀j,bB (aj ow' d j)->j=0:=λj g=>by
  rw[a,a0e rfl]at g
  cases j with
  |zero=>rfl
  |succ j=>simp[bB]at g
 refine tf D Y (λd' j g=>a8y (O d' j g) 0) (λd' j=> ?_) hk (λb P=> ?_) (λb r _ W=>⟨r,?_,rfl⟩) (λd' j ob' g=> ?_) (λQ R i1 H S i2 b o1 o2 n I x y=> ?_) hl
 ·by_cases m:d'=d
  ·subst m;rw[cX E];trivial
  ·rw[a,a0c m];exact .refl _
 ·obtain⟨d',j,i,p,g,q⟩:=aJ.1 P
  by_cases m:d'=d
  ·subst m
   rw[(l q).2];exact .inr (a1l _)
  ·rw[a,a0c m]at g
   rw[k d' j m]at q;exact .inl (aJ.2 ⟨d',j,i,p,g,q⟩)
 ·unfold ap
  rw[cu w1 c (by rw[n];exact cE W),n];exact W
 ·by_cases m:d'=d
  ·subst m
   right;intro T U
   cases j with
   |zero=>
    rw[a,a0e rfl]at g;simp at g;subst g;exact M T U
   |succ j=>
    rw[a,a0e rfl]at g;simp at g
  ·left
   rw[a,a0c m]at g;refine⟨g,k d' j m,λJ i b cc q=> ?_⟩;have:cm G ow b:=aJ.2 ⟨d',j,i,cc,by rw[g];exact J,q⟩;rw[cu w1 c (by rw[n];exact cm.lt D this),n]
 ·have X:∀ {d' j' V u p},d'≠d->bB (aj ow' d' j')->(G.new d (fW (some (w.heap.size,o)))) d' j' V=some (u,p)->u<w.heap.size:=by
   intro d' j' V u p m J q;rw[k d' j' m]at q;rw[a,a0c m]at J;exact cm.lt D (aJ.2 ⟨d',j',V,p,J,q⟩)
  by_cases C:Q=d
  ·by_cases z:H=d
   ·subst C;subst z
    exact⟨rfl,by rw[B R n,B S I],by rw[(l x).1,(l y).1]⟩
   ·have:=X z I y
    rw[C]at x;have:=(l x).2;omega
  ·by_cases z:H=d
   ·have:=X C n x
    rw[z]at y;have:=(l y).2;omega
   ·rw[k Q R C]at x
    rw[k H S z]at y;rw[a,a0c C]at n;rw[a,a0c z]at I;exact D.apart Q R i1 H S i2 b o1 o2 n I x y
end
structure Ib (s:Sh) (l:List s.T) (k:Kd) (l':List k.T):Prop where
 good:k.good=true
 wide:s.w=k.n
 len:l.length=l'.length
 rep:∀(h:Array Obj) (ok:Nat->Prop) (i:Nat) (h1:i<l.length) (h2:i<l'.length) (vs:List Value) (fp:List Nat),cq h ok s l[i] vs fp->(∀b∈fp,ok b)->cz h ok k l'[i] vs
def LB (o n:Option (Option OB)):Prop:=
 (∃k ver l,o=some (some (.row k ver l))/\n=some (some (.frow k ver l)))\/(∃s l k b,o=some (some (.nrow s l none))/\n=some (some (.frow k 0 b))/\Ib s l k b)
 \/∃a,o=some (some (.box a))/\n=some (some (.lrow 0))
def LB.own {o n:Option (Option OB)} (h:LB o n):bB o:=by
 rcases h with⟨k,ver,l,rfl,_⟩|⟨s,l,k,b,rfl,_⟩|⟨a,rfl,_⟩<;>trivial
def LB.not {o n:Option (Option OB)} (h:LB o n):¬bB n/\n≠some none/\∃o,n=some (some o):=by
 rcases h with⟨k,ver,l,_,rfl⟩|⟨s,l,k,b,_,rfl,_⟩|⟨a,_,rfl⟩<;>exact⟨λh=>h.elim,by simp,_,rfl⟩
def LB.ec {o n:Option (Option OB)} (h:LB o n):EC o n:=by
 rcases h with⟨k,ver,l,rfl,rfl⟩|⟨s,l,k,c,rfl,rfl,b⟩|⟨a,rfl,rfl⟩
 ·exact⟨rfl,rfl⟩
 ·exact⟨b.wide,b.len⟩
 ·trivial
def LB.rep {o n:OB} (K:LB (some (some o)) (some (some n))) {h q:Array Obj} {ok ok':Nat->Prop} {G J:Gh} {ow ow':OW} {d j:Nat} (t:J d j 0=G d j 0) (u:∀b r,ok b->ap h b=some r->ok' b/\ap q b=some r) (c:∀i b o,G d j i=some (b,o)->ok' b/\q[b]?=h[b]?) (e:db h ok G ow d j o):db q ok' J ow' d j n:=by
 rcases K with⟨k,ver,l,v,w⟩|⟨s,l,k,P,v,w,f⟩|⟨g,v,w⟩
 ·cases v;cases w
  obtain⟨_,L,a⟩:=e;refine⟨L,?_⟩;rw[t]
  cases hg:G d j 0 with
  |none=>simpa [hg]using a
  |some p=>
   obtain⟨b,o⟩:=p;simp only[hg]at a;obtain⟨r,et,C,D⟩:=a;obtain⟨E,F⟩:=c 0 b o hg;exact .inr ⟨E,r,aO (by rw[F];exact C),D.mono λx cs m=>cz.mono u _ m⟩
 ·cases v;cases w
  obtain⟨_,fps,M,a⟩:=e;refine⟨f.good,?_⟩;rw[t]
  cases hg:G d j 0 with
  |none=>
   simp only[hg]at a;have:=f.len;rw[a.1]at this;exact a0s this.symm
  |some p=>
   obtain⟨b,o⟩:=p;simp only[hg]at a;obtain⟨r,et,C,H,N,Q,y,_⟩:=a;obtain⟨E,F⟩:=c 0 b o hg;have z:∀x∈fps.flatten,ok' x/\q[x]?=h[x]?:=λx m=>by
    obtain⟨i,B,e⟩:=a2f.1 m;exact c (i+1) x 0 (by rw[M,a0a B,e];rfl)
   refine .inr ⟨E,r,aO (by rw[F];exact C),by rw[<-f.len,<-f.wide];exact H,λi B=> ?_⟩;have A:i<l.length:=by rw[f.len];exact B
   have I:i<fps.length:=by omega
   rw[<-f.wide];exact f.rep q ok' i A B _ _ (cq.mono u s (λx m=>(z x (iw I m)).2) (y i A I (λg O=>by cases O))) (λx m=>(z x (iw I m)).1)
 ·cases v;cases w;trivial
def m9 {A B:Type} (e:A=B) (l:List A):(cast (a1v List e) l).length=l.length:=by subst e;rfl
def qC {A B:Type} (e:A=B) (l:List A) (i:Nat) (h:i<(cast (a1v List e) l).length) (a:i<l.length):(cast (a1v List e) l)[i]=cast e l[i]:=by subst e;rfl
def IR {A a B b:Type} (c:A=a) (d:B=b) (h:(A×B)=(a×b)) (x:A×B):cast h x=(cast c x.1,cast d x.2):=by subst c;subst d;rfl
def wc:(s:Sh)->s.one=true->s.elem=true->s.kd.isSt=false
 | .pur kd,_,h=>by
  have:kd.isSt=false:=by simpa using(a0f _ _▸h:kd.noOwn=true/\(!kd.isSt)=true).2
  exact this
 | .own _,_,_=>rfl
 | .rows _,_,_=>rfl
 | .nil,h,_=>by simp[Sh.one]at h
 | .cons _ _,h,_=>by simp[Sh.one]at h
 | .row _,_,h=>by simp[Sh.elem]at h
 | .nrw _,_,h=>by simp[Sh.elem]at h
 | .box _,_,h=>by simp[Sh.elem]at h
 | .agg _,_,h=>by simp[Sh.elem]at h
 | .fn _ _ _,_,h=>by simp[Sh.elem]at h
 | .ign,_,h=>by simp[Sh.elem]at h
 | .nl,_,h=>by simp[Sh.elem]at h
def Ic {k:Kd} (h:k.isSt=false):k.n=1:=by cases k<;>simp_all[Kd.n,Kd.isSt]
def NY:(s:Sh)->s.elem=true->s.w=s.kd.n
 | .pur kd,h=>by
  have:kd.isSt=false:=wc (.pur kd) rfl h;simp[Sh.w,Sh.kd,Ic this]
 | .own _,_=>rfl
 | .rows _,_=>rfl
 | .nil,_=>rfl
 | .cons a b,h=>by
  simp only[Sh.elem,a0f]at h;have c:=Ic (wc a h.1.1.1 h.1.2);have d:=NY b h.2;simp only[Sh.w,Sh.kd,Kd.n,c,<-d];omega
 | .row _,h=>by simp[Sh.elem]at h
 | .nrw _,h=>by simp[Sh.elem]at h
 | .box _,h=>by simp[Sh.elem]at h
 | .agg _,h=>by simp[Sh.elem]at h
 | .fn _ _ _,h=>by simp[Sh.elem]at h
 | .ign,h=>by simp[Sh.elem]at h
 | .nl,h=>by simp[Sh.elem]at h
def F7 {k:Kd} (h:k.good=true):k.noOwn=true:=(a0f _ _▸h:k.noOwn=true/\k.ch.leafy=true).1
def qD:(s:Sh)->s.elem=true->s.kd.noOwn=true
 | .pur kd,h=>(a0f _ _▸h:kd.noOwn=true/\(!kd.isSt)=true).1
 | .own k,h=>by simpa [Sh.kd,Kd.noOwn]using F7 h
 | .rows s,h=>by simpa [Sh.kd,Kd.noOwn]using qD s h
 | .nil,_=>rfl
 | .cons a b,h=>by
  simp only[Sh.elem,a0f]at h;simp[Sh.kd,Kd.noOwn,qD a h.1.2,qD b h.2]
 | .row _,h=>by simp[Sh.elem]at h
 | .nrw _,h=>by simp[Sh.elem]at h
 | .box _,h=>by simp[Sh.elem]at h
 | .agg _,h=>by simp[Sh.elem]at h
 | .fn _ _ _,h=>by simp[Sh.elem]at h
 | .ign,h=>by simp[Sh.elem]at h
 | .nl,h=>by simp[Sh.elem]at h
def Dy:(s:Sh)->s.elem=true->s.chn=true->s.kd.leafy=true
 | .nil,_,_=>rfl
 | .cons a b,h,hc=>by
  simp only[Sh.elem,a0f]at h;simp[Sh.kd,Kd.leafy,wc a h.1.1.1 h.1.2,Dy b h.2 hc]
 | .pur _,_,h=>by simp[Sh.chn]at h
 | .own _,_,h=>by simp[Sh.chn]at h
 | .rows _,_,h=>by simp[Sh.chn]at h
 | .row _,_,h=>by simp[Sh.chn]at h
 | .nrw _,_,h=>by simp[Sh.chn]at h
 | .box _,_,h=>by simp[Sh.chn]at h
 | .agg _,_,h=>by simp[Sh.chn]at h
 | .fn _ _ _,_,h=>by simp[Sh.chn]at h
 | .ign,_,h=>by simp[Sh.chn]at h
 | .nl,_,h=>by simp[Sh.chn]at h
def vk {h:Array Obj} {ok:Nat->Prop}:(s:Sh)->(f:s.elem=true)-> {x:s.T}-> {vs:List Value}-> {m:List Nat}->cq h ok s x vs m->(∀b∈m,ok b)->cz h ok s.kd (cast (Sh.kd_T s f).symm x) vs
 | .pur kd,f,x,vs,m,e,_=>by
  obtain⟨v,rfl,_,t,_,u⟩:=e;have z:kd.isSt=false:=wc (.pur kd) rfl f;have:v.cells= #[v]:=by have:=u z;cases v<;>simp_all[Value.cells,Value.oneCell']
  rw[this]at t;exact t
 | .own k,f,x,vs,m,e,hok=>by
  obtain⟨v,rfl,_,a,c,rfl,l,e⟩:=e;refine⟨a,c,rfl,l,?_⟩;rcases e with⟨_,rfl,_,_⟩|⟨b,o,r,et,rfl,rfl,q,d,_⟩
  ·exact .inl rfl
  ·exact .inr ⟨b,o,r,rfl,hok b (by simp),aO q,d⟩
 | .rows s,f,x,vs,m,e,hok=>by
  obtain⟨v,rfl,d,a,c,rfl,l,e⟩:=e;have g:=m9 (Sh.kd_T s d).symm x;refine⟨a,c,by rw[show(cast (Sh.kd_T (.rows s) f).symm x)=cast (a1v List (Sh.kd_T s d).symm) x from rfl,g],by rw[show(cast (Sh.kd_T (.rows s) f).symm x)=cast (a1v List (Sh.kd_T s d).symm) x from rfl,g];exact l,?_⟩;rw[show(cast (Sh.kd_T (.rows s) f).symm x)=cast (a1v List (Sh.kd_T s d).symm) x from rfl];rcases e with⟨_,rfl,_,_⟩|⟨b,o,r,et,fps,rfl,rfl,q,u,E,F,A⟩
  ·exact .inl (a0s (by rw[g];rfl))
  ·have B:x.length*s.w<=c*s.w:=a0p _ l
   refine .inr ⟨b,o,r,rfl,hok b (by simp),aO q,by rw[g,<-NY s d];omega,λi y=> ?_⟩;have n:i<x.length:=by rw[<-g];exact y
   rw[qC _ _ _ y n,<-NY s d];exact vk s d (A i n (by omega)) (λp j=>hok p (a2z _ (iw (by omega) j)))
 | .nil,f,x,vs,m,e,_=>e.1
 | .cons a b,f,x,vs,m,e,hok=>by
  have h:=f;simp only[Sh.elem,a0f]at h;obtain⟨v,r,f1,f2,rfl,rfl,C,D⟩:=e;have e:cast (Sh.kd_T (.cons a b) f).symm x=((cast (Sh.kd_T a h.1.2).symm x.1,cast (Sh.kd_T b h.2).symm x.2):a.kd.T×b.kd.T):=IR _ _ _ x;rw[e];exact⟨[v],r,rfl,vk a h.1.2 C (λp j=>hok p (by simp[j])),vk b h.2 D (λp j=>hok p (by simp[j]))⟩
 | .row _,h,_,_,_,_,_=>by simp[Sh.elem]at h
 | .nrw _,h,_,_,_,_,_=>by simp[Sh.elem]at h
 | .box _,h,_,_,_,_,_=>by simp[Sh.elem]at h
 | .agg _,h,_,_,_,_,_=>by simp[Sh.elem]at h
 | .fn _ _ _,h,_,_,_,_,_=>by simp[Sh.elem]at h
 | .ign,h,_,_,_,_,_=>by simp[Sh.elem]at h
 | .nl,h,_,_,_,_,_=>by simp[Sh.elem]at h
def NZ (s:Sh) (h:s.elem=true):s.kd.good=true:=by
 have d:=qD s h;unfold Kd.good;rw[d,a1i]
 cases hc:s.chn with
 |true=>
  have e:=Dy s h hc;have:s.kd.isSt=true:=by cases s<;>simp_all[Sh.chn,Sh.kd,Kd.isSt]
  rw[Kd.ch,a0e this];exact e
 |false=>
  by_cases c:s.one=true
  ·have:=wc s c h
   rw[Kd.ch,a0c (by simp[this])];simp[Kd.leafy,this]
  ·cases s with
   |cons a b=>
    simp only[Sh.elem,a0f]at h;rw[Sh.chn,h.1.1.2]at hc
    cases hc
   |nil=>simp[Sh.chn]at hc
   |_=>simp[Sh.one]at c
def L8 (s:Sh) (h:s.elem=true) (l:List s.T):Ib s l s.kd (LJ s h l):=by
 have a:=m9 (Sh.kd_T s h).symm l;refine⟨NZ s h,NY s h,a.symm,λf ok i c d vs g e b=> ?_⟩;unfold LJ;rw[qC _ _ _ d c];exact vk s h e b
def Dk (P:Program) (F:Nat->Prop) (G:Gh) (ow:OW) (w:World) (Q:SV×OW->Prop) (c:Sem Value):Prop:=∃s ow' v a b,Q (s,ow')/\c.run P w= .ok v a/\Tr F G ow w b ow' a/\Sv F b ow' a.heap s v
section
variable {F:Nat->Prop} {G:Gh} {ow ow':OW} {w:World} {P:Program}
def pP {d:Nat} {a:OB} (b:bV ow d [a]=some ow'):aj ow' d 0=some (some a):=by
 obtain⟨_,_,h⟩:=fj b;rw[h];simp
def Id (k:bz F G ow w.heap) (l:∀b,F b->b<w.heap.size) {d:Nat} {a:List SV} {vs:List Value} (c:dn F G ow w.heap a vs) (g:bV ow d [.box a]=some ow') (et:TypeId):Tr F G ow w (G.new d (fW (some (w.heap.size,0)))) ow' (w.alloc (.cells vs.toArray et))/\Sv F (G.new d (fW (some (w.heap.size,0)))) ow' (w.alloc (.cells vs.toArray et)).heap (.bp d 0 0) (.pointer (some ⟨w.heap.size,0,none⟩)):=by
 have h:(G.new d (fW (some (w.heap.size,0)))) d 0 0=some (w.heap.size,0):=by simp[Gh.new,fW]
 have e:∀i,(G.new d (fW (some (w.heap.size,0)))) d 0 (i+1)=none:=by simp[Gh.new,fW]
 refine⟨Dx k l g rfl rfl rfl rfl _ 0 λf _=> ?_,?_⟩
 ·exact⟨e,w.heap.size,0,vs.toArray,et,h,cI _ _,by simp[c.1],λi j m=>by
   have:=f _ _ (c.2 i j (c.1▸j));simpa [Sv]using this⟩
 ·refine .bp ?_
  rw[pP g];exact⟨_,_,h,rfl⟩
def zt {t:TypeId} {d:Nat} (h:bz F G ow w.heap) (j:∀b,F b->b<w.heap.size) {a:List SV} (k:lI P t=some a) (l:bV ow d [.box a]=some ow') {Q:SV×OW->Prop} (m:Q (.bp d 0 0,ow')):Dk P F G ow w Q (Instr.alloc t true (.tuple #[])):=by
 obtain⟨i,z,n,c,_,e⟩:=m8 (F:=F) (G:=G) (ow:=ow) (w:=w) k;obtain⟨f,g⟩:=Id h j e l t;rw[a6t]at f g;exact⟨_,_,_,_,_,m,by simp[Instr.alloc,fP n c,newVar,newRow],f,g⟩
def Dz {t:TypeId} {d:Nat} {x:SV} {xv:Value} (e:bz F G ow w.heap) (f:∀b,F b->b<w.heap.size) (g:Sv F G ow w.heap x xv) {a:List SV} (h:fO P t x=some a) (i:bV ow d [.box a]=some ow') {Q:SV×OW->Prop} (j:Q (.bp d 0 0,ow')):Dk P F G ow w Q (Instr.box t xv):=by
 obtain⟨vs,k,c,_,_⟩:=fI g h;obtain⟨l,m⟩:=Id e f c i t;exact⟨_,_,_,_,_,j,by simp[Instr.box,newVar,newRow,k],l,m⟩
def Pg (g:bz F G ow w.heap) (I:∀b,F b->b<w.heap.size) (d j:Nat):Tr F G ow w G (Ap ow d j) w:=by
 unfold Ap;split
 ·rename_i k ver l J
  have i:=aH J;have n:aj ow d j≠none:=by rw[i];simp
  have f:=λd' j'=>aW (o:=some (.frow k ver l)) (d':=d') (j':=j') n
  have a:∀ {d' j'},bB (aj (bw ow d j (some (.frow k ver l))) d' j')->¬(d'=d/\j'=j)/\bB (aj ow d' j'):=by
   intro d' j' c;rw[f]at c;split at c
   ·exact c.elim
   ·exact⟨by assumption,c⟩
  have q:∀b,cm G (bw ow d j (some (.frow k ver l))) b->cm G ow b:=by
   intro b m;obtain⟨d',j',K,L,c,s⟩:=aJ.1 m;exact aJ.2 ⟨d',j',K,L,(a c).2,s⟩
  refine tf g I (λ_ _ _=>rfl) (λd' j'=> ?_) (.refl _ _) (λb m=> .inl (q b m)) (λb r _ t=>⟨r,t,rfl⟩) (λd' j' o h=> ?_) (λM N O u v y b P z A B=>g.apart M N O u v y b P z (a A).2 (a B).2) bE
  ·rw[f]
   split
   ·rename_i e;rw[e.1,e.2,i];exact⟨rfl,rfl⟩
   ·exact .refl _
  ·rw[f]at h
   split at h
   ·rename_i e
    obtain⟨rfl,rfl⟩:=e
    cases h
    right;intro _ C;obtain⟨Q,R,D⟩:=g.obs d' j' _ i;refine⟨R,?_⟩
    cases hgg:G d' j' 0 with
    |none=>simpa [hgg]using D
    |some p=>
     obtain⟨b,o⟩:=p;simp only[hgg]at D;obtain⟨r,et,t,S⟩:=D;have E:cm G ow b:=aJ.2 ⟨d',j',0,o,by rw[i];trivial,hgg⟩;refine .inr ⟨⟨g.notF b E,λm=> ?_⟩,r,aO t,S.mono λx cs h=>cz.mono C _ h⟩;obtain⟨u,v,y,z,c,H⟩:=aJ.1 m;obtain⟨A,B⟩:=a c;have:=g.apart d' j' 0 u v y b o z (by rw[i];trivial) B hgg H;exact A ⟨this.1.symm,this.2.1.symm⟩
   ·exact .inl ⟨h,rfl,λ_ _ _ _ _=>rfl⟩
 ·exact .refl g
def DA (g:bz F G ow w.heap) (I:∀b,F b->b<w.heap.size) {d j:Nat} {o n:OB} (h:aj ow d j=some (some o)) (k:LB (some (some o)) (some (some n))):Tr F G ow w G (bw ow d j (some n)) w:=by
 have q:aj ow d j≠none:=by rw[h];simp
 have f:=λd' j'=>aW (o:=some n) (d':=d') (j':=j') q
 have a:∀ {d' j'},bB (aj (bw ow d j (some n)) d' j')->¬(d'=d/\j'=j)/\bB (aj ow d' j'):=by
  intro d' j' c;rw[f]at c;split at c
  ·exact absurd c k.not.1
  ·exact⟨by assumption,c⟩
 have s:∀b,cm G (bw ow d j (some n)) b->cm G ow b:=by
  intro b l;obtain⟨d',j',J,E,c,t⟩:=aJ.1 l;exact aJ.2 ⟨d',j',J,E,(a c).2,t⟩
 refine tf g I (λ_ _ _=>rfl) (λd' j'=> ?_) (.refl _ _) (λb l=> .inl (s b l)) (λb r _ K=>⟨r,K,rfl⟩) (λd' j' E m=> ?_) (λL M N u v x b p y z A=>g.apart L M N u v x b p y (a z).2 (a A).2) bE
 ·rw[f]
  split
  ·rename_i e;rw[e.1,e.2,h];exact k.ec
  ·exact .refl _
 ·rw[f]at m
  split at m
  ·rename_i e
   obtain⟨rfl,rfl⟩:=e
   cases m
   right;intro _ B;refine k.rep rfl B (λi b p H=>⟨?_,rfl⟩) (g.obs d' j' _ h);have C:cm G ow b:=aJ.2 ⟨d',j',i,p,by rw[h];exact k.own,H⟩;refine⟨g.notF b C,λl=> ?_⟩;obtain⟨u,v,x,y,c,D⟩:=aJ.1 l;obtain⟨z,A⟩:=a c;have:=g.apart d' j' i u v x b p y (by rw[h];exact k.own) A H D;exact z ⟨this.1.symm,this.2.1.symm⟩
  ·exact .inl ⟨m,rfl,λ_ _ _ _ _=>rfl⟩
def pQ (d j:Nat):FR ow d j=ow\/∃s l a,aj ow d j=some (some (.nrow s l none))/\LB (some (some (.nrow s l none))) (some (some (.frow s.kd 0 a)))/\FR ow d j=bw ow d j (some (.frow s.kd 0 a)):=by
 unfold FR;split
 ·rename_i r b
  obtain⟨_,c⟩:=hX b;split
  ·rename_i e
   exact .inr ⟨r.1,r.2,_,c,.inr (.inl ⟨r.1,r.2,r.1.kd,_,rfl,rfl,L8 r.1 e r.2⟩),rfl⟩
  ·exact .inl rfl
 ·exact .inl rfl
def N0 (a:bz F G ow w.heap) (c:∀b,F b->b<w.heap.size) (d j:Nat):Tr F G ow w G (FR ow d j) w:=by
 rcases pQ (ow:=ow) d j with e|⟨s,l,l',hn,hz,e⟩
 ·rw[e];exact .refl a
 ·rw[e];exact DA a c hn hz
def th {a:Gh} {c:World} (h:Tr F G ow w a ow' c) (b:Nat) (r:Array Value) (d:cR F G ow b) (e:ap w.heap b=some r):cR F a ow' b/\ap c.heap b=some r:=Ia h.kept h.own b r d e
def jM (n:bz F G ow w.heap) (J:∀b,F b->b<w.heap.size) {k:Kd} {s:SV} {v:Value} (A:Sv F G ow w.heap s v) {x:k.T} (h:eT k s ow=some (x,ow')):Tr F G ow w G ow' w/\cz w.heap (cR F G ow') k x [v]:=by
 unfold eT at h;split at h
 ·rename_i P y
  split at h
  ·rename_i e
   subst e
   cases h
   cases A with
   |v _ hy=>exact⟨.refl n,hy⟩
  ·cases h
 ·split at h
  ·cases h
   cases A
   exact⟨.refl n,rfl⟩
  ·cases h
 ·split at h
  ·cases h
   cases A
   exact⟨.refl n,⟨_,_,rfl,a1l _,.inl rfl⟩⟩
  ·cases h
 ·split at h
  ·rename_i e
   split at h
   ·rename_i d j r g f
    split at h
    ·rename_i B
     subst B;simp only[a0k,a0y]at h;obtain⟨p,rfl⟩:=h;have q:=Pg n J d j;refine⟨q,?_⟩;obtain⟨d',j',ver,l0,i,hn,t,a,c,rfl,u,m⟩:=jt n A f;rw[g]at i
     cases i
     have p:x=r.2:=by rw[<-p];rfl
     subst p;refine⟨a,c,rfl,u,?_⟩;rcases m with m|⟨b,o,rw_,⟨o',hg⟩,ha,hr,hel,hok⟩
     ·exact .inl m
     ·refine .inr ⟨b,o,rw_,ha,?_,hr,hel.mono λx cs m=>cz.mono (th q) _ m⟩
      rcases hn with hn|hn
      ·have C:cm G ow b:=aJ.2 ⟨d,j,0,o',by rw[hn];trivial,hg⟩
       refine⟨n.notF b C,λK=> ?_⟩;obtain⟨L,M,N,O,z,D⟩:=aJ.1 K;have E:co ow d j=some (.row r.1 ver l0):=by rw[lM,hn];rfl
       unfold Ap at z;simp only[E]at z;rw[aW (by rw[hn];simp)]at z;split at z
       ·exact z.elim
       ·rename_i H
        have:=n.apart d j 0 L M N b o' O (by rw[hn];trivial) z hg D;exact H ⟨this.1.symm,this.2.1.symm⟩
      ·have I:nz ow d j=false:=by unfold nz;rw[lM,hn];rfl
       exact(th q b rw_ (hok I) hr).1
    ·cases h
   ·rename_i d j g l
    split at h
    ·rename_i r f
     split at h
     ·rename_i B
      subst B;simp only[a0k,a0y]at h;obtain⟨p,rfl⟩:=h;have q:=N0 n J d j;refine⟨q,?_⟩;obtain⟨d',j',ver,l0,i,hn,t,a,c,rfl,u,m⟩:=jt q.hrep (q.sv _ _ A) f;rw[g]at i
      cases i
      have p:x=r.2:=by rw[<-p];rfl
      subst p;refine⟨a,c,rfl,u,?_⟩;rcases m with m|⟨b,o,rw_,_,ha,hr,hel,hok⟩
      ·exact .inl m
      ·refine .inr ⟨b,o,rw_,ha,hok ?_,hr,hel⟩
       rcases pQ (ow:=ow) d j with e|⟨s1,l1,l1',hn1,_,e⟩
       ·rw[e]at f
        rw[f]at l
        cases l
       ·unfold nz
        rw[e,lM,aW (by rw[hn1];simp)];simp
     ·cases h
    ·cases h
   ·cases h
  ·cases h
def ji (g:∀b,F b->b<w.heap.size):(k:Kd)-> {ow ow':OW}->(d:bz F G ow w.heap)-> {l:List SV}-> {vs:List Value}->dn F G ow w.heap l vs-> {x:k.T}->bF k l ow=some (x,ow')->Tr F G ow w G ow' w/\cz w.heap (cR F G ow') k x vs
 | .cons a b,ow,ow',d,l,vs,hl,x,h=>by
  cases l with
  |nil=>simp[bF]at h
  |cons s r=>
   simp only[bF]at h;obtain⟨v,e,rfl,m,c⟩:=hl.uncons;split at h
   ·rename_i y n
    split at h
    ·rename_i z o
     cases h
     obtain⟨f,p⟩:=jM (x:=y.1) (ow':=y.2) d g m n;obtain⟨j,q⟩:=ji g b (x:=z.1) (ow':=z.2) f.hrep ⟨c.1,λi t u=>f.sv _ _ (c.2 i t u)⟩ o;exact⟨f.trans j,[v],e,rfl,cz.mono (th j) _ p,q⟩
    ·cases h
   ·cases h
 | .nil,ow,ow',d,l,vs,hl,x,h=>by
  cases l with
  |nil=>
   simp only[bF,a0k,a0y]at h;obtain⟨_,rfl⟩:=h;have:vs=[]:=a0s hl.1.symm;subst this;exact⟨.refl d,rfl⟩
  |cons s r=>simp[bF]at h
 | .int _,_,_,_,_,_,_,_,h=>by simp[bF]at h
 | .bool,_,_,_,_,_,_,_,h=>by simp[bF]at h
 | .str,_,_,_,_,_,_,_,h=>by simp[bF]at h
 | .err,_,_,_,_,_,_,_,h=>by simp[bF]at h
 | .any,_,_,_,_,_,_,_,h=>by simp[bF]at h
 | .sl _ _,_,_,_,_,_,_,_,h=>by simp[bF]at h
 | .tree _,_,_,_,_,_,_,_,h=>by simp[bF]at h
def F8 {k:Kd} {s:SV} {x:k.T} (h:eT k s ow=some (x,ow')):vG s=true:=by
 unfold eT at h;split at h
 ·rfl
 ·rfl
 ·rfl
 ·split at h
  ·split at h
   ·rename_i a _
    unfold jH at a;split at a
    ·rfl
    ·rfl
    ·cases a
   ·rename_i a _
    unfold jH at a;split at a
    ·rfl
    ·rfl
    ·cases a
   ·cases h
  ·cases h
def B3 (J:bz F G ow w.heap) (s:∀b,F b->b<w.heap.size) {a:Kd} {d j c:Nat} {v:Value} (M:Sv F G ow w.heap (.bp d j c) v) {x:ck a.T} (h:rE a d j c ow=some (x,ow')):Tr F G ow w G ow' w/\cz w.heap (cR F G ow') (.tree a) x [v]:=by
 unfold rE at h;split at h
 ·rename_i e N
  split at h
  ·rename_i y O
   split at h
   ·rename_i z P
    split at h
    ·rename_i Q
     simp only[a0k,a0y]at h;obtain⟨rfl,rfl⟩:=h;obtain⟨rfl,K,l⟩:=Q;have L:=aH N;obtain⟨R,b,o,r,et,t,S,U,f⟩:=J.obs d j _ L
     cases M with
     |bp hv=>
     simp only[L]at hv;obtain⟨b',o',m,rfl⟩:=hv;rw[t]at m
     cases m
     have p:dn F G ow w.heap (e.take a.n) (bP r o a.n):=by
      refine⟨by rw[aY (by omega),a1m];omega,λi h1 u=> ?_⟩;have k:i<a.n:=by rw[aY (by omega)]at u;exact u
      have V:(bP r o a.n)[i]=r[o+i]'(by omega):=by
       have:=aM (r:=r) (o:=o) (n:=a.n) (i:=i) k;rw[a0a u,a1n (by omega)]at this;exact a1h this
      rw[V,a5d];exact f i (by omega) (by omega)
     obtain⟨A,W⟩:=ji s a J p (x:=y.1) (ow':=y.2) O;have X:Sv F G ow w.heap (e.getD a.n .dead) (r[o+a.n]'(by omega)):=by
      have:=f a.n (by omega) (by omega);simp only[List.getD,a0a (show a.n<e.length by omega),a2r];exact this
     obtain⟨q,Y⟩:=jM (x:=z.1) (ow':=z.2) A.hrep s (A.sv _ _ X) P;obtain⟨B,g⟩:=mj l;have C:=DA q.hrep s g (n:= .lrow 0) (.inr (.inr ⟨B,rfl,rfl⟩));refine⟨(A.trans q).trans C,Dt.2 ⟨b,o,r,_,rfl,?_,aO S,by omega,cz.mono (th (q.trans C)) _ W,a1n _,cz.mono (th C) _ Y⟩⟩;have D:cm G z.2 b:=aJ.2 ⟨d,j,0,o,by rw[g];trivial,t⟩;refine⟨q.hrep.notF b D,λE=> ?_⟩;obtain⟨Z,j2,i2,o2,k,H⟩:=aJ.1 E;rw[aW (by rw[g];simp)]at k;split at k
     ·exact k.elim
     ·rename_i I
      have:=q.hrep.apart d j 0 Z j2 i2 b o o2 (by rw[g];trivial) k t H;exact I ⟨this.1.symm,this.2.1.symm⟩
    ·cases h
   ·cases h
  ·cases h
 ·cases h
def lw {k:Kd} {s:SV} {x:k.T} (h:ve k s ow=some (x,ow')):eT k s ow=some (x,ow')\/∃(a:Kd) (d j c:Nat) (y:ck a.T) (e:k= .tree a),s= .bp d j c/\LK e x=y/\rE a d j c ow=some (y,ow'):=by
 cases k with
 |tree a=>
  cases s with
  |bp d j c=>exact .inr ⟨a,d,j,c,x,rfl,rfl,rfl,h⟩
  |_=>exact .inl h
 |_=>exact .inl h
def zu (e:bz F G ow w.heap) (f:∀b,F b->b<w.heap.size) {k:Kd} {s:SV} {v:Value} (g:Sv F G ow w.heap s v) {x:k.T} (h:ve k s ow=some (x,ow')):Tr F G ow w G ow' w/\cz w.heap (cR F G ow') k x [v]:=by
 rcases lw h with h|⟨a,d,j,c,y,rfl,rfl,rfl,h⟩
 ·exact jM e f g h
 ·exact B3 e f g h
def DB {k:Kd} {s:SV} {x:k.T} (h:ve k s ow=some (x,ow')):vG s=true:=by
 rcases lw h with h|⟨a,d,j,c,y,rfl,rfl,rfl,h⟩
 ·exact F8 h
 ·rfl
def tj (e:bz F G ow w.heap) (f:∀b,F b->b<w.heap.size) {k:Kd} {s:SV} {v:Value} (a:Sv F G ow w.heap s v) {x:k.T} (h:s8 k s ow=some (x,ow')):Tr F G ow w G ow' w/\cz w.heap (cR F G ow') k x v.cells.toList/\(if k.isSt then∃cs,v= .agg cs else v.oneCell'=true):=by
 unfold s8 at h;split at h
 ·rename_i c
  split at h
  ·rename_i l
   obtain⟨vs,rfl,d⟩:=a.agg_inv;obtain⟨t,r⟩:=ji f k e d h;exact⟨t,r,by simp[c]⟩
  ·cases h
 ·rename_i c
  obtain⟨t,r⟩:=zu e f a h;have g:=F5 a (DB h);exact⟨t,by rw[ix g];exact r,by simp[c,g]⟩
def qE (j:∀b,F b->b<w.heap.size) {k:Kd}:(l:List SV)-> {ow ow':OW}->(d:bz F G ow w.heap)-> {vs:List Value}->dn F G ow w.heap l vs-> {xs:List k.T}->vI k l ow=some (xs,ow')->Tr F G ow w G ow' w/\xs.length=vs.length/\∀i (a:i<xs.length) (f:i<vs.length),cz w.heap (cR F G ow') k xs[i] (vs[i]).cells.toList
 |[],ow,ow',d,vs,hl,xs,h=>by
  simp only[vI,a0k,a0y]at h;obtain⟨rfl,rfl⟩:=h;exact⟨.refl d,hl.1,λi a=>by simp at a⟩
 |s::r,ow,ow',d,vs,hl,xs,h=>by
  simp only[vI]at h;obtain⟨v,n,rfl,o,c⟩:=hl.uncons;split at h
  ·rename_i y p
   split at h
   ·rename_i z q
    cases h
    obtain⟨g,t,_⟩:=tj (x:=y.1) (ow':=y.2) d j o p;obtain⟨m,e,u⟩:=qE j r (xs:=z.1) (ow':=z.2) g.hrep ⟨c.1,λi a f=>g.sv _ _ (c.2 i a f)⟩ q;refine⟨g.trans m,by simp[e],λi a f=> ?_⟩
    cases i with
    |zero=>exact cz.mono (th m) _ t
    |succ i=>exact u i (by simpa using a) (by simpa using f)
   ·cases h
  ·cases h
def bA.congr {α:Type} {R:α->List Value->Prop} {n:Nat} {l:List α} {r a:Array Value} {o b:Nat} (h:bA R n l r o) (e:b+l.length*n<=a.size) (f:bP a b (l.length*n)=bP r o (l.length*n)):bA R n l a b:=by
 refine⟨e,λi c=> ?_⟩;have d:i*n+n<=l.length*n:=by
  have:(i+1)*n<=l.length*n:=a0p _ c;rw[a1d,a2x]at this;exact this
 rw[gw d,f,<-gw d];exact h.2 i c
def bA.append {α:Type} {R:α->List Value->Prop} {n:Nat} {l a:List α} {r:Array Value} {o:Nat} (h:bA R n l r o) (b:bA R n a r (o+l.length*n)):bA R n (l++a) r o:=by
 refine⟨by have:=b.1;simp[a1d];omega,λi d=> ?_⟩;by_cases c:i<l.length
 ·rw[a1j c]
  exact h.2 i c
 ·rw[a1z (by omega)]
  have:=b.2 (i-l.length) (by simp at d;omega);rw[a2o,<-a1d,show l.length+(i-l.length)=i by omega]at this;exact this
def fk {e:TypeId} {k:Kd} (h:kc P e k=true):k.good=true/\0<k.n/\k.n=cP P e/\0<c7 P e/\∃i z,P.info? e=some i/\i.zero=some z/\i.size=k.n/\c7 P e=i.bytes/\z.cells.size=k.n:=by
 unfold kc at h;simp only[a0f,a0u]at h;obtain⟨⟨⟨⟨f,g⟩,d⟩,j⟩,b⟩:=h;refine⟨f,g,d,j,?_⟩;split at b
 ·rename_i z a
  simp only[a2l]at a;obtain⟨i,c,a⟩:=a;exact⟨i,z,c,a,by rw[d];simp[cP,Program.cellsOf,c],by simp[c7,Program.bytesOf,c],a0x b⟩
 ·cases b
def B4 (t:bz F G ow w.heap) (u:∀b,F b->b<w.heap.size) {d:Nat} {k:Kd} {l:List k.T} {r:Array Value} (v:k.good=true) (g:bA (λx cs=>cz w.heap (cR F G ow) k x cs) k.n l r 0) (p:bV ow d [.row k 0 l]=some ow') (et:TypeId) {c:Nat} (h:l.length<=c) (y:c*k.n<=r.size)
 {w1:World} (q:w1.heap=w.heap) (j:w1.os=w.os) (f:w1.output=w.output) (e:w1.tape=w.tape):
 Tr F G ow w (G.new d (fW (some (w.heap.size,0)))) ow' (w1.alloc (.cells r et))/\Sv F (G.new d (fW (some (w.heap.size,0)))) ow' (w1.alloc (.cells r et)).heap (.wh d 0 0 []) (.slice (some ⟨w.heap.size,0,none⟩) l.length c):=by
 have s:(G.new d (fW (some (w.heap.size,0)))) d 0 0=some (w.heap.size,0):=by simp[Gh.new,fW]
 have m:∀i,(G.new d (fW (some (w.heap.size,0)))) d 0 (i+1)=none:=by simp[Gh.new,fW]
 have a:(w1.alloc (.cells r et)).heap[w.heap.size]?=some (.cells r et):=by rw[<-q];exact cI _ _
 refine⟨Dx t u p q j f e _ 0 λz o=>⟨m,v,?_⟩,.wh ?_⟩
 ·simp only[s]
  exact⟨r,et,a,g.mono λx cs A=>cz.mono o _ A⟩
 ·simp only[cV,pP p,a2q]
  exact⟨by omega,_,_,rfl,h,.inr ⟨w.heap.size,0,0,r,s,rfl,aO a,λ_=>by simp,by simpa using y⟩⟩
end
variable {F:Nat->Prop} {G:Gh} {ow ow':OW} {w:World} {P:Program}
def fw {t e:TypeId} (h:lH P t=some e):P.underlying t=some (.slice e):=by
 unfold lH ee at h;split at h
 ·cases h;assumption
 ·cases h
def jk {h:Array Obj} {ok:Nat->Prop}:(k:Kd)->(vs:List Value)->dI k vs=true->cz h ok k k.z vs
 | .int k,vs,e=>by
  unfold dI at e;split at e<;>simp_all[cz,Kd.z]
 | .bool,vs,e=>by
  unfold dI at e;split at e<;>simp_all[cz,Kd.z]
 | .str,vs,e=>by
  cases vs with
  |nil=>simp[dI]at e
  |cons v r=>
   cases r with
   |cons _ _=>simp[dI]at e
   |nil=>
    cases v<;>simp[dI]at e
    rename_i s;obtain⟨s⟩:=s;have:s= #[]:=a1v ByteArray.data e;subst this;rfl
 | .err,vs,e=>by
  unfold dI at e;split at e<;>first|exact .inl ⟨rfl,rfl⟩|simp_all
 | .any,vs,e=>by simp[dI]at e
 | .sl false _,vs,e=>by
  unfold dI at e;split at e<;>simp_all[cz,Kd.z]
 | .sl true _,vs,e=>by simp[dI]at e
 | .nil,vs,e=>by
  unfold dI at e;split at e<;>simp_all[cz]
 | .tree _,vs,e=>by simp[dI]at e
 | .cons a b,vs,e=>by
  cases vs with
  |nil=>simp[dI]at e
  |cons v r=>
   simp only[dI,a0f]at e;exact⟨[v],r,rfl,jk a [v] e.1.2,jk b r e.2⟩
def pr {z:Array Value} {m i:Nat} (b:i<m):bP (madeCells z (m*z.size)) (i*z.size) z.size=z.toList:=by
 have c:(i+1)*z.size<=m*z.size:=a0p _ b;rw[a1d,a2x]at c;apply a2g;intro j;by_cases a:j<z.size
 ·rw[aM a]
  have f:0<z.size:=by omega
  simp only[madeCells,Array.getElem?_map,Array.getElem?_range,show i*z.size+j<m*z.size by omega,a2c,a1w];have e:(i*z.size+j) % z.size=j:=by rw[Nat.mul_add_mod_self_right,a7u a]
  rw[e];simp[a]
 ·have d:(bP (madeCells z (m*z.size)) (i*z.size) z.size).length<=j:=by
   rw[aY (by rw[size_madeCells];omega)];omega
  rw[a1g d,a1g (by simpa using(by omega:z.size<=j))]
def wd {t e:TypeId} {k:Kd} {n c:Int} {d:Nat} (K:bz F G ow w.heap) (L:∀b,F b->b<w.heap.size) (M:lH P t=some e) (r:kc P e k=true) (s:FT P e k=true) (V:0<=n) (N:n<=c) (C:c*c7 P e<=ai) (q:bV ow d [.row k 0 (List.replicate n.toNat k.z)]=some ow') {Q:SV×OW->Prop} (h:Q (.wh d 0 0 [],ow')):Dk P F G ow w Q (Instr.makeSlice t (.int .i64 n) (.int .i64 c)):=by
 obtain⟨p,D,_,a,i,z,E,H,f,u,_⟩:=fk r;have v:dI k z.cells.toList=true:=by simpa [FT,E,H]using s
 have O:=fw M;have g:=jk (h:=w.heap) (ok:=cR F G ow) k _ v;have y:z.cells.size=i.size:=by have:=cz.length k g;simpa [f]using this
 obtain⟨m,rfl⟩:∃m:Nat,c=(m:Int):=⟨c.toNat,by omega⟩;obtain⟨l,rfl⟩:∃l:Nat,n=(l:Int):=⟨n.toNat,by omega⟩;rw[u]at C a;have A:m*i.bytes<=ai:=by exact_mod_cast C
 have W:m<=m*i.bytes:=a4m _ a;unfold ai at A;have I:((m*i.bytes:Nat):Int)<=281474976710656:=by omega
 have R:(i.bytes:Int)*(m:Int)<=281474976710656:=by rw[Int.mul_comm];rw[a6g]at I;exact I
 have o:=run_make (P:=P) w t e i z O E H .i64 .i64 l m (by omega) N R (by omega);simp only[a0g]at o;have B:bA (λx cs=>cz w.heap (cR F G ow) k x cs) k.n (List.replicate l k.z) (madeCells z.cells (m*i.size)) 0:=by
  have S:l*k.n<=m*k.n:=a0p _ (by omega);refine⟨by rw[a1p,size_madeCells,f];omega,λj T=> ?_⟩;simp only[a1p]at T;have:=pr (z:=z.cells) (m:=m) (i:=j) (by omega);rw[y,f]at this;rw[a1o,f,this];simpa using g
 simp only[a0g]at q;obtain⟨U,J⟩:=B4 K L p B q e (c:=m) (by rw[a1p];omega) (by rw[size_madeCells,f];omega) (w1:=w) rfl rfl rfl rfl;rw[a1p]at J;exact⟨_,_,_,_,_,h,o,U,J⟩
def qF {t:TypeId} {n c:SV} {i j:Value} {d:Nat} (l:bz F G ow w.heap) (m:∀b,F b->b<w.heap.size) (o:Sv F G ow w.heap n i) (p:Sv F G ow w.heap c j) {Q:SV×OW->Prop} (h:(nE P t n c ow d).can Q):Dk P F G ow w Q (Instr.makeSlice t i j):=by
 unfold nE at h;split at h
 ·rename_i e n c q
  split at h
  ·rename_i k r
   split at h
   ·rename_i f
    simp only[a0f]at f;obtain⟨a,h⟩:=h;have a:(0:Int)<=n/\(n:Int)<=c/\(c:Int)*c7 P e<=ai:=a0x a;split at h
    ·rename_i ow' g
     rw[o.int_inv,p.int_inv];exact wd l m q f.1 f.2 a.1 a.2.1 a.2.2 g h
    ·exact h.elim
   ·exact h.elim
  ·exact h.elim
 ·exact h.elim
def rP {α:Type}:(ps:List (Nat×α))->(i:Nat)->ps.map (·.1)=List.range' i ps.length->ps=((ps.map (·.2)).zipIdx i).map λx=>(x.2,x.1)
 |[],_,_=>rfl
 |(n,a)::r,i,h=>by
  simp only[a2i,a0o,a7v,a5e]at h;obtain⟨rfl,h⟩:=h;simp only[a2i,List.zipIdx_cons];rw[<-rP r (n+1) h]
def pR {t:TypeId} {n d:Nat} {ps:List (Nat×SV)} {vps:List (Nat×Value)} (hh:bz F G ow w.heap) (Z:∀b,F b->b<w.heap.size) (h1:ps.map (·.1)=vps.map (·.1)) (h2:dn F G ow w.heap (ps.map (·.2)) (vps.map (·.2))) {Q:SV×OW->Prop} (h:(mc P t n ps ow d).can Q):Dk P F G ow w Q (Instr.buildSlice t n vps.toArray):=by
 unfold mc at h;split at h
 ·exact h.elim
 rename_i e he;split at h
 ·exact h.elim
 rename_i k hk;split at h
 ·rename_i hc
  obtain⟨g,H,R⟩:=hc;obtain⟨D,A,I,S,i,z,T,hz,p,Ql,_⟩:=fk R;split at h
  ·rename_i y hy
   split at h
   ·rename_i ow' hn
    have hu:=fw he;obtain⟨t1,l,B⟩:=qE Z _ (xs:=y.1) (ow':=y.2) hh h2 hy;have s:vps.length=n:=by
     have:=a1v List.length g;simp at this;have h3:=a1v List.length h1;simp at h3;omega
    have J:y.1.length=n:=by rw[l];simp[s]
    have U:vps=((vps.map (·.2)).zipIdx 0).map λx=>(x.2,x.1):=rP vps 0 (by rw[<-h1,g,s,a3x])
    have K:∀v∈vps.map (·.2),v.cells.size=k.n:=by
     intro v hv;obtain⟨j,L,rfl⟩:=a4c hv;have:=cz.length k (B j (by rw[l];exact L) L);simpa using this
    have Qm:i.size=cP P e:=by rw[p,I]
    rw[<-I]at H;have M:∀N:Array Value,∃r,Instr.fill (λi=>some (i*k.n,k.n)) ((Array.range (n*k.n)).map (N[· % N.size]!)) vps=some r/\r.size=n*k.n/\bA (λx cs=>cz w.heap (cR F G y.2) k x cs) k.n y.1 r 0:=by
     intro N;obtain⟨r,g,a,V⟩:=Great.fill_dense A (vps.map (·.2)) 0 ((Array.range (n*k.n)).map (N[· % N.size]!)) K (by simp[s]);rw[<-U]at g;simp only[Array.size_map,Array.size_range]at a;refine⟨r,g,a,?_,λj L=> ?_⟩
     ·rw[J,a];omega
     ·have u:j<(vps.map (·.2)).length:=by rw[<-l];exact L
      have:=B j L u;have W:(j+1)*k.n<=n*k.n:=a0p _ (by omega);rw[a1d,a2x]at W;have e1:bP r (0+j*k.n) k.n=((vps.map (λx:Nat×Value=>x.2))[j]'u).cells.toList:=by
       apply a2g;intro q;have O:=K _ (a0h u);by_cases X:q<k.n
       ·rw[aM X,a1o,V]
        simp only[a7a,a4q,a1o,true_and,a3a,s];rw[a0e (by omega)];have e2:(j*k.n+q)/k.n=j:=by rw[a6f,Nat.mul_add_div A,Nat.div_eq_of_lt X];rfl
        have e3:(j*k.n+q) % k.n=q:=by rw[a6f,Nat.mul_add_mod,a7u X]
        rw[e2,e3,a8d,a0a u];simp
       ·rw[a1g (by rw[aY (by rw[a];omega)];omega),a1g (by simp only[a6b];rw[O];omega)]
      rw[e1];exact this
    have m:∃r,(Instr.buildSlice t n vps.toArray).run P w= .ok (.slice (some ⟨w.heap.size,0,none⟩) n n) (w.alloc (.cells r e))/\r.size=n*k.n/\bA (λx cs=>cz w.heap (cR F G y.2) k x cs) k.n y.1 r 0:=by
     by_cases Y:n*i.size=0
     ·obtain⟨r,g,a,o⟩:=M #[]
      refine⟨r,?_,a,o⟩;rw[<-p]at g;simp only[Y]at g;have C:∀f:Nat->Value,(Array.range 0).map f= #[]:=λf=>by simp
      rw[C]at g;simp only[Instr.buildSlice,Sem.run_bind,run_underlying hu,Result.andThen_ok,sizeOf,typeInfo,run_program,T,Sem.run_pure,Y,a2c];simp only[C,g];simp[newRow]
     ·obtain⟨r,g,a,o⟩:=M z.cells
      refine⟨r,?_,a,o⟩;rw[<-p]at g;have E:¬(16777216<n*i.size):=by rw[p];omega
      simp only[Instr.buildSlice,Sem.run_bind,run_underlying hu,Result.andThen_ok,sizeOf,typeInfo,run_program,T,Sem.run_pure];simp[Y,E,fP T hz,g,newRow]
    obtain⟨r,m,a,o⟩:=m;obtain⟨t2,s2⟩:=B4 t1.hrep Z D o hn e (c:=n) (by omega) (by rw[a];omega) (w1:=w) rfl rfl rfl rfl;rw[J]at s2;exact⟨_,_,_,_,_,h,m,t1.trans t2,s2⟩
   ·exact h.elim
  ·exact h.elim
 ·exact h.elim
def na (n c:Nat) (h:c<n):Builtin.nextslicecap n c<=2*n:=by
 unfold Builtin.nextslicecap;split
 ·omega
 ·split
  ·omega
  ·have a:∀r c,256<=c->c<2*n->Builtin.growBy n r c<=2*n:=by
    intro r
    induction r with
    |zero=>intro c _ h;simp[Builtin.growBy];omega
    |succ r ih=>
     intro c e f;unfold Builtin.growBy;split
     ·omega
     ·rename_i b
      by_cases d:c+(c+768)/4<2*n
      ·exact ih _ (by omega) d
      ·omega
   exact a 4 c (by omega) (by omega)
def B5 {h:Array Obj} {ok:Nat->Prop}:(k:Kd)-> {x:k.T}-> {cs:List Value}->cz h ok k x cs->∀u∈cs,u.oneCell'=true
 | .int _,_,_,e=>by cases e;simp[Value.oneCell']
 | .bool,_,_,e=>by cases e;simp[Value.oneCell']
 | .str,_,_,e=>by cases e;simp[Value.oneCell']
 | .err,_,_,e=>by rcases e with⟨_,rfl⟩|⟨_,_,_,rfl⟩<;>simp[Value.oneCell']
 | .any,_,_,e=>by cases e;simp[Value.oneCell']
 | .sl true _,_,_,e=>e.elim
 | .sl false _,_,_,e=>by obtain⟨_,_,rfl,_⟩:=e;simp[Value.oneCell']
 | .nil,_,_,e=>by cases e;simp
 | .cons a b,_,_,e=>by
  obtain⟨c1,c2,rfl,c,d⟩:=e;intro u f;rcases a0l.1 f with h|h
  ·exact B5 a c u h
  ·exact B5 b d u h
 | .tree _,_,_,e=>by obtain⟨v,rfl,g⟩:=e;obtain⟨_,_,rfl⟩:=g.ptr;simp[Value.oneCell']
def rQ {h:Array Obj} {ok:Nat->Prop} {k:Kd} (g:0<k.n) {l:List k.T} {r:Array Value} {o:Nat} (b:bA (λx cs=>cz h ok k x cs) k.n l r o):∀u∈bP r o (l.length*k.n),u.oneCell'=true:=by
 intro u i;obtain⟨q,c,rfl⟩:=a4c i;rw[aY b.1]at c;have a:q/k.n<l.length:=Nat.div_lt_of_lt_mul (by rw[a6f];exact c);have p:q/k.n*k.n+k.n<=l.length*k.n:=by
  have:(q/k.n+1)*k.n<=l.length*k.n:=a0p _ a;rw[a1d,a2x]at this;exact this
 have j:q % k.n<k.n:=Nat.mod_lt _ g;have d:q/k.n*k.n+q % k.n=q:=by rw[a6f];exact Nat.div_add_mod q k.n
 have m:=b.2 (q/k.n) a;have e:(bP r (o+q/k.n*k.n) k.n)[q % k.n]?=(bP r o (l.length*k.n))[q]?:=by
  rw[aM j,aM c,a2o,d]
 have f:(bP r (o+q/k.n*k.n) k.n).length=k.n:=aY (by have:=b.1;omega);rw[a0a (by omega),a0a (by rw[aY b.1];exact c)]at e;rw[<-a1h e];exact B5 k m _ (a0h _)
def nQ (A:bz F G ow w.heap) {k:Kd} (B:0<k.n) {x:SV} {xv:Value} (m:Sv F G ow w.heap x xv) {y:List k.T} (h:qs k x ow=some y) {tx e:TypeId} (v:P.underlying tx=some (.slice e)):∃d,Src P k.n tx xv y.length d w/\bA (λx cs=>cz w.heap (cR F G ow) k x cs) k.n y d.toArray 0:=by
 have nil:∀(a:Option Addr) (c:Nat),Src P k.n tx (.slice a 0 c) 0 [] w:=by
  intro a c
  cases a with
  |none=>exact Src.ofNil w v c
  |some a=>exact Src.ofSlice w v a 0 c [] (by simp) (λj u p=>by simp at p) (by simp)
 have q:∀(b o c:Nat) (r:Array Value) (l:List k.T),ap w.heap b=some r->bA (λx cs=>cz w.heap (cR F G ow) k x cs) k.n l r o->∃d,Src P k.n tx (.slice (some ⟨b,o,none⟩) l.length c) l.length d w/\bA (λx cs=>cz w.heap (cR F G ow) k x cs) k.n l d.toArray 0:=by
  intro b o c r l s f;have g:=aY f.1;refine⟨bP r o (l.length*k.n),Src.ofSlice w v _ _ _ _ g (λj u p=> ?_) (rQ B f),f.congr (by simp[g]) ?_⟩
  ·rw[Addr.add_mid,bL s,<-p,aM]
   rcases a3y j (l.length*k.n)with h|h
   ·exact h
   ·rw[a1g (by omega)]at p;cases p
  ·show((bP r o (l.length*k.n)).toArray.toList.drop 0).take (l.length*k.n)=_
   rw[a4y,a4b];simp[g]
 unfold qs at h;split at h
 ·cases h
  cases m
  exact⟨[],nil _ _,⟨by simp,λi t=>by simp at t⟩⟩
 ·rename_i o C l
  split at h
  ·rename_i e
   subst e;have h:l=y:=a1h h;subst h;obtain⟨rfl,a,c,rfl,_,m⟩:=m.sl_inv;rcases m with rfl|⟨b,of,r,rfl,_,s,f⟩
   ·exact⟨[],nil _ _,⟨by simp,λi t=>by simp at t⟩⟩
   ·exact q b of c r l s f
  ·cases h
 ·split at h
  ·rename_i r s
   obtain⟨D,z⟩:=r;dsimp only at h;split at h
   ·rename_i e
    subst e;have h:z=y:=a1h h;subst h;obtain⟨_,_,_,_,_,_,_,a,c,rfl,_,m⟩:=jt A m s;rcases m with m|⟨b,o,rw_,_,rfl,hrow,f,_⟩
    ·dsimp only at m
     subst m;exact⟨[],nil _ _,⟨by simp,λi t=>by simp at t⟩⟩
    ·exact q b o c rw_ z hrow f
   ·cases h
  ·cases h
end Go.Pev
namespace Go.Pev
variable {F:Nat->Prop} {G:Gh} {ow ow':OW} {w:World} {P:Program}
def qG (R:bz F G ow w.heap) {x:SV} {xv:Value} (v:Sv F G ow w.heap x xv) {d j:Nat} (y:jH x=some (d,j)) {r:Sigma λk:Kd=>List k.T} (q:kY ow x=some r) (z:nz ow d j=true):r.1.good=true/\(∃ver l0,aj ow d j=some (some (.row r.1 ver l0)))/\∃a c,xv= .slice a r.2.length c/\r.2.length<=c/\((G d j 0=none/\a=none/\r.2=[]/\c=0)\/∃b o A f et,G d j 0=some (b,A)/\a=some ⟨b,o,none⟩/\w.heap[b]?=some (.cells f et (0,0))/\bA (λx cs=>cz w.heap (cR F G ow) r.1 x cs) r.1.n r.2 f o/\o+c*r.1.n<=f.size):=by
 obtain⟨k,ver,l0,J⟩:∃k ver l0,co ow d j=some (.row k ver l0):=by
  unfold nz at z;split at z
  ·exact⟨_,_,_,by assumption⟩
  ·cases z
 have H:=aH J;obtain⟨_,m,O⟩:=R.obs d j _ H;have s:∀ {off:Nat} {len:Option Nat},cV w.heap G ow d j off len xv->off+len.getD l0.length<=l0.length/\∃a c,xv= .slice a (len.getD l0.length) c/\len.getD l0.length<=c/\((G d j 0=none/\a=none/\len.getD l0.length=0/\c=0)\/∃b o A f et,G d j 0=some (b,A)/\a=some ⟨b,o,none⟩/\w.heap[b]?=some (.cells f et (0,0))/\bA (λx cs=>cz w.heap (cR F G ow) k x cs) k.n (aQ l0 off (len.getD l0.length)) f o/\o+c*k.n<=f.size):=by
  intro off len h;simp only[cV,H]at h;obtain⟨p,a,c,rfl,l,h⟩:=h;refine⟨p,a,c,rfl,l,?_⟩;rcases h with⟨t,B,S⟩|⟨b,o,A,f,P,U,C,K,V⟩
  ·exact .inl ⟨t,B,by omega,S⟩
  ·simp only[P]at O
   obtain⟨W,et,Q,L⟩:=O;have e:=aO Q;rw[C]at e;cases e
   refine .inr ⟨b,A,o,f,et,P,U,Q,?_,V⟩;by_cases M:0<c
   ·rw[K M];exact L.part p
   ·have D:len.getD l0.length=0:=by omega
    have t:aQ l0 off (len.getD l0.length)=[]:=by simp[aQ,D]
    rw[t];exact⟨by simp;omega,λi z=>by simp at z⟩
 unfold jH at y;split at y
 ·rename_i d' j' E g
  cases y
  have N:g=[]/\r=⟨k,l0⟩:=by
   unfold kY nw at q
   cases g with
   |nil=>simp[J]at q;exact⟨rfl,q.symm⟩
   |cons _ _=>simp at q
  obtain⟨rfl,rfl⟩:=N
  cases v with
  |wh v=>
  obtain⟨_,a,c,I,l,h⟩:=s v;refine⟨m,⟨ver,l0,H⟩,a,c,I,l,?_⟩;have e:aQ l0 0 l0.length=l0:=by simp[aQ]
  simp only[a2q,e]at h;rcases h with⟨D,u,t,B⟩|h
  ·exact .inl ⟨D,u,a0s t,B⟩
  ·exact .inr h
 ·rename_i d' j' E g off len
  cases y
  have N:g=[]/\r=⟨k,aQ l0 off len⟩:=by
   unfold kY nw at q
   cases g with
   |nil=>simp[J]at q;exact⟨rfl,q.symm⟩
   |cons _ _=>simp at q
  obtain⟨rfl,rfl⟩:=N
  cases v with
  |os v=>
  obtain⟨p,a,c,I,l,h⟩:=s v;simp only[a2r]at p I l h;have e:(aQ l0 off len).length=len:=by simp[aQ];omega
  refine⟨m,⟨ver,l0,H⟩,a,c,by rw[e];exact I,by rw[e];exact l,?_⟩;rcases h with⟨D,u,t,B⟩|h
  ·exact .inl ⟨D,u,a0s (by rw[e,t]),B⟩
  ·exact .inr h
 ·cases y
def N1 (k:bz F G ow w.heap) (p:∀b,F b->b<w.heap.size) {d j:Nat} (q:aj ow d j≠none) {o:Option OB} (l:o=none\/∃n,o=some (.lrow n)) (s:EC (aj ow d j) (some o)):Tr F G ow w G (bw ow d j o) w:=by
 have c:=λd' j'=>aW (o:=o) (d':=d') (j':=j') q
 have i:¬bB (some o):=by rcases l with rfl|⟨n,rfl⟩<;>exactλh=>h
 have a:∀ {d' j'},bB (aj (bw ow d j o) d' j')->bB (aj ow d' j'):=by
  intro d' j' f;rw[c]at f;split at f
  ·exact absurd f i
  ·exact f
 refine tf k p (λ_ _ _=>rfl) (λd' j'=> ?_) (.refl _ _) (λb t=> ?_) (λb r _ u=>⟨r,u,rfl⟩) (λd' j' m g=> ?_) (λv x y z A B b C D E H=>k.apart v x y z A B b C D (a E) (a H)) bE
 ·rw[c]
  split
  ·rename_i e;rw[e.1,e.2];exact s
  ·exact .refl _
 ·obtain⟨d',j',I,m,f,J⟩:=aJ.1 t
  exact .inl (aJ.2 ⟨d',j',I,m,a f,J⟩)
 ·rw[c]at g
  split at g
  ·rcases l with rfl|⟨n,rfl⟩
   ·cases g
   ·cases g
    exact .inr λ_ _=>trivial
  ·exact .inl ⟨g,rfl,λ_ _ _ _ _=>rfl⟩
def DC (y:bz F G ow w.heap) (A:∀b,F b->b<w.heap.size) {d:Nat} {k:Kd} (B:k.good=true) (z:bV ow d [.row k 0 []]=some ow'):Tr F G ow w (G.new d (fW none)) ow' w/\Sv F (G.new d (fW none)) ow' w.heap (.wh d 0 0 []) (.slice none 0 0):=by
 obtain⟨C,q,s⟩:=fj z;have q:ow[d]?=some []:=by rcases q with h|h;cases h;exact h
 have a:∀d' j,aj ow' d' j=if d'=d then [OB.row k 0 []][j]?.map some else aj ow d' j:=λd' j=>by rw[s];simp
 have g:∀d' j,d'≠d->(G.new d (fW none)) d' j=G d' j:=λd' j f=>by simp[Gh.new,f]
 have c:∀j i,(G.new d (fW none)) d j i=none:=λj i=>by simp[Gh.new,fW]
 have l:∀ {d' j' i b o},bB (aj ow' d' j')->(G.new d (fW none)) d' j' i=some (b,o)->bB (aj ow d' j')/\G d' j' i=some (b,o):=by
  intro d' j' i b o p n;by_cases f:d'=d
  ·subst f;rw[c]at n;cases n
  ·rw[g _ _ f]at n;rw[a,a0c f]at p;exact⟨p,n⟩
 refine⟨tf y A (λd' j m=> ?_) (λd' j=> ?_) (.refl _ _) (λb D=> ?_) (λb r _ E=>⟨r,E,rfl⟩) (λd' j o m=> ?_) (λH I J K L M b N O t u v x=> ?_) C,.wh ?_⟩
 ·refine a8y (g _ _ λe=> ?_) 0
  rw[e,cX q]at m;exact m rfl
 ·by_cases f:d'=d
  ·subst f;rw[cX q];trivial
  ·rw[a,a0c f];exact .refl _
 ·obtain⟨d',j',P,Q,p,n⟩:=aJ.1 D
  obtain⟨p,n⟩:=l p n;exact .inl (aJ.2 ⟨d',j',P,Q,p,n⟩)
 ·by_cases f:d'=d
  ·subst f
   right;intro _ _;rw[a,a0e rfl]at m
   cases j with
   |zero=>
    simp at m;subst m;refine⟨λi=>c 0 (i+1),B,?_⟩;rw[c]
   |succ j=>simp at m
  ·left
   rw[a,a0c f]at m;exact⟨m,g _ _ f,λ_ _ _ _ _=>rfl⟩
 ·obtain⟨t,v⟩:=l t v
  obtain⟨u,x⟩:=l u x;exact y.apart H I J K L M b N O t u v x
 ·simp only[cV,pP z,a2q]
  exact⟨by simp,_,_,rfl,a1l _,.inl ⟨c 0 0,rfl,rfl⟩⟩
def nh (r:Array Value) (o:Nat) (vs:List Value):Array Value:=(r.toList.take o++vs++r.toList.drop (o+vs.length)).toArray
def bN {r:Array Value} {o:Nat} {vs:List Value} (h:o+vs.length<=r.size):(nh r o vs).size=r.size:=by
 simp[nh];omega
def iy {r:Array Value} {o:Nat} {vs:List Value} (h:o+vs.length<=r.size) (i:Nat):(nh r o vs)[i]?=if o<=i/\i<o+vs.length then vs[i-o]? else r[i]?:=by
 simp only[nh,a8c];by_cases a:i<o
 ·rw[a0c (by omega),a1r,a1k (by simp;omega),a5f a]
  simp
 ·by_cases b:i<o+vs.length
  ·rw[a0e (by omega),a1k (by simp;omega),a0w (by simp;omega)]
   simp[a6v (show o<=r.size by omega)]
  ·rw[a0c (by omega),a0w (by simp;omega)]
   simp only[a0m,a1m,a2v,a6b,a5q]
   congr 1
   omega
def cS {b:Nat} {et:TypeId} {f:Nat×Nat}:(vs:List Value)->(o:Nat)->(w:World)-> {r:Array Value}->w.heap[b]?=some (.cells r et f)->o+vs.length<=r.size->(w.setCells b o vs).heap[b]?=some (.cells (nh r o vs) et f)
 |[],o,w,r,h,_=>by
  have:nh r o []=r:=by apply a4p;simp[nh]
  rw[this];exact h
 |v::vs,o,w,r,h,hs=>by
  simp only[a0o]at hs;have a:(w.setCell ⟨b,o,none⟩ v).heap[b]?=some (.cells (r.setIfInBounds o v) et f):=by
   simp[World.setCell,a4f,h]
  have:=cS vs (o+1) (w.setCell ⟨b,o,none⟩ v) a (by simp;omega);show((w.setCell ⟨b,o,none⟩ v).setCells b (o+1) vs).heap[b]?=_;rw[this]
  congr 2
  apply Array.ext_getElem?;intro i;rw[iy (by simp;omega),iy (by simp;omega)];by_cases a:o=i
  ·subst a
   rw[a0c (by omega),a0e (by simp)];simp[show o<r.size by omega]
  ·by_cases c:o+1<=i/\i<o+1+vs.length
   ·rw[a0e c,a0e (by simp;omega)]
    have:i-o=(i-(o+1))+1:=by omega
    rw[this,a5g]
   ·rw[a0c c,a0c (by simp;omega)]
    simp[a]
def pt (b:Nat):(vs:List Value)->(o:Nat)->(w:World)->(w.setCells b o vs).heap.size=w.heap.size
 |[],_,_=>rfl
 |v::vs,o,w=>by
  show((w.setCell ⟨b,o,none⟩ v).setCells b (o+1) vs).heap.size=_;rw[pt b vs];simp
def pu (b:Nat):(vs:List Value)->(o:Nat)->(w:World)->(w.setCells b o vs).tape=w.tape
 |[],_,_=>rfl
 |v::vs,o,w=>by
  show((w.setCell ⟨b,o,none⟩ v).setCells b (o+1) vs).tape=_;rw[pu b vs];rfl
def zv {w:World} {a:Addr} {v:Value} {b:Nat} {r:Array Value} {et:TypeId} {f:Nat×Nat} (h:w.heap[b]?=some (.cells r et f)):∃c,(w.setCell a v).heap[b]?=some (.cells c et f)/\c.size=r.size:=by
 by_cases d:a.block=b
 ·exact⟨_,by simp[World.setCell,a4f,d,h];rfl,by split<;>simp⟩
 ·exact⟨r,by simp[World.setCell,a4f,d,h],rfl⟩
def nR (c:Nat) {b:Nat} {et:TypeId} {f:Nat×Nat}:(vs:List Value)->(o:Nat)->(w:World)-> {r:Array Value}->w.heap[b]?=some (.cells r et f)->∃d,(w.setCells c o vs).heap[b]?=some (.cells d et f)/\d.size=r.size
 |[],_,_,r,h=>⟨r,h,rfl⟩
 |v::vs,o,w,r,h=>by
  obtain⟨j,e,k⟩:=zv (a:=⟨c,o,none⟩) (v:=v) h;obtain⟨g,i,l⟩:=nR c vs (o+1) _ e;exact⟨g,i,by omega⟩
def gQ {I:Nat->Prop} {b:Nat} (c:I b) (w:World) (o:Nat) (vs:List Value):fh I w (w.setCells b o vs):=⟨by rw[pt];exact a1l _,λf a d=>World.heap_setCells_other w b o vs a (λe=>d (e▸c)),λ_ _ _ _ h=>nR b vs o w h,World.os_setCells w b o vs,World.output_setCells w b o vs,pu b vs o w⟩
def kn {r:Array Value} {p m i:Nat} (h:m<=i):(bP r p m)[i]?=none:=a1g (by simp[bP];omega)
def b8 {r:Array Value} {o p m:Nat} {vs:List Value} (h:o+vs.length<=r.size) (b:p+m<=o):bP (nh r o vs) p m=bP r p m:=by
 apply a2g;intro i;by_cases a:i<m
 ·rw[aM a,aM a,iy h,a0c (by omega)]
 ·rw[kn (by omega),kn (by omega)]
def eL {r:Array Value} {o:Nat} {vs:List Value} (h:o+vs.length<=r.size):bP (nh r o vs) o vs.length=vs:=by
 apply a2g;intro i;by_cases a:i<vs.length
 ·rw[aM a,iy h,a0e (by omega)]
  congr 1
  omega
 ·rw[a1g (by rw[aY (by rw[bN h];omega)];omega),a1g (by omega)]
def iz {r:Array Value} {o p m:Nat} {vs:List Value} (h:o+vs.length<=r.size) (b:o+vs.length<=p):bP (nh r o vs) p m=bP r p m:=by
 apply a2g;intro i;by_cases a:i<m
 ·rw[aM a,aM a,iy h,a0c (by omega)]
 ·rw[kn (by omega),kn (by omega)]
def g5 {t tx ty e:TypeId} {i:TypeInfo} (c:P.underlying t=some (.slice e)) (d:P.info? e=some i) (a:Option Addr) {x:Value} (b:Src P i.size tx x 0 [] w):(Builtin.append_ #[t,tx] ty #[.slice a 0 0,x]).run P w= .ok (.slice a 0 0) w:=by
 rcases b.kind with⟨f,hk⟩|hk<;>cases a<;>simp[Builtin.append_,run_underlying c,run_underlying hk,sizeOf,typeInfo,d,b.len,b.cells,storeCells]
def dV (z:Array Value) (n:Nat):(Builtin.zeroCells z n).size=n*z.size:=by simp[Builtin.zeroCells]
def tk (hh:bz F G ow w.heap) (hF:∀b,F b->b<w.heap.size) {t tx ty e:TypeId} {k:Kd} (he:lH P t=some e) (S:kc P e k=true) {a:Option Addr} {l0 y:List k.T} {c:Nat} {xv:Value} {l:List Value} (X:Src P k.n tx xv y.length l w)
 (hy:bA (λx cs=>cz w.heap (cR F G ow) k x cs) k.n y l.toArray 0) (C:l0=[]\/∃b o r,a=some ⟨b,o,none⟩/\ap w.heap b=some r/\bA (λx cs=>cz w.heap (cR F G ow) k x cs) k.n l0 r o)
 (q:c<l0.length+y.length) (K:(l0.length+y.length)*c7 P e<=ai) {d:Nat} (hn:bV ow d [.row k 0 (l0++y)]=some ow') {Q:SV×OW->Prop} (hq:Q (.wh d 0 0 [],ow')):
 Dk P F G ow w Q (Builtin.append_ #[t,tx] ty #[.slice a l0.length c,xv]):=by
 obtain⟨D,Y,_,s,i,z,U,hz,L,V,W⟩:=fk S;have E:=fw he;obtain⟨g,M,m⟩:∃g:List Value,(Builtin.firstCells i.size l0.length (.slice a l0.length c)).run P w.drew= .ok g.toArray w.drew/\g.length=l0.length*k.n/\bA (λx cs=>cz w.heap (cR F G ow) k x cs) k.n l0 g.toArray 0:=by
  rcases C with rfl|⟨b,o,r,rfl,hr,hel⟩
  ·refine⟨[],?_,by simp,⟨by simp,λi U=>by simp at U⟩⟩
   cases a with
   |none=>exact run_firstCells_none w.drew i.size 0 0 c
   |some a=>exact run_firstCells_some w.drew i.size 0 a 0 c [] (by simp) (λj u E=>by simp at E)
  ·have p:=aY hel.1
   refine⟨bP r o (l0.length*k.n),run_firstCells_some w.drew i.size l0.length _ _ _ _ (by rw[L];exact p) (λj u E=> ?_),p,hel.congr (by simp[p]) ?_⟩
   ·rw[Addr.add_mid]
    show w.cell? _=_;rw[bL hr,<-E,aM];rcases a3y j (l0.length*k.n)with h|h
    ·exact h
    ·rw[a1g (by omega)]at E;cases E
   ·show((bP r o (l0.length*k.n)).toArray.toList.drop 0).take (l0.length*k.n)=_
    rw[a4y,a4b];simp[p]
 obtain⟨f,m⟩:=m;rw[V]at K s;unfold ai at K;have h3:l0.length+y.length<=(l0.length+y.length)*i.bytes:=a4m _ s;have N:=na (l0.length+y.length) c q;have O:Builtin.nextslicecap (l0.length+y.length) c*i.bytes<=281474976710656:=by
  have:=a0p i.bytes N;rw[Nat.mul_assoc]at this;omega
 have v:=run_append_grow_src (P:=P) w t tx ty e i z E U hz a l0.length c g M xv y.length l (by rw[L];exact X) q (by omega) O;have R:=grownCap_ge w (l0.length+y.length) c e
 generalize Ql:grownCap w (l0.length+y.length) c e=cc at v R
 have H:l.length=y.length*k.n:=by have:=X.newsLen;exact this
 have hE:bA (λx cs=>cz w.heap (cR F G ow) k x cs) k.n (l0++y) ((g++l).toArray++Builtin.zeroCells z.cells (cc-(l0.length+y.length))) 0:=by
  have I:∀A B:List Value,∀Z:Array Value,bP ((A++B).toArray++Z) 0 A.length=bP A.toArray 0 A.length:=by
   intro A B Z;simp[bP]
  have J:∀A B:List Value,∀Z:Array Value,bP ((A++B).toArray++Z) A.length B.length=bP B.toArray 0 B.length:=by
   intro A B Z;simp[bP]
  refine bA.append (m.congr ?_ ?_) (hy.congr ?_ ?_)
  ·simp only[a3e,a2t,a0m,f];omega
  ·rw[<-f];exact I _ _ _
  ·simp only[a3e,a2t,a0m,f,H];omega
  ·rw[<-H,a1o,<-f];exact J _ _ _
 obtain⟨t1,s1⟩:=B4 hh hF D hE hn e (c:=cc) (by simpa using R) (by
  simp only[a3e,a2t,a0m,dV,W,f,H];rw[<-a1d,<-a1d];exact a0p _ (by omega)) (w1:=w.drew) rfl rfl rfl rfl
 rw[a0m]at s1;exact⟨_,_,_,_,_,hq,v,t1,s1⟩
def DD (Y:bz F G ow w.heap) (hF:∀b,F b->b<w.heap.size) {t tx ty e:TypeId} {k:Kd} (he:lH P t=some e) (O:kc P e k=true) {l0 y:List k.T} {b o o' c A B:Nat} {r:Array Value} {et:TypeId} {ver:Nat} {l1:List k.T} {xv:Value} {a:List Value} (l:Src P k.n tx xv y.length a w)
 (hy:bA (λx cs=>cz w.heap (cR F G ow) k x cs) k.n y a.toArray 0) (C:aj ow A B=some (some (.row k ver l1))) (hG:G A B 0=some (b,o')) (hb:w.heap[b]?=some (.cells r et (0,0))) (Z:bA (λx cs=>cz w.heap (cR F G ow) k x cs) k.n l0 r o)
 (m:l0.length+y.length<=c) (Ql:o+c*k.n<=r.size) {d:Nat} (hn:bV (bw ow A B (some (.lrow l1.length))) d [.row k 0 (l0++y)]=some ow') {Q:SV×OW->Prop} (hq:Q (.wh d 0 0 [],ow')):
 Dk P F G ow w Q (Builtin.append_ #[t,tx] ty #[.slice (some ⟨b,o,none⟩) l0.length c,xv]):=by
 obtain⟨R,Q5,_,Qq,i,z,p,hz,S,Q6,Q7⟩:=fk O;have hu:=fw he;have Qr:a.length=y.length*k.n:=l.newsLen;have K:cm G ow b:=aJ.2 ⟨A,B,0,o',by rw[C];trivial,hG⟩;have Qm:(l0.length+y.length)*k.n<=c*k.n:=a0p _ m;rw[a1d]at Qm;have f:o+l0.length*k.n+a.length<=r.size:=by omega
 have L:=run_append_room_src (P:=P) w t tx ty e i hu p b o l0.length c xv y.length a (by rw[S];exact l) m
  (λj hj=>by rw[S,bL (aO hb)];simp;omega)
  (λj hj=>by unfold World.frozen?;rw[hb];simp)
 rw[S]at L;have U:=cS a (o+l0.length*k.n) w hb f;have hk:fh (cm G ow) w (w.setCells b (o+l0.length*k.n) a):=gQ K w _ _;obtain⟨hl,V,Qn⟩:=fj hn;have V:(bw ow A B (some (.lrow l1.length)))[d]?=some []:=by rcases V with h|h;cases h;exact h
 have Qt:aj ow A B≠none:=by rw[C];simp
 have M:=λd' j'=>aW (o:=some (.lrow l1.length)) (d':=d') (j':=j') Qt
 have q:∀j,aj ow d j=none:=by
  intro j;have X:=cX V j;rw[M]at X;split at X
  ·cases X
  ·exact X
 have g:∀d' j,aj ow' d' j=if d'=d then [OB.row k 0 (l0++y)][j]?.map some else if d'=A/\j=B then some (some (.lrow l1.length))else aj ow d' j:=λd' j=>by rw[Qn,M];simp
 have D:∀d' j,d'≠d->(G.new d (fW (some (b,o)))) d' j=G d' j:=λd' j s=>by simp[Gh.new,s]
 have Qo:∀ {j i u E},(G.new d (fW (some (b,o)))) d j i=some (u,E)->i=0/\u=b:=λ {j i u E} h=>by
  simp only[Gh.new,a2c,fW]at h;split at h
  ·rename_i e;cases h;exact⟨e,rfl⟩
  ·cases h
 have H:∀ {d' j' W u E},bB (aj ow' d' j')->(G.new d (fW (some (b,o)))) d' j' W=some (u,E)->(d'=d/\j'=0/\W=0/\u=b)\/(d'≠d/\¬(d'=A/\j'=B)/\aj ow' d' j'=aj ow d' j'/\bB (aj ow d' j')/\G d' j' W=some (u,E)/\u≠b):=by
  intro d' j' W u E p I;by_cases s:d'=d
  ·subst s
   obtain⟨rfl,rfl⟩:=Qo I;refine .inl ⟨rfl,?_,rfl,rfl⟩;rw[g,a0e rfl]at p
   cases j' with
   |zero=>rfl
   |succ j=>simp[bB]at p
  ·right
   rw[D _ _ s]at I;have N:=g d' j';rw[a0c s]at N;by_cases J:d'=A/\j'=B
   ·rw[a0e J]at N;rw[N]at p;exact p.elim
   ·rw[a0c J]at N
    rw[N]at p;refine⟨s,J,N,p,I,λv=> ?_⟩;subst v;have:=Y.apart d' j' W A B 0 u E o' p (by rw[C];trivial) I hG;exact J ⟨this.1,this.2.1⟩
 have Qp:(G.new d (fW (some (b,o)))) d 0 0=some (b,o):=by simp[Gh.new,fW]
 have Qu:∀i,(G.new d (fW (some (b,o)))) d 0 (i+1)=none:=by simp[Gh.new,fW]
 refine⟨_,_,_,_,G.new d (fW (some (b,o))),hq,L,tf Y hF (λd' j l=> ?_) (λd' j=> ?_) hk (λu Qv=> ?_) (λu r' ho hr=> ?_) (λd' j ob l=> ?_) (λd1 j1 i1 d2 j2 i2 b1 E o2 X J g1 g2=> ?_) (by rw[hl,bE]),.wh ?_⟩
 ·refine a8y (D _ _ λe=> ?_) 0
  rw[e,q]at l;exact l rfl
 ·by_cases s:d'=d
  ·subst s;rw[q];trivial
  ·rw[g,a0c s]
   split
   ·rename_i e;rw[e.1,e.2,C];exact rfl
   ·exact .refl _
 ·obtain⟨d',j',W,E,p,I⟩:=aJ.1 Qv
  rcases H p I with⟨_,_,_,rfl⟩|⟨_,_,_,Qw,Qy,_⟩
  ·exact .inl K
  ·exact .inl (aJ.2 ⟨d',j',W,E,Qw,Qy⟩)
 ·by_cases v:u=b
  ·subst v
   rw[aO hb]at hr
   cases hr
   exact⟨_,aO U,bN f⟩
  ·refine⟨r',?_,rfl⟩
   unfold ap;rw[World.heap_setCells_other w b _ _ (cE hr) v];exact hr
 ·by_cases s:d'=d
  ·subst s
   right;intro _ O;rw[g,a0e rfl]at l
   cases j with
   |zero=>
    simp only[a1t,a1w,a0k]at l;subst l;refine⟨Qu,R,?_⟩;simp only[Qp];refine⟨_,et,U,?_⟩;refine bA.mono (λx cs l=>cz.mono O _ l) (bA.append (Z.congr ?_ (b8 f (a1l _))) (hy.congr ?_ ?_))
    ·rw[bN f];exact Z.1
    ·rw[bN f];omega
    ·rw[<-Qr,eL f]
     simp[bP]
   |succ j=>simp at l
  ·rw[g,a0c s]at l
   split at l
   ·cases l
    rename_i J;right;intro _ _;trivial
   ·rename_i J
    left;refine⟨l,D _ _ s,λp i b1 cc I=> ?_⟩;have Qz:cm G ow b1:=aJ.2 ⟨d',j,i,cc,by rw[l];exact p,I⟩;refine World.heap_setCells_other w b _ _ (cm.lt Y Qz) λv=> ?_
    subst v;have:=Y.apart d' j i A B 0 b1 cc o' (by rw[l];exact p) (by rw[C];trivial) I hG;exact J ⟨this.1,this.2.1⟩
 ·rcases H X g1 with⟨N,e2,Q0,e3⟩|⟨_,_,_,k1,Q1,n1⟩<;>rcases H J g2 with⟨e4,e5,Q2,e6⟩|⟨_,_,_,k2,Q3,n2⟩
  ·exact⟨by rw[N,e4],by rw[e2,e5],by rw[Q0,Q2]⟩
  ·exact absurd e3 n2
  ·exact absurd e6 n1
  ·exact Y.apart d1 j1 i1 d2 j2 i2 b1 E o2 k1 k2 Q1 Q3
 ·have Q4:aj ow' d 0=some (some (.row k 0 (l0++y))):=by rw[g,a0e rfl];rfl
  simp only[cV,Q4,a2q,a0m];exact⟨by omega,_,_,rfl,m,.inr ⟨b,o,o,_,Qp,rfl,aO U,λ_=>by simp,by rw[bN f];exact Ql⟩⟩
def we {t tx ty:TypeId} {s x:SV} {sv xv:Value} {d:Nat} (C:bz F G ow w.heap) (O:∀b,F b->b<w.heap.size) (hs:Sv F G ow w.heap s sv) (D:Sv F G ow w.heap x xv) (Y:f9 P tx=true) {Q:SV×OW->Prop} (h:(vH P t s x ow d).can Q):Dk P F G ow w Q (Builtin.append_ #[t,tx] ty #[sv,xv]):=by
 obtain⟨e',E⟩:=gP Y;unfold vH at h;split at h
 ·exact h.elim
 rename_i e W;have Z:=fw W;split at h
 ·cases hs
  split at h
  ·cases D
   split at h
   ·rename_i H
    obtain⟨i,H⟩:=a7l.1 H;exact⟨_,_,_,_,G,h,g5 Z H none (Src.ofNil w E 0),.refl C,.nils⟩
   ·exact h.elim
  ·split at h
   ·rename_i k hk
    split at h
    ·rename_i y hy
     split at h
     ·rename_i m
      obtain⟨g,h⟩:=h;have g:=a0x g;split at h
      ·rename_i ow' I
       obtain⟨l,p,_,J,i,z,H,hz,K,Ql,Qm⟩:=fk m;obtain⟨q,f,A⟩:=nQ (P:=P) C p D hy E
       cases y with
       |nil=>
        obtain⟨t1,s1⟩:=DC C O l I;have r:q=[]:=a0s (by have:=f.newsLen;simpa using this);subst r;exact⟨_,_,_,_,_,h,g5 Z H none (by rw[K];exact f),t1,s1⟩
       |cons a y'=>
        exact tk (l0:=[]) C O W m f A (.inl rfl) (by simp) (by simpa using g) I h
      ·exact h.elim
     ·exact h.elim
    ·exact h.elim
   ·exact h.elim
 ·split at h
  ·rename_i X j b R S
   split at h
   ·rename_i T
    split at h
    ·rename_i y hy
     split at h
     ·rename_i m
      obtain⟨g,h⟩:=h;have g:=a0x g;split at h
      ·rename_i ow' I
       obtain⟨l,p,_,J,i,z,H,hz,K,Ql,Qm⟩:=fk m;obtain⟨q,f,A⟩:=nQ (P:=P) C p D hy E;obtain⟨_,⟨ver,l1,B⟩,a,c,rfl,Qq,u⟩:=qG C hs R S T;have Qn:FU ow X j=bw ow X j (some (.lrow l1.length)):=by
        have:co ow X j=some (.row b.1 ver l1):=by rw[lM,B];rfl
        unfold FU;rw[this]
       rw[Qn]at I;have n:=N1 C O (d:=X) (j:=j) (by rw[B];simp) (o:=some (.lrow l1.length)) (.inr ⟨_,rfl⟩) (by rw[B];exact rfl);by_cases L:b.2.length+y.length<=c
       ·rcases u with⟨_,rfl,M,Qo⟩|⟨bb,o,o',U,et,hG,rfl,N,v,V⟩
        ·have Qp:y=[]:=a0s (by omega)
         obtain⟨bk,bl⟩:=b;dsimp only at*;subst M Qp Qo;obtain⟨t1,s1⟩:=DC n.hrep O l I;have r:q=[]:=a0s (by have:=f.newsLen;simpa using this);subst r;exact⟨_,_,_,_,_,h,g5 Z H none (by rw[K];exact f),n.trans t1,s1⟩
        ·exact DD C O W m f A B hG N v L V I h
       ·obtain⟨s',ow2,v',w2,G2,q1,q2,q3,q4⟩:=tk (P:=P) (tx:=tx) (ty:=ty) (a:=a) (c:=c) (l0:=b.2) n.hrep O W m f (A.mono λx cs D=>cz.mono (th n) _ D) (by
         rcases u with⟨_,_,M,_⟩|⟨bb,o,o',U,et,hG,ha,N,v,_⟩
         ·exact .inl M
         ·exact .inr ⟨bb,o,U,ha,aO N,v.mono λx cs D=>cz.mono (th n) _ D⟩) (by omega) g I h
        exact⟨s',ow2,v',w2,G2,q1,q2,n.trans q3,q4⟩
      ·exact h.elim
     ·exact h.elim
    ·exact h.elim
   ·exact h.elim
  ·exact h.elim
end Go.Pev
namespace Go.Pev
variable {F:Nat->Prop} {G:Gh} {ow ow':OW} {w:World} {P:Program}
def qH (q:bz F G ow w.heap) (P:∀b,F b->b<w.heap.size) {d j:Nat} {A ob':OB} (k:aj ow d j=some (some A)) (B:bB (some (some A))) (Q:EC (some (some A)) (some (some ob'))) (R:bB (some (some ob')))
 {b C:Nat} (L:G d j 0=some (b,C)) {r:Array Value} {et:TypeId} (M:w.heap[b]?=some (.cells r et (0,0))) {p:Nat} {vs:List Value} (N:p+vs.length<=r.size)
 (D:(w.setCells b p vs).heap[b]?=some (.cells (nh r p vs) et (0,0))->(∀s v,Sv F G ow w.heap s v->Sv F G (bw ow d j (some ob')) (w.setCells b p vs).heap s v)->
  (∀g t,cR F G ow g->ap w.heap g=some t->cR F G (bw ow d j (some ob')) g/\ap (w.setCells b p vs).heap g=some t)->
  db (w.setCells b p vs).heap (cR F G (bw ow d j (some ob'))) G (bw ow d j (some ob')) d j ob'):
 Tr F G ow w G (bw ow d j (some ob')) (w.setCells b p vs):=by
 have E:aj ow d j≠none:=by rw[k];simp
 have i:=λd' j'=>aW (o:=some ob') (d':=d') (j':=j') E
 have l:cm G ow b:=aJ.2 ⟨d,j,0,C,by rw[k];exact B,L⟩;have m:=cS vs p w M N;have a:∀ {d' j'},bB (aj (bw ow d j (some ob')) d' j')->bB (aj ow d' j'):=by
  intro d' j' h;rw[i]at h;split at h
  ·rename_i e;rw[e.1,e.2,k];exact B
  ·exact h
 refine tf q P (λ_ _ _=>rfl) (λd' j'=> ?_) (gQ l w _ _) (λg H=> ?_) (λg t I u=> ?_) (λd' j' o f=> ?_) (λS T x U V W y J X K Y Z g2=>q.apart S T x U V W y J X (a K) (a Y) Z g2) bE
 ·rw[i]
  split
  ·rename_i e;rw[e.1,e.2,k];exact Q
  ·exact .refl _
 ·obtain⟨d',j',i',J,K,z⟩:=aJ.1 H
  exact .inl (aJ.2 ⟨d',j',i',J,a K,z⟩)
 ·by_cases c:g=b
  ·subst c
   rw[aO M]at u
   cases u
   exact⟨_,aO m,bN N⟩
  ·refine⟨t,?_,rfl⟩
   unfold ap;rw[World.heap_setCells_other w b _ _ (cE u) c];exact u
 ·rw[i]at f
  split at f
  ·rename_i e
   obtain⟨rfl,rfl⟩:=e;have f:ob'=o:=by simpa using f
   subst f;exact .inr (D m)
  ·rename_i e
   refine .inl ⟨f,rfl,λI x y O z=> ?_⟩;have n:cm G ow y:=aJ.2 ⟨d',j',x,O,by rw[f];exact I,z⟩;refine World.heap_setCells_other w b _ _ (cm.lt q n) λc=> ?_
   subst c;have:=q.apart d' j' x d j 0 y O C (by rw[f];exact I) (by rw[k];exact B) z L;exact e ⟨this.1,this.2.1⟩
def nS {t:TypeId} {s:SV} {a:List SV} (h:fO P t s=some a):∃i,P.info? t=some i:=by
 unfold fO at h;split at h
 ·rename_i b
  unfold dU ee at b
  cases hu:P.underlying t with
  |none=>rw[hu]at b;cases b
  |some d=>exact g9 hu
 ·split at h
  ·rename_i c
   simp only[a0f,a0u]at c
   cases hi:P.info? t with
   |none=>simp[cP,Program.cellsOf,hi]at c
   |some i=>exact⟨i,rfl⟩
  ·cases h
def fY {t:TypeId} {i:TypeInfo} (d:P.info? t=some i) {b o:Nat} {r:Array Value} {et:TypeId} (e:w.heap[b]?=some (.cells r et (0,0))) {v:Value} {vs:List Value} (f:v.cells=vs.toArray) (g:∀u∈vs,u.oneCell'=true) (h:vs.length=cP P t) (l:o+vs.length<=r.size):(Instr.storeAt t (.pointer (some ⟨b,o,none⟩)) v).run P w= .ok () (w.setCells b o vs):=by
 have a:=run_storeCells_cells (P:=P) b o vs 0 w (λj k=>by rw[bL (aO e)];simp;omega) (λj k=>by unfold World.frozen?;simp only;rw[e];simp) g;have c:vs.length=i.size:=by rw[h];simp[cP,Program.cellsOf,d]
 simp only[a4d]at a;simp[Instr.storeAt,Instr.sureAddr,storeVar,sizeOf,typeInfo,d,f,c,a]
def L9 {a:Kd} (h:a.isSt=false):a.n=1:=by cases a<;>simp_all[Kd.n,Kd.isSt]
def qI {h:Array Obj} {ok:Nat->Prop} {a b:Kd} (f:a.isSt=false) {x:(Kd.cons a b).T} {cs:List Value} (e:cz h ok (.cons a b) x cs):∃v r,cs=v::r/\cz h ok a x.1 [v]/\cz h ok b x.2 r:=by
 obtain⟨c1,c2,rfl,c,g⟩:=e;have d:=cz.length a c;rw[L9 f]at d
 match c1,d,c with
 |[v],_,c=>exact⟨v,c2,rfl,c,g⟩
def tl {h:Array Obj} {ok:Nat->Prop}:(k:Kd)->k.leafy=true-> {x:k.T}-> {cs:List Value}->(d:Kd)-> {y:d.T}-> {vs:List Value}-> {r:k.T}->da k x d y=some r->cz h ok k x cs->cz h ok d y vs->d.leafy=true->cz h ok k r (vs++cs.drop vs.length)
 |k,hk,x,cs,.nil,y,vs,r,e,ex,ey,_=>by
  cases ey
  have:da k x .nil y=some x:=by unfold da;cases k<;>rfl
  rw[this]at e
  cases e
  simpa using ex
 | .cons a b,hk,x,cs,.cons a' b',y,vs,r,e,ex,ey,hk'=>by
  simp only[Kd.leafy,a0f,a2p]at hk hk';simp only[da]at e;split at e
  ·rename_i m
   subst m;split at e
   ·rename_i n f
    cases e
    obtain⟨v,g,rfl,_,i⟩:=qI hk.1 ex;obtain⟨u,c,rfl,j,l⟩:=qI hk'.1 ey;exact⟨[u],c++g.drop c.length,rfl,j,tl b hk.2 b' f i l hk'.2⟩
   ·cases e
  ·cases e
 | .nil,_,_,_,.cons _ _,_,_,_,e,_,_,_=>by simp[da]at e
 | .int _,hk,_,_,_,_,_,_,_,_,_,_=>by cases hk
 | .bool,hk,_,_,_,_,_,_,_,_,_,_=>by cases hk
 | .str,hk,_,_,_,_,_,_,_,_,_,_=>by cases hk
 | .err,hk,_,_,_,_,_,_,_,_,_,_=>by cases hk
 | .any,hk,_,_,_,_,_,_,_,_,_,_=>by cases hk
 | .sl _ _,hk,_,_,_,_,_,_,_,_,_,_=>by cases hk
 | .tree _,hk,_,_,_,_,_,_,_,_,_,_=>by cases hk
 | .cons _ _,_,_,_,.int _,_,_,_,e,_,_,_=>by simp[da]at e
 | .cons _ _,_,_,_,.bool,_,_,_,e,_,_,_=>by simp[da]at e
 | .cons _ _,_,_,_,.str,_,_,_,e,_,_,_=>by simp[da]at e
 | .cons _ _,_,_,_,.err,_,_,_,e,_,_,_=>by simp[da]at e
 | .cons _ _,_,_,_,.any,_,_,_,e,_,_,_=>by simp[da]at e
 | .cons _ _,_,_,_,.sl _ _,_,_,_,e,_,_,_=>by simp[da]at e
 | .cons _ _,_,_,_,.tree _,_,_,_,e,_,_,_=>by simp[da]at e
 | .nil,_,_,_,.int _,_,_,_,e,_,_,_=>by simp[da]at e
 | .nil,_,_,_,.bool,_,_,_,e,_,_,_=>by simp[da]at e
 | .nil,_,_,_,.str,_,_,_,e,_,_,_=>by simp[da]at e
 | .nil,_,_,_,.err,_,_,_,e,_,_,_=>by simp[da]at e
 | .nil,_,_,_,.any,_,_,_,e,_,_,_=>by simp[da]at e
 | .nil,_,_,_,.sl _ _,_,_,_,e,_,_,_=>by simp[da]at e
 | .nil,_,_,_,.tree _,_,_,_,e,_,_,_=>by simp[da]at e
def tm {h:Array Obj} {ok:Nat->Prop}:(k:Kd)->k.leafy=true-> {x:k.T}-> {cs:List Value}->(c:Nat)->(d:Kd)-> {y:d.T}-> {vs:List Value}-> {r:k.T}->l9 k x c d y=some r->cz h ok k x cs->cz h ok d y vs->d.leafy=true->cz h ok k r (cs.take c++vs++cs.drop (c+vs.length))
 |k,hk,x,cs,0,d,y,vs,r,e,ex,ey,hk'=>by
  have:l9 k x 0 d y=da k x d y:=by unfold l9;cases k<;>rfl
  rw[this]at e;simpa using tl k hk d e ex ey hk'
 | .cons a b,hk,x,cs,c+1,d,y,vs,r,e,ex,ey,hk'=>by
  simp only[Kd.leafy,a0f,a2p]at hk;simp only[l9]at e;split at e
  ·rename_i l f
   cases e
   obtain⟨v,j,rfl,g,i⟩:=qI hk.1 ex;have:=tm b hk.2 c d f i ey hk';refine⟨[v],_,?_,g,this⟩;simp[show c+1+vs.length=(c+vs.length)+1 by omega]
  ·cases e
 | .nil,_,_,_,_+1,_,_,_,_,e,_,_,_=>by simp[l9]at e
 | .int _,hk,_,_,_+1,_,_,_,_,_,_,_,_=>by cases hk
 | .bool,hk,_,_,_+1,_,_,_,_,_,_,_,_=>by cases hk
 | .str,hk,_,_,_+1,_,_,_,_,_,_,_,_=>by cases hk
 | .err,hk,_,_,_+1,_,_,_,_,_,_,_,_=>by cases hk
 | .any,hk,_,_,_+1,_,_,_,_,_,_,_,_=>by cases hk
 | .sl _ _,hk,_,_,_+1,_,_,_,_,_,_,_,_=>by cases hk
 | .tree _,hk,_,_,_+1,_,_,_,_,_,_,_,_=>by cases hk
def Ma {h:Array Obj} {ok:Nat->Prop}:(k:Kd)-> {x:k.ch.T}-> {cs:List Value}->cz h ok k.ch x cs->cz h ok k (vB k x) cs
 | .int _,x,cs,e=>by obtain⟨c1,c2,rfl,a,b⟩:=e;cases b;simpa [vB]using a
 | .bool,x,cs,e=>by obtain⟨c1,c2,rfl,a,b⟩:=e;cases b;simpa [vB]using a
 | .str,x,cs,e=>by obtain⟨c1,c2,rfl,a,b⟩:=e;cases b;simpa [vB]using a
 | .err,x,cs,e=>by obtain⟨c1,c2,rfl,a,b⟩:=e;cases b;simpa [vB]using a
 | .any,x,cs,e=>by obtain⟨c1,c2,rfl,a,b⟩:=e;cases b;simpa [vB]using a
 | .sl _ _,x,cs,e=>by obtain⟨c1,c2,rfl,a,b⟩:=e;cases b;simpa [vB]using a
 | .nil,_,_,e=>e
 | .cons _ _,_,_,e=>e
 | .tree _,x,cs,e=>by obtain⟨c1,c2,rfl,a,b⟩:=e;cases b;simpa [vB]using a
def tp:(k:Kd)->k.leafy=true->(n:Nat)-> {r:Kd}->lG k n=some r->r.leafy=true
 |k,_,0,r,h=>by
  have:lG k 0=some .nil:=by cases k<;>rfl
  rw[this]at h;cases h;rfl
 | .cons a b,hk,n+1,r,h=>by
  simp only[Kd.leafy,a0f]at hk;simp only[lG]at h;split at h
  ·rename_i d c
   cases h
   simp only[Kd.leafy,a0f];exact⟨hk.1,tp b hk.2 n c⟩
  ·cases h
 | .nil,_,_+1,_,h=>by simp[lG]at h
 | .int _,_,_+1,_,h=>by simp[lG]at h
 | .bool,_,_+1,_,h=>by simp[lG]at h
 | .str,_,_+1,_,h=>by simp[lG]at h
 | .err,_,_+1,_,h=>by simp[lG]at h
 | .any,_,_+1,_,h=>by simp[lG]at h
 | .sl _ _,_,_+1,_,h=>by simp[lG]at h
 | .tree _,_,_+1,_,h=>by simp[lG]at h
def tq:(k:Kd)->k.leafy=true-> {x:k.T}->(c:Nat)-> {y:Sigma Kd.T}->jr k x c=some y->y.1.leafy=true
 |k,hk,x,0,y,hy=>by
  have:y=⟨k,x⟩:=by unfold jr at hy;cases k<;>simp_all
  subst this;exact hk
 | .cons a b,hk,x,c+1,y,hy=>by
  simp only[Kd.leafy,a0f]at hk;exact tq b hk.2 c (by simpa [jr]using hy)
 | .nil,_,_,_+1,_,hy=>by simp[jr]at hy
 | .int _,hk,_,_+1,_,_=>by cases hk
 | .bool,hk,_,_+1,_,_=>by cases hk
 | .str,hk,_,_+1,_,_=>by cases hk
 | .err,hk,_,_+1,_,_=>by cases hk
 | .any,hk,_,_+1,_,_=>by cases hk
 | .sl _ _,hk,_,_+1,_,_=>by cases hk
 | .tree _,hk,_,_+1,_,_=>by cases hk
def Ie:(k:Kd)->k.leafy=true-> {x:k.T}->(c:Nat)-> {y:Sigma Kd.T}->jr k x c=some y->c+y.1.n=k.n
 |k,hk,x,0,y,hy=>by
  have:y=⟨k,x⟩:=by unfold jr at hy;cases k<;>simp_all
  subst this;simp
 | .cons a b,hk,x,c+1,y,hy=>by
  simp only[Kd.leafy,a0f,a2p]at hk;have:=Ie b hk.2 c (x:=x.2) (y:=y) (by simpa [jr]using hy);simp only[Kd.n,L9 hk.1];omega
 | .nil,_,_,_+1,_,hy=>by simp[jr]at hy
 | .int _,hk,_,_+1,_,_=>by cases hk
 | .bool,hk,_,_+1,_,_=>by cases hk
 | .str,hk,_,_+1,_,_=>by cases hk
 | .err,hk,_,_+1,_,_=>by cases hk
 | .any,hk,_,_+1,_,_=>by cases hk
 | .sl _ _,hk,_,_+1,_,_=>by cases hk
 | .tree _,hk,_,_+1,_,_=>by cases hk
def zw {t:TypeId} {p s:SV} {pv sv:Value} (hh:bz F G ow w.heap) (hF:∀b,F b->b<w.heap.size) (Y:Sv F G ow w.heap p pv) (hs:Sv F G ow w.heap s sv) {Q:OW->Prop} (h:(BC P t p s ow).can Q):∃ow' w',Q ow'/\(Instr.storeAt t pv sv).run P w= .ok () w'/\Tr F G ow w G ow' w':=by
 unfold BC at h;split at h
 ·exact h.elim
 rename_i u L;obtain⟨i,hi⟩:=nS L;obtain⟨vs,Z,N,h1,hl⟩:=fI hs L;split at h
 ·rename_i d j c
  split at h
  ·rename_i a hg
   split at h
   ·rename_i Qp I
    have O:=aH hg;obtain⟨R,b,o,r,et,S,hb,Qz,hc⟩:=hh.obs d j _ O
    cases Y with
    |bp Y=>
    simp only[O]at Y;obtain⟨b',o',Ql,rfl⟩:=Y;rw[S]at Ql;cases Ql
    unfold js at I;split at I
    ·rename_i Q0
     cases I
     have B:u.length=vs.length:=N.1;have g:o+c+vs.length<=r.size:=by omega
     refine⟨_,_,h,fY hi hb Z h1 hl g,qH (ob':= .box (a.take c++u++a.drop (c+u.length))) hh hF O trivial trivial trivial S hb g λT C _=> ?_⟩;refine⟨R,b,o,_,et,S,T,?_,λq hq hr=> ?_⟩
     ·rw[bN g]
      simp;omega
     ·have A:=iy g (o+q)
      rw[a1n hr]at A;simp only[a0m,a1m,a2u]at hq;by_cases h2:q<c
      ·rw[a0c (by omega),a1n (by omega)]at A
       have e2:(a.take c++u++a.drop (c+u.length))[q]=a[q]'(by omega):=by
        simp only[a1r];rw[a1j (by simp;omega),a5d]
       rw[a1h A,e2];exact C _ _ (hc q (by omega) (by omega))
      ·by_cases h3:q<c+vs.length
       ·rw[a0e (by omega),a0a (by omega)]at A
        have e2:(a.take c++u++a.drop (c+u.length))[q]=u[q-c]'(by omega):=by
         rw[a1j (by simp;omega),a1z (by simp;omega)]
         congr 1
         simp;omega
        have e3:o+q-(o+c)=q-c:=by omega
        simp only[e3]at A;rw[a1h A,e2];exact C _ _ (N.2 (q-c) (by omega) (by omega))
       ·rw[a0c (by omega),a1n (by omega)]at A
        have e2:(a.take c++u++a.drop (c+u.length))[q]=a[q]'(by omega):=by
         rw[a1z (by simp;omega),a6k]
         congr 1
         simp;omega
        rw[a1h A,e2];exact C _ _ (hc q (by omega) (by omega))
    ·cases I
   ·exact h.elim
  ·exact h.elim
 ·rename_i d j Qy e c
  split at h
  ·rename_i k ver l hg
   split at h
   ·rename_i kt J
    split at h
    ·rename_i y hy
     split at h
     ·rename_i f D W Qq
      split at h
      ·rename_i hk
       subst hk;obtain⟨x,hx,h⟩:=h;dsimp only at h;split at h
       ·rename_i x' Qr
        obtain⟨t1,U⟩:=ji hF kt (x:=y.1) (ow':=y.2) hh N hy;have O:=aH Qq;obtain⟨R,E,ho⟩:=t1.hrep.obs d j _ O;have v:=(a0f _ _▸E:f.noOwn=true/\f.ch.leafy=true).2;have K:=t1.sv _ _ Y
        cases K with
        |rp K=>
        simp only[O]at K;obtain⟨Qm,b,o,S,rfl⟩:=K;simp only[S]at ho;obtain⟨r,et,hb,hE⟩:=ho;have hx:W[e]?=some x:=hx;obtain⟨_,rfl⟩:=a0t.1 hx;have H:kt.leafy=true/\c<=f.n:=by
         unfold H5 at J;split at J
         ·rename_i z X
          have:=Ie _ v c X;rw[L5]at this;exact⟨tp z.1 (tq _ v c X) _ J,by omega⟩
         ·cases J
        obtain⟨H,Q1⟩:=H;have Qt:=F3 f (hE.2 e Qm);have M:=tm f.ch v c kt Qr Qt U H;have B:=cz.length _ M;rw[L5]at B;have Qn:(e+1)*f.n<=W.length*f.n:=a0p _ Qm;rw[a1d,a2x]at Qn;have Qu:=hE.1;have m:(bP r (o+e*f.n) f.n).length=f.n:=aY (by omega);have Q2:c+vs.length<=f.n:=by
         simp only[a0m,a1m,a2u,m]at B;omega
        have g:o+e*f.n+c+vs.length<=r.size:=by omega
        have Qv:EC (some (some (.row f D W))) (some (some (.row f D (W.set e (vB f x'))))):=⟨rfl,by simp⟩;have ht:=qH (ob':= .row f D (W.set e (vB f x'))) t1.hrep hF O trivial Qv trivial S hb g (λT _ Qo=>by
         refine⟨R,E,?_⟩;simp only[S];refine⟨_,et,T,?_,λq hq=> ?_⟩
         ·rw[bN g];simpa using Qu
         ·simp only[a8e]at hq
          have Qw:(q+1)*f.n<=W.length*f.n:=a0p _ hq;rw[a1d,a2x]at Qw;by_cases V:e=q
          ·subst V
           rw[a3k];have A:bP (nh r (o+e*f.n+c) vs) (o+e*f.n) f.n=(bP r (o+e*f.n) f.n).take c++vs++(bP r (o+e*f.n) f.n).drop (c+vs.length):=by
            apply a2g;intro z;by_cases X:z<f.n
            ·rw[aM X,iy g]
             by_cases h2:z<c
             ·rw[a0c (by omega),a1r,a1k (by simp[m];omega),a5f h2,aM X]
             ·by_cases h3:z<c+vs.length
              ·rw[a0e (by omega),a1k (by simp[m];omega),a0w (by simp[m];omega)]
               congr 1
               simp[m];omega
              ·rw[a0c (by omega),a0w (by simp[m];omega)]
               simp only[a0m,a1m,m,a2v];rw[show c+vs.length+(z-(min c f.n+vs.length))=z by omega,aM X]
            ·rw[kn (by omega),a1g]
             simp[m];omega
           rw[A];exact cz.mono Qo _ (Ma f M)
          ·rw[a3b V]
           have A:bP (nh r (o+e*f.n+c) vs) (o+q*f.n) f.n=bP r (o+q*f.n) f.n:=by
            rcases Nat.lt_or_gt_of_ne V with h2|h2
            ·have:(e+1)*f.n<=q*f.n:=a0p _ h2
             rw[a1d,a2x]at this;exact iz g (by omega)
            ·have:(q+1)*f.n<=e*f.n:=a0p _ h2
             rw[a1d,a2x]at this;exact b8 g (by omega)
           rw[A];exact cz.mono Qo _ (hE.2 q hq))
        exact⟨_,_,h,fY hi hb Z h1 hl g,t1.trans ht⟩
       ·exact h.elim
      ·exact h.elim
     ·exact h.elim
    ·exact h.elim
   ·exact h.elim
  ·exact h.elim
 ·exact h.elim
end Go.Pev
namespace Go.Pev
def FP (F:Nat->Prop) (a:List Nat) (b:Nat):Prop:=F b\/b∈a
def gJ (h:Array Obj) (ok:Nat->Prop):(s:Sh)->s.Out->List Value->List Nat->Prop
 | .pur _,_,vs,fp=>(∃v,vs=[v])/\fp=[]
 | .own _,_,vs,fp=>(∃v,vs=[v])/\fp=[]
 | .rows _,_,vs,fp=>(∃v,vs=[v])/\fp=[]
 | .row k,l,vs,fp=>∃v,vs=[v]/\rN h ok k l v fp
 | .nrw s,l,vs,fp=>cq h ok (.nrw s) l vs fp
 | .box l,x,vs,fp=>∃b o r et c,vs=[.pointer (some ⟨b,o,none⟩)]/\fp=b::c/\h[b]?=some (.cells r et (0,0))/\o+l.len<=r.size/\cq h ok l x (bP r o l.len) c
 | .agg l,x,vs,fp=>∃cs,vs=[.agg cs.toArray]/\gJ h ok l x cs fp
 | .fn f n l,x,vs,fp=>∃xs ys,vs=[.func f xs.toArray ys.toArray]/\xs.length=n/\gJ h ok l x (xs++ys) fp
 | .ign,_,vs,fp=>(∃v,vs=[v])/\fp=[]
 | .nl,_,vs,fp=>(∃v,vs=[v])/\fp=[]
 | .nil,_,vs,fp=>vs=[]/\fp=[]
 | .cons a b,x,vs,fp=>∃v r f1 f2,vs=v::r/\fp=f1++f2/\(a.noOuts=true/\f1=[]\/a.noOuts=false/\gJ h ok a x.1 [v] f1)/\gJ h ok b x.2 r f2
def gJ.mono {h j:Array Obj} {ok ok':Nat->Prop} (d:∀b r,ok b->ap h b=some r->ok' b/\ap j b=some r):(s:Sh)-> {x:s.Out}-> {vs:List Value}-> {k:List Nat}->(∀b∈k,j[b]?=h[b]?)->gJ h ok s x vs k->gJ j ok' s x vs k
 | .pur _,_,_,_,_,e=>e
 | .own _,_,_,_,_,e=>e
 | .rows _,_,_,_,_,e=>e
 | .row _,_,_,_,hf,e=>by obtain⟨v,c,e⟩:=e;exact⟨v,c,e.mono d hf⟩
 | .nrw s,_,_,_,hf,e=>cq.mono d (.nrw s) hf e
 | .box l,_,_,_,hf,e=>by
  obtain⟨b,o,r,et,m,c,rfl,n,p,e⟩:=e;exact⟨b,o,r,et,m,c,rfl,by rw[hf b (by simp),n],p,cq.mono d l (λf g=>hf f (by simp[g])) e⟩
 | .agg l,_,_,_,hf,e=>by obtain⟨cs,c,e⟩:=e;exact⟨cs,c,gJ.mono d l hf e⟩
 | .fn _ _ l,_,_,_,hf,e=>by obtain⟨xs,ys,c,q,e⟩:=e;exact⟨xs,ys,c,q,gJ.mono d l hf e⟩
 | .ign,_,_,_,_,e=>e
 | .nl,_,_,_,_,e=>e
 | .nil,_,_,_,_,e=>e
 | .cons a b,_,_,_,hf,e=>by
  obtain⟨v,r,f1,f2,c,rfl,i,t⟩:=e;refine⟨v,r,f1,f2,c,rfl,?_,gJ.mono d b (λf g=>hf f (by simp[g])) t⟩;rcases i with i|⟨h0,i⟩
  ·exact .inl i
  ·exact .inr ⟨h0,gJ.mono d a (λf g=>hf f (by simp[g])) i⟩
def N2 (o n:Option (Option OB)):Prop:=n=o\/(bB o/\n=some none)\/LB o n
def N2.trans {o n m:Option (Option OB)} (b:N2 o n) (a:N2 n m):N2 o m:=by
 rcases b with rfl|⟨h,rfl⟩|hz
 ·exact a
 ·rcases a with rfl|⟨h',_⟩|h'
  ·exact .inr (.inl ⟨h,rfl⟩)
  ·exact h'.elim
  ·exact h'.own.elim
 ·rcases a with rfl|⟨h',_⟩|h'
  ·exact .inr (.inr hz)
  ·exact absurd h' hz.not.1
  ·exact absurd h'.own hz.not.1
def N2.own {o n:Option (Option OB)} (h:N2 o n) (a:bB n):n=o:=by
 rcases h with h|⟨_,rfl⟩|hz
 ·exact h
 ·exact a.elim
 ·exact absurd a hz.not.1
def N2.ec {o n:Option (Option OB)} (h:N2 o n):EC o n:=by
 rcases h with rfl|⟨_,rfl⟩|hz
 ·exact .refl _
 ·exact .dead
 ·exact hz.ec
structure dt (ow ow1:OW):Prop where
 len:ow1.length=ow.length
 names:∀d j,N2 (aj ow d j) (aj ow1 d j)
def dt.refl (ow:OW):dt ow ow:=⟨rfl,λ_ _=> .inl rfl⟩
def dt.trans {a b c:OW} (e:dt a b) (f:dt b c):dt a c:=⟨by rw[f.len,e.len],λd j=>(e.names d j).trans (f.names d j)⟩
def F9 (G:Gh) (ow ow1:OW) (b:Nat):Prop:=∃d j i o,bB (aj ow d j)/\G d j i=some (b,o)/\aj ow1 d j=some none
def ju (G:Gh) (ow ow1:OW) (a:List Nat):Prop:=∀b,b∈a↔F9 G ow ow1 b
def F9.trans {G:Gh} {a b c:OW} (k:dt a b) (l:dt b c) (x:Nat):F9 G a c x↔F9 G a b x\/F9 G b c x:=by
 constructor
 ·rintro⟨d,j,i,o,g,h,f⟩
  rcases k.names d j with e|⟨_,e⟩|hz
  ·exact .inr ⟨d,j,i,o,by rw[e];exact g,h,f⟩
  ·exact .inl ⟨d,j,i,o,g,h,e⟩
  ·rcases l.names d j with e2|⟨h',_⟩|h'
   ·rw[f]at e2;exact absurd e2.symm hz.not.2.1
   ·exact absurd h' hz.not.1
   ·exact absurd h'.own hz.not.1
 ·rintro(⟨d,j,i,o,g,h,f⟩|⟨d,j,i,o,g,h,f⟩)
  ·refine⟨d,j,i,o,g,h,?_⟩
   rcases l.names d j with e2|⟨h',_⟩|h'
   ·rw[e2,f]
   ·rw[f]at h';exact h'.elim
   ·have:=h'.own;rw[f]at this;exact this.elim
  ·exact⟨d,j,i,o,by rw[<-(k.names d j).own g];exact g,h,f⟩
def ju.refl (G:Gh) (ow:OW):ju G ow ow []:=λb=>by
 constructor
 ·intro h;simp at h
 ·rintro⟨d,j,i,o,a,_,c⟩
  rw[c]at a;exact a.elim
section
variable {F:Nat->Prop} {G:Gh} {ow ow1 ow2:OW} {h:Array Obj} {fp:List Nat}
def dt.own (c:dt ow ow1) {b:Nat} (e:cm G ow1 b):cm G ow b:=by
 obtain⟨d,j,i,o,a,f⟩:=aJ.1 e;exact aJ.2 ⟨d,j,i,o,by rw[<-(c.names d j).own a];exact a,f⟩
def ju.own (a:ju G ow ow1 fp) {b:Nat} (c:b∈fp):cm G ow b:=by
 obtain⟨d,j,i,o,e,f,_⟩:=(a b).1 c;exact aJ.2 ⟨d,j,i,o,e,f⟩
def ju.notOwn (f:bz F G ow h) (g:dt ow ow1) (k:ju G ow ow1 fp) {b:Nat} (l:b∈fp):¬cm G ow1 b:=by
 intro m;obtain⟨d,j,i,o,n,p,q⟩:=(k b).1 l;obtain⟨d',j',r,s,a,c⟩:=aJ.1 m;have e:=(g.names d' j').own a;obtain⟨rfl,rfl,_⟩:=f.apart d j i d' j' r b o s n (by rw[<-e];exact a) p c;rw[q]at a;exact a
def eC (c:dt ow ow1) (d:ju G ow ow1 fp) {b:Nat} (a:cR F G ow b):cR (FP F fp) G ow1 b:=⟨λhx=>by
 rcases hx with hx|hx
 ·exact a.1 hx
 ·exact a.2 (d.own hx),λe=>a.2 (c.own e)⟩
def cM (f:bz F G ow h) (g:dt ow ow1) (y:ju G ow ow1 fp):bz (FP F fp) G ow1 h/\∀s v,Sv F G ow h s v->Sv (FP F fp) G ow1 h s v:=by
 have k:∀b r,cR F G ow b->ap h b=some r->cR (FP F fp) G ow1 b/\ap h b=some r:=λb r w n=>⟨eC g y w,n⟩
 have B:∀d j,EC (aj ow d j) (aj ow1 d j):=λd j=>(g.names d j).ec
 refine⟨⟨λd j o p=> ?_,λd j i d' j' q b o t C D=> ?_,λb w hx=> ?_⟩,λs v e=>ct.mono (λ_ _ _=>rfl) B k (λb r n=>⟨r,n,rfl⟩) e⟩
 ·rcases g.names d j with e|⟨_,e⟩|hz
  ·have c:aj ow d j=some (some o):=by rw[<-e];exact p
   exact db.mono (λ_ _ _=>rfl) B k (λb r n=>⟨r,n,rfl⟩) rfl (λ_ _ _ _ _=>rfl) (f.obs d j o c)
  ·rw[p]at e;cases e
  ·have a:=hz.own
   have u:=hz.not.1;rw[p]at hz u
   generalize hx:aj ow d j=x at hz a
   match x,a,hz with
   |some (some ob),a,hz=>
    refine hz.rep rfl k (λi b o z=>⟨⟨λhx'=> ?_,λE=> ?_⟩,rfl⟩) (f.obs d j ob hx)
    ·have A:cm G ow b:=aJ.2 ⟨d,j,i,o,by rw[hx];exact a,z⟩
     rcases hx' with hx'|hx'
     ·exact f.notF b A hx'
     ·obtain⟨d',j',q,t,m,l,c⟩:=(y b).1 hx'
      obtain⟨rfl,rfl,_⟩:=f.apart d' j' q d j i b t o m (by rw[hx];exact a) l z;rw[p]at c;cases c
    ·obtain⟨d',j',q,t,m,l⟩:=aJ.1 E
     have e:=(g.names d' j').own m;obtain⟨rfl,rfl,_⟩:=f.apart d' j' q d j i b t o (by rw[<-e];exact m) (by rw[hx];exact a) l z;rw[p]at m;exact u m
 ·exact f.apart d j i d' j' q b o t (by rw[<-(g.names d j).own C];exact C) (by rw[<-(g.names d' j').own D];exact D)
 ·rcases hx with hx|hx
  ·exact f.notF b (g.own w) hx
  ·exact y.notOwn f g hx w
def rR {d j:Nat} (a:bB (aj ow d j)):dt ow (bw ow d j none):=by
 have b:aj ow d j≠none:=by intro h;rw[h]at a;exact a
 refine⟨bE,λd' j'=> ?_⟩;rw[aW b];split
 ·rename_i e
  rw[e.1,e.2];exact .inr (.inl ⟨a,rfl⟩)
 ·exact .inl rfl
structure gK (ow ow1:OW):Prop where
 len:ow1.length=ow.length
 names:∀d j,aj ow1 d j=aj ow d j\/LB (aj ow d j) (aj ow1 d j)
def gK.refl (ow:OW):gK ow ow:=⟨rfl,λ_ _=> .inl rfl⟩
def gK.trans {a b c:OW} (g:gK a b) (f:gK b c):gK a c:=⟨by rw[f.len,g.len],λd j=>by
 rcases g.names d j with e|hz
 ·rcases f.names d j with e'|hz
  ·exact .inl (by rw[e',e])
  ·exact .inr (by rw[<-e];exact hz)
 ·rcases f.names d j with e'|hz'
  ·exact .inr (by rw[e'];exact hz)
  ·exact absurd hz'.own hz.not.1⟩
def gK.taken {a b:OW} (h:gK a b):dt a b:=⟨h.len,λd j=>by
 rcases h.names d j with e|e
 ·exact .inl e
 ·exact .inr (.inr e)⟩
def gK.fpOk {a b:OW} (h:gK a b):ju G a b []:=λx=>by
 constructor
 ·intro h;simp at h
 ·rintro⟨d,j,i,o,c,_,f⟩
  rcases h.names d j with e|hz
  ·rw[<-e,f]at c;exact c.elim
  ·exact absurd f hz.not.2.1
def IS (d j:Nat):gK ow (Ap ow d j):=by
 unfold Ap;split
 ·rename_i k ver l b
  have a:=aH b;refine⟨bE,λd' j'=> ?_⟩;rw[aW (by rw[a];simp)];split
  ·rename_i e
   rw[e.1,e.2,a];exact .inr (.inl ⟨k,ver,l,rfl,rfl⟩)
  ·exact .inl rfl
 ·exact .refl _
def Gb (d j:Nat):gK ow (FR ow d j):=by
 rcases pQ (ow:=ow) d j with e|⟨s,l,l',hn,hz,e⟩
 ·rw[e];exact .refl _
 ·rw[e]
  refine⟨bE,λd' j'=> ?_⟩;rw[aW (by rw[hn];simp)];split
  ·rename_i e
   rw[e.1,e.2,hn];exact .inr hz
  ·exact .inl rfl
def mq {k:Kd} {s:SV} {x:k.T} (e:eT k s ow=some (x,ow1)):gK ow ow1:=by
 unfold eT at e;split at e
 ·split at e
  ·cases e;exact .refl _
  ·cases e
 ·split at e
  ·cases e;exact .refl _
  ·cases e
 ·split at e
  ·cases e;exact .refl _
  ·cases e
 ·split at e
  ·split at e
   ·split at e
    ·simp only[a0k,a0y]at e
     rw[<-e.2];exact IS _ _
    ·cases e
   ·split at e
    ·split at e
     ·simp only[a0k,a0y]at e
      rw[<-e.2];exact Gb _ _
     ·cases e
    ·cases e
   ·cases e
  ·cases e
def lz:(k:Kd)-> {l:List SV}-> {ow ow1:OW}-> {x:k.T}->bF k l ow=some (x,ow1)->gK ow ow1
 | .cons a b,l,ow,ow1,x,e=>by
  cases l with
  |nil=>simp[bF]at e
  |cons s r=>
   simp only[bF]at e;split at e
   ·rename_i y c
    split at e
    ·rename_i z d
     cases e
     exact(mq (x:=y.1) (ow1:=y.2) c).trans (lz b (x:=z.1) (ow1:=z.2) d)
    ·cases e
   ·cases e
 | .nil,l,ow,ow1,x,e=>by
  cases l with
  |nil=>
   simp only[bF,a0k,a0y]at e;rw[<-e.2];exact .refl _
  |cons s r=>simp[bF]at e
 | .int _,_,_,_,_,e=>by simp[bF]at e
 | .bool,_,_,_,_,e=>by simp[bF]at e
 | .str,_,_,_,_,e=>by simp[bF]at e
 | .err,_,_,_,_,e=>by simp[bF]at e
 | .any,_,_,_,_,e=>by simp[bF]at e
 | .sl _ _,_,_,_,_,e=>by simp[bF]at e
 | .tree _,_,_,_,_,e=>by simp[bF]at e
def B6 {a:Kd} {d j c:Nat} {x:ck a.T} (h:rE a d j c ow=some (x,ow1)):gK ow ow1:=by
 unfold rE at h;split at h
 ·split at h
  ·rename_i y g
   split at h
   ·rename_i z i
    split at h
    ·rename_i k
     simp only[a0k,a0y]at h;obtain⟨_,rfl⟩:=h;obtain⟨f,b⟩:=mj k.2.2;refine((lz a (x:=y.1) (ow1:=y.2) g).trans (mq (x:=z.1) (ow1:=z.2) i)).trans ⟨bE,λd' j'=> ?_⟩;rw[aW (by rw[b];simp)];split
     ·rename_i e
      rw[e.1,e.2,b];exact .inr (.inr (.inr ⟨f,rfl,rfl⟩))
     ·exact .inl rfl
    ·cases h
   ·cases h
  ·cases h
 ·cases h
def tr {k:Kd} {s:SV} {x:k.T} (e:s8 k s ow=some (x,ow1)):gK ow ow1:=by
 unfold s8 at e;split at e
 ·split at e
  ·exact lz k e
  ·cases e
 ·rcases lw e with e|⟨a,d,j,c,y,rfl,rfl,rfl,e⟩
  ·exact mq e
  ·exact B6 e
def DE {w:World} {k:Kd} {s:SV} {v:Value} (b:Sv F G ow w.heap s v) {x:k.T} (e:eT k s ow=some (x,ow1)):k.isSt=false:=by
 unfold eT at e;split at e
 ·split at e
  ·rename_i a
   subst a
   cases b with
   |v a _=>exact a
  ·cases e
 ·split at e
  ·rfl
  ·cases e
 ·split at e
  ·rfl
  ·cases e
 ·split at e
  ·rfl
  ·cases e
def pw {w:World} (g:∀b,F b->b<w.heap.size):(k:Kd)-> {ow ow1:OW}->bz F G ow w.heap-> {l:List SV}-> {vs:List Value}->dn F G ow w.heap l vs-> {x:k.T}->bF k l ow=some (x,ow1)->k.leafy=true
 | .cons a b,ow,ow1,hh,l,vs,hl,x,e=>by
  cases l with
  |nil=>simp[bF]at e
  |cons s r=>
   simp only[bF]at e;obtain⟨v,n,rfl,h,c⟩:=hl.uncons;split at e
   ·rename_i y j
    split at e
    ·rename_i z o
     obtain⟨m,_⟩:=jM (x:=y.1) (ow':=y.2) hh g h j;have d:=DE (x:=y.1) (ow1:=y.2) h j;have f:=pw g b (x:=z.1) (ow1:=z.2) m.hrep ⟨c.1,λi d f=>m.sv _ _ (c.2 i d f)⟩ o;simp[Kd.leafy,d,f]
    ·cases e
   ·cases e
 | .nil,_,_,_,_,_,_,_,_=>rfl
 | .int _,_,_,_,_,_,_,_,e=>by simp[bF]at e
 | .bool,_,_,_,_,_,_,_,e=>by simp[bF]at e
 | .str,_,_,_,_,_,_,_,e=>by simp[bF]at e
 | .err,_,_,_,_,_,_,_,e=>by simp[bF]at e
 | .any,_,_,_,_,_,_,_,e=>by simp[bF]at e
 | .sl _ _,_,_,_,_,_,_,_,e=>by simp[bF]at e
 | .tree _,_,_,_,_,_,_,_,e=>by simp[bF]at e
def IT {w:World} (d:bz F G ow w.heap) (f:∀b,F b->b<w.heap.size) {k:Kd} {s:SV} {v:Value} (g:Sv F G ow w.heap s v) {x:k.T} (e:s8 k s ow=some (x,ow1)):nK w.heap (cR F G ow1) k x v:=by
 obtain⟨_,i,h⟩:=tj d f g e;refine⟨i,λa=> ?_,λa=>by simpa [a]using h⟩;refine⟨by simpa [a]using h,?_⟩;unfold s8 at e;rw[a0e a]at e;split at e
 ·obtain⟨vs,_,c⟩:=g.agg_inv
  exact pw f k d c e
 ·cases e
end
end Go.Pev
section
namespace Go.Pev
def oM:(l:List (List Nat))->(e:Nat)->(f:List Nat)->l[e]?=some []->(l.set e f).flatten.Perm (f++l.flatten)
 |[],e,f,h=>by simp at h
 |a::l,0,f,h=>by
  have:a=[]:=by simpa using h
  subst this;simp
 |a::l,e+1,f,h=>by
  have h:l[e]?=some []:=by simpa using h
  have:=oM l e f h;simp only[a7c,a3f];exact(this.append_left a).trans (a6w a f l.flatten)
def wg (l:List (List Nat)) {e:Nat} (f:List Nat) (h:e<l.length):(l.set e f++[l[e]]).flatten.Perm (f++l.flatten):=by
 have b:=oM (l.set e []) e f (by simp[h]);have a:=oM (l.set e []) e l[e] (by simp[h]);rw[List.set_set]at b a;rw[a8f]at a;refine a3l.2 λx=> ?_
 have b:=a3l.1 b x;have a:=a3l.1 a x;simp only[a4r,a3f,a7w,a2b,a6l]at b a⊢;omega
def zx (l:List (List Nat)) (off len:Nat):List (List Nat):=aQ l off len++(l.take off++l.drop (off+len))
def Az (l:List (List Nat)) (off len:Nat):(zx l off len).flatten.Perm l.flatten:=by
 refine List.Perm.flatten ?_
 unfold zx aQ;have e:l=l.take off++((l.drop off).take len++l.drop (off+len)):=by
  rw[<-a4n,a3t,a3t]
 conv=>rhs;rw[e]
 exact a6w _ _ _
def jv {α:Type} {l:List α} {off len:Nat} (h:off+len<=l.length):(aQ l off len).length=len:=by simp[aQ];omega
def wj {α:Type} {l:List α} {off len i:Nat} (h:off+len<=l.length) (a:i<(aQ l off len).length):(aQ l off len)[i]=l[off+i]'(by rw[jv h]at a;omega):=by
 simp[aQ]
def Mb {l:List (List Nat)} {off len:Nat} (h:off+len<=l.length):(zx l off len).length=l.length:=by
 simp[zx,aQ];omega
def Mc {l:List (List Nat)} {off len i:Nat} (h:off+len<=l.length) (a:i<len):(zx l off len)[i]?=l[off+i]?:=by
 unfold zx;rw[a1k (by rw[jv h];exact a)];simp[aQ,a]
section
variable {F:Nat->Prop} {G:Gh} {ow ow1 ow2:OW} {h:Array Obj}
def tu {s:Sh} {f:List SV->OW->Option (s.T×OW)} {d j:Nat} (e:f8 s f ow d j=some ow1):
 (∃l,aj ow d j=some (some (.nrow s l none))/\ow1=ow)\/
 ∃l p x l2 a,aj ow d j=some (some (.nrow s l (some p)))/\f p.2 ow=some x/\aj x.2 d j=some (some (.nrow s l2 a))/\ow1=bw x.2 d j (some (.nrow s (l2.set p.1 x.1) none)):=by
 unfold f8 at e;split at e
 ·rename_i m l h g
  split at e
  ·rename_i i
   subst i;split at e
   ·cases e
    exact .inl ⟨l,aH g,rfl⟩
   ·rename_i p
    split at e
    ·rename_i x k
     split at e
     ·rename_i n l2 a b
      split at e
      ·rename_i c
       subst c
       cases e
       exact .inr ⟨l,p,x,l2,a,aH g,k,aH b,rfl⟩
      ·cases e
     ·cases e
    ·cases e
  ·cases e
 ·cases e
def zy {s:Sh} {v:SV} {a:List s.T} (e:nB s v ow=some (a,ow1)):∃d j l,aj ow d j=some (some (.nrow s l none))/\ow1=bw ow d j none/\jH v=some (d,j)/\((∃ver,v= .wh d j ver []/\a=l)\/∃ver off len,v= .os d j ver [] off len/\a=aQ l off len):=by
 unfold nB at e;split at e
 ·rename_i d j ver
  split at e
  ·rename_i f l b
   split at e
   ·rename_i c
    subst c
    cases e
    exact⟨d,j,l,aH b,rfl,rfl,.inl ⟨ver,rfl,rfl⟩⟩
   ·cases e
  ·cases e
 ·rename_i d j ver off len
  split at e
  ·rename_i f l b
   split at e
   ·rename_i c
    subst c
    cases e
    exact⟨d,j,l,aH b,rfl,rfl,.inr ⟨ver,off,len,rfl,rfl⟩⟩
   ·cases e
  ·cases e
 ·cases e
def nU {d j:Nat} {fps:List (List Nat)} (c:∀i,G d j (i+1)=(fps.flatten[i]?).map λb=>(b,0)) {b:Nat}:(∃i o,G d j i=some (b,o))↔(∃o,G d j 0=some (b,o))\/b∈fps.flatten:=by
 constructor
 ·rintro⟨i,o,a⟩
  cases i with
  |zero=>exact .inl ⟨o,a⟩
  |succ i=>
   rw[c]at a;simp only[a2k,a0y]at a;obtain⟨g,hb,rfl,_⟩:=a;exact .inr (a3w hb)
 ·rintro(⟨o,a⟩|hb)
  ·exact⟨0,o,a⟩
  ·obtain⟨i,f,e⟩:=a2f.1 hb
   exact⟨i+1,0,by rw[c,a0a f,e];rfl⟩
def iU (m:bz F G ow h) {d j:Nat} {fps:List (List Nat)} (a:bB (aj ow d j)) (c:∀i,G d j (i+1)=(fps.flatten[i]?).map λb=>(b,0)):fps.flatten.Nodup/\∀b o,G d j 0=some (b,o)->b∉fps.flatten:=by
 constructor
 ·refine a4z.2 λx y f g p q=> ?_
  have k:G d j (x+1)=some (fps.flatten[x],0):=by rw[c,a0a f];rfl
  have n:G d j (y+1)=some (fps.flatten[y],0):=by rw[c,a0a g];rfl
  rw[<-q]at n;obtain⟨_,_,e⟩:=m.apart d j _ d j _ _ _ _ a a k n;omega
 ·intro b o r s
  obtain⟨i,l,e⟩:=a2f.1 s;have k:G d j (i+1)=some (b,0):=by rw[c,a0a l,e];rfl
  obtain⟨_,_,e⟩:=m.apart d j _ d j _ _ _ _ a a r k
  cases e
def wk (B:bz F G ow h) {d j:Nat} (C:bB (aj ow d j)) {fps fps':List (List Nat)} {fp1:List Nat} (s:∀i,G d j (i+1)=(fps.flatten[i]?).map λb=>(b,0))
 (D:dt ow ow1) (E:ju G ow ow1 fp1) (v:fp1.Nodup) (a:bB (aj ow1 d j)) (q:ow2.length=ow1.length) (m:∀d' j',aj ow2 d' j'=if d'=d/\j'=j then some none else aj ow1 d' j')
 (w:fps'.flatten.Perm (fp1++fps.flatten)) {b o:Nat} (t:G d j 0=some (b,o)):
 dt ow ow2/\ju G ow ow2 (b::fps'.flatten)/\(b::fps'.flatten).Nodup/\∀x,cR (FP F fp1) G ow1 x->cR (FP F (b::fps'.flatten)) G ow2 x:=by
 have n:dt ow1 ow2:=⟨q,λd' j'=>by
  rw[m];split
  ·rename_i e
   rw[e.1,e.2];exact .inr (.inl ⟨a,rfl⟩)
  ·exact .inl rfl⟩
 have r:∀x,x∈b::fps.flatten↔F9 G ow1 ow2 x:=by
  intro x;constructor
  ·intro hx
   have:∃i o,G d j i=some (x,o):=by
    rw[nU s];rcases a1s.1 hx with rfl|hx
    ·exact .inl ⟨o,t⟩
    ·exact .inr hx
   obtain⟨i,u,p⟩:=this;exact⟨d,j,i,u,a,p,by rw[m];simp⟩
  ·rintro⟨d',j',H,u,f,p,c⟩
   rw[m]at c;split at c
   ·rename_i e
    rw[e.1,e.2]at p;rcases(nU s).1 ⟨H,u,p⟩with⟨I,g⟩|hx
    ·rw[t]at g;cases g;simp
    ·exact a2z _ hx
   ·rw[c]at f;exact f.elim
 have k:∀x,x∈b::fps'.flatten↔x∈fp1\/x∈b::fps.flatten:=by
  intro x;simp only[a1s,w.mem_iff,a0l];constructor
  ·rintro(h|h|h)
   ·exact .inr (.inl h)
   ·exact .inl h
   ·exact .inr (.inr h)
  ·rintro(h|h|h)
   ·exact .inr (.inl h)
   ·exact .inl h
   ·exact .inr (.inr h)
 have J:ju G ow ow2 (b::fps'.flatten):=λx=>by
  rw[F9.trans D n,<-E x,<-r x,k]
 obtain⟨K,n2⟩:=iU B C s;have l:∀x∈fp1,x∉b::fps.flatten:=by
  intro x hx z;obtain⟨d',j',H,u,f,p,c⟩:=(E x).1 hx;have:∃i o,G d j i=some (x,o):=by
   rw[nU s];rcases a1s.1 z with rfl|hx
   ·exact .inl ⟨o,t⟩
   ·exact .inr hx
  obtain⟨M,I,g⟩:=this;obtain⟨rfl,rfl,_⟩:=B.apart _ _ _ _ _ _ _ _ _ f C p g;rw[c]at a;exact a
 refine⟨D.trans n,J,?_,λx hx=> ?_⟩
 ·refine a4s.2 ⟨λhx=> ?_,w.nodup_iff.2 (a2d.2 ⟨v,K,λx hx y L A=>l x hx (by rw[A];exact a2z _ L)⟩)⟩
  rcases a0l.1 (w.mem_iff.1 hx)with hx|hx
  ·exact l b hx (by simp)
  ·exact n2 b o t hx
 ·have:=eC n r hx
  refine⟨λhx'=>this.1 ?_,this.2⟩;rcases hx' with hx'|hx'
  ·exact .inl (.inl hx')
  ·rcases(k x).1 hx' with hx'|hx'
   ·exact .inl (.inr hx')
   ·exact .inr hx'
end
section
variable {F:Nat->Prop} {G:Gh} {ow ow1:OW} {w:World}
def AA (hh:bz F G ow w.heap) {s:Sh} {s0:SV} {v:Value} (Q:Sv F G ow w.heap s0 v) {d j:Nat} (hk:jH s0=some (d,j)) {B:OW} (e0:f8 s (pk s) ow d j=some B) {x:List s.T} (e1:nB s s0 B=some (x,ow1))
 (ih:∀(Qo:List SV) (vs:List Value),dn F G ow w.heap Qo vs->∀(x:s.T) (ow1:OW),pk s Qo ow=some (x,ow1)->∃N,dt ow ow1/\ju G ow ow1 N/\N.Nodup/\cq w.heap (cR (FP F N) G ow1) s x vs N):
 ∃N,dt ow ow1/\ju G ow ow1 N/\N.Nodup/\cq w.heap (cR (FP F N) G ow1) (.rows s) x [v] N:=by
 obtain⟨d',j',l1,I,R,Qp,Q4⟩:=zy e1;rw[hk]at Qp
 cases Qp
 have Qq:∃(l:List s.T) (Qr:Option (Nat×List SV)) (k:OW) (h:List Nat),aj ow d j=some (some (.nrow s l Qr))/\l1.length=l.length/\dt ow k/\ju G ow k h/\h.Nodup/\bB (aj k d j)/\B.length=k.length/\
  (∀d' j',aj B d' j'=if d'=d/\j'=j then some (some (.nrow s l1 none))else aj k d' j')/\s.elem=true/\
  ∃fps:List (List Nat),(∀i,G d j (i+1)=(fps.flatten[i]?).map λb=>(b,0))/\(match G d j 0 with
  |none=>l1=[]/\fps=[]/\h=[]
  |some (b,o)=>∃r et,w.heap[b]?=some (.cells r et (0,0))/\(∀H∈fps.flatten,∃r et,w.heap[H]?=some (Obj.cells r et (0,0)))/\(∀H∈h,∃r et,w.heap[H]?=some (Obj.cells r et (0,0)))/\o+l1.length*s.w<=r.size/\∃f:List (List Nat),l1.length<=f.length/\f.flatten.Perm (h++fps.flatten)/\∀i (S:i<l1.length) (hf:i<f.length),cq w.heap (cR (FP F h) G k) s l1[i] (bP r (o+i*s.w) s.w) f[i]):=by
  rcases tu e0 with⟨l,C,rfl⟩|⟨l,p,y,l2,Rh,C,hy,J,rfl⟩
  ·rw[C]at I
   cases I
   obtain⟨z,fps,hG,t⟩:=hh.obs d j _ C;refine⟨l1,none,B,[],C,rfl,.refl _,.refl _ _,a2j,by rw[C];trivial,rfl,λd' j'=> ?_,z,fps,hG,?_⟩
   ·split
    ·rename_i e;rw[e.1,e.2,C]
    ·rfl
   ·cases hg:G d j 0 with
    |none=>simp only[hg]at t;exact⟨t.1,t.2.2,rfl⟩
    |some q=>
     obtain⟨b,o⟩:=q;simp only[hg]at t;obtain⟨r,et,hb,O,X,hj,z,_⟩:=t;refine⟨r,et,hb,hj,λH hb'=>by simp at hb',O,fps,X,by simp,λi S hf=> ?_⟩;exact cq.mono (λH r' hb' A=>⟨⟨λhx=>by rcases hx with hx|hx;exact hb'.1 hx;simp at hx,hb'.2⟩,A⟩) s (λ_ _=>rfl) (z i S hf (λm hc=>by cases hc))
  ·obtain⟨e,m⟩:=p
   obtain⟨z,fps,hG,t⟩:=hh.obs d j _ C
   cases hg:G d j 0 with
   |none=>simp only[hg]at t;cases t.2.1
   |some q=>
    obtain⟨b,o⟩:=q;simp only[hg]at t;obtain⟨r,et,hb,O,X,hj,K,Qt⟩:=t;obtain⟨q1,q2,q4⟩:=Qt e m rfl;have Ri:e*s.w+s.w<=l.length*s.w:=by
     have:(e+1)*s.w<=l.length*s.w:=a0p _ q1;rw[a6q]at this;exact this
    have Q5:dn F G ow w.heap m (bP r (o+e*s.w) s.w):=by
     refine⟨by rw[aY (by omega),q2],λc h1 h2=> ?_⟩;have e1:(bP r (o+e*s.w) s.w)[c]=r[o+e*s.w+c]'(by omega):=by
      have:=aM (r:=r) (o:=o+e*s.w) (n:=s.w) (i:=c) (by omega);rw[a0a h2,a1n (by omega)]at this;exact a1h this
     rw[e1];exact q4 c h1 (by omega)
    obtain⟨h,Y,L,Z,hS⟩:=ih m _ Q5 y.1 y.2 hy;have Qu:aj y.2 d j=aj ow d j:=by
     rcases Y.names d j with e|⟨_,e⟩|hz
     ·exact e
     ·rw[J]at e;cases e
     ·have:=hz.not.1;rw[J]at this;exact absurd trivial this
    rw[C,J]at Qu
    cases Qu
    have Q6:aj y.2 d j≠none:=by rw[J];simp
    have D:=λd' j'=>aW (o:=some (.nrow s (l.set e y.1) none)) (d':=d') (j':=j') Q6
    have:aj (bw y.2 d j (some (.nrow s (l.set e y.1) none))) d j=some (some (.nrow s (l.set e y.1) none)):=by rw[D];simp
    rw[this]at I
    cases I
    refine⟨l,some (e,m),y.2,h,C,by simp,Y,L,Z,by rw[J];trivial,bE,D,z,fps,hG,?_⟩;simp only[hg];have Q7:e<fps.length:=by omega
    refine⟨r,et,hb,hj,hS.cells,by simpa using O,fps.set e h++[fps[e]],by simp at X⊢;omega,wg fps h Q7,λi S hf=> ?_⟩;have Qv:i<(fps.set e h).length:=by simp at S⊢;omega
    rw[a1j Qv];by_cases Ql:i=e
    ·subst Ql
     simp only[a3k];exact hS
    ·simp only[a3b (Ne.symm Ql)]
     have P:i<l.length:=by simpa using S
     have Q8:i<fps.length:=by simpa using Qv
     exact cq.mono (λH r' hb' A=>⟨eC Y L hb',A⟩) s (λ_ _=>rfl) (K i P Q8 (λQ3 hc=>by cases hc;exact Ql rfl))
 obtain⟨l,Qr,k,h,C,Q9,Y,L,Z,U,Qm,Qw,z,fps,hG,u⟩:=Qq;have Qy:aj B d j≠none:=by rw[I];simp
 have V:ow1.length=k.length:=by rw[R,bE,Qm]
 have D:∀d' j',aj ow1 d' j'=if d'=d/\j'=j then some none else aj k d' j':=by
  intro d' j';rw[R,aW Qy];split
  ·rfl
  ·rename_i hx
   rw[Qw,a0c hx]
 have Qz:∃off len,off+len<=l1.length/\x=aQ l1 off len/\nL w.heap G s.w d j off len v:=by
  rcases Q4 with⟨ver,rfl,rfl⟩|⟨ver,off,len,rfl,rfl⟩
  ·cases Q with
   |wh Q=>
    simp only[cV,C,a2q]at Q;exact⟨0,x.length,by omega,by simp[aQ],by rw[Q9];exact Q.2⟩
  ·cases Q with
   |os Q=>
    simp only[cV,C,a2r]at Q;exact⟨off,len,by omega,rfl,Q.2⟩
 obtain⟨off,len,Q0,rfl,a,c,rfl,Q1,hV⟩:=Qz;have E:(aQ l1 off len).length=len:=jv Q0
 cases hg:G d j 0 with
 |none=>
  simp only[hg]at u;obtain⟨rfl,rfl,rfl⟩:=u;rcases hV with⟨_,rfl,rfl⟩|⟨b,o,o',r,g,_⟩
  ·have Q2:dt k ow1:=⟨V,λd' j'=>by
    rw[D];split
    ·rename_i e
     rw[e.1,e.2];exact .inr (.inl ⟨U,rfl⟩)
    ·exact .inl rfl⟩
   have Ra:ju G k ow1 []:=λx=>by
    constructor
    ·intro hx;simp at hx
    ·rintro⟨d',j',i',o',P,g,Qn⟩
     rw[D]at Qn;split at Qn
     ·rename_i e
      rw[e.1,e.2]at g
      cases i' with
      |zero=>rw[hg]at g;cases g
      |succ i'=>rw[hG]at g;simp at g
     ·rw[Qn]at P;exact P.elim
   have Rb:len=0:=by simpa using Q1
   subst Rb;refine⟨[],Y.trans Q2,λx=>by rw[F9.trans Y Q2,<-L x,<-Ra x];simp,a2j,_,rfl,z,none,0,by rw[E],by rw[E];exact a1l _,.inl ⟨rfl,by simp[aQ],rfl,rfl⟩⟩
  ·rw[hg]at g;cases g
 |some q=>
  obtain⟨b,o⟩:=q;simp only[hg]at u;obtain⟨r,et,hb,hj,Rc,O,f,Rj,M,K⟩:=u;have W:off+len<=f.length:=by omega
  obtain⟨t1,t2,t3,t4⟩:=wk (fps':=zx f off len) hh (by rw[C];trivial) hG Y L Z U V D ((Az f off len).trans M) hg;rcases hV with⟨g,_⟩|⟨H,o1,o',r',g,ha,A,Rd,Re⟩
  ·rw[hg]at g;cases g
  ·rw[hg]at g
   cases g
   have:r'=r:=by
    have:=aO hb;rw[this]at A;exact(a1h A).symm
   subst this;refine⟨b::(zx f off len).flatten,t1,t2,t3,_,rfl,z,a,c,by rw[E],by rw[E];exact Q1,.inr ⟨b,o',r',et,zx f off len,ha,rfl,hb,Re,by rw[E,Mb W];omega,λH hb'=> ?_,λi S hf=> ?_⟩⟩
   ·rcases a0l.1 (((Az f off len).trans M).mem_iff.1 hb')with hb'|hb'
    ·exact Rc H hb'
    ·exact hj H hb'
   ·rw[E]at S
    have Rf:0<c:=by omega
    have e1:=Rd Rf;have Rg:(zx f off len)[i]=f[off+i]'(by omega):=by
     have:=Mc W S;rw[a0a hf,a0a (by omega)]at this;exact a1h this
    rw[Rg,wj Q0,e1,show o+off*s.w+i*s.w=o+(off+i)*s.w by rw[a1d];omega];exact cq.mono (λH r' hb' A=>⟨t4 H hb',A⟩) s (λ_ _=>rfl) (K (off+i) (by omega) (by omega))
def IU {h:Array Obj} {ok:Nat->Prop} {s:Sh} {l:List s.T} {v:Value} {u:List Nat} (e:cq h ok (.rows s) l [v] u) (d j:Nat):∃q:Option (Nat×Nat),∃w:List Nat,(q.map (·.1)).toList++w=u/\∀(G:Gh) (ow:OW),aj ow d j=some (some (.nrow s l none))->G d j 0=q->(∀i,G d j (i+1)=(w[i]?).map λb=>(b,0))->ct h ok G ow (.wh d j 0 []) v/\db h ok G ow d j (.nrow s l none):=by
 obtain⟨F,m,g,a,c,rfl,f,e⟩:=e;have m:v= .slice a l.length c:=by simpa using m
 subst m;rcases e with⟨rfl,rfl,rfl,rfl⟩|⟨b,o,r,et,fps,rfl,rfl,x,y,z,A,B⟩
 ·refine⟨none,[],rfl,λG ow n k p=>⟨.wh ?_,g,[],by simpa using p,by rw[k];exact⟨rfl,rfl,rfl⟩⟩⟩
  simp only[cV,n,a2q];exact⟨by simp,_,_,rfl,f,.inl ⟨k,rfl,rfl⟩⟩
 ·refine⟨some (b,o),fps.flatten,rfl,λG ow n k p=>⟨.wh ?_,g,fps,p,by rw[k];exact⟨r,et,x,a5p (Nat.add_le_add_left (a0p _ f) _) y,z,A,λi C D _=>B i C D,λe t E=>by cases E⟩⟩⟩
  simp only[cV,n,a2q];exact⟨by omega,_,_,rfl,f,.inr ⟨b,o,o,r,k,rfl,aO x,λ_=>by simp,y⟩⟩
