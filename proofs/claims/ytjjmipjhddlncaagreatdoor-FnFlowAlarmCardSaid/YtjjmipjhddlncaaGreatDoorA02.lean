/-
  PEV, part 24: calls in place: the callee's code is gone through over what the caller owns.
-/
import Derived.Test.YtjjmipjhddlncaaGreatDoorA01
import Derived.Below
import Derived.Sort.Grow
import Derived.Deep.Draws
import Derived.Carry
import Derived.WideShapes
import Derived.Lib.LaidTab
import Derived.ChangeArms
import Derived.Shelf.Strings.Fields
import Derived.Shelf.Strings.SplitShaped
import Derived.Shelf.LaysM
import Derived.Test.YtjjmipjhddlncaaGreatDoorProg
import Derived.KernelRfl
import Derived.Shelf.Spec.SlicesGrow
import Derived.Shelf.Spec.SlicesInsertGrow
import Derived.Shelf.SlGeneric
import Derived.Shelf.Bits.Mul64
import Derived.Shelf.SortG.Plain
set_option linter.all false
noncomputable section
namespace Go.Pev
variable {w:World} {G:Gh} {st:St} {a:Act} {s:SV} {ow:OW}
def qC {γ:Type} {src:Bool} {f:SV->bc γ} {Q:γ->Prop} (h:((sN src s).bind f).can Q):(f (dB src s)).can Q:=by
 unfold sN at h;unfold dB
 cases src with
 |false=>exact h
 |true=>
  simp only[a1s]at h⊢;split at h
  ·rename_i b
   cases b<;>exact h
  ·rename_i a
   split
   ·rename_i b;exact absurd rfl (a b)
   ·exact h
def jZ {β:Type} {Q:β->Prop}:(c:bc β)->c.noAmb.can Q->∃b,c.out=some b/\Q b
 | .ret b,h=>⟨b,rfl,h⟩
 | .fail,h=>h.elim
 | .chk c t,h=>by
  obtain⟨rfl,h⟩:=h;obtain⟨b,a,d⟩:=jZ t h;exact⟨b,a,d⟩
 | .bnd _ m f,h=>by
  obtain⟨y,rfl,h⟩:=h;obtain⟨b,a,d⟩:=jZ (f y) h;exact⟨b,a,d⟩
 | .amb _ _ _,h=>h.elim
 | .ite c f g,h=>by
  cases c with
  |false=>exact jZ g h
  |true=>exact jZ f h
def s6 {C:gw} {b:Array Oper} {ow:OW} {Q:List SV->Prop}:(l:List (Oper×Nat))->(∀p∈l,b[p.2]?=some p.1)-> {c:List SV}->(Ai C b ow l c).can Q->∃a,kR (kw C b ow) (l.map (·.2)) c=some a/\Q a
 |[],_,c,h=>⟨c,rfl,h⟩
 |(o,i)::l,hl,c,h=>by
  have e:=hl (o,i) (by simp);simp only at e;have d:∀p∈l,b[p.2]?=some p.1:=λp k=>hl p (by simp[k])
  unfold Ai at h;simp only[a2f,kR];split at h
  ·exact h.elim
  ·rename_i f
   obtain⟨a,g,j⟩:=s6 l d h;refine⟨a,?_,j⟩;simp only[kw,e,rJ,f,a1t];exact g
  ·rename_i f
   obtain⟨s,g,j⟩:=jZ _ (bc.can_bind _ h);obtain⟨a,m,n⟩:=s6 l d (qC j);refine⟨a,?_,n⟩;simp only[kw,e,rJ,f,g,a1t];exact m
def oE {C:gw} {a:Option Nat->Nat} {b:Array Oper} {ks:List (List Nat×Bool)} {Q:St->Prop}:(l:List (Oper×Nat))->(∀p∈l,b[p.2]?=some p.1)-> {st:St}->(pe C a b ks l st).can Q->∃d,kR (ir C (Rc C a) (λo=>a o.dst) (λ_=>none) b ks) (l.map (·.2)) st=some d/\Q d
 |[],_,st,h=>⟨st,rfl,h⟩
 |(o,i)::l,hl,st,h=>by
  have f:=hl (o,i) (by simp);simp only at f;have e:∀p∈l,b[p.2]?=some p.1:=λp n=>hl p (by simp[n])
  unfold pe at h;simp only[a2f,kR];split at h
  ·exact h.elim
  ·rename_i g
   obtain⟨c,j,k⟩:=oE l e h;rw[(eC (E:=Rc C a) (dk:=λo=>a o.dst) (B:=λ_=>none) f).1 g];exact⟨c,j,k⟩
  ·rename_i g
   split at h
   ·rename_i q r
    split at h
    ·rename_i m
     obtain⟨s,j,k⟩:=jZ _ (bc.can_bind _ h);obtain⟨c,t,u⟩:=oE l e (qC k);rw[(eC (E:=Rc C a) (dk:=λo=>a o.dst) (B:=λ_=>none) f).2 g q s.1 s.2 r m ((bc.outB_none _).trans j)];exact⟨c,t,u⟩
    ·exact h.elim
   ·exact h.elim
section
variable {F:Nat->Prop} {G0:Gh} {ow0:OW} {w0:World} {L:List (Nat×Obj)} {C:gw}
structure fP (F:Nat->Prop) (G0:Gh) (ow0:OW) (w0:World) (st:St) (a:Act) (w:World):Prop where
 ex:∃G,Tr F G0 ow0 w0 G st.ow w/\dq F G st.ow w.heap st.sl a.tmps.toList
 defers:a.defers=[]
structure yS (F:Nat->Prop) (G0:Gh) (ow0:OW) (w0:World) (L:List (Nat×Obj)):Prop where
 wide:∀b,F b->b<w0.heap.size
 laid:iT L (cu G0 ow0) w0.heap
def yS.wideAt (a:yS F G0 ow0 w0 L) (t:Tr F G0 ow0 w0 G ow w):∀b,F b->b<w.heap.size:=λb c=>a7k (a.wide b c) t.kept.size
def yS.laidAt (d:yS F G0 ow0 w0 L) (t:Tr F G0 ow0 w0 G ow w):iT L (cu G ow) w.heap:=λp e=>by
 obtain⟨b,c⟩:=d.laid p e;have a:=(a1c.1 c).1;refine⟨λh=> ?_,by rw[t.kept.heap p.1 a b];exact c⟩;rcases t.own _ h with h|h
 ·exact b h
 ·omega
def fP.op (g:a.defers=[]) (t:Tr F G0 ow0 w0 G st.ow w) (e:dq F G st.ow w.heap st.sl a.tmps.toList) {b:Gh} {ow':OW} {c:World} (f:Tr F G st.ow w b ow' c) {v:Value} (h:Sv F b ow' c.heap s v) {d:Option Tmp}:fP F G0 ow0 w0 ⟨bm st.sl d s,ow'⟩ (a.put d v) c:=⟨⟨b,t.trans f,vD ⟨e.1,λi j k=>f.sv _ _ (e.2 i j k)⟩ h d⟩,by rw[mL];exact g⟩
def fP.slot (h:fP F G0 ow0 w0 st a w) {v:Value} (b:∀G,Sv F G st.ow w.heap s v) {d:Option Tmp}:fP F G0 ow0 w0 ⟨bm st.sl d s,st.ow⟩ (a.put d v) w:=by
 obtain⟨G,t,c⟩:=h.ex;exact⟨⟨G,t,vD c (b G) d⟩,by rw[mL];exact h.defers⟩
def mN (r:C.Holds L) (n:yS F G0 ow0 w0 L) {d:Option Nat->Nat} {b:Array Oper} {Q:St->Prop} {R:Exit->Act->World->Prop} (u:∀g A c,Q g->fP F G0 ow0 w0 g A c->R .normal A c):(l:List (Oper×Nat))->(∀p∈l,b[p.2]?=some p.1)-> {st:St}-> {a:Act}-> {w:World}->fP F G0 ow0 w0 st a w->(sO C d b l st).can Q->wpOps C.P b R (l.map (·.2)) a w
 |[],_,st,a,w,h,e=>u _ _ _ e h
 |(o,i)::l,hl,st,a,w,h,e=>by
  have B:=hl (o,i) (by simp);have j:∀p∈l,b[p.2]?=some p.1:=λp D=>hl p (by simp[D])
  obtain⟨G,t,q⟩:=h.ex;unfold sO at e;simp only[a2f,wpOps];rw[B];simp only;split at e
  ·exact e.elim
  ·rename_i x
   rw[cM q x];exact mN r n u l j (h.slot (λ_=>ku)) e
  ·rename_i x
   rw[cM q x];simp only[a1s];left;have y:=mK r rfl t.hrep (n.wideAt t) (n.laidAt t) (eB q) (bc.can_bind _ e);refine vg.wp ?_
   have conv:∀v c,(∃s ow' z,((sN (d9 b i) s).bind λE=>sO C d b l ⟨bm st.sl o.dst E,ow'⟩).can Q/\Tr F G st.ow w z ow' c/\Sv F z ow' c.heap s v)->wpOps C.P b R (l.map (·.2)) (a.put o.dst v) c:=by
    rintro v c ⟨s,ow',z,H,I,J⟩
    exact mN r n u l j (fP.op h.defers t q I (cH J)) (qC H)
   rcases y with⟨v,c,k,m⟩|⟨c,k,m⟩|⟨f,args,k,m⟩
   ·exact .inl ⟨v,c,k,conv v c m⟩
   ·exact .inr (.inl ⟨c,k,conv undef c m⟩)
   ·exact .inr (.inr ⟨f,args,k,m.mono λe c ⟨v,K,M⟩=>⟨v,K,conv v c M⟩⟩)
def Qg (S:C.Holds L) (T:C.P.follows .mixedOrders=true) (I:yS F G0 ow0 w0 L) {U:Nat} {b:Array Oper} (h:fP F G0 ow0 w0 st a w) (z:lO b (ie b)=true) {J:List SV->Prop} (V:(Ai C b st.ow b.toList.zipIdx st.sl).can J) {Q:Exit->Act->World->Prop} (W:∀g x c,J g->fP F G0 ow0 w0 ⟨g,st.ow⟩ x c->Q .normal x c):(Code.region U b true).wp C.P Q a w:=by
 obtain⟨X,Y⟩:=g8 b (fr:=λ_=>true) (a1g.2 λo _=>by cases o.dst<;>rfl);obtain⟨l,M,Z⟩:=s6 _ (λp hp=>(X p hp).1) V;rw[Y]at M
 let R:List SV->Act->World->Prop:=λA a w=>fP F G0 ow0 w0 ⟨A,st.ow⟩ a w
 refine wp_region_any T (qz (step:=kw C b st.ow) (R:=R) (λi j s s1 s2=>wT i j s s1 s2) ?_ z (sF:=l) (λx c m=>W l x c Z m) b.size _ st.sl a _ (by simp) ?_ ?_ ?_ ?_)
 ·intro i A g a w hi d m K N
  unfold kw at d
  cases ho:b[i]? with
  |none=>rw[ho]at d;cases d
  |some o=>
   rw[ho]at d;simp only[a2l]at d;obtain⟨v,k,rfl⟩:=d;obtain⟨G,t,y⟩:=m.ex;unfold wpOp;rw[ho];simp only;unfold rJ at k;split at k
   ·cases k
   ·rename_i B
    cases k
    rw[cM y B];exact N _ _ (fP.slot m (λ_=>ku))
   ·rename_i B
    rw[cM y B];simp only[a1s];left;rw[a2l]at k;obtain⟨s,d,rfl⟩:=k;have D:=fC S (op:=o) rfl t.hrep (I.wideAt t) (I.laidAt t) (eB y) (bc.out_can _ d);refine vg.wp ?_
    have conv:∀u c,(∃E,E=s/\Tr F G st.ow w G st.ow c/\Sv F G st.ow c.heap E u)->K (a.put o.dst u) c:=by
     rintro u c ⟨E,rfl,ht,H⟩
     exact N _ _ (fP.op (st:=⟨A,st.ow⟩) m.defers t y ht (cH H))
    rcases D with⟨u,c,n,q⟩|⟨c,n,q⟩|⟨f,args,n,q⟩
    ·exact .inl ⟨u,c,n,conv u c q⟩
    ·exact .inr (.inl ⟨c,n,conv undef c q⟩)
    ·exact .inr (.inr ⟨f,args,n,q.mono λe c ⟨u,q3,q4⟩=>⟨u,q3,conv u c q4⟩⟩)
 ·refine a5o (a5q _ _) (by simp)
 ·intro j O
  exfalso;by_cases r:j<b.size
  ·simp[Array.getD,r]at O
  ·simp[Array.getD,r]at O
 ·have:((List.range b.size).filter λi=> !(Array.replicate b.size false).getD i true)=List.range b.size:=by
   rw[a6b];intro i hi;have:=a2i.1 hi;simp[Array.getD,this]
  rw[this];exact M
 ·obtain⟨G,t,d⟩:=h.ex
  exact⟨⟨G,⟨t.hrep,t.sv,⟨t.kept.size,t.kept.heap,t.kept.cells,t.kept.os,t.kept.output,t.kept.tape⟩,t.own,t.len⟩,d⟩,h.defers⟩
def OE (U:C.Holds L) (hm:C.P.follows .mixedOrders=true) (hE:yS F G0 ow0 w0 L) {E:Option Nat->Nat} {id:Nat} {m:Array Oper} {ks:List (List Nat×Bool)} (h:fP F G0 ow0 w0 st a w) (S4:lO m (qo (λo=>E o.dst) m ks)=true) {Qs:St->Prop} (he:(pe C E m ks m.toList.zipIdx st).can Qs) {Q:Exit->Act->World->Prop} (hQ:∀V a' c,Qs V->fP F G0 ow0 w0 V a' c->Q .normal a' c):(Code.region id m true).wp C.P Q a w:=by
 obtain⟨W,hr⟩:=g8 m (fr:=λ_=>true) (a1g.2 λo _=>by cases o.dst<;>rfl);obtain⟨S0,h1,h2⟩:=oE _ (λp hp=>(W p hp).1) he;rw[hr]at h1
 let R:St->Act->World->Prop:=λst a w=>fP F G0 ow0 w0 st a w
 refine wp_region_any hm (qz (step:=ir C (Rc C E) (λo=>E o.dst) (λ_=>none) m ks) (R:=R) (λi j s s1 s2=>wX (IW C E) i j s s1 s2) ?_ S4 (sF:=S0) (λa' c hR=>hQ S0 a' c h2 hR) m.size _ st a _ (by simp) ?_ ?_ ?_ ?_)
 ·intro i st V a w hi hs O K S
  obtain⟨o,ho,hs⟩:=kx hs;obtain⟨G,t,B⟩:=O.ex;have N:=t.hrep;unfold wpOp;rw[ho];simp only;rcases hs with⟨hw,rfl⟩|⟨hw,q,s,r,hq,A,g,rfl⟩
  ·rw[cM B hw]
   exact S _ _ (fP.slot O (λ_=>ku))
  ·rw[cM B hw]
   simp only[a1s];left;have z:=hE.wideAt t;have H:=hE.laidAt t;have X:∀b,FM F G st.ow q.1 b->b<w.heap.size:=λb hb=>PO N z hb
   have Y:iT L (cu G (aN q.1 0 st.ow)) w.heap:=λp hp=>⟨λh=>(H p hp).1 (fZ h),(H p hp).2⟩
   have hρ:LO (FM F G st.ow q.1) G (aN q.1 0 st.ow) w.heap (iL st.sl) a.eval:=λx=>pi A (eB B x)
   refine vg.wp ?_
   rw[bc.outB_none]at g;unfold qn at g;split at g
   ·obtain⟨x,e1,D⟩:=bc.out_bind _ g
    split at D
    ·rename_i y
     simp only[a0c]at y;simp only[bc.out,a0i,a0x]at D;obtain⟨rfl,rfl⟩:=D;have n:=mK U (op:=o) rfl (jY A N) X Y hρ (bc.out_can _ e1);have conv:∀u c,(∃s ow' Z,(s,ow')=x/\Tr (FM F G st.ow q.1) G (aN q.1 0 st.ow) w Z ow' c/\Sv (FM F G st.ow q.1) Z ow' c.heap s u)->K (a.put o.dst u) c:=by
      rintro u c ⟨s,ow',Z,rfl,I,v⟩
      obtain⟨t1,t2⟩:=lS N z A I y.1.1.1;exact S _ _ (fP.op O.defers t B t1 (cH (t2 s u 8 y.1.1.2 v)))
     rcases n with⟨u,c,k,l⟩|⟨c,k,l⟩|⟨f,args,k,l⟩
     ·exact .inl ⟨u,c,k,conv u c l⟩
     ·exact .inr (.inl ⟨c,k,conv undef c l⟩)
     ·exact .inr (.inr ⟨f,args,k,l.mono λe c ⟨u,J,M⟩=>⟨u,J,conv u c M⟩⟩)
    ·cases D
   ·split at g
    ·split at g
     ·rename_i s' W
      split at g
      ·rename_i hh
       simp only[bc.out,a0i,a0x]at g;obtain⟨rfl,rfl⟩:=g;have n:=fC U (op:=o) rfl N z H (eB B) (g9 (C:=C) (λd j ob h=>iW h) (wU W hh));have conv:∀u c,(∃s,s=s'/\Tr F G st.ow w G st.ow c/\Sv F G st.ow c.heap s u)->K (a.put o.dst u) c:=by
        rintro u c ⟨s,rfl,I,v⟩
        exact S _ _ (fP.op O.defers t B I (cH v))
       rcases n with⟨u,c,k,l⟩|⟨c,k,l⟩|⟨f,args,k,l⟩
       ·exact .inl ⟨u,c,k,conv u c l⟩
       ·exact .inr (.inl ⟨c,k,conv undef c l⟩)
       ·exact .inr (.inr ⟨f,args,k,l.mono λe c ⟨u,J,M⟩=>⟨u,J,conv u c M⟩⟩)
      ·cases g
     ·cases g
    split at g
    ·split at g
     ·rename_i s' W
      simp only[bc.out,a0i,a0x]at g;obtain⟨rfl,rfl⟩:=g;have n:=fC U (op:=o) rfl N z H (eB B) (g9 (C:=C) (λd j ob h=>iW h) (uz W));have conv:∀u c,(∃s,s=s'/\Tr F G st.ow w G st.ow c/\Sv F G st.ow c.heap s u)->K (a.put o.dst u) c:=by
       rintro u c ⟨s,rfl,I,v⟩
       exact S _ _ (fP.op O.defers t B I (cH v))
      rcases n with⟨u,c,k,l⟩|⟨c,k,l⟩|⟨f,args,k,l⟩
      ·exact .inl ⟨u,c,k,conv u c l⟩
      ·exact .inr (.inl ⟨c,k,conv undef c l⟩)
      ·exact .inr (.inr ⟨f,args,k,l.mono λe c ⟨u,J,M⟩=>⟨u,J,conv u c M⟩⟩)
     ·cases g
    split at g
    ·rename_i x hx
     simp only[bc.out,a0i,a0x]at g;obtain⟨rfl,rfl⟩:=g;have S1:(Ae C o.op (iL st.sl) st.ow).can λs=>s=x:=Av hx
     have n:=fC U (op:=o) rfl N z H (eB B) S1;have conv:∀u c,(∃s,s=x/\Tr F G st.ow w G st.ow c/\Sv F G st.ow c.heap s u)->K (a.put o.dst u) c:=by
      rintro u c ⟨s,rfl,I,v⟩
      exact S _ _ (fP.op O.defers t B I (cH v))
     rcases n with⟨u,c,k,l⟩|⟨c,k,l⟩|⟨f,args,k,l⟩
     ·exact .inl ⟨u,c,k,conv u c l⟩
     ·exact .inr (.inl ⟨c,k,conv undef c l⟩)
     ·exact .inr (.inr ⟨f,args,k,l.mono λe c ⟨u,J,M⟩=>⟨u,J,conv u c M⟩⟩)
    ·split at g
     ·rename_i s' W
      simp only[bc.out,a0i,a0x]at g;obtain⟨rfl,rfl⟩:=g;have n:=fC U (op:=o) rfl N z H (eB B) (g9 (C:=C) (λd j ob h=>iW h) W);have conv:∀u c,(∃s,s=s'/\Tr F G st.ow w G st.ow c/\Sv F G st.ow c.heap s u)->K (a.put o.dst u) c:=by
       rintro u c ⟨s,rfl,I,v⟩
       exact S _ _ (fP.op O.defers t B I (cH v))
      rcases n with⟨u,c,k,l⟩|⟨c,k,l⟩|⟨f,args,k,l⟩
      ·exact .inl ⟨u,c,k,conv u c l⟩
      ·exact .inr (.inl ⟨c,k,conv undef c l⟩)
      ·exact .inr (.inr ⟨f,args,k,l.mono λe c ⟨u,J,M⟩=>⟨u,J,conv u c M⟩⟩)
     ·split at g
      ·obtain⟨x,e1,D⟩:=bc.out_bind _ g
       split at D
       ·rename_i y
        simp only[a0c]at y;simp only[bc.out,a0i,a0x]at D;obtain⟨rfl,rfl⟩:=D;have n:=uq U (op:=o) rfl (jY A N) X Y hρ (bc.out_can _ e1);obtain⟨S6,S2⟩:=wY (b:=none) ((bc.outB_none _).trans e1);have S5:my st.ow (some ([E o.dst],x.2))=b8 q.1 0 st.ow x.2:=AA S2 y.2;have conv:∀u c,(∃s ow' Z,(s,ow')=x/\Tr (FM F G st.ow q.1) G (aN q.1 0 st.ow) w Z ow' c/\Sv (FM F G st.ow q.1) Z ow' c.heap s u)->K (a.put o.dst u) c:=by
         rintro u c ⟨s,ow',Z,rfl,I,v⟩
         obtain⟨t1,t2⟩:=lS N z A I y.1.1;have T:R ⟨bm st.sl o.dst (dB (d9 m i) s),b8 q.1 0 st.ow ow'⟩ (a.put o.dst u) c:=fP.op O.defers t B t1 (cH (t2 s u 8 y.1.2 v));rw[<-S5]at T;exact S _ _ T
        rcases n with⟨u,c,k,l⟩|⟨c,k,l⟩|⟨f,args,k,l⟩
        ·exact .inl ⟨u,c,k,conv u c l⟩
        ·exact .inr (.inl ⟨c,k,conv undef c l⟩)
        ·exact .inr (.inr ⟨f,args,k,l.mono λe c ⟨u,J,M⟩=>⟨u,J,conv u c M⟩⟩)
       ·cases D
      ·obtain⟨x,e1,D⟩:=bc.out_bind _ g
       split at D
       ·rename_i y
        simp only[a0c]at y;simp only[bc.out,a0i,a0x]at D;obtain⟨rfl,rfl⟩:=D;have n:=fC U (op:=o) rfl (jY A N) X Y hρ (bc.out_can _ e1);have conv:∀u c,(∃s,s=x/\Tr (FM F G st.ow q.1) G (aN q.1 0 st.ow) w G (aN q.1 0 st.ow) c/\Sv (FM F G st.ow q.1) G (aN q.1 0 st.ow) c.heap s u)->K (a.put o.dst u) c:=by
         rintro u c ⟨s,rfl,I,v⟩
         obtain⟨t1,t2⟩:=oD N z A I y.1;exact S _ _ (fP.op O.defers t B t1 (cH (t2 s u 8 y.2 v)))
        rcases n with⟨u,c,k,l⟩|⟨c,k,l⟩|⟨f,args,k,l⟩
        ·exact .inl ⟨u,c,k,conv u c l⟩
        ·exact .inr (.inl ⟨c,k,conv undef c l⟩)
        ·exact .inr (.inr ⟨f,args,k,l.mono λe c ⟨u,J,M⟩=>⟨u,J,conv u c M⟩⟩)
       ·cases D
 ·refine a5o (a5q _ _) (by simp)
 ·intro j hj
  exfalso;by_cases S3:j<m.size
  ·simp[Array.getD,S3]at hj
  ·simp[Array.getD,S3]at hj
 ·have:((List.range m.size).filter λi=> !(Array.replicate m.size false).getD i true)=List.range m.size:=by
   rw[a6b];intro i hi;have:=a2i.1 hi;simp[Array.getD,this]
  rw[this];exact h1
 ·obtain⟨G,t,hs⟩:=h.ex
  exact⟨⟨G,⟨t.hrep,t.sv,⟨t.kept.size,t.kept.heap,t.kept.cells,t.kept.os,t.kept.output,t.kept.tape⟩,t.own,t.len⟩,hs⟩,h.defers⟩
def QI (F:Nat->Prop) (c:Gh) (b:OW) (d:World) (Q:RR×St->Prop):Exit->Act->World->Prop
 | .normal,a,w=>∃st,fP F c b d st a w/\Q (.normal,st)
 | .exit i,a,w=>∃st,fP F c b d st a w/\Q (.exit i,st)
 | .ret,a,w=>∃st,fP F c b d st a w/\Q (.ret,st)
 |_,_,_=>False
def dK (j:C.Holds L) (l:C.P.follows .mixedOrders=true) (k:yS F G0 ow0 w0 L) {A:HJ} {u:Option Nat->Nat}:(c:Code)-> {g:Nat}-> {Q:RR×St->Prop}-> {st:St}-> {a:Act}-> {w:World}->(d7 C A u c g st).can Q->fP F G0 ow0 w0 st a w->c.wp C.P (QI F G0 ow0 w0 Q) a w
 | .skip,_,Q,st,a,w,e,h=>wp_skip ⟨st,h,e⟩
 | .exit id,_,Q,st,a,w,e,h=>wp_exit ⟨st,h,e⟩
 | .ret,_,Q,st,a,w,e,h=>wp_ret ⟨st,h,e⟩
 | .seq x y,g,Q,st,a,w,e,h=>by
  simp only[d7]at e;refine wp_seq (wp_mono (dK j l k x (bc.can_bind _ e) h) λv q r m=> ?_)
  cases v with
  |normal=>obtain⟨b,f,d⟩:=m;exact dK j l k y d f
  |exit i=>obtain⟨b,f,d⟩:=m;exact⟨b,f,d⟩
  |ret=>obtain⟨b,f,d⟩:=m;exact⟨b,f,d⟩
  |_=>exact m.elim
 | .cond o x y,g,Q,st,a,w,e,h=>by
  simp only[d7]at e;obtain⟨G,K,B⟩:=h.ex;have s:=eB B o;split at e
  ·rename_i t z
   rw[z]at s;refine wp_cond s.lb_inv ?_
   cases t with
   |true=>exact dK j l k x e h
   |false=>exact dK j l k y e h
  ·rename_i t z
   rw[z]at s;refine wp_cond s.bool_inv ?_
   cases t with
   |true=>exact dK j l k x e h
   |false=>exact dK j l k y e h
  ·exact e.elim
 | .block id x,g,Q,st,a,w,e,h=>by
  simp only[d7]at e;refine wp_block (wp_mono (dK j l k x (bc.can_bind _ e) h) λv q r m=> ?_)
  cases v with
  |normal=>obtain⟨b,f,d⟩:=m;exact⟨b,f,d⟩
  |exit i=>
   obtain⟨b,f,d⟩:=m;by_cases hi:i=id
   ·subst hi
    simp only[a5h,a1s]at d;simp only[Exit.inBlock,a1s];exact⟨b,f,d⟩
   ·have D:(i==id)=false:=by simpa using hi
    simp only[D,a0u,a1z]at d;simp only[Exit.inBlock,hi,a1z];exact⟨b,f,d⟩
  |ret=>obtain⟨b,f,d⟩:=m;exact⟨b,f,d⟩
  |_=>exact m.elim
 | .region id ops draw,g,Q,st,a,w,e,h=>by
  simp only[d7]at e
  cases draw with
  |true=>
   simp only[a1s]at e;split at e
   ·split at e
    ·rename_i n
     exact OE j l k h n (bc.can_bind _ e) λb q r f d=>⟨_,d,f⟩
    ·exact e.elim
   split at e
   ·rename_i n
    exact Qg j l k h n (bc.can_bind _ e) λE q r f d=>⟨_,d,f⟩
   ·exact e.elim
  |false=>
   simp only[a0u,a1z]at e;obtain⟨H,I⟩:=g8 ops (fr:=λ_=>true) (a1g.2 λo _=>by cases o.dst<;>rfl);refine wp_region ?_
   rw[<-I];exact mN j k (λb q r f d=>⟨b,d,f⟩) _ (λp J=>(H p J).1) h (bc.can_bind _ e)
 | .loop _,_,_,_,_,_,e,_=>by simp[d7]at e;exact e.elim
 | .label _,_,_,_,_,_,e,_=>by simp[d7]at e;exact e.elim
 | .goto _,_,_,_,_,_,e,_=>by simp[d7]at e;exact e.elim
 | .scope _,_,_,_,_,_,e,_=>by simp[d7]at e;exact e.elim
 | .rangeFunc _ _ _ _,_,_,_,_,_,e,_=>by simp[d7]at e;exact e.elim
def DQ (B:C.Holds L) (D:C.P.follows .mixedOrders=true) (E:bt F G ow w.heap) (H:∀b,F b->b<w.heap.size) (I:iT L (cu G ow) w.heap) {u:FuncId} {fn:Func} (J:C.P.funcs[u]?=some fn) {args:List SV} {vs:List Value} (x:dq F G ow w.heap args vs) {A:HJ} {d:Nat} {Q:SV×OW->Prop} (h:(LI C fn args ow A d).can Q):DA C.P F G ow w u vs Q:=by
 unfold LI at h;split at h
 ·exact h.elim
 rename_i c K;split at h
 ·rename_i y
  have M:vs.length=args.length:=x.1.symm;have N:yS F G ow w L:=⟨H,I⟩;unfold DA;refine calls_of_wp J K ?_
  have O:fP F G ow w ⟨args++List.replicate (fn.ntmps-args.length) .dead,ow⟩ {tmps:=vs.toArray++Array.replicate (fn.ntmps-vs.toArray.size) undef,defers:=[]} w:=by
   refine⟨⟨G,.refl E,⟨by simp[M],λi f a=> ?_⟩⟩,rfl⟩;simp only[Array.toList_append,Array.toList_replicate]at a⊢;by_cases hi:i<args.length
   ·simp only[a1h hi,a1h (show i<vs.length by omega)]
    exact x.2 i hi (by omega)
   ·rw[a1u (by omega),a3z]
    exact .dead _
  refine wp_mono (dK B D N c (bc.can_bind _ h) O) λR n g e=> ?_
  have j:∀st,fP F G ow w st n g->((Aj C.P st fn.results.toList).bind λl=>bc.ret (Q4 l,st.ow)).can Q->n.defers=[]/\∃v,(results fn n.tmps).run C.P g= .ok v g/\∃s ow' z m,Ending.returned v= .returned z/\Q (s,ow')/\Tr F G ow w m ow' g/\Sv F m ow' g.heap s z:=by
   intro st k S;obtain⟨m,t,T⟩:=k.ex;obtain⟨V,W,e,U,o⟩:=k9 t.hrep T _ (bc.can_bind _ S);exact⟨k.defers,_,uv U,_,_,_,m,rfl,e,t,vC o⟩
  cases R with
  |normal=>
   obtain⟨st,f,a⟩:=e;obtain⟨p,v,q,r⟩:=j st f a;exact⟨p,v,q,r⟩
  |ret=>
   obtain⟨st,f,a⟩:=e;obtain⟨p,v,q,r⟩:=j st f a;exact⟨p,v,q,r⟩
  |exit i=>obtain⟨st,f,a⟩:=e;exact a.elim
  |_=>exact e.elim
 ·exact h.elim
def FZ {f:SV} {q:FuncId×Func×List SV×List SV} (h:LJ C f=some q):f= .fn (.func q.1) q.2.2.1 q.2.2.2/\C.P.funcs[q.1]?=some q.2.1/\(q.2.1.name== "runtime.NumGoroutine")=false/\q.2.1.body.isNone=false:=by
 unfold LJ at h;split at h
 ·split at h
  ·split at h
   ·rename_i fn a
    split at h
    ·rename_i b
     simp only[a0c,a2b]at b
     cases h
     exact⟨rfl,a,b.1,b.2⟩
    ·cases h
   ·cases h
  ·cases h
 ·cases h
def DR (f:C.Holds L) (n:C.P.follows .mixedOrders=true):wI C L:=by
 intro F G ow w o op g ρ p i j k b d Q h;unfold tT at h;split at h
 ·rename_i r args t
  split at h
  ·rename_i q u
   obtain⟨l,m,x,y⟩:=FZ u;have c:=b r;rw[l]at c;obtain⟨xs,ys,c,z,A⟩:=c.fn_inv;have a:dq F G ow w.heap (q.2.2.1++args.toList.map ρ++q.2.2.2) (xs++args.toList.map p++ys):=(z.append (b.svs _)).append A;have:=DQ f n i j k m a h;exact .inr (.inr ⟨q.1,_,iq g rfl c ⟨_,m,x,y⟩,this.mono λe J ⟨s,ow',v,B,D,E,H,I⟩=>⟨v,D,s,ow',B,E,H,I⟩⟩)
  ·exact mK f g i j k b h
 ·exact mK f g i j k b h
end
end Go.Pev
namespace Go.Pev
variable {C:gw} {L:List (Nat×Obj)}
def F0 (hC:C.Holds L) (hm:C.P.follows .mixedOrders=true):wM C L:=by
 intro α nt fr F fp w0 vs id g ks st a w k r hE hd h Te he Q D;obtain⟨hl,hr⟩:=g8 g hd;have S3:∀B:Nat->Nat->Bool,∃H,kR (λi=>ir C (Lh C) rm (λ_=>some (B i)) g ks i) (List.range g.size) st=some H/\k H=some r:=λB=>by
  obtain⟨H,h1,h2⟩:=qB B _ (λp hp=>(hl p hp).1) he;rw[hr]at h1;exact⟨H,h1,h2⟩
 have hD:∀(i:Nat) (o:Oper),g[i]?=some o->∀d,o.dst=some d->fr d=true:=by
  intro i o ho d hx;have Ta:o∈g.toList:=by
   obtain⟨S4,rfl⟩:=a1c.1 ho;simp
  have:=a1g.1 hd o Ta;rw[hx]at this;simpa using this
 let R:St->Act->World->Prop:=λst a w=>nJ nt fr F fp w0 vs st a w
 refine wp_region_any hm (DF (step:=λ(o:Nat->Bool) i s=>ir C (Lh C) rm (λ_=>some o) g ks i s) (R:=R) (λB i j s s1 s2 ha=>DP (IV C) B i j s s1 s2 ha) ?_ Te (Fin:=λH=>k H=some r) (λH a' c h2 hR=>D H a' c h2 hR) (λ_=>true) g.size _ st a _ (by simp) ?_ ?_ ?_ ?_)
 ·intro i st a w hi hs hI K hK
  obtain⟨o,ho,Tf⟩:=kx (hs λ_=>true).choose_spec;have I:dC g o st.sl=some true->∀q,ks[i]?=some q->∀b:Nat->Bool,∃x,(qn C (Lh C o (iL st.sl) (aN q.1 0 st.ow)) o.op q (iL st.sl) (aN q.1 0 st.ow) (rm o)).outB (some b)=some x:=by
   intro Y q hq b;obtain⟨o',Tb,Tg⟩:=kx (hs b).choose_spec;rw[ho]at Tb
   cases Tb
   rcases Tg with⟨Tc,_⟩|⟨_,q',s,r,Td,_,S5,_⟩
   ·rw[Y]at Tc;cases Tc
   ·rw[hq]at Td;cases Td;exact⟨_,S5⟩
  have N:dC g o st.sl=some true->∀q,ks[i]?=some q->cY st.ow=true->∀(b:Nat->Bool) s r,(qn C (Lh C o (iL st.sl) (aN q.1 0 st.ow)) o.op q (iL st.sl) (aN q.1 0 st.ow) (rm o)).outB (some b)=some (s,r)->∀a' c,R ⟨bm st.sl o.dst (dB (d9 g i) s),my st.ow r⟩ a' c->K a' c:=λY q hq z b s r S5 a' c hR=>hK b _ a' c ((eC (C:=C) (E:=Lh C) (dk:=rm) (B:=λ_=>some b) (ks:=ks) ho).2 Y q s r hq z S5) hR
  have V:=hD i o ho;obtain⟨G,g1,g2,g3⟩:=hI.ex;unfold wpOp;rw[ho];simp only;rcases Tf with⟨Y,_⟩|⟨Y,q,s,r,hq,z,Ti,_⟩
  ·rw[cM g1 Y]
   exact hK (λ_=>true) _ _ _ ((eC (C:=C) (E:=Lh C) (dk:=rm) (B:=λ_=>some λ_=>true) (ks:=ks) ho).1 Y) (hI.slot (λ_=>ku) V)
  ·rw[cM g1 Y]
   simp only[a1s];left;have W:=hE.wideAt hI.kept;have S6:=hE.laidAt hI.kept g3;have S7:∀b,FM F G st.ow q.1 b->b<w.heap.size:=λb U=>PO g2 W U
   have S8:iT L (cu G (aN q.1 0 st.ow)) w.heap:=λp hp=>⟨λh=>(S6 p hp).1 (fZ h),(S6 p hp).2⟩
   have hρ:LO (FM F G st.ow q.1) G (aN q.1 0 st.ow) w.heap (iL st.sl) a.eval:=λx=>pi z (eB g1 x)
   refine vg.wp ?_
   have I:=I Y q hq;have N:=N Y q hq z;have J:∀ {s':SV},(Ae C o.op (iL st.sl) st.ow).can (λs=>s=s')->(∃b:Nat->Bool,(qn C (Lh C o (iL st.sl) (aN q.1 0 st.ow)) o.op q (iL st.sl) (aN q.1 0 st.ow) (rm o)).outB (some b)=some (s',none))->vg C.P o a.eval w λv c=>K (a.put o.dst v) c:=by
    intro s' l ⟨b,U⟩;have O:=fC hC (op:=o) rfl g2 W S6 (eB g1) l;have conv:∀u c,(∃s,s=s'/\Tr F G st.ow w G st.ow c/\Sv F G st.ow c.heap s u)->K (a.put o.dst u) c:=by
     rintro u c ⟨s,rfl,ht,S⟩
     exact N b s none U _ _ (hI.op hE g1 g3 ht (cH S) V)
    rcases O with⟨u,c,n,t⟩|⟨c,n,t⟩|⟨f,args,n,t⟩
    ·exact .inl ⟨u,c,n,conv u c t⟩
    ·exact .inr (.inl ⟨c,n,conv undef c t⟩)
    ·exact .inr (.inr ⟨f,args,n,t.mono λe c ⟨u,q3,q4⟩=>⟨u,q3,conv u c q4⟩⟩)
   generalize A:qn C (Lh C o (iL st.sl) (aN q.1 0 st.ow)) o.op q (iL st.sl) (aN q.1 0 st.ow) (rm o)=M at I N J
   have no:M= .fail->False:=λe=>by
    subst e;obtain⟨x,hx⟩:=I λ_=>true
    cases hx
   obtain⟨Z,S0⟩:∃P:SV×Option (List Nat×OW)->Prop,P=λy=>∃b:Nat->Bool,M.outB (some b)=some y:=⟨_,rfl⟩
   have l:M.can Z:=by rw[S0];exact bc.outB_can _ I
   unfold qn at A;split at A
   ·rw[<-A]at l
    have O:=DR hC hm (op:=o) rfl (jY z g2) S7 S8 hρ (bc.can_bind _ l);have conv:∀ {Q:SV×OW->Prop},(∀s ow',Q (s,ow')->Dh q.1 ow'=true/\jP q.1 8 s=true/\Z (s,some (q.1,ow')))->∀u c,(∃s ow' G',Q (s,ow')/\Tr (FM F G st.ow q.1) G (aN q.1 0 st.ow) w G' ow' c/\Sv (FM F G st.ow q.1) G' ow' c.heap s u)->K (a.put o.dst u) c:=by
     rintro Q D u c ⟨s,ow',G',X,ht,S⟩
     obtain⟨c1,c2,c3⟩:=D _ _ X;rw[S0]at c3;obtain⟨b,U⟩:=c3;obtain⟨t1,t2⟩:=lS g2 W z ht c1;exact N b s (some (q.1,ow')) U _ _ (hI.op hE g1 g3 t1 (cH (t2 s u 8 c2 S)) V)
    have conv:=conv (Q:=λx=>bc.can (if Dh q.1 x.2&& jP q.1 8 x.1&& (!wa q||BT q.1 (rm o) (aN q.1 0 st.ow) x.2)&& (!rj q||vw q.1 (rm o) (aN q.1 0 st.ow) x.2)then bc.ret (x.1,some (q.1,x.2))else .fail) Z) λs ow' (D:bc.can (if Dh q.1 ow'&& jP q.1 8 s&& (!wa q||BT q.1 (rm o) (aN q.1 0 st.ow) ow')&& (!rj q||vw q.1 (rm o) (aN q.1 0 st.ow) ow')then bc.ret (s,some (q.1,ow'))else .fail) Z)=>by
     split at D
     ·rename_i m
      simp only[a0c]at m;exact⟨m.1.1.1,m.1.1.2,D⟩
     ·exact D.elim
    rcases O with⟨u,c,n,t⟩|⟨c,n,t⟩|⟨f,args,n,t⟩
    ·exact .inl ⟨u,c,n,conv u c t⟩
    ·exact .inr (.inl ⟨c,n,conv undef c t⟩)
    ·exact .inr (.inr ⟨f,args,n,t.mono λe c ⟨u,q3,q4⟩=>⟨u,q3,conv u c q4⟩⟩)
   ·split at A
    ·split at A
     ·rename_i s' hl
      split at A
      ·rename_i hh
       exact J (g9 (C:=C) (λd j ob h=>iW h) (wU hl hh)) ⟨λ_=>true,by rw[<-A];rfl⟩
      ·exact(no A.symm).elim
     ·exact(no A.symm).elim
    split at A
    ·split at A
     ·rename_i s' hl
      exact J (g9 (C:=C) (λd j ob h=>iW h) (uz hl)) ⟨λ_=>true,by rw[<-A];rfl⟩
     ·exact(no A.symm).elim
    split at A
    ·rename_i x hx
     exact J (Av hx) ⟨λ_=>true,by rw[<-A];rfl⟩
    ·split at A
     ·rename_i s' hl
      exact J (g9 (C:=C) (λd j ob h=>iW h) hl) ⟨λ_=>true,by rw[<-A];rfl⟩
     ·split at A
      ·rename_i Tj
       have S9:∀(b:Nat->Bool) s ow',M.outB (some b)=some (s,some ([rm o],ow'))->∃S1,cg (aN q.1 0 st.ow) (rm o) S1=some ow':=by
        intro b s ow' U;rw[<-A]at U;obtain⟨x,e1,_,e2⟩:=bc.outB_bind _ U;split at e2
        ·simp only[bc.outB,a0i,a0x,a9p]at e2
         obtain⟨S1,T⟩:=wY e1;rw[e2.2]at T;exact⟨S1,T⟩
        ·cases e2
       rw[<-A]at l;have O:=uq hC (op:=o) rfl (jY z g2) S7 S8 hρ (bc.can_bind _ l);have conv:∀ {Q:SV×OW->Prop},(∀s ow',Q (s,ow')->Dh q.1 ow'=true/\jP q.1 8 s=true/\q.1.contains (rm o)=true/\Z (s,some ([rm o],ow')))->∀u c,(∃s ow' G',Q (s,ow')/\Tr (FM F G st.ow q.1) G (aN q.1 0 st.ow) w G' ow' c/\Sv (FM F G st.ow q.1) G' ow' c.heap s u)->K (a.put o.dst u) c:=by
        rintro Q D u c ⟨s,ow',G',X,ht,S⟩
        obtain⟨c1,c2,c3,c4⟩:=D _ _ X;rw[S0]at c4;obtain⟨b,U⟩:=c4;obtain⟨S1,T⟩:=S9 b s ow' U;have Th:my st.ow (some ([rm o],ow'))=b8 q.1 0 st.ow ow':=AA T c3;obtain⟨t1,t2⟩:=lS g2 W z ht c1;have S2:R ⟨bm st.sl o.dst (dB (d9 g i) s),b8 q.1 0 st.ow ow'⟩ (a.put o.dst u) c:=hI.op hE g1 g3 t1 (cH (t2 s u 8 c2 S)) V;rw[<-Th]at S2;exact N b s (some ([rm o],ow')) U _ _ S2
       have conv:=conv (Q:=λx=>bc.can (if Dh q.1 x.2&& jP q.1 8 x.1&& q.1.contains (rm o)then bc.ret (x.1,some ([rm o],x.2))else .fail) Z) λs ow' (D:bc.can (if Dh q.1 ow'&& jP q.1 8 s&& q.1.contains (rm o)then bc.ret (s,some ([rm o],ow'))else .fail) Z)=>by
        split at D
        ·rename_i m
         simp only[a0c]at m;exact⟨m.1.1,m.1.2,m.2,D⟩
        ·exact D.elim
       rcases O with⟨u,c,n,t⟩|⟨c,n,t⟩|⟨f,args,n,t⟩
       ·exact .inl ⟨u,c,n,conv u c t⟩
       ·exact .inr (.inl ⟨c,n,conv undef c t⟩)
       ·exact .inr (.inr ⟨f,args,n,t.mono λe c ⟨u,q3,q4⟩=>⟨u,q3,conv u c q4⟩⟩)
      ·rw[<-A]at l
       have O:=fC hC (op:=o) rfl (jY z g2) S7 S8 hρ (bc.can_bind _ l);have conv:∀ {Q:SV->Prop},(∀s,Q s->Dh q.1 (aN q.1 0 st.ow)=true/\jP q.1 8 s=true/\Z (s,none))->∀u c,(∃s,Q s/\Tr (FM F G st.ow q.1) G (aN q.1 0 st.ow) w G (aN q.1 0 st.ow) c/\Sv (FM F G st.ow q.1) G (aN q.1 0 st.ow) c.heap s u)->K (a.put o.dst u) c:=by
        rintro Q D u c ⟨s,X,ht,S⟩
        obtain⟨c1,c2,c3⟩:=D _ X;rw[S0]at c3;obtain⟨b,U⟩:=c3;obtain⟨t1,t2⟩:=oD g2 W z ht c1;exact N b s none U _ _ (hI.op hE g1 g3 t1 (cH (t2 s u 8 c2 S)) V)
       have conv:=conv (Q:=λs=>bc.can (if Dh q.1 (aN q.1 0 st.ow)&& jP q.1 8 s then bc.ret (s,(none:Option (List Nat×OW)))else .fail) Z) λs (D:bc.can (if Dh q.1 (aN q.1 0 st.ow)&& jP q.1 8 s then bc.ret (s,(none:Option (List Nat×OW)))else .fail) Z)=>by
        split at D
        ·rename_i m
         simp only[a0c]at m;exact⟨m.1,m.2,D⟩
        ·exact D.elim
       rcases O with⟨u,c,n,t⟩|⟨c,n,t⟩|⟨f,args,n,t⟩
       ·exact .inl ⟨u,c,n,conv u c t⟩
       ·exact .inr (.inl ⟨c,n,conv undef c t⟩)
       ·exact .inr (.inr ⟨f,args,n,t.mono λe c ⟨u,q3,q4⟩=>⟨u,q3,conv u c q4⟩⟩)
 ·refine a5o (a5q _ _) (by simp)
 ·intro j hj
  exfalso;by_cases S4:j<g.size
  ·simp[Array.getD,S4]at hj
  ·simp[Array.getD,S4]at hj
 ·have:((List.range g.size).filter λi=> !(Array.replicate g.size false).getD i true)=List.range g.size:=by
   rw[a6b];intro i hi;have:=a2i.1 hi;simp[Array.getD,this]
  rw[this];exact S3
 ·exact⟨h.ex,⟨h.kept.size,h.kept.heap,h.kept.cells,h.kept.os,h.kept.output,h.kept.tape⟩,h.defers,h.args,h.size⟩
def IX (a:C.Holds L) (b:C.P.follows .mixedOrders=true):ph C L:=⟨FW a b,F0 a b,DR a b⟩
def iX (g:C.Holds L) (h:C.P.follows .mixedOrders=true) {f:FuncId} {fn:Func} (i:C.P.funcs[f]?=some fn) (b:(fn.name== "runtime.NumGoroutine")=false) (c:Fo) (args a:Sh) {den:args.T->Option (a.T×args.Out)} (e:∀x y,den x=some y->ko C c fn args a x=some y) (d:fn.body.isNone=false):au C.P L f ⟨args,a,den,c.al⟩:=Cb g (IX g h) i b c args a e d
end Go.Pev
namespace Go.Pev
variable {h:Array Obj} {ok:Nat->Prop} {P:Program} {L:List (Nat×Obj)} {f:FuncId} {v:Value} {fp:List Nat}
open Go Go.RowKit
def H0 (P:Program) (L:List (Nat×Obj)) (f:FuncId) (l:List jW):Prop:=∀a∈l,au P L f a
def bO:H0 P L f []:=λ_ h=>by cases h
def bE {a:jW} {l:List jW} (h:au P L f a) (b:H0 P L f l):H0 P L f (a::l):=λs hs=>by
 rcases a1e.1 hs with rfl|hs
 ·exact h
 ·exact b s hs
def ae {k:Nat} {a:List (Nat×Sh)} {b:List (FuncId×List (Nat×HJ))}:gw.Holds ⟨P,[],k,a,b⟩ L:=λf c h=>by simp[gw.sigsOf]at h
def bF {k:Nat} {l:List jW} {r:List (FuncId×List jW)} {b:List (Nat×Sh)} {c:List (FuncId×List (Nat×HJ))} (h:H0 P L f l) (i:gw.Holds ⟨P,r,k,b,c⟩ L):gw.Holds ⟨P,(f,l)::r,k,b,c⟩ L:=λg d a=>by
 unfold gw.sigsOf at a;simp only[List.find?_cons]at a;by_cases e:f=g
 ·subst e
  simp only[a5h]at a;exact h d a
 ·have:(f==g)=false:=by simpa using e
  rw[this]at a;exact i g d a
def oF {fn:Func} {A R:Sh} {b:(A.T->Option (R.T×A.Out))->A.T->Option (R.T×A.Out)} {al:List (Nat×Nat×Nat×List Nat)} (d:P.funcs[f]?=some fn) (a:(fn.name== "runtime.NumGoroutine")=false) (c:fn.body.isNone=false):au P L f ⟨A,R,aP b 0,al⟩:=⟨⟨fn,d,a,c⟩,λ_ _ _ _ _ _ _ _ _ _ _ h=>by cases h⟩
def lU {k:Kd} {b:Sh} {x:Sh.T (.cons (.pur k) b)} {vs:List Value} (e:cA h ok (.cons (.pur k) b) x vs fp):∃v r,vs=v::r/\oc h ok k x.1 v/\cA h ok b x.2 r fp:=by
 obtain⟨v,r,f1,f2,rfl,rfl,⟨f,a,rfl,c⟩,d⟩:=e
 cases a
 exact⟨v,r,rfl,c,d⟩
def pm {x:Sh.T .nil} {vs:List Value} (e:cA h ok .nil x vs fp):vs=[]/\fp=[]:=e
def oG {k:Kd} {b:Sh} {x:Sh.T (.cons (.pur k) b)} {r:List Value} (a:oc h ok k x.1 v) (c:cA h ok b x.2 r fp):cA h ok (.cons (.pur k) b) x (v::r) fp:=⟨v,r,[],fp,rfl,rfl,⟨v,rfl,rfl,a⟩,c⟩
def s7 {c:Value} (h:v.oneCell'=true) (a:v.cells.toList=[c]):v=c:=by
 rw[ij h]at a;simpa using a
def rK {k:IntKind} {n:Int} (e:oc h ok (.int k) n v):v= .int k n:=s7 (e.2.2 rfl) e.1
def L3 {s:List UInt8} (e:oc h ok .str s v):v= .string ⟨s.toArray⟩:=s7 (e.2.2 rfl) e.1
def IY {b:Bool} (e:oc h ok .bool b v):v= .bool b:=s7 (e.2.2 rfl) e.1
def uA {k:IntKind} {n:Int}:oc h ok (.int k) n (.int k n):=⟨rfl,(λh=>by cases h),λ_=>rfl⟩
def zt:List Kd->Sh
 |[]=> .nil
 |k::r=> .cons (.pur k) (zt r)
def AB {h c:Array Obj} {ok ok':Nat->Prop}:(s:Sh)->aL s=true-> {x:s.T}-> {o:s.Out}-> {vs:List Value}-> {a:List Nat}->cA h ok s x vs a->gx c ok' s o vs []
 | .nil,_,_,_,vs,a,e=>⟨e.1,rfl⟩
 | .cons (.pur k) b,hs,x,o,vs,a,e=>by
  obtain⟨v,r,f1,f2,rfl,_,⟨_,f,_,_⟩,d⟩:=e;exact⟨v,r,[],[],rfl,rfl,.inl ⟨rfl,rfl⟩,AB b (by simpa [aL]using hs) d⟩
 | .cons (.own _) _,hs,_,_,_,_,_=>by simp[aL]at hs
 | .cons (.row _) _,hs,_,_,_,_,_=>by simp[aL]at hs
 | .cons (.nrw _) _,hs,_,_,_,_,_=>by simp[aL]at hs
 | .cons (.box _) _,hs,_,_,_,_,_=>by simp[aL]at hs
 | .cons (.agg _) _,hs,_,_,_,_,_=>by simp[aL]at hs
 | .cons (.fn _ _ _) _,hs,_,_,_,_,_=>by simp[aL]at hs
 | .cons .ign _,hs,_,_,_,_,_=>by simp[aL]at hs
 | .cons .nl _,hs,_,_,_,_,_=>by simp[aL]at hs
 | .cons .nil _,hs,_,_,_,_,_=>by simp[aL]at hs
 | .cons (.cons _ _) _,hs,_,_,_,_,_=>by simp[aL]at hs
 | .pur _,hs,_,_,_,_,_=>by simp[aL]at hs
 | .own _,hs,_,_,_,_,_=>by simp[aL]at hs
 | .row _,hs,_,_,_,_,_=>by simp[aL]at hs
 | .nrw _,hs,_,_,_,_,_=>by simp[aL]at hs
 | .box _,hs,_,_,_,_,_=>by simp[aL]at hs
 | .agg _,hs,_,_,_,_,_=>by simp[aL]at hs
 | .fn _ _ _,hs,_,_,_,_,_=>by simp[aL]at hs
 | .ign,hs,_,_,_,_,_=>by simp[aL]at hs
 | .nl,hs,_,_,_,_,_=>by simp[aL]at hs
def H1 {fn:Func} {A R:Sh} {den:A.T->Option (R.T×A.Out)} (q:P.funcs[f]?=some fn) (a:(fn.name== "runtime.NumGoroutine")=false) (c:fn.body.isNone=false) (o:aL A=true) (s:∀(w:World) (x:A.T) (vs:List Value) (y:R.T×A.Out) (F:Nat->Prop),(∀b,F b->b<w.heap.size)->iT L (λ_=>False) w.heap->cA w.heap (λb=>¬F b) A x vs []->den x=some y->Calls P f vs.toArray w λe l=>∃m d,e= .returned (FN m)/\cA l.heap (λb=>¬FP F d b) R y.1 m d/\d.Nodup/\(∀b∈d,w.heap.size<=b)/\eX (λ_=>False) w l):au P L f ⟨A,R,den,[]⟩:=by
 refine⟨⟨fn,q,a,c⟩,λw F x vs d y t u _ _ g v _=> ?_⟩;obtain⟨rfl,_⟩:=lR A o g;have j:cA w.heap (λb=>¬F b) A x vs []:=cA.mono (λb r k z=>⟨λh=>k (.inl h),z⟩) _ (λ_ _=>rfl) g;refine(s w x vs y F t (λp B=>⟨λh=>h,(u p B).2⟩) j v).mono λe l ⟨m,d,C,D,E,G,i⟩=> ?_
 have n:eX (·∈([]:List Nat)) w l:=⟨i.size,λb k _=>i.heap b k (λh=>h),i.cells,i.os,i.output,i.tape⟩;refine⟨m,d,[],C,by simpa using D,?_,by simpa using E,λb k=> .inr (G b (by simpa using k)),n⟩;exact AB A o g
def IZ (w:World):eX (λ_=>False) w w:= .refl _ _
def F3 {w a:World} (h:eX (λ_=>False) w a):Below w.heap.size w a:=⟨h.os,h.tape,h.output,h.size,λk b=>h.heap k b λh=>h⟩
end Go.Pev
namespace Go.Pev
variable {w:World} {v:Value}
open Go Go.RowKit
def Kd.WF:(k:Kd)->k.T->Prop
 | .int k,n=>k.min<=n/\n<=k.max
 | .str,s=>s.length<=140737488351232
 | .sl _ e,l=>l.length<=140737488351232/\∀x∈l,e.WF x
 | .cons a b,x=>a.WF x.1/\b.WF x.2
 |_,_=>True
section
variable {P:Program}
def DS (P:Program) (a:TypeId->Option Kd) (ok:TypeId->Bool):List Field->Nat->Nat->Bool
 |[],off,n=>off==n
 |x::r,off,n=>ok x.type&& x.offset==off&& (match a x.type with|some k=>k.ch.n==P.cellsOf x.type&& k.ch.leafy&& DS P a ok r (off+P.cellsOf x.type) n|none=>false)
def DT (P:Program):Nat->TypeId->Bool
 |0,_=>false
 |f+1,t=>
  match ee P t with
  |some (.int _)|some .bool|some .string=>true
  |some (.slice e)=>(match lp P f e with|some k=>k.n==P.cellsOf e&& decide (0<k.n)&& decide (0<P.bytesOf e)&& DT P f e|none=>false)
  |some (.struct fs)=>DS P (lp P f) (DT P f) fs.toList 0 (P.cellsOf t)
  |_=>false
def cG.ch {h:Array Obj} {ok:Nat->Prop}:(k:Kd)-> {x:k.T}-> {cs:List Value}->cG h ok k x cs->cG h ok k.ch (P2 k x) cs
 | .int _,_,cs,e=>⟨cs,[],by simp,e,rfl⟩
 | .bool,_,cs,e=>⟨cs,[],by simp,e,rfl⟩
 | .str,_,cs,e=>⟨cs,[],by simp,e,rfl⟩
 | .err,_,cs,e=>⟨cs,[],by simp,e,rfl⟩
 | .any,_,cs,e=>⟨cs,[],by simp,e,rfl⟩
 | .sl _ _,_,cs,e=>⟨cs,[],by simp,e,rfl⟩
 | .nil,_,_,e=>e
 | .cons _ _,_,_,e=>e
 | .tree _,_,cs,e=>⟨cs,[],by simp,e,rfl⟩
def Kd.WF.ch:(k:Kd)-> {x:k.T}->k.WF x->k.ch.WF (P2 k x)
 | .int _,_,e=>⟨e,trivial⟩
 | .bool,_,e=>⟨e,trivial⟩
 | .str,_,e=>⟨e,trivial⟩
 | .err,_,e=>⟨e,trivial⟩
 | .any,_,e=>⟨e,trivial⟩
 | .sl _ _,_,e=>⟨e,trivial⟩
 | .nil,_,e=>e
 | .cons _ _,_,e=>e
 | .tree _,_,e=>⟨e,trivial⟩
def cG.app {h:Array Obj} {ok:Nat->Prop}:(a:Kd)->a.leafy=true-> {b:Kd}-> {x:a.T}-> {y:b.T}-> {c1 c2:List Value}->cG h ok a x c1->cG h ok b y c2->a.WF x->b.WF y->∃z:(a.app b).T,cG h ok (a.app b) z (c1++c2)/\(a.app b).WF z
 | .nil,_,b,x,y,c1,c2,c,e2,w1,w2=>by
  have c:c1=[]:=c;subst c;exact⟨y,e2,w2⟩
 | .cons a r,hl,b,x,y,c1,c2,c,e2,w1,w2=>by
  simp only[Kd.leafy,a0c]at hl;obtain⟨d,e,rfl,f,g⟩:=c;obtain⟨z,i,j⟩:=cG.app r hl.2 g e2 w1.2 w2;exact⟨(x.1,z),⟨d,e++c2,by simp,f,i⟩,w1.1,j⟩
 | .int _,hl,_,_,_,_,_,_,_,_,_=>by cases hl
 | .bool,hl,_,_,_,_,_,_,_,_,_=>by cases hl
 | .str,hl,_,_,_,_,_,_,_,_,_=>by cases hl
 | .err,hl,_,_,_,_,_,_,_,_,_=>by cases hl
 | .any,hl,_,_,_,_,_,_,_,_,_=>by cases hl
 | .sl _ _,hl,_,_,_,_,_,_,_,_,_=>by cases hl
 | .tree _,hl,_,_,_,_,_,_,_,_,_=>by cases hl
def wZ {α β:Type} {g:α->Option β}: {l:List α}-> {r:List β}->l.mapM g=some r->r.length=l.length/\∀i (c:i<l.length) (d:i<r.length),g l[i]=some r[i]
 |[],r,h=>by cases h;exact⟨rfl,λi h=>by simp at h⟩
 |a::l,r,h=>by
  simp only[a7r,Option.bind_eq_bind,a1y,Option.pure_def,a0i]at h;obtain⟨b,e,m,f,rfl⟩:=h;obtain⟨c,d⟩:=wZ f;refine⟨by simp[c],λi j k=> ?_⟩
  cases i with
  |zero=>exact e
  |succ i=>exact d i (by simpa using j) (by simpa using k)
def oH {H:Type} {e:TypeId}: {l:List (DataW H)}-> {d:DataW H}->d∈l-> {q:Nat->Bool}->(DataW.weightsAll P e l).all q=true->(d.weights P e).all q=true
 |a::l,d,hd,q,h=>by
  simp only[DataW.weightsAll,a5r,a0c]at h;rcases a1e.1 hd with rfl|hd
  ·exact h.1
  ·exact oH hd h.2
def AC {a:Addr} (h:w.cell? a=some v):a.spot=none/\∃r,am w.heap a.block=some r/\r[a.off]?=some v:=by
 unfold World.cell? at h;split at h
 ·rename_i c t f b
  split at h
  ·cases h
  ·rename_i d
   refine⟨by simpa using d,c,by unfold am;rw[b],h⟩
 ·cases h
def I0 {b o n:Nat} {vs:List Value} {r:Array Value} (j:am w.heap b=some r) (h:w.cells? 0 ⟨b,o,none⟩ n=some vs):vs=bY r o n/\o+n<=r.size\/n=0/\vs=[]:=by
 unfold World.cells? at h;rw[a0b (a5c _)]at h;obtain⟨e,k⟩:=wZ h;simp only[a6r]at e;by_cases l:n=0
 ·subst l
  right;exact⟨rfl,a0s e⟩
 left;have a:∀i,i<n->r[o+i]?=vs[i]?:=by
  intro i hi;have f:i<vs.length:=by omega
  have:=k i (by simpa using hi) f;simp only[List.getElem_range]at this;obtain⟨_,q,c,g⟩:=AC this;have m:(Addr.add ⟨b,o,none⟩ i).block=b:=by unfold Addr.add;split<;>rfl
  have p:(Addr.add ⟨b,o,none⟩ i).off=o+i:=by unfold Addr.add;split<;>simp_all
  rw[m,j]at c
  cases c
  rw[p]at g;rw[g,a0a f]
 have d:o+n<=r.size:=by
  have:=a (n-1) (by omega);rw[a0a (show n-1<vs.length by omega)]at this;have:=(a1c.1 this).1;omega
 refine⟨?_,d⟩;apply a2e;intro i;unfold bY;rw[a4f,a2x];by_cases hi:i<n
 ·rw[a0b hi,<-a i hi];simp
 ·rw[a0e hi,a0w (by omega)]
def w7 {H:Type} {enc:TypeId×Value->H} {w:World} {B:Nat->Bool} {K:Bool}:(fuel f:Nat)-> {t:TypeId}-> {cs:List Value}-> {d:DataW H}-> {ps:List MemPlace}-> {k:Kd}->DataW.trod enc P w 0 B K fuel t cs=some (d,ps)->lp P f t=some k->DT P f t=true->(d.weights P t).all (·<=reachBytes)=true->∃x:k.T,cG w.heap (λ_=>True) k x cs/\k.WF x
 |0,_,_,_,_,_,_,h,_,_,_=>by simp[DataW.trod]at h
 |_+1,0,_,_,_,_,_,_,hk,_,_=>by simp[lp]at hk
 |fuel+1,f+1,t,cs,d,ps,k,h,hk,ho,hw=>by
  simp only[lp,DT,ee]at hk ho
  cases hu:P.underlying t with
  |none=>rw[hu]at hk;cases hk
  |some td=>
   rw[hu]at hk ho
   cases td with
   |bool=>
    simp only[a0i]at hk;subst hk;obtain⟨b,rfl,_⟩:=DataW.trod_bool hu h;exact⟨b,rfl,trivial⟩
   |int kk=>
    simp only[a0i]at hk;subst hk;obtain⟨n,rfl,_,X⟩:=DataW.trod_int hu h;refine⟨n,rfl,?_⟩;simpa [Lit.wf,Kd.WF]using X
   |string=>
    simp only[a0i]at hk;subst hk;obtain⟨s,rfl,L,_⟩:=DataW.trod_string hu h
    cases L
    refine⟨s.data.toList,rfl,?_⟩;simp only[DataW.weights,a6f,List.all_nil,a7c,a0q]at hw;exact hw
   |slice e=>
    cases he:lp P f e with
    |none=>simp[he]at hk
    |some ke=>
     simp only[he,a0i]at hk;subst hk;simp only[he,a0c,a3f,a0q]at ho;obtain⟨⟨⟨hn,S6⟩,Y⟩,Z⟩:=ho;rcases DataW.trod_slice hu h with⟨rfl,_⟩|⟨a,len,M,c,rest,n,C,rfl,L,_,S8,_,S9,m,_,_⟩
     ·exact⟨[],⟨none,0,rfl,a1n _,.inl rfl⟩,by simp,λx N=>by simp at N⟩
     ·cases C
      cases L
      simp only[DataW.weights,hu,a6f,a5r,a0c,a0q,a2u]at hw;obtain⟨S0,j,_⟩:=hw;have S7:len<=140737488351232:=by
       have:c.length+rest.length<=(c.length+rest.length)*P.bytesOf e:=a4i _ Y;unfold reachBytes at S0;omega
      cases len with
      |zero=>exact⟨[],⟨some a,M,rfl,a5c _,.inl rfl⟩,by simp,λx N=>by simp at N⟩
      |succ len=>
       have v:∀i,i<len+1->∃vs x,w.cells? 0 (a.add (i*P.cellsOf e)) (P.cellsOf e)=some vs/\cG w.heap (λ_=>True) ke x vs/\ke.WF x:=by
        intro i hi;have D:=m i hi;rw[a0a (show i<c.length by omega)]at D;obtain⟨vs,O,I⟩:=a1y.1 D;obtain⟨x,E,h5⟩:=w7 fuel f (d:=c[i].1) (ps:=c[i].2) I he Z (oH (a2y.2 ⟨c[i],a0l _,rfl⟩) j);exact⟨vs,x,O,E,h5⟩
       obtain⟨b,o,sp⟩:=a;obtain⟨Ta,_,F,_,_⟩:=v 0 (by omega);have S1:sp=none/\∃r,am w.heap b=some r:=by
        unfold World.cells? at F;rw[a0b (a5c _)]at F;obtain⟨D,O⟩:=wZ F;have:=O 0 (by simp;omega) (by rw[D];simp;omega);obtain⟨I,r,E,_⟩:=AC this;simp[Addr.add]at I E;exact⟨I,r,E⟩
       obtain⟨rfl,r,W⟩:=S1;have Q:∀i,Addr.add ⟨b,o,none⟩ i=⟨b,o+i,none⟩:=λi=>by unfold Addr.add;split<;>simp_all
       have p:∀i:Fin (len+1),∃x,cG w.heap (λ_=>True) ke x (bY r (o+i.1*ke.n) ke.n)/\ke.WF x/\o+i.1*ke.n+ke.n<=r.size:=by
        intro i;obtain⟨vs,x,D,O,I⟩:=v i.1 i.2;rw[Q,<-hn]at D;rcases I0 W D with⟨rfl,E⟩|⟨E,_⟩
        ·exact⟨x,O,I,E⟩
        ·omega
       refine⟨List.ofFn λi=>(p i).choose,⟨some ⟨b,o,none⟩,M,by simp,by simp;omega,.inr ⟨b,o,r,rfl,trivial,W,?_,λi hi=> ?_⟩⟩,by simp;omega,λx N=> ?_⟩
       ·have:=(p ⟨len,by omega⟩).choose_spec.2.2
        simp only[List.length_ofFn];rw[a6u];simp only at this;omega
       ·simp only[List.length_ofFn]at hi
        simp only[List.getElem_ofFn];exact(p ⟨i,hi⟩).choose_spec.1
       ·obtain⟨i,rfl⟩:=List.mem_ofFn.1 N
        exact(p i).choose_spec.2.1
   |struct fs=>
    obtain⟨xs,n,C,L,Tb,Tc,m⟩:=DataW.trod_struct hu h
    cases C
    cases L
    simp only[DataW.weights,hu]at hw;simp only at hk ho;have S2:∀(l:List Field) (i off:Nat) (J:Kd),fs.toList.drop i=l->l.foldr (λx S3=>match lp P f x.type,S3 with|some k,some r=>some (k.ch.app r)|_,_=>none) (some .nil)=some J->DS P (lp P f) (DT P f) l off (P.cellsOf t)=true->(DataW.weightsEach P (l.map (·.type)) ((xs.map (·.1)).drop i)).all (·<=reachBytes)=true->∃y:J.T,cG w.heap (λ_=>True) J y (cs.drop off)/\J.WF y:=by
     intro l
     induction l with
     |nil=>
      intro i off J _ g q _;simp only[List.foldr_nil,a0i]at g;subst g;simp only[DS,a3f]at q;refine⟨(),?_,trivial⟩;show cs.drop off=[];exact List.drop_eq_nil_of_le (by omega)
     |cons fd l ih=>
      intro i off J hl g q j;simp only[List.foldr_cons]at g
      cases hk1:lp P f fd.type with
      |none=>rw[hk1]at g;simp at g
      |some k1=>
       rw[hk1]at g;split at g
       ·rename_i Td r R W
        cases R
        cases g
        simp only[DS,hk1,a0c,a3f]at q;obtain⟨⟨S,U⟩,⟨Te,S4⟩,G⟩:=q;have hi:fs.toList[i]?=some fd:=by
         have:=a1x (λz=>z[0]?) hl;simpa [a2x]using this
        have A:i<xs.length:=by
         have:=(a0p.1 hi).1;simp at this;omega
        have V:=m i fd (by simpa using hi);rw[a0a A,U]at V;have S5:(xs.map (·.1)).drop i=xs[i].1::(xs.map (·.1)).drop (i+1):=by
         rw[a1b (by simpa using A)];simp
        rw[S5]at j;simp only[a2f,DataW.weightsEach,a5r,a0c]at j;obtain⟨x,e1,w1⟩:=w7 fuel f (d:=xs[i].1) (ps:=xs[i].2) V hk1 S j.1;obtain⟨y,e2,w2⟩:=ih (i+1) (off+P.cellsOf fd.type) r (by
         have:=a1x List.tail hl;simpa using this) W G j.2
        obtain⟨z,e3,w3⟩:=cG.app k1.ch S4 e1.ch e2 w1.ch w2;refine⟨z,?_,w3⟩;have u:(cs.drop off).take (P.cellsOf fd.type)++cs.drop (off+P.cellsOf fd.type)=cs.drop off:=by
         rw[<-a4k,a3r]
        rw[u]at e3;exact e3
       ·cases g
    obtain⟨y,e1,w1⟩:=S2 fs.toList 0 0 k (by simp) hk ho (by simpa using hw);exact⟨y,by simpa using e1,w1⟩
   |interface ms=>simp at ho
   |_=>simp at hk
def Rd:(l:List Kd)->(zt l).T->Prop
 |[],_=>True
 |k::r,x=>k.WF x.1/\Rd r x.2
def H2 (P:Program) (t:TypeId) (k:Kd):Bool:=(match lp P 16 t with|some k'=>decide (k'=k)|none=>false)&& DT P 16 t&& (!k.isSt||k.leafy)
def L4:(a:Kd)-> {b:Kd}->b.isSt=true->(a.app b).isSt=true
 | .cons _ _,_,_=>rfl
 | .nil,_,h=>h
 | .int _,_,h=>h
 | .bool,_,h=>h
 | .str,_,h=>h
 | .err,_,h=>h
 | .any,_,h=>h
 | .sl _ _,_,h=>h
 | .tree _,_,h=>h
def L5 {f:Nat} {g:Nat} {t:TypeId} {b:Kd} {x:b.T} (a:lp P (f+1) t=some b) (m:DT P (f+1) t=true) (p:(!b.isSt||b.leafy)=true) (c:cG w.heap (λ_=>True) b x v.cells.toList) (d:Value.okWide P w .any g t v):oc w.heap (λ_=>True) b x v:=by
 simp only[lp,DT,ee]at a m
 cases hu:P.underlying t with
 |none=>rw[hu]at a;cases a
 |some td=>
  rw[hu]at a m;simp only[Value.okWide,hu]at d
  cases td with
  |bool=>
   simp only[a0i]at a;subst a;exact⟨c,(λh=>by cases h),λ_=>by simp only[Cell.okWide,hu]at d;cases v<;>simp_all[Cell.ok,Value.oneCell']⟩
  |int kk=>
   simp only[a0i]at a;subst a;exact⟨c,(λh=>by cases h),λ_=>by simp only[Cell.okWide,hu]at d;cases v<;>simp_all[Cell.ok,Value.oneCell']⟩
  |string=>
   simp only[a0i]at a;subst a;exact⟨c,(λh=>by cases h),λ_=>by simp only[Cell.okWide,hu]at d;cases v<;>simp_all[Cell.ok,Value.oneCell']⟩
  |slice e=>
   cases he:lp P f e with
   |none=>simp[he]at a
   |some ke=>
    simp only[he,a0i]at a;subst a;exact⟨c,(λh=>by cases h),λ_=>by simp only[Cell.okWide,hu]at d;cases v<;>simp_all[Cell.ok,Value.oneCell']⟩
  |struct fs=>
   obtain⟨cs,rfl,_⟩:=d;have i:b.isSt=true:=by
    have n:∀(l:List Field) (j:Kd),l.foldr (λx o=>match lp P f x.type,o with|some k,some r=>some (k.ch.app r)|_,_=>none) (some .nil)=some j->j.isSt=true:=by
     intro l
     induction l with
     |nil=>intro j h;cases h;rfl
     |cons fd l ih=>
      intro j h;simp only[List.foldr_cons]at h;split at h
      ·rename_i q r _ c
       cases h
       exact L4 _ (ih r c)
      ·cases h
    exact n fs.toList b a
   refine⟨c,λ_=>⟨⟨cs,rfl⟩,?_⟩,λh=> ?_⟩
   ·simpa [i]using p
   ·rw[i]at h;cases h
  |interface ms=>simp at m
  |_=>simp at a
def OF {a:Nat} {t:TypeId} {k:Kd} {x:k.T} (c:H2 P t k=true) (d:cG w.heap (λ_=>True) k x v.cells.toList) (e:Value.okWide P w .any a t v):oc w.heap (λ_=>True) k x v:=by
 simp only[H2,a0c]at c;obtain⟨⟨b,g⟩,h⟩:=c
 cases hk1:lp P 16 t with
 |none=>rw[hk1]at b;cases b
 |some k'=>
  rw[hk1]at b;obtain rfl:=a0z b;exact L5 (f:=15) hk1 g h d e
def DU {H:Type} {enc:TypeId×Value->H} {w:World} {c:Nat}:(ts:List TypeId)->(ks:List Kd)-> {vs:List Value}-> {b:List (DataW H)}-> {ps:List MemPlace}->DataW.TrodAll enc P w 0 (λ_=>true) true ts vs b ps->
 ts.length=ks.length->(ts.zip ks).all (λp=>H2 P p.1 p.2)=true->(∀(j:Nat) t v,ts[j]?=some t->vs[j]?=some v->Value.okWide P w .any c t v)->(DataW.weightsEach P ts b).all (·<=reachBytes)=true->
 ∃x:(zt ks).T,cA w.heap (λ_=>True) (zt ks) x vs []/\Rd ks x
 |[],ks,vs,b,ps,h,hl,_,_,_=>by
  cases ks with
  |cons _ _=>simp at hl
  |nil=>
   cases vs with
   |nil=>exact⟨(),⟨rfl,rfl⟩,trivial⟩
   |cons _ _=>cases b<;>exact h.elim
 |t::ts,ks,vs,b,ps,h,hl,hk,hv,hw=>by
  cases ks with
  |nil=>simp at hl
  |cons k ks=>
   cases vs with
   |nil=>cases b<;>exact h.elim
   |cons v vs=>
    cases b with
    |nil=>exact h.elim
    |cons d b=>
     obtain⟨p,q,⟨e,l⟩,m,_⟩:=h;simp only[List.zip_cons_cons,a6f,a0c]at hk;simp only[DataW.weightsEach,a5r,a0c]at hw;have i:=hk.1;simp only[H2,a0c]at i;obtain⟨⟨a,f⟩,_⟩:=i
     cases hk3:lp P 16 t with
     |none=>rw[hk3]at a;cases a
     |some k'=>
      rw[hk3]at a;obtain rfl:=a0z a;obtain⟨x,n,w1⟩:=w7 e 16 l hk3 f hw.1;obtain⟨y,o,r⟩:=DU ts ks m (by simpa using hl) hk.2 (λj t v s g=>hv (j+1) t v s g) hw.2;exact⟨(x,y),oG (OF hk.1 n (hv 0 t v rfl rfl)) o,w1,r⟩
def I1 {L:List (Nat×Obj)} {f:FuncId} {ks:List Kd} {den:Nat->(zt ks).T->Option ((Bool×Unit)×(zt ks).Out)} (j:∀k,au P L f ⟨zt ks,.cons (.pur .bool) .nil,den k,[]⟩)
 (c:∀x,Rd ks x->∃k o,den k x=some ((true,()),o)) (l:iT L (λ_=>False) w.heap) {vs:List Value} {x:(zt ks).T} (m:cA w.heap (λ_=>True) (zt ks) x vs []) (n:Rd ks x):
 Calls P f vs.toArray w λe i=>e= .returned (.bool true)/\Below w.heap.size w i:=by
 obtain⟨k,o,q⟩:=c x n;have d:cA w.heap (λb=>¬FP (λ_=>False) [] b) (zt ks) x vs []:=cA.mono (λb r _ g=>⟨λh=>by rcases h with h|h;exact h;simp at h,g⟩) _ (λ_ _=>rfl) m;refine((j k).2 w (λ_=>False) x vs [] _ (λ_ h=>h.elim) (λp s=>⟨λh=>by simp at h,(l p s).2⟩) a2h (λ_ h=>by simp at h) d q Lg.nil).mono λe i ⟨A,fp1,t,u,g,_,_,_,a⟩=> ?_
 obtain⟨v,r,rfl,p,y⟩:=lU g;obtain⟨rfl,_⟩:=pm y;obtain rfl:=IY p;refine⟨u,F3 ⟨a.size,λb z _=>a.heap b z (λh=>by simp at h),a.cells,a.os,a.output,a.tape⟩⟩
def rL {H:Type} {enc:TypeId×Value->H} {w e:World} (f:laidOutB P=true) (g:Below w.heap.size w e):(ts:List TypeId)->ts.all (λt=>P.readableRec t&& decide (t<P.types.size))=true-> {vs:List Value}-> {a:List (DataW H)}-> {ps:List MemPlace}->DataW.TrodAll enc P w 0 (λ_=>true) true ts vs a ps->DataW.TrodAll enc P e 0 (λb=>decide (b<w.heap.size)) true ts vs a ps
 |[],_,vs,a,ps,h=>by
  cases vs<;>cases a<;>first|exact h|exact h.elim
 |t::ts,ht,vs,a,ps,h=>by
  cases vs with
  |nil=>cases a<;>exact h.elim
  |cons v vs=>
   cases a with
   |nil=>exact h.elim
   |cons d a=>
    simp only[a6f,a0c,a0q]at ht;obtain⟨p,q,i,j,rfl⟩:=h;have c:∀x∈p,x.block<w.heap.size:=by
     obtain⟨m,k⟩:=i;exact DataW.trod_lt m _ _ _ k
    exact⟨p,q,Below.trod f ht.1.1 ht.1.2 i g c,rL f g ts ht.2 j,rfl⟩
def uB {H:Type} {enc:TypeId×Value->H} {w:World} {b:Nat} {e:Nat->Bool} {c:Bool}:(ts:List TypeId)-> {vs:List Value}-> {a:List (DataW H)}-> {ps:List MemPlace}->DataW.TrodAll enc P w b e c ts vs a ps->a.length=ts.length
 |[],vs,a,ps,h=>by cases vs<;>cases a<;>first|rfl|exact h.elim
 |t::ts,vs,a,ps,h=>by
  cases vs with
  |nil=>cases a<;>exact h.elim
  |cons v vs=>
   cases a with
   |nil=>exact h.elim
   |cons d a=>
    obtain⟨p,q,_,f,_⟩:=h;simp[uB ts f]
def L6 {α:Type} {l:List α} (h:l.length=1):∃a,l=[a]:=by
 match l,h with
 |[a],_=>exact⟨a,rfl⟩
def iT.append {L a:List (Nat×Obj)} {I:Nat->Prop} {h:Array Obj} (b:iT L I h) (c:iT a I h):iT (L++a) I h:=λp hp=>by
 rcases a0k.1 hp with hp|hp
 ·exact b p hp
 ·exact c p hp
def iT.nil {I:Nat->Prop} {h:Array Obj}:iT [] I h:=λ_ a=>by cases a
def OG {a:String} {cs:Array Value} {g:Nat} (b:P.globalNamed a=some g) (h:w.var? P a=some cs):∃t fr,w.heap[g]?=some (.cells cs t fr):=by
 unfold World.var? at h;rw[b]at h;simp only[a0d]at h;split at h
 ·rename_i c t fr d
  cases h
  exact⟨t,fr,d⟩
 ·cases h
end
end Go.Pev
namespace Go.Proofs
open Go.Shelf
def Tryz.lays157_ren:Go.Shelf.Ren:=⟨λ|157=>272|229=>326|199=>327|261=>371|311=>405|312=>406|n=>n,λ|9=>9|31=>24|3=>3|5=>5|4=>4|119=>372|0=>0|40=>374|152=>401|21=>21|154=>403|51=>404|141=>406|196=>438|193=>435|198=>441|49=>439|194=>436|201=>444|226=>457|46=>94|227=>458|n=>n,λ|0=>0|6=>1|n=>n⟩
def Tryz.lays157:Go.Proofs.Lays.n157 Tryz.prog Tryz.lays157_ren:= {
 mixed:=by kernel_rfl
 f157:=Tryz.func272.trans (a1x some (by kernel_rfl))
 f199:=Tryz.func327.trans (a1x some (by kernel_rfl))
 f229:=Tryz.func326.trans (a1x some (by kernel_rfl))
 f261:=Tryz.func371.trans (a1x some (by kernel_rfl))
 f311:=Tryz.func405.trans (a1x some (by kernel_rfl))
 f312:=Tryz.func406.trans (a1x some (by kernel_rfl))
 t0:=Tryz.underlying0
 a0:=Tryz.isAgg0
 z0:=Tryz.sizeOf0
 v0:=Tryz.zeroValue0
 t3:=Tryz.underlying3
 a3:=Tryz.isAgg3
 z3:=Tryz.sizeOf3
 v3:=Tryz.zeroValue3
 t4:=Tryz.underlying4
 a4:=Tryz.isAgg4
 z4:=Tryz.sizeOf4
 v4:=Tryz.zeroValue4
 t5:=Tryz.underlying5
 a5:=Tryz.isAgg5
 z5:=Tryz.sizeOf5
 v5:=Tryz.zeroValue5
 t9:=Tryz.underlying9
 a9:=Tryz.isAgg9
 z9:=Tryz.sizeOf9
 v9:=Tryz.zeroValue9
 t21:=Tryz.underlying21
 a21:=Tryz.isAgg21
 z21:=Tryz.sizeOf21
 v21:=Tryz.zeroValue21
 t31:=Tryz.underlying24
 a31:=Tryz.isAgg24
 z31:=Tryz.sizeOf24
 v31:=Tryz.zeroValue24
 t40:=Tryz.underlying374
 a40:=Tryz.isAgg374
 z40:=Tryz.sizeOf374
 v40:=Tryz.zeroValue374
 t46:=Tryz.underlying94
 a46:=Tryz.isAgg94
 z46:=Tryz.sizeOf94
 v46:=Tryz.zeroValue94
 t49:=Tryz.underlying439
 a49:=Tryz.isAgg439
 z49:=Tryz.sizeOf439
 v49:=Tryz.zeroValue439
 t51:=Tryz.underlying404
 a51:=Tryz.isAgg404
 z51:=Tryz.sizeOf404
 v51:=Tryz.zeroValue404
 t119:=Tryz.underlying372
 a119:=Tryz.isAgg372
 z119:=Tryz.sizeOf372
 t141:=Tryz.underlying406
 a141:=Tryz.isAgg406
 z141:=Tryz.sizeOf406
 v141:=Tryz.zeroValue406
 t152:=Tryz.underlying401
 a152:=Tryz.isAgg401
 z152:=Tryz.sizeOf401
 v152:=Tryz.zeroValue401
 t154:=Tryz.underlying403
 a154:=Tryz.isAgg403
 z154:=Tryz.sizeOf403
 v154:=Tryz.zeroValue403
 t193:=Tryz.underlying435
 a193:=Tryz.isAgg435
 z193:=Tryz.sizeOf435
 v193:=Tryz.zeroValue435
 t194:=Tryz.underlying436
 a194:=Tryz.isAgg436
 z194:=Tryz.sizeOf436
 v194:=Tryz.zeroValue436
 t196:=Tryz.underlying438
 a196:=Tryz.isAgg438
 z196:=Tryz.sizeOf438
 v196:=Tryz.zeroValue438
 t198:=Tryz.underlying441
 a198:=Tryz.isAgg441
 z198:=Tryz.sizeOf441
 v198:=Tryz.zeroValue441
 t201:=Tryz.underlying444
 a201:=Tryz.isAgg444
 z201:=Tryz.sizeOf444
 v201:=Tryz.zeroValue444
 t226:=Tryz.underlying457
 a226:=Tryz.isAgg457
 z226:=Tryz.sizeOf457
 v226:=Tryz.zeroValue457
 t227:=Tryz.underlying458
 a227:=Tryz.isAgg458
 z227:=Tryz.sizeOf458
 v227:=Tryz.zeroValue458
 g0:=by kernel_rfl
 g6:=by kernel_rfl}
open Go.RowKit Go.Lib in
def Tryz.strings_Fields (s:ByteArray) (w:World) (d:s.size<4294967281) (a:∀(j:Nat) b,s.data.toList[j]?=some b->b.toNat<128) (c:Lib.TabIs Tryz.prog w "strings.asciiSpace" .u8 Lib.asciiSpaceTab):Calls Tryz.prog 272 #[.string s] w λe f=>
 e= .returned (.slice (some ⟨w.heap.size,0,none⟩) (Lib.fields s.data.toList).length (Lib.fields s.data.toList).length)/\f=w.alloc (.cells ((Lib.fields s.data.toList).map λl=>Value.string ⟨l.toArray⟩).toArray 9):=Any.strings_Fields Tryz.lays157 (by kernel_rfl) (by kernel_rfl) s w d a c
end Go.Proofs
section
open Go.Proofs
namespace Go.Pev.F.Lb
variable {L:List (Nat×Obj)}
def NeedSp (L:List (Nat×Obj)):Prop:=∃t fr,(0,Obj.cells (Go.Lib.asciiSpaceTab.map λz=>Value.int .u8 z).toArray t fr)∈L
def Fields.A:Sh:= .cons (.pur .str) .nil
def Fields.R:Sh:= .cons (.own .str) .nil
def Fields (_:Nat):(List UInt8×Unit)->Option ((List (List UInt8)×Unit)×(Unit×Unit)):=λx=>
 if x.1.length<4294967281/\x.1.all (λb=>decide (b.toNat<128))=true then some ((Go.Lib.fields x.1,()),((),()))else none
def Fields.sg (k:Nat):jW:=⟨Fields.A,Fields.R,Fields k,[]⟩
def sp_of {w:World} (h:NeedSp L) (b:iT L (λ_=>False) w.heap):Go.Lib.TabIs Tryz.prog w "strings.asciiSpace" .u8 Go.Lib.asciiSpaceTab:=by
 obtain⟨t,fr,c⟩:=h;have a:=(b _ c).2;have d:Tryz.prog.globalNamed "strings.asciiSpace" =some 0:=by kernel_rfl
 unfold Go.Lib.TabIs World.var?;rw[d];simp only[a0d];simp only at a;rw[a]
def strs_elems (h:Array Obj) (ok:Nat->Prop) (l:List (List UInt8)):bu (λx cs=>cG h ok .str x cs) Kd.str.n l (l.map λx=>Value.string ⟨x.toArray⟩).toArray 0:=by
 refine⟨by simp[Kd.n],λi hi=> ?_⟩;show bY _ _ 1=_;simp only[bY,Kd.n,a5z,a1l];rw[a1b (by simpa using hi)];simp
def Fields.ok (h:NeedSp L) (k:Nat):au Tryz.prog L 272 (Fields.sg k):=H1 Tryz.func272 (by kernel_rfl) (by kernel_rfl) rfl λw x vs y F _ d a c=>by
 obtain⟨(s:List UInt8),⟨⟩⟩:=x;obtain⟨q,r,rfl,g,a⟩:=lU a;obtain⟨rfl,_⟩:=pm a;obtain rfl:=L3 g;simp only[Fields]at c;split at c
 ·rename_i i
  obtain⟨l,m⟩:=i
  cases c
  refine(Tryz.strings_Fields ⟨s.toArray⟩ w (by simpa [ByteArray.size]using l) (λj b f=>a0z (a1g.1 m b (a3p f))) (sp_of h d)).mono λe t ⟨o,p⟩=> ?_
  subst p;refine⟨[_],[w.heap.size],o,⟨_,[],[w.heap.size],[],rfl,rfl,⟨_,rfl,rfl,_,_,rfl,a1n _,.inr ⟨w.heap.size,0,_,_,rfl,rfl,cP _ _,strs_elems _ _ _,?_⟩⟩,rfl,rfl⟩,by simp,λb f=>by simp at f;omega,kq _ _ _⟩;simp[Kd.n]
 ·cases c
def NeedSp.mono {a:List (Nat×Obj)} (h:NeedSp L) (b:∀p∈L,p∈a):NeedSp a:=by
 obtain⟨t,fr,c⟩:=h;exact⟨t,fr,b _ c⟩
def needSp_of {w:World} (h:Go.Lib.TabIs Tryz.prog w "strings.asciiSpace" .u8 Go.Lib.asciiSpaceTab):∃L,NeedSp L/\iT L (λ_=>False) w.heap:=by
 obtain⟨t,fr,b⟩:=OG (g:=0) (by kernel_rfl) h;refine⟨[(_,.cells _ t fr)],⟨t,fr,a0v.2 rfl⟩,λp a=> ?_⟩;rw[a0v]at a;subst a;exact⟨λh=>h,b⟩
end Go.Pev.F.Lb
end
namespace Go.Pev
open Go Go.Proofs Go.Shelf Go.RowKit
def s8.A:Sh:= .cons .nl (.cons (.pur (.int .i64)) .nil)
def s8.R (k:Kd):Sh:= .cons (.own k) .nil
def s8 (k:Kd) (a:Nat):(Unit×Int×Unit)->Option ((List k.T×Unit)×(Unit×Unit×Unit)):=λx=>if 0<=x.2.1/\x.2.1*a<=140737488355328 then some (([],()),((),(),()))else none
def H3 {P:Program} {ρ:Ren} {L:List (Nat×Obj)} (K:Lays8.n4 P ρ) {k:Kd} {e:TypeId} (p:ρ.t 25=e) (B:kj P e k=true) {f:FuncId} (N:ρ.f 4=f) {fn:Func} (C:P.funcs[f]?=some fn) (g:(fn.name== "runtime.NumGoroutine")=false) (j:fn.body.isNone=false):au P L f ⟨s8.A,s8.R k,s8 k (df P e),[]⟩:=by
 refine⟨⟨fn,C,g,j⟩,λw F x vs fp y hF _ _ _ D u _=> ?_⟩;obtain⟨⟨⟩,(n:Int),⟨⟩⟩:=x;obtain⟨v1,r,f1,f2,rfl,rfl,⟨v,rfl⟩,O⟩:=D;obtain⟨v2,r,rfl,Q,S⟩:=lU O;obtain⟨rfl,rfl⟩:=pm S
 cases v
 obtain rfl:=rK Q;simp only[s8]at u;split at u
 ·rename_i T
  obtain⟨l,c⟩:=T;have l:0<=n:=l;have c:n*(df P e:Int)<=140737488355328:=c
  cases u
  obtain⟨d,M,_,o,i,z,hi,U,V,E,G⟩:=eZ B;subst p;subst N;have H:0<df P (ρ.t 25):=o;rw[E]at c H;have W:n<=140737488355328:=by
   have v:n*1<=n*(i.bytes:Int):=a5k (by omega) l;rw[Int.mul_one]at v;exact Int.le_trans v c
  by_cases X:n=0
  ·subst X
   refine(Any8.slices_Grow_room K none 0 0 0 w (by omega) (by omega) (by omega) (by omega)).mono λY Z ⟨p,I⟩=> ?_
   subst I;refine⟨[_],[],[],p,⟨_,[],[],[],rfl,rfl,⟨_,rfl,d,none,0,rfl,a1n _,.inl ⟨rfl,rfl,rfl,rfl⟩⟩,rfl,rfl⟩,⟨_,_,[],[],rfl,rfl,.inl ⟨rfl,rfl⟩,_,_,[],[],rfl,rfl,.inl ⟨rfl,rfl⟩,rfl,rfl⟩,a2h,λb J=>by simp at J,.refl _ _⟩
  ·obtain⟨m,rfl⟩:∃m:Nat,n=(m:Int):=⟨n.toNat,by omega⟩
   have q:(0+m)*i.bytes<=140737488355328:=by
    have:((m*i.bytes:Nat):Int)<=140737488355328:=by rw[a6g];exact c
    rw[a1l];omega
   refine(Any8.slices_Grow_grow K i z hi U (by omega) none 0 0 m [] w (by omega) (by omega) q (by omega) (by simp) (λ_=>rfl) (λa ha=>by cases ha)).mono λY Z ⟨p,I⟩=> ?_
   subst I;have hg:=grownCap_ge w (0+m) 0 (ρ.t 25);have s:(w.drew.alloc (.cells ([].toArray++Builtin.zeroCells z.cells (0+m-0)++Builtin.zeroCells z.cells (grownCap w (0+m) 0 (ρ.t 25)-(0+m))) (ρ.t 25))).heap[w.heap.size]?=some (.cells ([].toArray++Builtin.zeroCells z.cells (0+m-0)++Builtin.zeroCells z.cells (grownCap w (0+m) 0 (ρ.t 25)-(0+m))) (ρ.t 25) (0,0)):=cP w.drew _;refine⟨[_],[w.heap.size],[],p,⟨_,[],[w.heap.size],[],rfl,rfl,⟨_,rfl,d,_,_,rfl,by simp,.inr ⟨w.heap.size,0,_,_,rfl,rfl,s,⟨by simp,λi hi=>by simp at hi⟩,?_⟩⟩,rfl,rfl⟩,⟨_,_,[],[],rfl,rfl,.inl ⟨rfl,rfl⟩,_,_,[],[],rfl,rfl,.inl ⟨rfl,rfl⟩,rfl,rfl⟩,by simp,λb J=> .inr (by simp at J;omega),(jX _ _).trans (kq (λ_=>False) _ _) (λ_ h=>h.elim)⟩
   simp only[a3k,a2s,a0h,dU,G];rw[a1l,a1l,a1l,a7l,<-a1a];rw[a1l]at hg;exact a0o _ (by omega)
 ·cases u
end Go.Pev
section
open Go.Proofs Go.Pev Go.Shelf
namespace Go.Pev.F.Lb
set_option maxRecDepth 100000
def slices_Grow_string_string.ren:Ren:=⟨λ|4=>271|n=>n,λ|0=>0|3=>3|4=>4|9=>9|20=>20|22=>24|25=>9|n=>n,λn=>n⟩
def slices_Grow_string_string.lays:Go.Proofs.Lays8.n4 Tryz.prog slices_Grow_string_string.ren:= {
 mixed:=by kernel_rfl
 f4:=⟨"slices.Grow[[]string,string]",by kernel_rfl,Tryz.func271.trans (a1x some (by kernel_rfl))⟩
 t0:=Tryz.underlying0
 a0:=Tryz.isAgg0
 z0:=Tryz.sizeOf0
 v0:=Tryz.zeroValue0
 t3:=Tryz.underlying3
 a3:=Tryz.isAgg3
 z3:=Tryz.sizeOf3
 v3:=Tryz.zeroValue3
 t4:=Tryz.underlying4
 a4:=Tryz.isAgg4
 z4:=Tryz.sizeOf4
 v4:=Tryz.zeroValue4
 t9:=Tryz.underlying9
 a9:=Tryz.isAgg9
 z9:=Tryz.sizeOf9
 v9:=Tryz.zeroValue9
 t20:=Tryz.underlying20
 a20:=Tryz.isAgg20
 z20:=Tryz.sizeOf20
 v20:=Tryz.zeroValue20
 t22:=Tryz.underlying24
 a22:=Tryz.isAgg24
 z22:=Tryz.sizeOf24
 v22:=Tryz.zeroValue24}
def slices_Grow_string_string.A:Sh:=s8.A
def slices_Grow_string_string.R:Sh:=s8.R .str
def slices_Grow_string_string (_:Nat):(Unit×Int×Unit)->Option (((List (List UInt8))×Unit)×(Unit×Unit×Unit)):=s8 .str 16
def slices_Grow_string_string.sg (k:Nat):jW:=⟨slices_Grow_string_string.A,slices_Grow_string_string.R,slices_Grow_string_string k,[]⟩
def slices_Grow_string_string.ok {L:List (Nat×Obj)} (k:Nat):au Tryz.prog L 271 (slices_Grow_string_string.sg k):=
 have h:=H3 (L:=L) slices_Grow_string_string.lays (k:= .str) (e:=9) rfl (by kernel_rfl) (f:=271) rfl Tryz.func271 (by kernel_rfl) (by kernel_rfl);have a:df Tryz.prog 9=16:=by kernel_rfl
 by rw[a]at h;exact h
def slices_Grow_impl_Tok_impl_Tok.ren:Ren:=⟨λ|4=>332|n=>n,λ|0=>0|3=>3|4=>4|9=>9|20=>20|22=>83|25=>216|n=>n,λn=>n⟩
def slices_Grow_impl_Tok_impl_Tok.lays:Go.Proofs.Lays8.n4 Tryz.prog slices_Grow_impl_Tok_impl_Tok.ren:= {
 mixed:=by kernel_rfl
 f4:=⟨"slices.Grow[[]loop.example/g00719/impl.Tok,loop.example/g00719/impl.Tok]",by kernel_rfl,Tryz.func332.trans (a1x some (by kernel_rfl))⟩
 t0:=Tryz.underlying0
 a0:=Tryz.isAgg0
 z0:=Tryz.sizeOf0
 v0:=Tryz.zeroValue0
 t3:=Tryz.underlying3
 a3:=Tryz.isAgg3
 z3:=Tryz.sizeOf3
 v3:=Tryz.zeroValue3
 t4:=Tryz.underlying4
 a4:=Tryz.isAgg4
 z4:=Tryz.sizeOf4
 v4:=Tryz.zeroValue4
 t9:=Tryz.underlying9
 a9:=Tryz.isAgg9
 z9:=Tryz.sizeOf9
 v9:=Tryz.zeroValue9
 t20:=Tryz.underlying20
 a20:=Tryz.isAgg20
 z20:=Tryz.sizeOf20
 v20:=Tryz.zeroValue20
 t22:=Tryz.underlying83
 a22:=Tryz.isAgg83
 z22:=Tryz.sizeOf83
 v22:=Tryz.zeroValue83}
def slices_Grow_impl_Tok_impl_Tok.A:Sh:=s8.A
def slices_Grow_impl_Tok_impl_Tok.R:Sh:=s8.R (.cons (.int .i64) (.cons (.int .i64) .nil))
def slices_Grow_impl_Tok_impl_Tok (_:Nat):(Unit×Int×Unit)->Option (((List (Int×Int×Unit))×Unit)×(Unit×Unit×Unit)):=s8 (.cons (.int .i64) (.cons (.int .i64) .nil)) 16
def slices_Grow_impl_Tok_impl_Tok.sg (k:Nat):jW:=⟨slices_Grow_impl_Tok_impl_Tok.A,slices_Grow_impl_Tok_impl_Tok.R,slices_Grow_impl_Tok_impl_Tok k,[]⟩
def slices_Grow_impl_Tok_impl_Tok.ok {L:List (Nat×Obj)} (k:Nat):au Tryz.prog L 332 (slices_Grow_impl_Tok_impl_Tok.sg k):=
 have h:=H3 (L:=L) slices_Grow_impl_Tok_impl_Tok.lays (k:=(.cons (.int .i64) (.cons (.int .i64) .nil))) (e:=216) rfl (by kernel_rfl) (f:=332) rfl Tryz.func332 (by kernel_rfl) (by kernel_rfl);have a:df Tryz.prog 216=16:=by kernel_rfl
 by rw[a]at h;exact h
end Go.Pev.F.Lb
end
namespace Go.Pev
variable {n o i O B:Nat} {r Z:Array Value} {w:World} {α:Type} {fp:List Nat} {k:Kd}
open Go Go.Proofs Go.Shelf Go.RowKit Go.Lib
structure po (P:Program) (ρ:Ren):Prop where
 mixed:P.follows .mixedOrders=true
 f22:Bears P (ρ.f 22) (Body2.n22 ρ)
 ov:∀(w:World) (vb voff m vc b off lb cb:Nat) (tA tB:TypeId) (kA kB:Nat),vb≠b->w.shape? vb=some (tA,kA)->w.shape? b=some (tB,kB)->kB≠0->w.frozen? ⟨vb,voff,none⟩=false->w.frozen? ⟨vb,kA,none⟩=false->(callFunc (ρ.f 29) #[.slice (some ⟨vb,voff,none⟩) m vc,.slice (some ⟨b,off,none⟩) lb cb]).run P w= .ok (.value (.bool false)) w
 t0:P.underlying (ρ.t 0)=some (TypeDesc.tuple #[])
 a0:∀w,(isAgg (ρ.t 0)).run P w= .ok false w
 z0:∀w,(Go.sizeOf (ρ.t 0)).run P w= .ok 1 w
 v0:∀w,(zeroValue (ρ.t 0)).run P w= .ok (Value.tuple #[]) w
 t3:P.underlying (ρ.t 3)=some (TypeDesc.int IntKind.i64)
 a3:∀w,(isAgg (ρ.t 3)).run P w= .ok false w
 z3:∀w,(Go.sizeOf (ρ.t 3)).run P w= .ok 1 w
 v3:∀w,(zeroValue (ρ.t 3)).run P w= .ok (Value.int IntKind.i64 0) w
 t4:P.underlying (ρ.t 4)=some (TypeDesc.bool)
 a4:∀w,(isAgg (ρ.t 4)).run P w= .ok false w
 z4:∀w,(Go.sizeOf (ρ.t 4)).run P w= .ok 1 w
 v4:∀w,(zeroValue (ρ.t 4)).run P w= .ok (Value.bool false) w
 t24:P.underlying (ρ.t 24)=some (TypeDesc.slice (ρ.t 9))
 a24:∀w,(isAgg (ρ.t 24)).run P w= .ok false w
 z24:∀w,(Go.sizeOf (ρ.t 24)).run P w= .ok 1 w
 v24:∀w,(zeroValue (ρ.t 24)).run P w= .ok (Value.slice none 0 0) w
def jl {P:Program} (w:World) (l n ty c:TypeId) (i:TypeInfo) (b o d f:Nat) (a:Addr) (e g:Nat) (cs:List Value)
 (p:P.underlying l=some (.slice c)) (hi:P.info? c=some i) {m:Nat} (q:Nat.min e d=m) (r:cs.length=m*i.size)
 (h:∀j v,cs[j]?=some v->w.cell? (a.add j)=some v) (s:∀j,j<cs.length->(w.cell? ⟨b,o+j,none⟩).isSome=true) (t:∀j,j<cs.length->w.frozen? ⟨b,o+j,none⟩=false) (u:∀v∈cs,v.oneCell'=true):
 (Builtin.copy_ #[l,n] ty #[.slice (some ⟨b,o,none⟩) d f,.slice (some a) e g]).run P w= .ok (goInt m) (w.setCells b o cs):=by
 have x:=run_loadCells_list (P:=P) w a cs h;have k:=run_storeCells_cells (P:=P) b o cs 0 w (by simpa using s) (by simpa using t) u;simp[Builtin.copy_,run_underlying p,Builtin.lenOf,Builtin.firstCells,sizeOf,typeInfo,hi,q,<-r,x,k]
section
variable {P:Program} {ρ:Ren}
set_option maxHeartbeats 4000000 in
set_option maxRecDepth 100000 in
def Cf (L:po P ρ) (d:TypeInfo) (h:P.info? (ρ.t 9)=some d) (b off n c i a m o:Nat) (vs:List Value) (w:World) (I:0<m) (g:n+m<=c) (y:n+m<=4611686018427387904)
 (p:vs.length=m*d.size) (q:∀j,j<vs.length->(w.cell? ⟨b,off+n*d.size+j,none⟩).isSome=true) (r:∀j,j<vs.length->w.frozen? ⟨b,off+n*d.size+j,none⟩=false)
 (s:∀j v,vs[j]?=some v->w.cell? ⟨i,a+j,none⟩=some v) (x:∀v∈vs,v.oneCell'=true):
 Calls P (ρ.f 22) #[.slice (some ⟨b,off,none⟩) n c,.int .i64 n,.slice (some ⟨i,a,none⟩) m o] w λe z=>
  e= .returned (.slice (some ⟨b,off,none⟩) (n+m) c)/\z=w.setCells b (off+n*d.size) vs:=by
 have J:=L.t0;have K:=L.a0;have M:=L.z0;have N:=L.v0;have O:=L.t3;have Q:=L.a3;have R:=L.z3;have S:=L.v3;have T:=L.t4;have U:=L.a4;have V:=L.z4;have W:=L.v4;have A:=L.t24;have B:=L.a24;have C:=L.z24;have D:=L.v24;have X:=run_underlying L.t0;have Y:=run_underlying L.t3;have Z:=run_underlying L.t4;have E:=run_underlying L.t24;have mixed:=L.mixed;have z9:∀w,(Go.sizeOf (ρ.t 9)).run P w= .ok d.size w:=λw=>by simp[Go.sizeOf,typeInfo,h]
 obtain⟨_,_,F⟩:=L.f22;have G:¬((m:Int)=0):=by omega
 have k:Src P d.size (ρ.t 24) (.slice (some ⟨i,a,none⟩) m o) m vs w:=Src.ofSlice w L.t24 ⟨i,a,none⟩ m o vs p (λj u H=>by rw[Addr.add_lit];exact s j u H) x;have l:∀ty,(Builtin.append_ #[ρ.t 24,ρ.t 24] ty #[.slice (some ⟨b,off,none⟩) n c,.slice (some ⟨i,a,none⟩) m o]).run P w= .ok (.slice (some ⟨b,off,none⟩) (n+m) c) (w.setCells b (off+n*d.size) vs):=λty=>run_append_room_src (P:=P) w (ρ.t 24) (ρ.t 24) ty (ρ.t 9) d L.t24 h b off n c _ m vs k g q r
 go_enter F,Body2.n22_ntmps ρ
 go_wp2_with (at_builtin;refine Lib.wpList_append_run _ rfl _ _ _ _ rfl _ _ rfl rfl _ _ (l _) ?_)
 go_ret
 exact⟨rfl,rfl⟩
set_option maxHeartbeats 4000000 in
set_option maxRecDepth 100000 in
def rM (L:po P ρ) (g:TypeInfo) (z:Value) (p:P.info? (ρ.t 9)=some g) (A:g.zero=some z) (b:Option Addr) (n c q d m y:Nat) (cs vs:List Value) (w:World) (W:0<m) (J:n<=c) (h:c<n+m) (r:(n+m)*g.bytes<=140737488355328) (K:n+m<=4611686018427387904)
 (o:cs.length=n*g.size) (B:vs.length=m*g.size) (k:b=none->n=0)
 (s:∀a,b=some a->∀j v,cs[j]?=some v->w.cell? (a.add j)=some v)
 (C:∀j v,vs[j]?=some v->w.cell? ⟨q,d+j,none⟩=some v) (D:∀v∈vs,v.oneCell'=true):
 Calls P (ρ.f 22) #[.slice b n c,.int .i64 n,.slice (some ⟨q,d,none⟩) m y] w λe M=>
  e= .returned (.slice (some ⟨w.heap.size,0,none⟩) (n+m) (grownCap w (n+m) c (ρ.t 9)))/\
  M=w.drew.alloc (.cells ((cs++vs).toArray++Builtin.zeroCells z.cells (grownCap w (n+m) c (ρ.t 9)-(n+m))) (ρ.t 9)):=by
 have X:=L.t0;have Y:=L.a0;have Z:=L.z0;have v0:=L.v0;have t3:=L.t3;have a3:=L.a3;have z3:=L.z3;have v3:=L.v3;have t4:=L.t4;have a4:=L.a4;have z4:=L.z4;have v4:=L.v4;have N:=L.t24;have O:=L.a24;have Q:=L.z24;have R:=L.v24;have u0:=run_underlying L.t0;have u3:=run_underlying L.t3;have u4:=run_underlying L.t4;have S:=run_underlying L.t24;have mixed:=L.mixed;have z9:∀w,(Go.sizeOf (ρ.t 9)).run P w= .ok g.size w:=λw=>by simp[Go.sizeOf,typeInfo,p]
 obtain⟨_,_,T⟩:=L.f22;have U:¬((m:Int)=0):=by omega
 have x:Src P g.size (ρ.t 24) (.slice (some ⟨q,d,none⟩) m y) m vs w:=Src.ofSlice w L.t24 ⟨q,d,none⟩ m y vs B (λj u E=>by rw[Addr.add_lit];exact C j u E) D;have l:(Builtin.firstCells g.size n (.slice b n c)).run P w.drew= .ok cs.toArray w.drew:=by
  cases b with
  |none=>
   have F:=k rfl;subst F;have H:cs=[]:=a4j.1 (by simpa using o);rw[H];exact run_firstCells_none w.drew g.size 0 0 c
  |some a=>exact run_firstCells_some w.drew g.size n a n c cs o (λj v E=>s a rfl j v E)
 have i:∀ty,(Builtin.append_ #[ρ.t 24,ρ.t 24] ty #[.slice b n c,.slice (some ⟨q,d,none⟩) m y]).run P w= .ok (.slice (some ⟨w.heap.size,0,none⟩) (n+m) (grownCap w (n+m) c (ρ.t 9))) (w.drew.alloc (.cells ((cs++vs).toArray++Builtin.zeroCells z.cells (grownCap w (n+m) c (ρ.t 9)-(n+m))) (ρ.t 9))):=λty=>run_append_grow_src (P:=P) w (ρ.t 24) (ρ.t 24) ty (ρ.t 9) g z L.t24 p A b n c cs l _ m vs x h (by omega) (growslice_fits h r)
 obtain⟨G,I⟩:∃G,G=grownCap w (n+m) c (ρ.t 9):=⟨_,rfl⟩;rw[<-I]at i⊢;clear l I s o
 go_enter T,Body2.n22_ntmps ρ
 cases b with
 |none=>
  have F:=k rfl;subst F
  go_wp2_with (at_builtin;refine Lib.wpList_append_run _ rfl _ _ _ _ rfl _ _ rfl rfl _ _ (i _) ?_)
  all_goals (go_ret;exact⟨rfl,rfl⟩)
 |some a=>
  obtain⟨ab,ao,V⟩:=a
  go_wp2_with (at_builtin;refine Lib.wpList_append_run _ rfl _ _ _ _ rfl _ _ rfl rfl _ _ (i _) ?_)
  all_goals (go_ret;exact⟨rfl,rfl⟩)
set_option maxHeartbeats 4000000 in
set_option maxRecDepth 100000 in
def I2 (L:po P ρ) (a:TypeInfo) (q:P.info? (ρ.t 9)=some a) (b off n c i l d m y:Nat) (cs vs:List Value) (w:World) (hi:i<n) (hm:0<m) (I:n+m<=c) (S2:n+m<=4611686018427387904) (z:l≠b)
 (J:cs.length=n*a.size) (K:vs.length=m*a.size)
 (M:∀j v,cs[j]?=some v->w.cell? ⟨b,off+j,none⟩=some v) (r:∀j,j<(n+m)*a.size->(w.cell? ⟨b,off+j,none⟩).isSome=true) (A:∀j,j<(n+m)*a.size->w.frozen? ⟨b,off+j,none⟩=false)
 (N:∀j v,vs[j]?=some v->w.cell? ⟨l,d+j,none⟩=some v) (O:∀v∈cs,v.oneCell'=true) (Q:∀v∈vs,v.oneCell'=true)
 (tA tB:TypeId) (R S:Nat) (T:w.shape? l=some (tA,R)) (U:w.shape? b=some (tB,S)) (V:S≠0) (X:w.frozen? ⟨l,d,none⟩=false) (Y:w.frozen? ⟨l,R,none⟩=false):
 Calls P (ρ.f 22) #[.slice (some ⟨b,off,none⟩) n c,.int .i64 i,.slice (some ⟨l,d,none⟩) m y] w λe w'=>
  e= .returned (.slice (some ⟨b,off,none⟩) (n+m) c)/\w'=(w.drew.setCells b (off+(i+m)*a.size) (cs.drop (i*a.size))).setCells b (off+i*a.size) vs:=by
 have t0:=L.t0;have a0:=L.a0;have z0:=L.z0;have v0:=L.v0;have t3:=L.t3;have a3:=L.a3;have z3:=L.z3;have v3:=L.v3;have t4:=L.t4;have a4:=L.a4;have z4:=L.z4;have v4:=L.v4;have S3:=L.t24;have S4:=L.a24;have S5:=L.z24;have S6:=L.v24;have u0:=run_underlying L.t0;have u3:=run_underlying L.t3;have u4:=run_underlying L.t4;have S7:=run_underlying L.t24;have mixed:=L.mixed;have z9:∀w,(Go.sizeOf (ρ.t 9)).run P w= .ok a.size w:=λw=>by simp[Go.sizeOf,typeInfo,q]
 obtain⟨_,_,FG⟩:=L.f22;have S8:¬((m:Int)=0):=by omega
 have S9:¬((i:Int)=(n:Int)):=by omega
 have Z:∀lb cb,(callFunc (ρ.f 29) #[.slice (some ⟨l,d,none⟩) m y,.slice (some ⟨b,off+(i+m)*a.size,none⟩) lb cb]).run P w= .ok (.value (.bool false)) w:=λlb cb=>L.ov w l d m y b _ lb cb tA tB R S z T U V X Y
 have B:i*a.size<=n*a.size:=a0o _ (by omega);have C:(n+m)*a.size=n*a.size+m*a.size:=a1a _ _ _;have s:(i+m)*a.size=i*a.size+m*a.size:=a1a _ _ _;have S0:(cs.drop (i*a.size)).length=(n-i)*a.size:=by rw[a2w,J,Nat.sub_mul]
 have D:(n-i)*a.size+i*a.size=n*a.size:=by rw[<-a1a];congr 1;omega
 have Ta:IntKind.i64.wrap ((i:Int)+(m:Int))=(i:Int)+(m:Int):=by rw[IntKind.wrap_i64];omega
 have Tb:(0:Int)<=(i:Int)+(m:Int):=by omega
 have Tc:i<=n:=by omega
 have Td:((i:Int)+(m:Int)).toNat=i+m:=by omega
 have Te:¬(c=i+m):=by omega
 have Tf:(i:Int)<=(n:Int)+(m:Int):=by omega
 have Tg:¬(c=i):=by omega
 have o:∀ty u sc,(Builtin.copy_ #[(ρ.t 24),(ρ.t 24)] ty #[.slice (some ⟨b,off+(i+m)*a.size,none⟩) (n+m-(i+m)) u,.slice (some ⟨b,off+i*a.size,none⟩) (n+m-i) sc]).run P w.drew= .ok (goInt ((n-i:Nat):Int)) (w.drew.setCells b (off+(i+m)*a.size) (cs.drop (i*a.size))):=λty u sc=>
  jl w.drew _ _ ty (ρ.t 9) a b (off+(i+m)*a.size) (n+m-(i+m)) u ⟨b,off+i*a.size,none⟩ (n+m-i) sc (cs.drop (i*a.size)) L.t24 q (m:=n-i) (by simp only[a9g];split<;>omega) S0
   (λj v p=>by rw[Addr.add_lit,a2k];exact M (i*a.size+j) v (by rwa [a2x]at p))
   (λj p=>by rw[a2k];exact r _ (by omega)) (λj p=>by rw[a2k];exact A _ (by omega)) (λv hv=>O v (a7a hv))
 obtain⟨E,g⟩:∃E,E=w.drew.setCells b (off+(i+m)*a.size) (cs.drop (i*a.size)):=⟨_,rfl⟩;have F:∀k,k<(n+m)*a.size->(E.cell? ⟨b,off+k,none⟩).isSome=true:=λk hk=>by
  rw[g];exact isSome_setCells b _ _ _ (λj p=>by rw[a2k];exact r _ (by omega)) _ (r k hk)
 have G:∀(W:World),(∀x,W.cell? x=E.cell? x)->(∀x,W.frozen? x=E.frozen? x)->∀ty u,(Builtin.copy_ #[(ρ.t 24),(ρ.t 24)] ty #[.slice (some ⟨b,off+i*a.size,none⟩) (n+m-i) u,.slice (some ⟨l,d,none⟩) m y]).run P W= .ok (goInt m) (W.setCells b (off+i*a.size) vs):=λW H S1 ty u=>
  jl W _ _ ty (ρ.t 9) a b (off+i*a.size) (n+m-i) u ⟨l,d,none⟩ m y vs L.t24 q (m:=m) (by simp only[a9g];split<;>omega) K
   (λj v p=>by
    rw[Addr.add_lit,H,g,World.cell?_setCells_out b _ _ _ _ (λh _=>absurd h z)];exact N j v p)
   (λj p=>by rw[H,a2k];exact F _ (by omega)) (λj p=>by rw[S1,g,World.frozen?_setCells,a2k];exact A _ (by omega)) Q
 rw[<-g]at o;clear D B C s
 go_enter FG,Body2.n22_ntmps ρ
 go_wp2_with (simp only[Z])
 go_region_law_o (refine step_copy_runI rfl _ _ (ρ.t 24) (ρ.t 24) rfl _ _ (by simp[Act.eval,Act.put]) (by simp[Act.eval,Act.put]) (o _ _ _) ?_)
 go_wp2_with (at_builtin;refine wpList_copy_runI _ rfl _ _ (ρ.t 24) (ρ.t 24) rfl _ _ rfl rfl (G _ (λ_=>rfl) (λ_=>rfl) _ _) ?_)
 go_ret
 first|exact⟨rfl,rfl⟩|exact⟨rfl,by rw[g]⟩
set_option maxHeartbeats 4000000 in
set_option maxRecDepth 100000 in
def L7 (L:po P ρ) (a:TypeInfo) (z:Value) (r:P.info? (ρ.t 9)=some a) (U:a.zero=some z) (V:z.cells.size=a.size) (B:0<a.size) (b off n c i u g m X:Nat) (cs vs:List Value) (w:World) (hi:i<n) (hm:0<m) (Th:n<=c) (C:c<n+m) (J:(n+m)*a.bytes<=140737488355328) (Ti:n+m<=4611686018427387904)
 (Y:cs.length=n*a.size) (Z:vs.length=m*a.size)
 (D:∀j v,cs[j]?=some v->w.cell? ⟨b,off+j,none⟩=some v)
 (K:∀j v,vs[j]?=some v->w.cell? ⟨u,g+j,none⟩=some v) (S0:∀v∈cs,v.oneCell'=true) (S1:∀v∈vs,v.oneCell'=true):
 Calls P (ρ.f 22) #[.slice (some ⟨b,off,none⟩) n c,.int .i64 i,.slice (some ⟨u,g,none⟩) m X] w λe w'=>
  e= .returned (.slice (some ⟨w.heap.size,0,none⟩) (n+m) (grownCap w (n+m) c (ρ.t 9)))/\
  w'=(((w.alloc (.cells ((cs.take (i*a.size)).toArray++Builtin.zeroCells z.cells (n+m-i)++Builtin.zeroCells z.cells (grownCap w (n+m) c (ρ.t 9)-(n+m))) (ρ.t 9))).drew.setCells w.heap.size (i*a.size) vs).drew).setCells w.heap.size ((i+m)*a.size) (cs.drop (i*a.size)):=by
 have t0:=L.t0;have a0:=L.a0;have z0:=L.z0;have v0:=L.v0;have t3:=L.t3;have a3:=L.a3;have z3:=L.z3;have v3:=L.v3;have t4:=L.t4;have a4:=L.a4;have z4:=L.z4;have v4:=L.v4;have Tj:=L.t24;have Tk:=L.a24;have Tl:=L.z24;have Tm:=L.v24;have u0:=run_underlying L.t0;have u3:=run_underlying L.t3;have u4:=run_underlying L.t4;have Tn:=run_underlying L.t24;have mixed:=L.mixed;have z9:∀w,(Go.sizeOf (ρ.t 9)).run P w= .ok a.size w:=λw=>by simp[Go.sizeOf,typeInfo,r]
 obtain⟨_,_,FG⟩:=L.f22;have To:¬((m:Int)=0):=by omega
 have Tp:¬((i:Int)=(n:Int)):=by omega
 have Tq:(c:Int)<(n:Int)+(m:Int):=by omega
 have M:i*a.size<=n*a.size:=a0o _ (by omega);have N:(n+m)*a.size=n*a.size+m*a.size:=a1a _ _ _;have E:(i+m)*a.size=i*a.size+m*a.size:=a1a _ _ _;have S2:(cs.drop (i*a.size)).length=(n-i)*a.size:=by rw[a2w,Y,Nat.sub_mul]
 have O:(n-i)*a.size+i*a.size=n*a.size:=by rw[<-a1a];congr 1;omega
 have S3:1*1<=n*a.size:=a9d (by omega) B;have S4:1*1<=m*a.size:=a9d hm B;have S5:b<w.heap.size:=block_lt_of_cell (D 0 _ (a0a (by omega)));have S6:u<w.heap.size:=block_lt_of_cell (K 0 _ (a0a (by omega)));have Q:(n:Int)+(m:Int)-(i:Int)=((n+m-i:Nat):Int):=by omega
 have F:i+(n+m-i)=n+m:=by omega
 have y:(Builtin.firstCells a.size i (.slice (some ⟨b,off,none⟩) i c)).run P w.drew= .ok (cs.take (i*a.size)).toArray w.drew:=run_firstCells_some w.drew a.size i ⟨b,off,none⟩ i c (cs.take (i*a.size)) (by rw[a1m];omega) (λj v k=>by
  rw[Addr.add_lit];rw[a4f]at k;split at k
  ·exact D j v k
  ·cases k)
 have s:∀ty,(Builtin.append_ #[(ρ.t 24),(ρ.t 3)] ty #[.slice (some ⟨b,off,none⟩) i c,.int .i64 ((n:Int)+(m:Int)-(i:Int))]).run P w= .ok (.slice (some ⟨w.heap.size,0,none⟩) (n+m) (grownCap w (n+m) c (ρ.t 9))) (w.drew.alloc (.cells ((cs.take (i*a.size)).toArray++Builtin.zeroCells z.cells (n+m-i)++Builtin.zeroCells z.cells (grownCap w (n+m) c (ρ.t 9)-(n+m))) (ρ.t 9))):=λty=>by
  have h:=Lib.run_append_grow_zeros w (ρ.t 24) (ρ.t 3) ty (ρ.t 9) a z .i64 .i64 L.t24 L.t3 r U (some ⟨b,off,none⟩) i c (cs.take (i*a.size)) y (n+m-i) (by omega) B (by omega) (by omega)
   (by
    have:(n+m-i)*a.bytes<=(n+m)*a.bytes:=a0o _ (by omega)
    omega) (by rw[F];exact growslice_fits C J)
  rw[F]at h;rw[Q];exact h
 obtain⟨G,T⟩:∃G,G=grownCap w (n+m) c (ρ.t 9):=⟨_,rfl⟩;obtain⟨d,o⟩:∃d:Array Value,d=(cs.take (i*a.size)).toArray++Builtin.zeroCells z.cells (n+m-i)++Builtin.zeroCells z.cells (G-(n+m)):=⟨_,rfl⟩;rw[<-T]at s⊢;rw[<-o]at s⊢;have S7:(n+m)*a.size<=d.size:=by
  rw[o];simp only[a3k,a2s,a1m,dU,V];have h1:(n+m-i)*a.size+i*a.size=(n+m)*a.size:=by rw[<-a1a];congr 1;omega
  omega
 obtain⟨q,l⟩:∃q,q=w.drew.alloc (.cells d (ρ.t 9)):=⟨_,rfl⟩;rw[<-l]at s;have hN:∀j,j<(n+m)*a.size->(q.cell? ⟨w.heap.size,j,none⟩).isSome=true:=λj k=>by
  rw[l,World.cell?_alloc_at (w:=w.drew) d _ w.heap.size j rfl,a1k (by omega)];rfl
 have R:∀j,q.frozen? ⟨w.heap.size,j,none⟩=false:=λj=>by rw[l];exact World.frozen?_alloc_at (w:=w.drew) d _ w.heap.size j rfl
 have S8:∀j v,w.cell? ⟨b,j,none⟩=some v->q.cell? ⟨b,j,none⟩=some v:=λj v h=>by rw[l,World.cell?_alloc_past (w:=w.drew) _ b j S5];exact h
 have S9:∀j v,w.cell? ⟨u,j,none⟩=some v->q.cell? ⟨u,j,none⟩=some v:=λj v h=>by rw[l,World.cell?_alloc_past (w:=w.drew) _ u j S6];exact h
 have Ts:n+m<=G:=by rw[T];exact grownCap_ge w _ _ _
 have Tf:G<=9223372036854775807:=by
  have:=grownCap_le_maxLen w (n+m) c (ρ.t 9) (by unfold maxLen;omega);rw[<-T]at this;unfold maxLen at this;omega
 have Tt:¬(G=i):=by omega
 have Tg:¬(G=i+m):=by omega
 have Tu:¬(c=i):=by omega
 have Ta:b≠w.heap.size:=by omega
 have S:∀(W:World),(∀x,W.cell? x=q.cell? x)->(∀x,W.frozen? x=q.frozen? x)->∀ty H,(Builtin.copy_ #[(ρ.t 24),(ρ.t 24)] ty #[.slice (some ⟨w.heap.size,i*a.size,none⟩) (n+m-i) H,.slice (some ⟨u,g,none⟩) m X]).run P W= .ok (goInt m) (W.setCells w.heap.size (i*a.size) vs):=λW p I ty H=>
  jl W _ _ ty (ρ.t 9) a w.heap.size (i*a.size) (n+m-i) H ⟨u,g,none⟩ m X vs L.t24 r (m:=m) (by simp only[a9g];split<;>omega) Z
   (λj v k=>by rw[Addr.add_lit,p];exact S9 _ v (K j v k))
   (λj k=>by rw[p];exact hN _ (by omega)) (λj k=>by rw[I];exact R _) S1
 have A:∀(W:World),(∀x,W.cell? x=(q.setCells w.heap.size (i*a.size) vs).cell? x)->(∀x,W.frozen? x=(q.setCells w.heap.size (i*a.size) vs).frozen? x)->∀ty H sc,(Builtin.copy_ #[(ρ.t 24),(ρ.t 24)] ty #[.slice (some ⟨w.heap.size,(i+m)*a.size,none⟩) (n+m-(i+m)) H,.slice (some ⟨b,off+i*a.size,none⟩) (n-i) sc]).run P W= .ok (goInt ((n-i:Nat):Int)) (W.setCells w.heap.size ((i+m)*a.size) (cs.drop (i*a.size))):=λW p I ty H sc=>
  jl W _ _ ty (ρ.t 9) a w.heap.size ((i+m)*a.size) (n+m-(i+m)) H ⟨b,off+i*a.size,none⟩ (n-i) sc (cs.drop (i*a.size)) L.t24 r (m:=n-i) (by simp only[a9g];split<;>omega) S2
   (λj v k=>by
    rw[Addr.add_lit,p,World.cell?_setCells_out _ _ _ _ _ (λh _=>absurd h Ta),a2k];exact S8 _ v (D (i*a.size+j) v (by rwa [a2x]at k)))
   (λj k=>by rw[p];exact isSome_setCells _ _ _ _ (λt ht=>hN _ (by omega)) _ (hN _ (by omega)))
   (λj k=>by rw[I,World.frozen?_setCells];exact R _) (λv hv=>S0 v (a7a hv))
 subst l;have Tb:∀x,((w.alloc (.cells d (ρ.t 9))).drew).cell? x=(w.drew.alloc (.cells d (ρ.t 9))).cell? x:=λx=>rfl
 have Tc:∀x,((w.alloc (.cells d (ρ.t 9))).drew).frozen? x=(w.drew.alloc (.cells d (ρ.t 9))).frozen? x:=λx=>rfl
 have Td:∀x,(((w.alloc (.cells d (ρ.t 9))).drew.setCells w.heap.size (i*a.size) vs).drew).cell? x=((w.drew.alloc (.cells d (ρ.t 9))).setCells w.heap.size (i*a.size) vs).cell? x:=λx=>rfl
 have Te:∀x,(((w.alloc (.cells d (ρ.t 9))).drew.setCells w.heap.size (i*a.size) vs).drew).frozen? x=((w.drew.alloc (.cells d (ρ.t 9))).setCells w.heap.size (i*a.size) vs).frozen? x:=λx=>rfl
 have Tv:IntKind.i64.wrap ((i:Int)+(m:Int))=(i:Int)+(m:Int):=by rw[IntKind.wrap_i64];omega
 have Tw:(0:Int)<=(i:Int)+(m:Int):=by omega
 have Tx:i<=n:=by omega
 have Ty:((i:Int)+(m:Int)).toNat=i+m:=by omega
 have Tz:(i:Int)<=(n:Int):=by omega
 clear Q F y o T S7 O M N E S3 S4
 go_enter FG,Body2.n22_ntmps ρ
 go_wp2_with (first
  |(at_builtin;refine Lib.wpList_append_run _ rfl _ _ _ _ rfl _ _ rfl rfl _ _ (s _) ?_)
  |(at_builtin;refine wpList_copy_runI _ rfl _ _ (ρ.t 24) (ρ.t 24) rfl _ _ rfl rfl (S _ Tb Tc _ _) ?_)
  |(at_builtin;refine wpList_copy_runI _ rfl _ _ (ρ.t 24) (ρ.t 24) rfl _ _ rfl rfl (A _ (λ_=>rfl) (λ_=>rfl) _ _ _) ?_))
 go_region_law_o (refine step_copy_runI rfl _ _ (ρ.t 24) (ρ.t 24) rfl (.slice (some ⟨w.heap.size,(i+m)*a.size,none⟩) (n+m-(i+m)) (G-(i+m))) (.slice (some ⟨b,off+i*a.size,none⟩) (n-i) (c-i)) (by simp[Act.eval,Act.put]) (by simp[Act.eval,Act.put]) (A _ Td Te (ρ.t 3) (G-(i+m)) (c-i)) ?_)
 go_wp2
 go_ret
 exact⟨rfl,rfl⟩
end
def it.A (k:Kd):Sh:= .cons (.own k) (.cons (.pur (.int .i64)) (.cons (.own k) .nil))
def it.R (k:Kd):Sh:= .cons (.own k) .nil
def it (k:Kd) (a:Nat):(List k.T×Int×List k.T×Unit)->Option ((List k.T×Unit)×(Unit×Unit×Unit×Unit)):=λx=>
 if 0<=x.2.1/\x.2.1<=x.1.length/\0<x.2.2.1.length/\(x.1.length+x.2.2.1.length)*a<=140737488355328 then some ((x.1.take x.2.1.toNat++x.2.2.1++x.1.drop x.2.1.toNat,()),((),(),(),()))else none
def DV {b:Nat} (h:am w.heap b=some r) {j:Nat} {v:Value} (a:(bY r o n)[j]?=some v):w.cell? ⟨b,o+j,none⟩=some v:=by
 rw[bT h,<-a];by_cases c:j<n
 ·rw[aR c]
 ·rw[kr]at a;cases a
def L8 {p:Nat} (h:p<=n):(bY r o n).drop p=bY r (o+p) (n-p):=by
 apply a2e;intro i;rw[a2x];by_cases hi:i<n-p
 ·rw[aR (by omega),aR hi,a2k]
 ·rw[kr,kr]
def L9 {p:Nat} (h:p<=n):(bY r o n).take p=bY r o p:=by
 apply a2e;intro i;by_cases hi:i<p
 ·rw[a5a hi,aR (by omega),aR hi]
 ·rw[List.getElem?_take_eq_none (by omega),kr]
def F4 {R:α->List Value->Prop} {l:List α} (h:bu R n l r o) (hi:i<=l.length):bu R n (l.take i) r o:=by
 have:=h.part (off:=0) (len:=i) (by omega);simpa [aO]using this
def F5 {R:α->List Value->Prop} {l:List α} (h:bu R n l r o) (hi:i<=l.length):bu R n (l.drop i) r (o+i*n):=by
 have:=h.part (off:=i) (len:=l.length-i) (by omega);have e:aO l i (l.length-i)=l.drop i:=by
  unfold aO;rw[a3a (by simp)]
 rwa [e]at this
def lc {R:α->List Value->Prop} {l y:List α} {c:Array Value} {d:Nat} (h:bu R n l r o) (f:bu R n y c d) (hi:i<=l.length) (b:O+(l.length+y.length)*n<=Z.size) (g:bY Z O (i*n)=bY r o (i*n)) (j:bY Z (O+i*n) (y.length*n)=bY c d (y.length*n)) (e:bY Z (O+(i+y.length)*n) ((l.length-i)*n)=bY r (o+i*n) ((l.length-i)*n)):bu R n (l.take i++y++l.drop i) Z O:=by
 have k:i*n<=l.length*n:=a0o _ hi;have m:(l.length-i)*n+i*n=l.length*n:=by rw[<-a1a];congr 1;omega
 rw[a1a]at b;rw[a1a]at e;have a:(l.take i).length=i:=by rw[a1m];omega
 refine bu.append (bu.append ((F4 h hi).congr ?_ ?_) (f.congr ?_ ?_)) ((F5 h hi).congr ?_ ?_)
 ·rw[a];omega
 ·rw[a];exact g
 ·rw[a];omega
 ·rw[a];exact j
 ·rw[a0m,a,a2w,a1a];omega
 ·rw[a0m,a,a2w,a1a];exact e
def OH {F:Nat->Prop} (l:k.good=true) {e:List k.T} {f:World} {c:Nat} {et:TypeId} (m:B∈fp\/w.heap.size<=B) (o:f.heap[B]?=some (.cells Z et (0,0)))
 (g:bu (λx cs=>cG w.heap (λb=>¬FP F fp b) k x cs) k.n e Z O) (p:e.length<=c) (a:O+c*k.n<=Z.size) (d:∀b r,b∉fp->am w.heap b=some r->am f.heap b=some r) (q:∀b∈fp,¬F b) (t:∀b,F b->b<w.heap.size):
 cA f.heap (λb=>¬FP F [B] b) (it.R k) (e,()) [.slice (some ⟨B,O,none⟩) e.length c] [B]:=by
 refine⟨_,[],[B],[],rfl,rfl,⟨_,rfl,l,_,_,rfl,p,.inr ⟨B,O,Z,et,rfl,rfl,o,g.mono λx cs s=>cG.mono (λb r i j=>⟨λh3=> ?_,d b r (λh=>i (.inr h)) j⟩) _ s,a⟩⟩,rfl,rfl⟩;rcases h3 with h3|h3
 ·exact i (.inl h3)
 ·simp only[a0v]at h3
  subst h3;rcases m with h4|h4
  ·exact i (.inr h4)
  ·have:=cL j;omega
def Ma {A B:List Value}:bY ((A++B).toArray++Z) A.length B.length=B:=by
 simp[bY]
def OI {A:List Value} {Y:Array Value}:bY (A.toArray++Y++Z) 0 A.length=A:=by
 simp[bY]
def OJ {A B:List Value}:bY ((A++B).toArray++Z) 0 A.length=A:=by
 simp[bY]
def oI {F:Nat->Prop} (q:k.good=true) {h:List k.T} {e:World} {c:Nat} {et:TypeId} {s t u:Value} {l:Ending} (v:h.length=n) (y:l= .returned (.slice (some ⟨B,O,none⟩) n c)) (m:B∈fp\/w.heap.size<=B) (g:e.heap[B]?=some (.cells Z et (0,0)))
 (i:bu (λx cs=>cG w.heap (λb=>¬FP F fp b) k x cs) k.n h Z O) (z:n<=c) (f:O+c*k.n<=Z.size) (d:eX (·∈fp) w e) (j:∀b∈fp,¬F b) (C:∀b,F b->b<w.heap.size):
 ∃o fp1 a,l= .returned (FN o)/\cA e.heap (λb=>¬FP F (fp1++a) b) (it.R k) (h,()) o fp1/\gx e.heap (λb=>¬FP F (fp1++a) b) (it.A k) ((),(),(),()) [s,t,u] a/\(fp1++a).Nodup/\(∀b∈fp1++a,b∈fp\/w.heap.size<=b)/\eX (·∈fp) w e:=by
 subst v;subst y;refine⟨[_],[B],[],rfl,OH q m g i z f (λb r D p=> ?_) j C,⟨_,_,[],[],rfl,rfl,.inl ⟨rfl,rfl⟩,_,_,[],[],rfl,rfl,.inl ⟨rfl,rfl⟩,_,_,[],[],rfl,rfl,.inl ⟨rfl,rfl⟩,rfl,rfl⟩,by simp,λb g=> ?_,d⟩
 ·unfold am at*
  rw[d.heap b (cL (r:=r) p) D];exact p
 ·simp only[a2m,a0v]at g
  subst g;exact m
def pq {w1:World} (a:eX (·∈fp) w w1) (c:B∈fp\/w.heap.size<=B) (o:Nat) (vs:List Value):eX (·∈fp) w (w1.setCells B o vs):=a.trans (gJ (I:=λb=>b=B) rfl w1 o vs) λb d=>d▸c
def I3 {P:Program} {ρ:Ren} {L:List (Nat×Obj)} (hL:po P ρ) {e:TypeId} (T:ρ.t 9=e) (Tw:kj P e k=true) {f:FuncId} (hf:ρ.f 22=f) {fn:Func} (Tx:P.funcs[f]?=some fn) (Tg:(fn.name== "runtime.NumGoroutine")=false) (Th:fn.body.isNone=false):au P L f ⟨it.A k,it.R k,it k (df P e),[]⟩:=by
 refine⟨⟨fn,Tx,Tg,Th⟩,λw F x vs fp y hF Uh Ty S0 Tz hy _=> ?_⟩;obtain⟨l,(i:Int),c,⟨⟩⟩:=x;obtain⟨v1,r1,f1,f2,rfl,rfl,⟨Ui,T0,s,a1,c1,rfl,Tm,e1⟩,h2⟩:=Tz
 cases T0
 obtain⟨v2,r2,rfl,p2,h3⟩:=lU h2;obtain⟨v3,r3,f3,f4,rfl,rfl,⟨Uj,T1,_,a3,c3,rfl,Uf,e3⟩,h4⟩:=h3
 cases T1
 obtain⟨rfl,rfl⟩:=pm h4;obtain rfl:=rK p2;simp only[it]at hy;split at hy
 ·rename_i hc
  obtain⟨Uk,T2,N,Td⟩:=hc
  cases hy
  obtain⟨_,S1,_,S2,i9,z,S3,Ti,H,T3,S9⟩:=eZ Tw;subst T;subst hf;rw[T3]at Td S2;obtain⟨m,rfl⟩:∃n:Nat,i=(n:Int):=⟨i.toNat,by omega⟩;have E:m<=l.length:=by exact_mod_cast T2
  have Q:(l.length+c.length)*i9.bytes<=140737488355328:=by exact_mod_cast Td
  have Ta:l.length+c.length<=4611686018427387904:=by
   have:(l.length+c.length)*1<=(l.length+c.length)*i9.bytes:=Nat.mul_le_mul_left _ S2;omega
  simp only[a0j];rcases e3 with⟨_,rfl,_⟩|⟨W,u,G,Tn,rfl,rfl,Tb,C,T4⟩
  ·simp at N
  have T5:=aS Tb;have p:(bY G u (c.length*k.n)).length=c.length*k.n:=aZ C.1;have J:(bY G u (c.length*k.n)).length=c.length*i9.size:=by rw[p,H]
  have S4:∀j v,(bY G u (c.length*k.n))[j]?=some v->w.cell? ⟨W,u+j,none⟩=some v:=λj v hj=>DV T5 hj
  have S5:=sU S1 C;have U:(l.take m++c++l.drop m).length=l.length+c.length:=by simp;omega
  have Tj:∀K,(K-(l.length+c.length))*k.n+(l.length+c.length)*k.n=max K (l.length+c.length)*k.n:=λK=>by rw[<-a1a];congr 1;omega
  have T6:(l.length+c.length)*k.n=l.length*k.n+c.length*k.n:=a1a _ _ _;rcases e1 with⟨rfl,rfl,rfl,rfl⟩|⟨b,o,r,et,rfl,rfl,hb,X,Te⟩
  ·
   obtain rfl:m=0:=by simpa using E
   refine(rM hL i9 z S3 Ti none 0 0 W u c.length c3 [] (bY G u (c.length*k.n)) w N (by omega) (by omega) (by simpa using Q) (by omega) (by simp) J (λ_=>rfl) (λa ha=>by cases ha) S4 S5).mono λe' w' ⟨T,V⟩=> ?_
   have hg:=grownCap_ge w (0+c.length) 0 (ρ.t 9)
   generalize grownCap w (0+c.length) 0 (ρ.t 9)=K at hg T V
   subst V;refine oI s (n:=0+c.length) (by simp) T (.inr (a1n _)) (cP w.drew _) ?_ hg ?_ ((jX _ _).trans (kq (λ_=>False) _ _) (λ_ h=>h.elim)) S0 hF
   ·have To:bu (λx cs=>cG w.heap (λb=>¬FP F ([]++([]++(W::[]++[]))) b) k x cs) k.n c (([]++bY G u (c.length*k.n)).toArray++Builtin.zeroCells z.cells (K-(0+c.length))) 0:=by
     refine C.congr ?_ ?_
     ·simp only[a2j,a3k,a2s,p];omega
     ·have:=Ma (A:=[]) (B:=bY G u (c.length*k.n)) (Z:=Builtin.zeroCells z.cells (K-(0+c.length)))
      rwa [p]at this
    simpa using To
   ·have:=Tj K
    simp only[a0h,a1l]at this T6 hg⊢;simp only[a2j,a3k,a2s,p,dU,S9];rw[a8v hg]at this;omega
  ·have hr:=aS hb
   have S:(bY r o (l.length*k.n)).length=l.length*k.n:=aZ X.1;have S6:(bY r o (l.length*k.n)).length=l.length*i9.size:=by rw[S,H]
   have Tk:∀j v,(bY r o (l.length*k.n))[j]?=some v->w.cell? ⟨b,o+j,none⟩=some v:=λj v hj=>DV hr hj
   have Tp:=sU S1 X;have S7:b∈(b::[]++([]++(W::[]++[]))):=by simp
   have Ug:W∈(b::[]++([]++(W::[]++[]))):=by simp
   have T7:W≠b:=by
    intro h;subst h;simp at Ty
   by_cases Tq:m=l.length
   ·subst Tq
    by_cases q:l.length+c.length<=c1
    ·have Ts:(l.length+c.length)*k.n<=c1*k.n:=a0o _ q
     refine(Cf hL i9 S3 b o l.length c1 W u c.length c3 (bY G u (c.length*k.n)) w N q Ta J (λj hj=> ?_) (λj hj=> ?_) S4 S5).mono λe' w' ⟨T,V⟩=> ?_
     ·rw[H,bT hr];rw[p]at hj;simp;omega
     ·unfold World.frozen?;rw[hb];simp
     ·subst V
      rw[H];have M:o+l.length*k.n+(bY G u (c.length*k.n)).length<=r.size:=by rw[p];omega
      refine oI s (n:=l.length+c.length) U T (.inl S7) (cX _ _ w hb M) ?_ q (by rw[bV M];exact Te) (gJ (I:=(·∈_)) S7 w _ _) S0 hF
      refine lc X C E (by rw[bV M];omega) (cn M) ?_ (by simp[bY])
      have:=eK M
      rwa [p]at this
    ·refine(rM hL i9 z S3 Ti (some ⟨b,o,none⟩) l.length c1 W u c.length c3 (bY r o (l.length*k.n)) (bY G u (c.length*k.n)) w N Tm (by omega) Q Ta S6 J (λh=>by cases h) (λa ha j v hj=>by cases ha;rw[Addr.add_lit];exact Tk j v hj) S4 S5).mono λe' w' ⟨T,V⟩=> ?_
     have hg:=grownCap_ge w (l.length+c.length) c1 (ρ.t 9)
     generalize grownCap w (l.length+c.length) c1 (ρ.t 9)=K at hg T V
     subst V;refine oI s (n:=l.length+c.length) U T (.inr (a1n _)) (cP w.drew _) ?_ hg ?_ ((jX _ _).trans (kq (λ_=>False) _ _) (λ_ h=>h.elim)) S0 hF
     ·refine lc X C E ?_ ?_ ?_ (by simp[bY])
      ·simp only[a3k,a2s,a0m,S,p];omega
      ·have:=OJ (A:=bY r o (l.length*k.n)) (B:=bY G u (c.length*k.n)) (Z:=Builtin.zeroCells z.cells (K-(l.length+c.length)))
       rwa [S]at this
      ·have:=Ma (A:=bY r o (l.length*k.n)) (B:=bY G u (c.length*k.n)) (Z:=Builtin.zeroCells z.cells (K-(l.length+c.length)))
       rw[S,p]at this
       rwa [a1l]
     ·have:=Tj K
      rw[a8v hg]at this;simp only[a3k,a2s,a0m,S,p,dU,S9];omega
   ·have Tt:m<l.length:=by omega
    have Tf:m*k.n<=l.length*k.n:=a0o _ E;have T8:(m+c.length)*k.n=m*k.n+c.length*k.n:=a1a _ _ _;have hd:(l.length-m)*k.n+m*k.n=l.length*k.n:=by rw[<-a1a];congr 1;omega
    have Tc:((bY r o (l.length*k.n)).drop (m*k.n)).length=(l.length-m)*k.n:=by rw[a2w,S];omega
    have Tu:(bY r o (l.length*k.n)).drop (m*k.n)=bY r (o+m*k.n) ((l.length-m)*k.n):=by rw[L8 Tf];congr 1;omega
    by_cases q:l.length+c.length<=c1
    ·have Ts:(l.length+c.length)*k.n<=c1*k.n:=a0o _ q
     have T9:w.shape? b=some (et,r.size):=by simp[World.shape?,hb]
     have Ua:w.shape? W=some (Tn,G.size):=by simp[World.shape?,Tb]
     have Ub:r.size≠0:=by
      have:1*1<=c.length*k.n:=a9d N S1;omega
     refine(I2 hL i9 S3 b o l.length c1 m W u c.length c3 (bY r o (l.length*k.n)) (bY G u (c.length*k.n)) w Tt N q Ta T7 S6 J Tk (λj hj=> ?_) (λj hj=> ?_) S4 Tp S5 Tn et G.size r.size Ua T9 Ub ?_ ?_).mono λe' w' ⟨T,V⟩=> ?_
     ·rw[bT hr];rw[H]at hj;simp;omega
     ·unfold World.frozen?;rw[hb];simp
     ·unfold World.frozen?;rw[Tb];simp
     ·unfold World.frozen?;rw[Tb];simp
     ·subst V
      rw[H];have d:o+(m+c.length)*k.n+((bY r o (l.length*k.n)).drop (m*k.n)).length<=r.size:=by rw[Tc];omega
      have Tl:=cX _ _ w.drew (r:=r) (et:=et) (f:=(0,0)) hb d;have g:o+m*k.n+(bY G u (c.length*k.n)).length<=(nI r (o+(m+c.length)*k.n) ((bY r o (l.length*k.n)).drop (m*k.n))).size:=by rw[bV d,p];omega
      refine oI s (n:=l.length+c.length) U T (.inl S7) (cX _ _ _ Tl g) ?_ q (by rw[bV g,bV d];exact Te) (pq (pq (jX _ _) (.inl S7) _ _) (.inl S7) _ _) S0 hF
      refine lc X C E (by rw[bV g,bV d];omega) ?_ ?_ ?_
      ·rw[cn g,cn d]
      ·have:=eK g
       rwa [p]at this
      ·rw[im g (by rw[p];omega)]
       have:=eK d;rw[Tc]at this;rw[this,Tu]
    ·have Tv:((bY r o (l.length*k.n)).take (m*k.n)).length=m*k.n:=by rw[a1m,S];omega
     refine(L7 hL i9 z S3 Ti (by rw[S9,H]) (by omega) b o l.length c1 m W u c.length c3 (bY r o (l.length*k.n)) (bY G u (c.length*k.n)) w Tt N Tm (by omega) Q Ta S6 J Tk S4 Tp S5).mono λe' w' ⟨T,V⟩=> ?_
     have hg:=grownCap_ge w (l.length+c.length) c1 (ρ.t 9)
     generalize grownCap w (l.length+c.length) c1 (ρ.t 9)=K at hg T V
     rw[H]at V;obtain⟨D,S8⟩:∃D:Array Value,D=((bY r o (l.length*k.n)).take (m*k.n)).toArray++Builtin.zeroCells z.cells (l.length+c.length-m)++Builtin.zeroCells z.cells (K-(l.length+c.length)):=⟨_,rfl⟩;have Uc:D.size=max K (l.length+c.length)*k.n:=by
      have h1:(l.length+c.length-m)*k.n+m*k.n=(l.length+c.length)*k.n:=by rw[<-a1a];congr 1;omega
      rw[S8,<-Tj K];simp only[a3k,a2s,Tv,dU,S9];omega
     rw[a8v hg]at Uc;have Ul:(l.length+c.length)*k.n<=K*k.n:=a0o _ hg;have Ud:bY D 0 (m*k.n)=bY r o (m*k.n):=by
      rw[S8];have:=OI (A:=(bY r o (l.length*k.n)).take (m*k.n)) (Y:=Builtin.zeroCells z.cells (l.length+c.length-m)) (Z:=Builtin.zeroCells z.cells (K-(l.length+c.length)));rw[Tv]at this;rw[this];exact L9 Tf
     rw[<-S8]at V;subst V;have k2:eX (·∈(b::[]++([]++(W::[]++[])))) w (w.alloc (.cells D (ρ.t 9))).drew:=eX.trans (kq _ w _) (jX (λ_=>False) _) (λ_ h=>h.elim);have k3:=pq k2 (.inr (a1n _)) (m*k.n) (bY G u (c.length*k.n));have Ue:(w.alloc (.cells D (ρ.t 9))).drew.heap[w.heap.size]?=some (.cells D (ρ.t 9) (0,0)):=cP w _;have d:m*k.n+(bY G u (c.length*k.n)).length<=D.size:=by rw[p];omega
     have Tl:=cX _ _ (w.alloc (.cells D (ρ.t 9))).drew Ue d;have g:(m+c.length)*k.n+((bY r o (l.length*k.n)).drop (m*k.n)).length<=(nI D (m*k.n) (bY G u (c.length*k.n))).size:=by rw[bV d,Tc];omega
     refine oI s (n:=l.length+c.length) (O:=0) U T (.inr (a1n _)) (cX _ _ _ Tl g) ?_ hg (by rw[bV g,bV d];omega) (pq (eX.trans k3 (jX (λ_=>False) _) (λ_ h=>h.elim)) (.inr (a1n _)) _ _) S0 hF
     refine lc X C E (by rw[bV g,bV d];omega) ?_ ?_ ?_
     ·rw[cn g,cn d]
      exact Ud
     ·rw[cn g,a1l]
      have:=eK d
      rwa [p]at this
     ·have:=eK g
      rw[Tc]at this;rw[a1l,this,Tu]
 ·cases hy
end Go.Pev
section
open Go Go.Proofs Go.Pev Go.Shelf Go.Lib
namespace Go.Pev.F.Lb
set_option maxRecDepth 100000
def slices_Insert_impl_Part_impl_Part.ren:Ren:=⟨λ|22=>307|29=>355|30=>356|n=>n,λ|0=>0|3=>3|4=>4|9=>51|24=>53|n=>n,λn=>n⟩
def slices_Insert_impl_Part_impl_Part.lays:po Tryz.prog slices_Insert_impl_Part_impl_Part.ren:= {
 mixed:=by kernel_rfl
 f22:=⟨"slices.Insert[[]loop.example/g00719/impl.Part,loop.example/g00719/impl.Part]",by kernel_rfl,Tryz.func307.trans (a1x some (by kernel_rfl))⟩
 ov:=λw c a m d b off f g h i j k l n o p q r=>by
  show(callFunc 355 _).run Tryz.prog w=_
  rw[run_callFunc_extern Tryz.func355 (by kernel_rfl) (by kernel_rfl) (by kernel_rfl) (e:=Extern.SlicesOverlaps.overlaps #[53,53] #[4]) (by kernel_rfl),Lib.run_overlaps_apart w 53 4 51 Tryz.underlying53 2 Tryz.sizeOf51 ⟨c,a,none⟩ ⟨b,off,none⟩ m d f g l h i j k n o p q r]
  rfl
 t0:=Tryz.underlying0
 a0:=Tryz.isAgg0
 z0:=Tryz.sizeOf0
 v0:=Tryz.zeroValue0
 t3:=Tryz.underlying3
 a3:=Tryz.isAgg3
 z3:=Tryz.sizeOf3
 v3:=Tryz.zeroValue3
 t4:=Tryz.underlying4
 a4:=Tryz.isAgg4
 z4:=Tryz.sizeOf4
 v4:=Tryz.zeroValue4
 t24:=Tryz.underlying53
 a24:=Tryz.isAgg53
 z24:=Tryz.sizeOf53
 v24:=Tryz.zeroValue53}
def slices_Insert_impl_Part_impl_Part.A:Sh:=it.A (.cons (.sl false (.cons (.int .i64) (.cons (.int .i64) .nil))) (.cons (.sl false (.cons .bool (.cons (.sl false (.cons (.int .i64) (.cons (.int .i64) .nil))) (.cons (.sl false (.cons (.int .i64) (.cons (.int .i64) .nil))) .nil)))) .nil))
def slices_Insert_impl_Part_impl_Part.R:Sh:=it.R (.cons (.sl false (.cons (.int .i64) (.cons (.int .i64) .nil))) (.cons (.sl false (.cons .bool (.cons (.sl false (.cons (.int .i64) (.cons (.int .i64) .nil))) (.cons (.sl false (.cons (.int .i64) (.cons (.int .i64) .nil))) .nil)))) .nil))
def slices_Insert_impl_Part_impl_Part (_:Nat):((List ((List (Int×Int×Unit))×(List (Bool×(List (Int×Int×Unit))×(List (Int×Int×Unit))×Unit))×Unit))×Int×(List ((List (Int×Int×Unit))×(List (Bool×(List (Int×Int×Unit))×(List (Int×Int×Unit))×Unit))×Unit))×Unit)->Option (((List ((List (Int×Int×Unit))×(List (Bool×(List (Int×Int×Unit))×(List (Int×Int×Unit))×Unit))×Unit))×Unit)×(Unit×Unit×Unit×Unit)):=it (.cons (.sl false (.cons (.int .i64) (.cons (.int .i64) .nil))) (.cons (.sl false (.cons .bool (.cons (.sl false (.cons (.int .i64) (.cons (.int .i64) .nil))) (.cons (.sl false (.cons (.int .i64) (.cons (.int .i64) .nil))) .nil)))) .nil)) 48
def slices_Insert_impl_Part_impl_Part.sg (k:Nat):jW:=⟨slices_Insert_impl_Part_impl_Part.A,slices_Insert_impl_Part_impl_Part.R,slices_Insert_impl_Part_impl_Part k,[]⟩
def slices_Insert_impl_Part_impl_Part.ok {L:List (Nat×Obj)} (k:Nat):au Tryz.prog L 307 (slices_Insert_impl_Part_impl_Part.sg k):=
 have h:=I3 (L:=L) slices_Insert_impl_Part_impl_Part.lays (k:=(.cons (.sl false (.cons (.int .i64) (.cons (.int .i64) .nil))) (.cons (.sl false (.cons .bool (.cons (.sl false (.cons (.int .i64) (.cons (.int .i64) .nil))) (.cons (.sl false (.cons (.int .i64) (.cons (.int .i64) .nil))) .nil)))) .nil))) (e:=51) rfl (by kernel_rfl) (f:=307) rfl Tryz.func307 (by kernel_rfl) (by kernel_rfl);have a:df Tryz.prog 51=48:=by kernel_rfl
 by rw[a]at h;exact h
end Go.Pev.F.Lb
end
namespace Go.Proofs
open Go.Shelf
def Tryz.lays264_ren:Go.Shelf.Ren:=⟨λ|264=>387|n=>n,λ|53=>256|46=>94|n=>n,λ|n=>n⟩
def Tryz.lays264:Go.Proofs.Lays.n264 Tryz.prog Tryz.lays264_ren:= {
 mixed:=by kernel_rfl
 f264:=Tryz.func387.trans (a1x some (by kernel_rfl))
 t46:=Tryz.underlying94
 a46:=Tryz.isAgg94
 z46:=Tryz.sizeOf94
 v46:=Tryz.zeroValue94
 t53:=Tryz.underlying256
 a53:=Tryz.isAgg256
 z53:=Tryz.sizeOf256
 v53:=Tryz.zeroValue256}
open Go.RowKit Go.Lib in
def Tryz.bits_Mul64 (x y:Nat) (a:x<18446744073709551616) (b:y<18446744073709551616) (w:World):Calls Tryz.prog 387 #[.int .u64 x,.int .u64 y] w λe c=>e= .returned (.tuple #[.int .u64 ((x*y/18446744073709551616:Nat):Int),.int .u64 ((x*y % 18446744073709551616:Nat):Int)])/\c=w:=Any.bits_Mul64 Tryz.lays264 x y a b w
end Go.Proofs
section
open Go.Proofs
namespace Go.Pev.F.Lb
def Mul64.A:Sh:= .cons (.pur (.int .u64)) (.cons (.pur (.int .u64)) .nil)
def Mul64.R:Sh:= .cons (.pur (.int .u64)) (.cons (.pur (.int .u64)) .nil)
def Mul64 (_:Nat):(Int×Int×Unit)->Option ((Int×Int×Unit)×(Unit×Unit×Unit)):=λx=>if(0<=x.1/\x.1<18446744073709551616)/\0<=x.2.1/\x.2.1<18446744073709551616 then some ((x.1*x.2.1/18446744073709551616,x.1*x.2.1 % 18446744073709551616,()),((),(),()))else none
def Mul64.sg (k:Nat):jW:=⟨Mul64.A,Mul64.R,Mul64 k,[]⟩
def Mul64.ok {L:List (Nat×Obj)} (k:Nat):au Tryz.prog L 387 (Mul64.sg k):=H1 Tryz.func387 (by kernel_rfl) (by kernel_rfl) rfl λw x vs y F s f c d=>by
 obtain⟨a,b,⟨⟩⟩:=x;obtain⟨t,r,rfl,g,c⟩:=lU c;obtain⟨u,r,rfl,h,c⟩:=lU c;obtain⟨rfl,_⟩:=pm c;obtain rfl:=rK g;obtain rfl:=rK h;simp only[Mul64]at d;split at d
 ·rename_i i
  obtain⟨⟨j,a1⟩,l,v⟩:=i
  cases d
  obtain⟨x,rfl⟩:=a8b j;obtain⟨y,rfl⟩:=a8b l;refine(Tryz.bits_Mul64 x y (by omega) (by omega) w).mono λe z ⟨m,n⟩=> ?_
  subst n;refine⟨[_,_],[],m,?_,a2h,λb o=>by simp at o,IZ _⟩;have p:((x:Int)*(y:Int)/18446744073709551616)=((x*y/18446744073709551616:Nat):Int):=by
   rw[<-a6g];omega
  have q:((x:Int)*(y:Int) % 18446744073709551616)=((x*y % 18446744073709551616:Nat):Int):=by
   rw[<-a6g];omega
  simp only[p,q];exact oG uA (oG uA ⟨rfl,rfl⟩)
 ·cases d
end Go.Pev.F.Lb
end
namespace Go.Pev
open Go Go.Proofs Go.Shelf Go.RowKit
def AD.A:Sh:= .cons (.row (.int .i64)) .nil
def AD (_:Nat):(List Int×Unit)->Option (Unit×(List Int×Unit)):=λx=>if 0<x.1.length/\x.1.length<4611686018427387904 then some ((),(x.1.mergeSort (λa b=>decide (a<=b)),()))else none
def uC {w:World} {b o n:Nat} {d:Array Int} {os:Array Obj} {r:Array Value} {et:TypeId} {f:Nat×Nat} (c:w.heap[b]?=some (.cells r et f)):(Go.Sort.grow (Go.Sort.putRow (Value.int .i64) (Go.Sort.ahead w n) b o d) os).heap[b]?=some (.cells (Go.Sort.putCells (Value.int .i64) o d r) et f):=by
 have a:=(a1c.1 c).1;show((w.heap.modify b _)++os)[b]?=_;rw[a4s (by simpa using a),a4d,a0b rfl,c];rfl
def DW {w:World} {b o n:Nat} {d:Array Int} {os:Array Obj} {I:Nat->Prop} (h:I b):eX I w (Go.Sort.grow (Go.Sort.putRow (Value.int .i64) (Go.Sort.ahead w n) b o d) os):=by
 refine⟨?_,λa i j=> ?_,λa r et f c=> ?_,rfl,rfl,rfl⟩
 ·show w.heap.size<=((w.heap.modify b _)++os).size
  simp
 ·show((w.heap.modify b _)++os)[a]?=_
  rw[a4s (by simpa using i),a4d,a0e (show¬b=a fromλe=>j (e▸h))]
 ·by_cases e:b=a
  ·subst e
   exact⟨_,uC c,by simp[Go.Sort.putCells]⟩
  ·have g:=(a1c.1 c).1
   refine⟨r,?_,rfl⟩;show((w.heap.modify b _)++os)[a]?=_;rw[a4s (by simpa using g),a4d,a0e e,c]
def OK {P:Program} {ρ:Ren} {L:List (Nat×Obj)} (K:SlLaysN.n53 P ρ) (k:Nat) {f:FuncId} (M:ρ.f 53=f) {fn:Func} (D:P.funcs[f]?=some fn) (d:(fn.name== "runtime.NumGoroutine")=false) (g:fn.body.isNone=false):au P L f ⟨AD.A,.nil,AD k,[]⟩:=by
 refine⟨⟨fn,D,d,g⟩,λw F x vs fp y hF N O Q E v _=> ?_⟩;obtain⟨(l:List Int),⟨⟩⟩:=x;obtain⟨v1,r1,f1,f2,rfl,rfl,⟨R,G,h,a1,c1,rfl,H,T⟩,z⟩:=E
 cases G
 obtain⟨rfl,rfl⟩:=pm z;simp only[AD]at v;split at v
 ·rename_i U
  obtain⟨V,s⟩:=U
  cases v
  subst M;rcases T with⟨_,e,_⟩|⟨b,o,r,et,rfl,rfl,B,m,t⟩
  ·simp only at e;subst e;simp at V
  have W:=aS B;have p:∀j (C:j<l.length),r[o+j]?=some (.int .i64 l[j]):=λj C=>by
   have X:bY r (o+j*1) 1=[.int .i64 l[j]]:=m.2 j C;have z:(bY r (o+j*1) 1)[0]?=r[o+j*1+0]?:=aR (by omega);rw[X,a5z,a2z]at z;exact z.symm
  have Y:Go.Sort.Holds (Value.int .i64) w b o l.toArray:=λj C=>by
   have u:j<l.length:=by simpa using C
   refine⟨?_,by unfold World.frozen?;rw[B];simp⟩;rw[bT W,p j u];simp[u]
  have c:(l.mergeSort λa b=>decide (a<=b)).length=l.length:=List.length_mergeSort l;refine(AnyG.slices_Sort_int K b o c1 l w Y (a1c.1 B).1 s).mono λe' w' ⟨Z,n,os,hw⟩=> ?_
  subst hw
  generalize hS:(l.mergeSort λa b=>decide (a<=b))=S at c⊢
  have I:o+l.length*1<=r.size:=m.1;rw[a5z]at I;refine⟨[],[],[b],Z,⟨rfl,rfl⟩,⟨_,[],[b],[],rfl,rfl,.inr ⟨rfl,_,rfl,h,some ⟨b,o,none⟩,c1,by rw[c],by rw[c];exact H,.inr ⟨b,o,_,et,rfl,rfl,uC B,⟨?_,λi hi=> ?_⟩,?_⟩⟩,rfl,rfl⟩,by simp,λb' J=> .inl (by simpa using J),DW (by simp)⟩
  ·rw[c]
   simpa [Go.Sort.putCells]using m.1
  ·show bY _ (o+i*1) 1=[.int .i64 S[i]]
   have S0:i<l.length:=by rw[<-c];exact hi
   apply a2e;intro q
   cases q with
   |zero=>
    rw[aR (by omega)];have h3:r[o+i]?=some r[o+i]:=a1k (by omega);simp only[Go.Sort.putCells,a5z,a2z,Array.getElem?_mapIdx,h3,a1t,a2s,a1p];rw[ifPosQ,show o+i-o=i by omega];simp[hi]
   |succ q=>rw[kr];rfl
  ·simpa [Go.Sort.putCells]using t
 ·cases v
end Go.Pev
section
open Go.Proofs Go.Pev Go.Shelf
namespace Go.Pev.F.Lb
set_option maxRecDepth 100000
def slices_Sort_int64_int64.ren:Ren:=⟨λ|53=>285|59=>380|63=>333|64=>334|68=>231|70=>374|71=>375|72=>376|73=>377|74=>378|75=>379|76=>381|77=>382|78=>383|79=>384|88=>408|89=>409|90=>410|91=>411|92=>412|96=>422|n=>n,λ|0=>0|3=>3|4=>4|5=>5|9=>9|22=>32|23=>2|44=>206|51=>94|60=>410|61=>411|67=>404|69=>256|75=>448|79=>451|83=>459|84=>460|n=>n,λn=>n⟩
def slices_Sort_int64_int64.lays:Go.Proofs.SlLaysN.n53 Tryz.prog slices_Sort_int64_int64.ren:= {
 mixed:=by kernel_rfl
 f53:=⟨"slices.Sort[[]int64,int64]",by kernel_rfl,Tryz.func285.trans (a1x some (by kernel_rfl))⟩
 f59:=⟨"cmp.Less[int64]",by kernel_rfl,Tryz.func380.trans (a1x some (by kernel_rfl))⟩
 f63:=⟨"slices.pdqsortOrdered[int64]",by kernel_rfl,Tryz.func333.trans (a1x some (by kernel_rfl))⟩
 f64:=Tryz.func334.trans (a1x some (by kernel_rfl))
 f68:=⟨"cmp.isNaN[int64]",by kernel_rfl,Tryz.func231.trans (a1x some (by kernel_rfl))⟩
 f70:=⟨"slices.insertionSortOrdered[int64]",by kernel_rfl,Tryz.func374.trans (a1x some (by kernel_rfl))⟩
 f71:=⟨"slices.heapSortOrdered[int64]",by kernel_rfl,Tryz.func375.trans (a1x some (by kernel_rfl))⟩
 f72:=⟨"slices.breakPatternsOrdered[int64]",by kernel_rfl,Tryz.func376.trans (a1x some (by kernel_rfl))⟩
 f73:=⟨"slices.choosePivotOrdered[int64]",by kernel_rfl,Tryz.func377.trans (a1x some (by kernel_rfl))⟩
 f74:=⟨"slices.reverseRangeOrdered[int64]",by kernel_rfl,Tryz.func378.trans (a1x some (by kernel_rfl))⟩
 f75:=⟨"slices.partialInsertionSortOrdered[int64]",by kernel_rfl,Tryz.func379.trans (a1x some (by kernel_rfl))⟩
 f76:=⟨"slices.partitionEqualOrdered[int64]",by kernel_rfl,Tryz.func381.trans (a1x some (by kernel_rfl))⟩
 f77:=⟨"slices.partitionOrdered[int64]",by kernel_rfl,Tryz.func382.trans (a1x some (by kernel_rfl))⟩
 f78:=Tryz.func383.trans (a1x some (by kernel_rfl))
 f79:=Tryz.func384.trans (a1x some (by kernel_rfl))
 f88:=⟨"slices.siftDownOrdered[int64]",by kernel_rfl,Tryz.func408.trans (a1x some (by kernel_rfl))⟩
 f89:=Tryz.func409.trans (a1x some (by kernel_rfl))
 f90:=Tryz.func410.trans (a1x some (by kernel_rfl))
 f91:=⟨"slices.medianAdjacentOrdered[int64]",by kernel_rfl,Tryz.func411.trans (a1x some (by kernel_rfl))⟩
 f92:=⟨"slices.medianOrdered[int64]",by kernel_rfl,Tryz.func412.trans (a1x some (by kernel_rfl))⟩
 f96:=⟨"slices.order2Ordered[int64]",by kernel_rfl,Tryz.func422.trans (a1x some (by kernel_rfl))⟩
 t0:=Tryz.underlying0
 a0:=Tryz.isAgg0
 z0:=Tryz.sizeOf0
 v0:=Tryz.zeroValue0
 t3:=Tryz.underlying3
 a3:=Tryz.isAgg3
 z3:=Tryz.sizeOf3
 v3:=Tryz.zeroValue3
 t4:=Tryz.underlying4
 a4:=Tryz.isAgg4
 z4:=Tryz.sizeOf4
 v4:=Tryz.zeroValue4
 t5:=Tryz.underlying5
 a5:=Tryz.isAgg5
 z5:=Tryz.sizeOf5
 v5:=Tryz.zeroValue5
 t9:=Tryz.underlying9
 a9:=Tryz.isAgg9
 z9:=Tryz.sizeOf9
 v9:=Tryz.zeroValue9
 t22:=Tryz.underlying32
 a22:=Tryz.isAgg32
 z22:=Tryz.sizeOf32
 v22:=Tryz.zeroValue32
 t23:=Tryz.underlying2
 a23:=Tryz.isAgg2
 z23:=Tryz.sizeOf2
 v23:=Tryz.zeroValue2
 t44:=Tryz.underlying206
 a44:=Tryz.isAgg206
 z44:=Tryz.sizeOf206
 v44:=Tryz.zeroValue206
 t51:=Tryz.underlying94
 a51:=Tryz.isAgg94
 z51:=Tryz.sizeOf94
 v51:=Tryz.zeroValue94
 t60:=Tryz.underlying410
 a60:=Tryz.isAgg410
 z60:=Tryz.sizeOf410
 v60:=Tryz.zeroValue410
 t61:=Tryz.underlying411
 a61:=Tryz.isAgg411
 z61:=Tryz.sizeOf411
 v61:=Tryz.zeroValue411
 t67:=Tryz.underlying404
 a67:=Tryz.isAgg404
 z67:=Tryz.sizeOf404
 v67:=Tryz.zeroValue404
 t69:=Tryz.underlying256
 a69:=Tryz.isAgg256
 z69:=Tryz.sizeOf256
 v69:=Tryz.zeroValue256
 t75:=Tryz.underlying448
 a75:=Tryz.isAgg448
 z75:=Tryz.sizeOf448
 v75:=Tryz.zeroValue448
 t79:=Tryz.underlying451
 a79:=Tryz.isAgg451
 z79:=Tryz.sizeOf451
 v79:=Tryz.zeroValue451
 t83:=Tryz.underlying459
 a83:=Tryz.isAgg459
 z83:=Tryz.sizeOf459
 v83:=Tryz.zeroValue459
 t84:=Tryz.underlying460
 a84:=Tryz.isAgg460
 z84:=Tryz.sizeOf460
 v84:=Tryz.zeroValue460}
def slices_Sort_int64_int64.A:Sh:=AD.A
def slices_Sort_int64_int64.R:Sh:= .nil
def slices_Sort_int64_int64 (k:Nat):(List Int×Unit)->Option (Unit×(List Int×Unit)):=AD k
def slices_Sort_int64_int64.sg (k:Nat):jW:=⟨slices_Sort_int64_int64.A,slices_Sort_int64_int64.R,slices_Sort_int64_int64 k,[]⟩
def slices_Sort_int64_int64.ok {L:List (Nat×Obj)} (k:Nat):au Tryz.prog L 285 (slices_Sort_int64_int64.sg k):=OK slices_Sort_int64_int64.lays k (f:=285) rfl Tryz.func285 (by kernel_rfl) (by kernel_rfl)
