/-
  PEV, part 24: calls in place: the callee's code is gone through over what the caller owns.
-/
import Derived.Test.YtjjmipjhddlncaaGreatDoorR01
import Derived.Below
import Derived.Sort.Grow
import Derived.Deep.Draws
import Derived.Carry
import Derived.WideShapes
import Derived.Lib.LaidTab
import Derived.ChangeArms
import Derived.Shelf.Strings.Fields
import Derived.Shelf.Strings.SplitShaped
import Derived.Shelf.LaysM
import Derived.Test.YtjjmipjhddlncaaGreatDoorProg
import Derived.KernelRfl
import Derived.Shelf.Spec.SlicesGrow
import Derived.Shelf.Spec.SlicesInsertGrow
import Derived.Shelf.SlGeneric
import Derived.Shelf.Bits.Mul64
import Derived.Shelf.SortG.Plain
set_option linter.all false
noncomputable section
namespace Go.Pev
variable {w:World} {G:Gh} {st:St} {a:Act} {s:SV} {ow:OW}
def qn {γ:Type} {src:Bool} {f:SV->ba γ} {Q:γ->Prop} (h:((sk src s).bind f).can Q):(f (dz src s)).can Q:=by
 unfold sk at h;unfold dz
 cases src with
 |false=>exact h
 |true=>
  simp only[a1z]at h⊢;split at h
  ·rename_i b
   cases b<;>exact h
  ·rename_i a
   split
   ·rename_i b;exact absurd rfl (a b)
   ·exact h
def kb {β:Type} {Q:β->Prop}:(c:ba β)->c.noAmb.can Q->∃b,c.out=some b/\Q b
 | .ret b,h=>⟨b,rfl,h⟩
 | .fail,h=>h.elim
 | .chk c t,h=>by
  obtain⟨rfl,h⟩:=h;obtain⟨b,a,d⟩:=kb t h;exact⟨b,a,d⟩
 | .bnd _ m f,h=>by
  obtain⟨y,rfl,h⟩:=h;obtain⟨b,a,d⟩:=kb (f y) h;exact⟨b,a,d⟩
 | .amb _ _ _,h=>h.elim
 | .ite c f g,h=>by
  cases c with
  |false=>exact kb g h
  |true=>exact kb f h
def sH {C:gI} {b:Array Oper} {ow:OW} {Q:List SV->Prop}:(l:List (Oper×Nat))->(∀p∈l,b[p.2]?=some p.1)-> {c:List SV}->(AE C b ow l c).can Q->∃a,kW (ky C b ow) (l.map (·.2)) c=some a/\Q a
 |[],_,c,h=>⟨c,rfl,h⟩
 |(o,i)::l,hl,c,h=>by
  have e:=hl (o,i) (by simp);simp only at e;have d:∀p∈l,b[p.2]?=some p.1:=λp k=>hl p (by simp[k])
  unfold AE at h;simp only[a2g,kW];split at h
  ·exact h.elim
  ·rename_i f
   obtain⟨a,g,j⟩:=sH l d h;refine⟨a,?_,j⟩;simp only[ky,e,q9,f,a1w];exact g
  ·rename_i f
   obtain⟨s,g,j⟩:=kb _ (ba.can_bind _ h);obtain⟨a,m,n⟩:=sH l d (qn j);refine⟨a,?_,n⟩;simp only[ky,e,q9,f,g,a1w];exact m
def oy {C:gI} {a:Option Nat->Nat} {b:Array Oper} {ks:List (List Nat×Bool)} {Q:St->Prop}:(l:List (Oper×Nat))->(∀p∈l,b[p.2]?=some p.1)-> {st:St}->(o4 C a b ks l st).can Q->∃d,kW (iH C (QB C a) (λo=>a o.dst) (λ_=>none) b ks) (l.map (·.2)) st=some d/\Q d
 |[],_,st,h=>⟨st,rfl,h⟩
 |(o,i)::l,hl,st,h=>by
  have f:=hl (o,i) (by simp);simp only at f;have e:∀p∈l,b[p.2]?=some p.1:=λp n=>hl p (by simp[n])
  unfold o4 at h;simp only[a2g,kW];split at h
  ·exact h.elim
  ·rename_i g
   obtain⟨c,j,k⟩:=oy l e h;rw[(er (E:=QB C a) (dk:=λo=>a o.dst) (B:=λ_=>none) f).1 g];exact⟨c,j,k⟩
  ·rename_i g
   split at h
   ·rename_i q r
    split at h
    ·rename_i m
     obtain⟨s,j,k⟩:=kb _ (ba.can_bind _ h);obtain⟨c,t,u⟩:=oy l e (qn k);rw[(er (E:=QB C a) (dk:=λo=>a o.dst) (B:=λ_=>none) f).2 g q s.1 s.2 r m ((ba.outB_none _).trans j)];exact⟨c,t,u⟩
    ·exact h.elim
   ·exact h.elim
section
variable {F:Nat->Prop} {G0:Gh} {ow0:OW} {w0:World} {L:List (Nat×Obj)} {C:gI}
structure qG (F:Nat->Prop) (G0:Gh) (ow0:OW) (w0:World) (st:St) (a:Act) (w:World):Prop where
 ex:∃G,Tr F G0 ow0 w0 G st.ow w/\dq F G st.ow w.heap st.sl a.tmps.toList
 defers:a.defers=[]
structure Oz (F:Nat->Prop) (G0:Gh) (ow0:OW) (w0:World) (L:List (Nat×Obj)):Prop where
 wide:∀b,F b->b<w0.heap.size
 laid:iX L (ci G0 ow0) w0.heap
def Oz.wideAt (a:Oz F G0 ow0 w0 L) (t:Tr F G0 ow0 w0 G ow w):∀b,F b->b<w.heap.size:=λb c=>a7c (a.wide b c) t.kept.size
def Oz.laidAt (d:Oz F G0 ow0 w0 L) (t:Tr F G0 ow0 w0 G ow w):iX L (ci G ow) w.heap:=λp e=>by
 obtain⟨b,c⟩:=d.laid p e;have a:=(a1b.1 c).1;refine⟨λh=> ?_,by rw[t.kept.heap p.1 a b];exact c⟩;rcases t.own _ h with h|h
 ·exact b h
 ·omega
def qG.op (g:a.defers=[]) (t:Tr F G0 ow0 w0 G st.ow w) (e:dq F G st.ow w.heap st.sl a.tmps.toList) {b:Gh} {ow':OW} {c:World} (f:Tr F G st.ow w b ow' c) {v:Value} (h:Sv F b ow' c.heap s v) {d:Option Tmp}:qG F G0 ow0 w0 ⟨bn st.sl d s,ow'⟩ (a.put d v) c:=⟨⟨b,t.trans f,vH ⟨e.1,λi j k=>f.sv _ _ (e.2 i j k)⟩ h d⟩,by rw[mF];exact g⟩
def qG.slot (h:qG F G0 ow0 w0 st a w) {v:Value} (b:∀G,Sv F G st.ow w.heap s v) {d:Option Tmp}:qG F G0 ow0 w0 ⟨bn st.sl d s,st.ow⟩ (a.put d v) w:=by
 obtain⟨G,t,c⟩:=h.ex;exact⟨⟨G,t,vH c (b G) d⟩,by rw[mF];exact h.defers⟩
def mH (r:C.Holds L) (n:Oz F G0 ow0 w0 L) {d:Option Nat->Nat} {b:Array Oper} {Q:St->Prop} {R:Exit->Act->World->Prop} (u:∀g A c,Q g->qG F G0 ow0 w0 g A c->R .normal A c):(l:List (Oper×Nat))->(∀p∈l,b[p.2]?=some p.1)-> {st:St}-> {a:Act}-> {w:World}->qG F G0 ow0 w0 st a w->(sm C d b l st).can Q->wpOps C.P b R (l.map (·.2)) a w
 |[],_,st,a,w,h,e=>u _ _ _ e h
 |(o,i)::l,hl,st,a,w,h,e=>by
  have B:=hl (o,i) (by simp);have j:∀p∈l,b[p.2]?=some p.1:=λp D=>hl p (by simp[D])
  obtain⟨G,t,q⟩:=h.ex;unfold sm at e;simp only[a2g,wpOps];rw[B];simp only;split at e
  ·exact e.elim
  ·rename_i x
   rw[cC q x];exact mH r n u l j (h.slot (λ_=>kx)) e
  ·rename_i x
   rw[cC q x];simp only[a1z];left;have y:=mE r rfl t.hrep (n.wideAt t) (n.laidAt t) (ep q) (ba.can_bind _ e);refine u6.wp ?_
   have conv:∀v c,(∃s ow' z,((sk (dZ b i) s).bind λE=>sm C d b l ⟨bn st.sl o.dst E,ow'⟩).can Q/\Tr F G st.ow w z ow' c/\Sv F z ow' c.heap s v)->wpOps C.P b R (l.map (·.2)) (a.put o.dst v) c:=by
    rintro v c ⟨s,ow',z,H,I,J⟩
    exact mH r n u l j (qG.op h.defers t q I (cu J)) (qn H)
   rcases y with⟨v,c,k,m⟩|⟨c,k,m⟩|⟨f,args,k,m⟩
   ·exact .inl ⟨v,c,k,conv v c m⟩
   ·exact .inr (.inl ⟨c,k,conv undef c m⟩)
   ·exact .inr (.inr ⟨f,args,k,m.mono λe c ⟨v,K,M⟩=>⟨v,K,conv v c M⟩⟩)
def PZ (T:C.Holds L) (U:C.P.follows .mixedOrders=true) (I:Oz F G0 ow0 w0 L) {V:Nat} {b:Array Oper} (h:qG F G0 ow0 w0 st a w) (z:lS b (iA b)=true) {J:List SV->Prop} (W:(AE C b st.ow b.toList.zipIdx st.sl).can J) {Q:Exit->Act->World->Prop} (X:∀g x c,J g->qG F G0 ow0 w0 ⟨g,st.ow⟩ x c->Q .normal x c):(Code.region V b true).wp C.P Q a w:=by
 obtain⟨Y,Z⟩:=im b (fr:=λ_=>true) (a1g.2 λo _=>by cases o.dst<;>rfl);obtain⟨l,M,h2⟩:=sH _ (λp hp=>(Y p hp).1) W;rw[Z]at M
 let R:List SV->Act->World->Prop:=λA a w=>qG F G0 ow0 w0 ⟨A,st.ow⟩ a w
 refine wp_region_any U (qk (step:=ky C b st.ow) (R:=R) (λi j s s1 s2=>wX i j s s1 s2) ?_ z (sF:=l) (λx c m=>X l x c h2 m) b.size _ st.sl a _ (by simp) ?_ ?_ ?_ ?_)
 ·intro i A g a w N d m K O
  unfold ky at d
  cases ho:b[i]? with
  |none=>rw[ho]at d;cases d
  |some o=>
   rw[ho]at d;simp only[a2j]at d;obtain⟨v,k,rfl⟩:=d;obtain⟨G,t,y⟩:=m.ex;unfold wpOp;rw[ho];simp only;unfold q9 at k;split at k
   ·cases k
   ·rename_i B
    cases k
    rw[cC y B];exact O _ _ (qG.slot m (λ_=>kx))
   ·rename_i B
    rw[cC y B];simp only[a1z];left;rw[a2j]at k;obtain⟨s,d,rfl⟩:=k;have D:=fT T (op:=o) rfl t.hrep (I.wideAt t) (I.laidAt t) (ep y) (ba.out_can _ d);refine u6.wp ?_
    have conv:∀u c,(∃E,E=s/\Tr F G st.ow w G st.ow c/\Sv F G st.ow c.heap E u)->K (a.put o.dst u) c:=by
     rintro u c ⟨E,rfl,ht,H⟩
     exact O _ _ (qG.op (st:=⟨A,st.ow⟩) m.defers t y ht (cu H))
    rcases D with⟨u,c,n,q⟩|⟨c,n,q⟩|⟨f,args,n,q⟩
    ·exact .inl ⟨u,c,n,conv u c q⟩
    ·exact .inr (.inl ⟨c,n,conv undef c q⟩)
    ·exact .inr (.inr ⟨f,args,n,q.mono λe c ⟨u,q3,q4⟩=>⟨u,q3,conv u c q4⟩⟩)
 ·refine a5m (a5p _ _) (by simp)
 ·intro j S
  exfalso;by_cases r:j<b.size
  ·simp[Array.getD,r]at S
  ·simp[Array.getD,r]at S
 ·have:((List.range b.size).filter λi=> !(Array.replicate b.size false).getD i true)=List.range b.size:=by
   rw[a6b];intro i N;have:=a2f.1 N;simp[Array.getD,this]
  rw[this];exact M
 ·obtain⟨G,t,d⟩:=h.ex
  exact⟨⟨G,⟨t.hrep,t.sv,⟨t.kept.size,t.kept.heap,t.kept.cells,t.kept.os,t.kept.output,t.kept.tape⟩,t.own,t.len⟩,d⟩,h.defers⟩
def OA (U:C.Holds L) (hm:C.P.follows .mixedOrders=true) (hE:Oz F G0 ow0 w0 L) {E:Option Nat->Nat} {id:Nat} {m:Array Oper} {ks:List (List Nat×Bool)} (h:qG F G0 ow0 w0 st a w) (R4:lS m (p7 (λo=>E o.dst) m ks)=true) {Qs:St->Prop} (he:(o4 C E m ks m.toList.zipIdx st).can Qs) {Q:Exit->Act->World->Prop} (hQ:∀V a' c,Qs V->qG F G0 ow0 w0 V a' c->Q .normal a' c):(Code.region id m true).wp C.P Q a w:=by
 obtain⟨W,hr⟩:=im m (fr:=λ_=>true) (a1g.2 λo _=>by cases o.dst<;>rfl);obtain⟨R0,h1,h2⟩:=oy _ (λp hp=>(W p hp).1) he;rw[hr]at h1
 let R:St->Act->World->Prop:=λst a w=>qG F G0 ow0 w0 st a w
 refine wp_region_any hm (qk (step:=iH C (QB C E) (λo=>E o.dst) (λ_=>none) m ks) (R:=R) (λi j s s1 s2=>w8 (JB C E) i j s s1 s2) ?_ R4 (sF:=R0) (λa' c hR=>hQ R0 a' c h2 hR) m.size _ st a _ (by simp) ?_ ?_ ?_ ?_)
 ·intro i st V a w hi hs O K S
  obtain⟨o,ho,hs⟩:=kz hs;obtain⟨G,t,B⟩:=O.ex;have N:=t.hrep;unfold wpOp;rw[ho];simp only;rcases hs with⟨hw,rfl⟩|⟨hw,q,s,r,hq,A,g,rfl⟩
  ·rw[cC B hw]
   exact S _ _ (qG.slot O (λ_=>kx))
  ·rw[cC B hw]
   simp only[a1z];left;have z:=hE.wideAt t;have H:=hE.laidAt t;have X:∀b,FM F G st.ow q.1 b->b<w.heap.size:=λb hb=>Pw N z hb
   have Y:iX L (ci G (aL q.1 0 st.ow)) w.heap:=λp hp=>⟨λh=>(H p hp).1 (gm h),(H p hp).2⟩
   have hρ:Mp (FM F G st.ow q.1) G (aL q.1 0 st.ow) w.heap (iU st.sl) a.eval:=λx=>o8 A (ep B x)
   refine u6.wp ?_
   rw[ba.outB_none]at g;unfold p6 at g;split at g
   ·obtain⟨x,e1,D⟩:=ba.out_bind _ g
    split at D
    ·rename_i y
     simp only[a0e]at y;simp only[ba.out,a0l,a0z]at D;obtain⟨rfl,rfl⟩:=D;have n:=mE U (op:=o) rfl (ka A N) X Y hρ (ba.out_can _ e1);have conv:∀u c,(∃s ow' Z,(s,ow')=x/\Tr (FM F G st.ow q.1) G (aL q.1 0 st.ow) w Z ow' c/\Sv (FM F G st.ow q.1) Z ow' c.heap s u)->K (a.put o.dst u) c:=by
      rintro u c ⟨s,ow',Z,rfl,I,v⟩
      obtain⟨t1,t2⟩:=lW N z A I y.1.1.1;exact S _ _ (qG.op O.defers t B t1 (cu (t2 s u 8 y.1.1.2 v)))
     rcases n with⟨u,c,k,l⟩|⟨c,k,l⟩|⟨f,args,k,l⟩
     ·exact .inl ⟨u,c,k,conv u c l⟩
     ·exact .inr (.inl ⟨c,k,conv undef c l⟩)
     ·exact .inr (.inr ⟨f,args,k,l.mono λe c ⟨u,J,M⟩=>⟨u,J,conv u c M⟩⟩)
    ·cases D
   ·split at g
    ·split at g
     ·rename_i s' W
      split at g
      ·rename_i hh
       simp only[ba.out,a0l,a0z]at g;obtain⟨rfl,rfl⟩:=g;have n:=fT U (op:=o) rfl N z H (ep B) (io (C:=C) (λd j ob h=>i5 h) (wY W hh));have conv:∀u c,(∃s,s=s'/\Tr F G st.ow w G st.ow c/\Sv F G st.ow c.heap s u)->K (a.put o.dst u) c:=by
        rintro u c ⟨s,rfl,I,v⟩
        exact S _ _ (qG.op O.defers t B I (cu v))
       rcases n with⟨u,c,k,l⟩|⟨c,k,l⟩|⟨f,args,k,l⟩
       ·exact .inl ⟨u,c,k,conv u c l⟩
       ·exact .inr (.inl ⟨c,k,conv undef c l⟩)
       ·exact .inr (.inr ⟨f,args,k,l.mono λe c ⟨u,J,M⟩=>⟨u,J,conv u c M⟩⟩)
      ·cases g
     ·cases g
    split at g
    ·split at g
     ·rename_i s' W
      simp only[ba.out,a0l,a0z]at g;obtain⟨rfl,rfl⟩:=g;have n:=fT U (op:=o) rfl N z H (ep B) (io (C:=C) (λd j ob h=>i5 h) (uq W));have conv:∀u c,(∃s,s=s'/\Tr F G st.ow w G st.ow c/\Sv F G st.ow c.heap s u)->K (a.put o.dst u) c:=by
       rintro u c ⟨s,rfl,I,v⟩
       exact S _ _ (qG.op O.defers t B I (cu v))
      rcases n with⟨u,c,k,l⟩|⟨c,k,l⟩|⟨f,args,k,l⟩
      ·exact .inl ⟨u,c,k,conv u c l⟩
      ·exact .inr (.inl ⟨c,k,conv undef c l⟩)
      ·exact .inr (.inr ⟨f,args,k,l.mono λe c ⟨u,J,M⟩=>⟨u,J,conv u c M⟩⟩)
     ·cases g
    split at g
    ·rename_i x hx
     simp only[ba.out,a0l,a0z]at g;obtain⟨rfl,rfl⟩:=g;have R1:(AA C o.op (iU st.sl) st.ow).can λs=>s=x:=AR hx
     have n:=fT U (op:=o) rfl N z H (ep B) R1;have conv:∀u c,(∃s,s=x/\Tr F G st.ow w G st.ow c/\Sv F G st.ow c.heap s u)->K (a.put o.dst u) c:=by
      rintro u c ⟨s,rfl,I,v⟩
      exact S _ _ (qG.op O.defers t B I (cu v))
     rcases n with⟨u,c,k,l⟩|⟨c,k,l⟩|⟨f,args,k,l⟩
     ·exact .inl ⟨u,c,k,conv u c l⟩
     ·exact .inr (.inl ⟨c,k,conv undef c l⟩)
     ·exact .inr (.inr ⟨f,args,k,l.mono λe c ⟨u,J,M⟩=>⟨u,J,conv u c M⟩⟩)
    ·split at g
     ·rename_i s' W
      simp only[ba.out,a0l,a0z]at g;obtain⟨rfl,rfl⟩:=g;have n:=fT U (op:=o) rfl N z H (ep B) (io (C:=C) (λd j ob h=>i5 h) W);have conv:∀u c,(∃s,s=s'/\Tr F G st.ow w G st.ow c/\Sv F G st.ow c.heap s u)->K (a.put o.dst u) c:=by
       rintro u c ⟨s,rfl,I,v⟩
       exact S _ _ (qG.op O.defers t B I (cu v))
      rcases n with⟨u,c,k,l⟩|⟨c,k,l⟩|⟨f,args,k,l⟩
      ·exact .inl ⟨u,c,k,conv u c l⟩
      ·exact .inr (.inl ⟨c,k,conv undef c l⟩)
      ·exact .inr (.inr ⟨f,args,k,l.mono λe c ⟨u,J,M⟩=>⟨u,J,conv u c M⟩⟩)
     ·split at g
      ·obtain⟨x,e1,D⟩:=ba.out_bind _ g
       split at D
       ·rename_i y
        simp only[a0e]at y;simp only[ba.out,a0l,a0z]at D;obtain⟨rfl,rfl⟩:=D;have n:=uh U (op:=o) rfl (ka A N) X Y hρ (ba.out_can _ e1);obtain⟨R6,R2⟩:=w9 (b:=none) ((ba.outB_none _).trans e1);have R5:mq st.ow (some ([E o.dst],x.2))=bU q.1 0 st.ow x.2:=AW R2 y.2;have conv:∀u c,(∃s ow' Z,(s,ow')=x/\Tr (FM F G st.ow q.1) G (aL q.1 0 st.ow) w Z ow' c/\Sv (FM F G st.ow q.1) Z ow' c.heap s u)->K (a.put o.dst u) c:=by
         rintro u c ⟨s,ow',Z,rfl,I,v⟩
         obtain⟨t1,t2⟩:=lW N z A I y.1.1;have T:R ⟨bn st.sl o.dst (dz (dZ m i) s),bU q.1 0 st.ow ow'⟩ (a.put o.dst u) c:=qG.op O.defers t B t1 (cu (t2 s u 8 y.1.2 v));rw[<-R5]at T;exact S _ _ T
        rcases n with⟨u,c,k,l⟩|⟨c,k,l⟩|⟨f,args,k,l⟩
        ·exact .inl ⟨u,c,k,conv u c l⟩
        ·exact .inr (.inl ⟨c,k,conv undef c l⟩)
        ·exact .inr (.inr ⟨f,args,k,l.mono λe c ⟨u,J,M⟩=>⟨u,J,conv u c M⟩⟩)
       ·cases D
      ·obtain⟨x,e1,D⟩:=ba.out_bind _ g
       split at D
       ·rename_i y
        simp only[a0e]at y;simp only[ba.out,a0l,a0z]at D;obtain⟨rfl,rfl⟩:=D;have n:=fT U (op:=o) rfl (ka A N) X Y hρ (ba.out_can _ e1);have conv:∀u c,(∃s,s=x/\Tr (FM F G st.ow q.1) G (aL q.1 0 st.ow) w G (aL q.1 0 st.ow) c/\Sv (FM F G st.ow q.1) G (aL q.1 0 st.ow) c.heap s u)->K (a.put o.dst u) c:=by
         rintro u c ⟨s,rfl,I,v⟩
         obtain⟨t1,t2⟩:=ox N z A I y.1;exact S _ _ (qG.op O.defers t B t1 (cu (t2 s u 8 y.2 v)))
        rcases n with⟨u,c,k,l⟩|⟨c,k,l⟩|⟨f,args,k,l⟩
        ·exact .inl ⟨u,c,k,conv u c l⟩
        ·exact .inr (.inl ⟨c,k,conv undef c l⟩)
        ·exact .inr (.inr ⟨f,args,k,l.mono λe c ⟨u,J,M⟩=>⟨u,J,conv u c M⟩⟩)
       ·cases D
 ·refine a5m (a5p _ _) (by simp)
 ·intro j hj
  exfalso;by_cases R3:j<m.size
  ·simp[Array.getD,R3]at hj
  ·simp[Array.getD,R3]at hj
 ·have:((List.range m.size).filter λi=> !(Array.replicate m.size false).getD i true)=List.range m.size:=by
   rw[a6b];intro i hi;have:=a2f.1 hi;simp[Array.getD,this]
  rw[this];exact h1
 ·obtain⟨G,t,hs⟩:=h.ex
  exact⟨⟨G,⟨t.hrep,t.sv,⟨t.kept.size,t.kept.heap,t.kept.cells,t.kept.os,t.kept.output,t.kept.tape⟩,t.own,t.len⟩,hs⟩,h.defers⟩
def QI (F:Nat->Prop) (c:Gh) (b:OW) (d:World) (Q:Q6×St->Prop):Exit->Act->World->Prop
 | .normal,a,w=>∃st,qG F c b d st a w/\Q (.normal,st)
 | .exit i,a,w=>∃st,qG F c b d st a w/\Q (.exit i,st)
 | .ret,a,w=>∃st,qG F c b d st a w/\Q (.ret,st)
 |_,_,_=>False
def dK (j:C.Holds L) (l:C.P.follows .mixedOrders=true) (k:Oz F G0 ow0 w0 L) {A:N9} {u:Option Nat->Nat}:(c:Code)-> {g:Nat}-> {Q:Q6×St->Prop}-> {st:St}-> {a:Act}-> {w:World}->(dX C A u c g st).can Q->qG F G0 ow0 w0 st a w->c.wp C.P (QI F G0 ow0 w0 Q) a w
 | .skip,_,Q,st,a,w,e,h=>wp_skip ⟨st,h,e⟩
 | .exit id,_,Q,st,a,w,e,h=>wp_exit ⟨st,h,e⟩
 | .ret,_,Q,st,a,w,e,h=>wp_ret ⟨st,h,e⟩
 | .seq x y,g,Q,st,a,w,e,h=>by
  simp only[dX]at e;refine wp_seq (wp_mono (dK j l k x (ba.can_bind _ e) h) λv q r m=> ?_)
  cases v with
  |normal=>obtain⟨b,f,d⟩:=m;exact dK j l k y d f
  |exit i=>obtain⟨b,f,d⟩:=m;exact⟨b,f,d⟩
  |ret=>obtain⟨b,f,d⟩:=m;exact⟨b,f,d⟩
  |_=>exact m.elim
 | .cond o x y,g,Q,st,a,w,e,h=>by
  simp only[dX]at e;obtain⟨G,M,D⟩:=h.ex;have s:=ep D o;split at e
  ·rename_i t z
   rw[z]at s;refine wp_cond s.lb_inv ?_
   cases t with
   |true=>exact dK j l k x e h
   |false=>exact dK j l k y e h
  ·rename_i t z
   rw[z]at s;refine wp_cond s.bool_inv ?_
   cases t with
   |true=>exact dK j l k x e h
   |false=>exact dK j l k y e h
  ·exact e.elim
 | .block id x,g,Q,st,a,w,e,h=>by
  simp only[dX]at e;refine wp_block (wp_mono (dK j l k x (ba.can_bind _ e) h) λv q r m=> ?_)
  cases v with
  |normal=>obtain⟨b,f,d⟩:=m;exact⟨b,f,d⟩
  |exit i=>
   obtain⟨b,f,d⟩:=m;by_cases B:i=id
   ·subst B
    simp only[a5w,a1z]at d;simp only[Exit.inBlock,a1z];exact⟨b,f,d⟩
   ·have E:(i==id)=false:=by simpa using B
    simp only[E,a0t,a1y]at d;simp only[Exit.inBlock,B,a1y];exact⟨b,f,d⟩
  |ret=>obtain⟨b,f,d⟩:=m;exact⟨b,f,d⟩
  |_=>exact m.elim
 | .region id ops draw,g,Q,st,a,w,e,h=>by
  simp only[dX]at e
  cases draw with
  |true=>
   simp only[a1z]at e;split at e
   ·split at e
    ·rename_i n
     exact OA j l k h n (ba.can_bind _ e) λb q r f d=>⟨_,d,f⟩
    ·exact e.elim
   split at e
   ·rename_i n
    exact PZ j l k h n (ba.can_bind _ e) λH q r f d=>⟨_,d,f⟩
   ·exact e.elim
  |false=>
   simp only[a0t,a1y]at e;obtain⟨I,J⟩:=im ops (fr:=λ_=>true) (a1g.2 λo _=>by cases o.dst<;>rfl);refine wp_region ?_
   rw[<-J];exact mH j k (λb q r f d=>⟨b,d,f⟩) _ (λp K=>(I p K).1) h (ba.can_bind _ e)
 | .loop _,_,_,_,_,_,e,_=>by simp[dX]at e;exact e.elim
 | .label _,_,_,_,_,_,e,_=>by simp[dX]at e;exact e.elim
 | .goto _,_,_,_,_,_,e,_=>by simp[dX]at e;exact e.elim
 | .scope _,_,_,_,_,_,e,_=>by simp[dX]at e;exact e.elim
 | .rangeFunc _ _ _ _,_,_,_,_,_,e,_=>by simp[dX]at e;exact e.elim
def Eg (D:C.Holds L) (E:C.P.follows .mixedOrders=true) (H:bx F G ow w.heap) (I:∀b,F b->b<w.heap.size) (J:iX L (ci G ow) w.heap) {u:FuncId} {fn:Func} (K:C.P.funcs[u]?=some fn) {args:List SV} {vs:List Value} (x:dq F G ow w.heap args vs) {A:N9} {d:Nat} {Q:SV×OW->Prop} (h:(Mj C fn args ow A d).can Q):D0 C.P F G ow w u vs Q:=by
 unfold Mj at h;split at h
 ·exact h.elim
 rename_i c M;split at h
 ·rename_i y
  have N:vs.length=args.length:=x.1.symm;have O:Oz F G ow w L:=⟨I,J⟩;unfold D0;refine calls_of_wp K M ?_
  have R:qG F G ow w ⟨args++List.replicate (fn.ntmps-args.length) .dead,ow⟩ {tmps:=vs.toArray++Array.replicate (fn.ntmps-vs.toArray.size) undef,defers:=[]} w:=by
   refine⟨⟨G,.refl H,⟨by simp[N],λi f a=> ?_⟩⟩,rfl⟩;simp only[Array.toList_append,Array.toList_replicate]at a⊢;by_cases z:i<args.length
   ·simp only[a1k z,a1k (show i<vs.length by omega)]
    exact x.2 i z (by omega)
   ·rw[a1x (by omega),a4x]
    exact .dead _
  refine wp_mono (dK D E O c (ba.can_bind _ h) R) λS n g e=> ?_
  have j:∀st,qG F G ow w st n g->((AF C.P st fn.results.toList).bind λl=>ba.ret (Qq l,st.ow)).can Q->n.defers=[]/\∃v,(results fn n.tmps).run C.P g= .ok v g/\∃s ow' B m,Ending.returned v= .returned B/\Q (s,ow')/\Tr F G ow w m ow' g/\Sv F m ow' g.heap s B:=by
   intro st k T;obtain⟨m,t,U⟩:=k.ex;obtain⟨W,X,e,V,o⟩:=lk t.hrep U _ (ba.can_bind _ T);exact⟨k.defers,_,ul V,_,_,_,m,rfl,e,t,vG o⟩
  cases S with
  |normal=>
   obtain⟨st,f,a⟩:=e;obtain⟨p,v,q,r⟩:=j st f a;exact⟨p,v,q,r⟩
  |ret=>
   obtain⟨st,f,a⟩:=e;obtain⟨p,v,q,r⟩:=j st f a;exact⟨p,v,q,r⟩
  |exit i=>obtain⟨st,f,a⟩:=e;exact a.elim
  |_=>exact e.elim
 ·exact h.elim
def GR {f:SV} {q:FuncId×Func×List SV×List SV} (h:Mk C f=some q):f= .fn (.func q.1) q.2.2.1 q.2.2.2/\C.P.funcs[q.1]?=some q.2.1/\(q.2.1.name== "runtime.NumGoroutine")=false/\q.2.1.body.isNone=false:=by
 unfold Mk at h;split at h
 ·split at h
  ·split at h
   ·rename_i fn a
    split at h
    ·rename_i b
     simp only[a0e,a2o]at b
     cases h
     exact⟨rfl,a,b.1,b.2⟩
    ·cases h
   ·cases h
  ·cases h
 ·cases h
def Eh (f:C.Holds L) (n:C.P.follows .mixedOrders=true):wM C L:=by
 intro F G ow w o op g ρ p i j k b d Q h;unfold tM at h;split at h
 ·rename_i r args t
  split at h
  ·rename_i q u
   obtain⟨l,m,x,y⟩:=GR u;have c:=b r;rw[l]at c;obtain⟨xs,ys,c,z,A⟩:=c.fn_inv;have a:dq F G ow w.heap (q.2.2.1++args.toList.map ρ++q.2.2.2) (xs++args.toList.map p++ys):=(z.append (b.svs _)).append A;have:=Eg f n i j k m a h;exact .inr (.inr ⟨q.1,_,iG g rfl c ⟨_,m,x,y⟩,this.mono λe J ⟨s,ow',v,B,D,E,H,I⟩=>⟨v,D,s,ow',B,E,H,I⟩⟩)
  ·exact mE f g i j k b h
 ·exact mE f g i j k b h
end
end Go.Pev
namespace Go.Pev
variable {C:gI} {L:List (Nat×Obj)}
def GS (hC:C.Holds L) (hm:C.P.follows .mixedOrders=true):wQ C L:=by
 intro α nt fr F fp w0 vs id g ks st a w k r hE hd h Se he Q D;obtain⟨hl,hr⟩:=im g hd;have R3:∀B:Nat->Nat->Bool,∃H,kW (λi=>iH C (L0 C) qM (λ_=>some (B i)) g ks i) (List.range g.size) st=some H/\k H=some r:=λB=>by
  obtain⟨H,h1,h2⟩:=qm B _ (λp hp=>(hl p hp).1) he;rw[hr]at h1;exact⟨H,h1,h2⟩
 have hD:∀(i:Nat) (o:Oper),g[i]?=some o->∀d,o.dst=some d->fr d=true:=by
  intro i o ho d hx;have Sa:o∈g.toList:=by
   obtain⟨R4,rfl⟩:=a1b.1 ho;simp
  have:=a1g.1 hd o Sa;rw[hx]at this;simpa using this
 let R:St->Act->World->Prop:=λst a w=>nG nt fr F fp w0 vs st a w
 refine wp_region_any hm (D5 (step:=λ(o:Nat->Bool) i s=>iH C (L0 C) qM (λ_=>some o) g ks i s) (R:=R) (λB i j s s1 s2 ha=>Ef (JA C) B i j s s1 s2 ha) ?_ Se (Fin:=λH=>k H=some r) (λH a' c h2 hR=>D H a' c h2 hR) (λ_=>true) g.size _ st a _ (by simp) ?_ ?_ ?_ ?_)
 ·intro i st a w hi hs hI K hK
  obtain⟨o,ho,Sf⟩:=kz (hs λ_=>true).choose_spec;have I:dD g o st.sl=some true->∀q,ks[i]?=some q->∀b:Nat->Bool,∃x,(p6 C (L0 C o (iU st.sl) (aL q.1 0 st.ow)) o.op q (iU st.sl) (aL q.1 0 st.ow) (qM o)).outB (some b)=some x:=by
   intro Y q hq b;obtain⟨o',Sb,Sg⟩:=kz (hs b).choose_spec;rw[ho]at Sb
   cases Sb
   rcases Sg with⟨Sc,_⟩|⟨_,q',s,r,Sd,_,R5,_⟩
   ·rw[Y]at Sc;cases Sc
   ·rw[hq]at Sd;cases Sd;exact⟨_,R5⟩
  have N:dD g o st.sl=some true->∀q,ks[i]?=some q->cW st.ow=true->∀(b:Nat->Bool) s r,(p6 C (L0 C o (iU st.sl) (aL q.1 0 st.ow)) o.op q (iU st.sl) (aL q.1 0 st.ow) (qM o)).outB (some b)=some (s,r)->∀a' c,R ⟨bn st.sl o.dst (dz (dZ g i) s),mq st.ow r⟩ a' c->K a' c:=λY q hq z b s r R5 a' c hR=>hK b _ a' c ((er (C:=C) (E:=L0 C) (dk:=qM) (B:=λ_=>some b) (ks:=ks) ho).2 Y q s r hq z R5) hR
  have V:=hD i o ho;obtain⟨G,g1,g2,g3⟩:=hI.ex;unfold wpOp;rw[ho];simp only;rcases Sf with⟨Y,_⟩|⟨Y,q,s,r,hq,z,Sj,_⟩
  ·rw[cC g1 Y]
   exact hK (λ_=>true) _ _ _ ((er (C:=C) (E:=L0 C) (dk:=qM) (B:=λ_=>some λ_=>true) (ks:=ks) ho).1 Y) (hI.slot (λ_=>kx) V)
  ·rw[cC g1 Y]
   simp only[a1z];left;have W:=hE.wideAt hI.kept;have R6:=hE.laidAt hI.kept g3;have R7:∀b,FM F G st.ow q.1 b->b<w.heap.size:=λb U=>Pw g2 W U
   have R8:iX L (ci G (aL q.1 0 st.ow)) w.heap:=λp hp=>⟨λh=>(R6 p hp).1 (gm h),(R6 p hp).2⟩
   have hρ:Mp (FM F G st.ow q.1) G (aL q.1 0 st.ow) w.heap (iU st.sl) a.eval:=λx=>o8 z (ep g1 x)
   refine u6.wp ?_
   have I:=I Y q hq;have N:=N Y q hq z;have J:∀ {s':SV},(AA C o.op (iU st.sl) st.ow).can (λs=>s=s')->(∃b:Nat->Bool,(p6 C (L0 C o (iU st.sl) (aL q.1 0 st.ow)) o.op q (iU st.sl) (aL q.1 0 st.ow) (qM o)).outB (some b)=some (s',none))->u6 C.P o a.eval w λv c=>K (a.put o.dst v) c:=by
    intro s' l ⟨b,U⟩;have O:=fT hC (op:=o) rfl g2 W R6 (ep g1) l;have conv:∀u c,(∃s,s=s'/\Tr F G st.ow w G st.ow c/\Sv F G st.ow c.heap s u)->K (a.put o.dst u) c:=by
     rintro u c ⟨s,rfl,ht,S⟩
     exact N b s none U _ _ (hI.op hE g1 g3 ht (cu S) V)
    rcases O with⟨u,c,n,t⟩|⟨c,n,t⟩|⟨f,args,n,t⟩
    ·exact .inl ⟨u,c,n,conv u c t⟩
    ·exact .inr (.inl ⟨c,n,conv undef c t⟩)
    ·exact .inr (.inr ⟨f,args,n,t.mono λe c ⟨u,q3,q4⟩=>⟨u,q3,conv u c q4⟩⟩)
   generalize A:p6 C (L0 C o (iU st.sl) (aL q.1 0 st.ow)) o.op q (iU st.sl) (aL q.1 0 st.ow) (qM o)=M at I N J
   have no:M= .fail->False:=λe=>by
    subst e;obtain⟨x,hx⟩:=I λ_=>true
    cases hx
   obtain⟨Z,R0⟩:∃P:SV×Option (List Nat×OW)->Prop,P=λy=>∃b:Nat->Bool,M.outB (some b)=some y:=⟨_,rfl⟩
   have l:M.can Z:=by rw[R0];exact ba.outB_can _ I
   unfold p6 at A;split at A
   ·rw[<-A]at l
    have O:=Eh hC hm (op:=o) rfl (ka z g2) R7 R8 hρ (ba.can_bind _ l);have conv:∀ {Q:SV×OW->Prop},(∀s ow',Q (s,ow')->DH q.1 ow'=true/\jT q.1 8 s=true/\Z (s,some (q.1,ow')))->∀u c,(∃s ow' G',Q (s,ow')/\Tr (FM F G st.ow q.1) G (aL q.1 0 st.ow) w G' ow' c/\Sv (FM F G st.ow q.1) G' ow' c.heap s u)->K (a.put o.dst u) c:=by
     rintro Q D u c ⟨s,ow',G',X,ht,S⟩
     obtain⟨c1,c2,c3⟩:=D _ _ X;rw[R0]at c3;obtain⟨b,U⟩:=c3;obtain⟨t1,t2⟩:=lW g2 W z ht c1;exact N b s (some (q.1,ow')) U _ _ (hI.op hE g1 g3 t1 (cu (t2 s u 8 c2 S)) V)
    have conv:=conv (Q:=λx=>ba.can (if DH q.1 x.2&& jT q.1 8 x.1&& (!we q||B8 q.1 (qM o) (aL q.1 0 st.ow) x.2)&& (!qL q||vC q.1 (qM o) (aL q.1 0 st.ow) x.2)then ba.ret (x.1,some (q.1,x.2))else .fail) Z) λs ow' (D:ba.can (if DH q.1 ow'&& jT q.1 8 s&& (!we q||B8 q.1 (qM o) (aL q.1 0 st.ow) ow')&& (!qL q||vC q.1 (qM o) (aL q.1 0 st.ow) ow')then ba.ret (s,some (q.1,ow'))else .fail) Z)=>by
     split at D
     ·rename_i m
      simp only[a0e]at m;exact⟨m.1.1.1,m.1.1.2,D⟩
     ·exact D.elim
    rcases O with⟨u,c,n,t⟩|⟨c,n,t⟩|⟨f,args,n,t⟩
    ·exact .inl ⟨u,c,n,conv u c t⟩
    ·exact .inr (.inl ⟨c,n,conv undef c t⟩)
    ·exact .inr (.inr ⟨f,args,n,t.mono λe c ⟨u,q3,q4⟩=>⟨u,q3,conv u c q4⟩⟩)
   ·split at A
    ·split at A
     ·rename_i s' hl
      split at A
      ·rename_i hh
       exact J (io (C:=C) (λd j ob h=>i5 h) (wY hl hh)) ⟨λ_=>true,by rw[<-A];rfl⟩
      ·exact(no A.symm).elim
     ·exact(no A.symm).elim
    split at A
    ·split at A
     ·rename_i s' hl
      exact J (io (C:=C) (λd j ob h=>i5 h) (uq hl)) ⟨λ_=>true,by rw[<-A];rfl⟩
     ·exact(no A.symm).elim
    split at A
    ·rename_i x hx
     exact J (AR hx) ⟨λ_=>true,by rw[<-A];rfl⟩
    ·split at A
     ·rename_i s' hl
      exact J (io (C:=C) (λd j ob h=>i5 h) hl) ⟨λ_=>true,by rw[<-A];rfl⟩
     ·split at A
      ·rename_i Sk
       have R9:∀(b:Nat->Bool) s ow',M.outB (some b)=some (s,some ([qM o],ow'))->∃R1,bX (aL q.1 0 st.ow) (qM o) R1=some ow':=by
        intro b s ow' U;rw[<-A]at U;obtain⟨x,e1,_,e2⟩:=ba.outB_bind _ U;split at e2
        ·simp only[ba.outB,a0l,a0z,true_and]at e2
         obtain⟨R1,T⟩:=w9 e1;rw[e2.2]at T;exact⟨R1,T⟩
        ·cases e2
       rw[<-A]at l;have O:=uh hC (op:=o) rfl (ka z g2) R7 R8 hρ (ba.can_bind _ l);have conv:∀ {Q:SV×OW->Prop},(∀s ow',Q (s,ow')->DH q.1 ow'=true/\jT q.1 8 s=true/\q.1.contains (qM o)=true/\Z (s,some ([qM o],ow')))->∀u c,(∃s ow' G',Q (s,ow')/\Tr (FM F G st.ow q.1) G (aL q.1 0 st.ow) w G' ow' c/\Sv (FM F G st.ow q.1) G' ow' c.heap s u)->K (a.put o.dst u) c:=by
        rintro Q D u c ⟨s,ow',G',X,ht,S⟩
        obtain⟨c1,c2,c3,c4⟩:=D _ _ X;rw[R0]at c4;obtain⟨b,U⟩:=c4;obtain⟨R1,T⟩:=R9 b s ow' U;have Si:mq st.ow (some ([qM o],ow'))=bU q.1 0 st.ow ow':=AW T c3;obtain⟨t1,t2⟩:=lW g2 W z ht c1;have R2:R ⟨bn st.sl o.dst (dz (dZ g i) s),bU q.1 0 st.ow ow'⟩ (a.put o.dst u) c:=hI.op hE g1 g3 t1 (cu (t2 s u 8 c2 S)) V;rw[<-Si]at R2;exact N b s (some ([qM o],ow')) U _ _ R2
       have conv:=conv (Q:=λx=>ba.can (if DH q.1 x.2&& jT q.1 8 x.1&& q.1.contains (qM o)then ba.ret (x.1,some ([qM o],x.2))else .fail) Z) λs ow' (D:ba.can (if DH q.1 ow'&& jT q.1 8 s&& q.1.contains (qM o)then ba.ret (s,some ([qM o],ow'))else .fail) Z)=>by
        split at D
        ·rename_i m
         simp only[a0e]at m;exact⟨m.1.1,m.1.2,m.2,D⟩
        ·exact D.elim
       rcases O with⟨u,c,n,t⟩|⟨c,n,t⟩|⟨f,args,n,t⟩
       ·exact .inl ⟨u,c,n,conv u c t⟩
       ·exact .inr (.inl ⟨c,n,conv undef c t⟩)
       ·exact .inr (.inr ⟨f,args,n,t.mono λe c ⟨u,q3,q4⟩=>⟨u,q3,conv u c q4⟩⟩)
      ·rw[<-A]at l
       have O:=fT hC (op:=o) rfl (ka z g2) R7 R8 hρ (ba.can_bind _ l);have conv:∀ {Q:SV->Prop},(∀s,Q s->DH q.1 (aL q.1 0 st.ow)=true/\jT q.1 8 s=true/\Z (s,none))->∀u c,(∃s,Q s/\Tr (FM F G st.ow q.1) G (aL q.1 0 st.ow) w G (aL q.1 0 st.ow) c/\Sv (FM F G st.ow q.1) G (aL q.1 0 st.ow) c.heap s u)->K (a.put o.dst u) c:=by
        rintro Q D u c ⟨s,X,ht,S⟩
        obtain⟨c1,c2,c3⟩:=D _ X;rw[R0]at c3;obtain⟨b,U⟩:=c3;obtain⟨t1,t2⟩:=ox g2 W z ht c1;exact N b s none U _ _ (hI.op hE g1 g3 t1 (cu (t2 s u 8 c2 S)) V)
       have conv:=conv (Q:=λs=>ba.can (if DH q.1 (aL q.1 0 st.ow)&& jT q.1 8 s then ba.ret (s,(none:Option (List Nat×OW)))else .fail) Z) λs (D:ba.can (if DH q.1 (aL q.1 0 st.ow)&& jT q.1 8 s then ba.ret (s,(none:Option (List Nat×OW)))else .fail) Z)=>by
        split at D
        ·rename_i m
         simp only[a0e]at m;exact⟨m.1,m.2,D⟩
        ·exact D.elim
       rcases O with⟨u,c,n,t⟩|⟨c,n,t⟩|⟨f,args,n,t⟩
       ·exact .inl ⟨u,c,n,conv u c t⟩
       ·exact .inr (.inl ⟨c,n,conv undef c t⟩)
       ·exact .inr (.inr ⟨f,args,n,t.mono λe c ⟨u,q3,q4⟩=>⟨u,q3,conv u c q4⟩⟩)
 ·refine a5m (a5p _ _) (by simp)
 ·intro j hj
  exfalso;by_cases R4:j<g.size
  ·simp[Array.getD,R4]at hj
  ·simp[Array.getD,R4]at hj
 ·have:((List.range g.size).filter λi=> !(Array.replicate g.size false).getD i true)=List.range g.size:=by
   rw[a6b];intro i hi;have:=a2f.1 hi;simp[Array.getD,this]
  rw[this];exact R3
 ·exact⟨h.ex,⟨h.kept.size,h.kept.heap,h.kept.cells,h.kept.os,h.kept.output,h.kept.tape⟩,h.defers,h.args,h.size⟩
def JC (a:C.Holds L) (b:C.P.follows .mixedOrders=true):o7 C L:=⟨GO a b,GS a b,Eh a b⟩
def iq (g:C.Holds L) (h:C.P.follows .mixedOrders=true) {f:FuncId} {fn:Func} (i:C.P.funcs[f]?=some fn) (b:(fn.name== "runtime.NumGoroutine")=false) (c:F6) (args a:Sh) {den:args.T->Option (a.T×args.Out)} (e:∀x y,den x=some y->jM C c fn args a x=some y) (d:fn.body.isNone=false):aw C.P L f ⟨args,a,den,c.al⟩:=Cr g (JC g h) i b c args a e d
end Go.Pev
namespace Go.Pev
variable {h:Array Obj} {ok:Nat->Prop} {P:Program} {L:List (Nat×Obj)} {f:FuncId} {v:Value} {fp:List Nat}
open Go Go.RowKit
def IG (P:Program) (L:List (Nat×Obj)) (f:FuncId) (l:List iR):Prop:=∀a∈l,aw P L f a
def bj:IG P L f []:=λ_ h=>by cases h
def aX {a:iR} {l:List iR} (h:aw P L f a) (b:IG P L f l):IG P L f (a::l):=λs hs=>by
 rcases a1j.1 hs with rfl|hs
 ·exact h
 ·exact b s hs
def af {k:Nat} {a:List (Nat×Sh)} {b:List (FuncId×List (Nat×N9))}:gI.Holds ⟨P,[],k,a,b⟩ L:=λf c h=>by simp[gI.sigsOf]at h
def aY {k:Nat} {l:List iR} {r:List (FuncId×List iR)} {b:List (Nat×Sh)} {c:List (FuncId×List (Nat×N9))} (h:IG P L f l) (i:gI.Holds ⟨P,r,k,b,c⟩ L):gI.Holds ⟨P,(f,l)::r,k,b,c⟩ L:=λg d a=>by
 unfold gI.sigsOf at a;simp only[List.find?_cons]at a;by_cases e:f=g
 ·subst e
  simp only[a5w]at a;exact h d a
 ·have:(f==g)=false:=by simpa using e
  rw[this]at a;exact i g d a
def lY {fn:Func} {A R:Sh} {b:(A.T->Option (R.T×A.Out))->A.T->Option (R.T×A.Out)} {d:List (Nat×Nat×Nat×List Nat)} (e:P.funcs[f]?=some fn) (a:(fn.name== "runtime.NumGoroutine")=false) (c:fn.body.isNone=false):aw P L f ⟨A,R,aH b 0,d⟩:=⟨⟨fn,e,a,c⟩,λ_ _ _ _ _ _ _ _ _ _ _ h=>by cases h⟩
def lZ {k:Kd} {b:Sh} {x:Sh.T (.cons (.pur k) b)} {vs:List Value} (e:ck h ok (.cons (.pur k) b) x vs fp):∃v r,vs=v::r/\nY h ok k x.1 v/\ck h ok b x.2 r fp:=by
 obtain⟨v,r,f1,f2,rfl,rfl,⟨f,a,rfl,c⟩,d⟩:=e
 cases a
 exact⟨v,r,rfl,c,d⟩
def pb {x:Sh.T .nil} {vs:List Value} (e:ck h ok .nil x vs fp):vs=[]/\fp=[]:=e
def oz {k:Kd} {b:Sh} {x:Sh.T (.cons (.pur k) b)} {r:List Value} (a:nY h ok k x.1 v) (c:ck h ok b x.2 r fp):ck h ok (.cons (.pur k) b) x (v::r) fp:=⟨v,r,[],fp,rfl,rfl,⟨v,rfl,rfl,a⟩,c⟩
def sI {c:Value} (h:v.oneCell'=true) (a:v.cells.toList=[c]):v=c:=by
 rw[iC h]at a;simpa using a
def rc {k:IntKind} {n:Int} (e:nY h ok (.int k) n v):v= .int k n:=sI (e.2.2 rfl) e.1
def MB {s:List UInt8} (e:nY h ok .str s v):v= .string ⟨s.toArray⟩:=sI (e.2.2 rfl) e.1
def JD {b:Bool} (e:nY h ok .bool b v):v= .bool b:=sI (e.2.2 rfl) e.1
def ur {k:IntKind} {n:Int}:nY h ok (.int k) n (.int k n):=⟨rfl,(λh=>by cases h),λ_=>rfl⟩
def zL:List Kd->Sh
 |[]=> .nil
 |k::r=> .cons (.pur k) (zL r)
def AX {h c:Array Obj} {ok ok':Nat->Prop}:(s:Sh)->aJ s=true-> {x:s.T}-> {o:s.Out}-> {vs:List Value}-> {a:List Nat}->ck h ok s x vs a->gK c ok' s o vs []
 | .nil,_,_,_,vs,a,e=>⟨e.1,rfl⟩
 | .cons (.pur k) b,hs,x,o,vs,a,e=>by
  obtain⟨v,r,f1,f2,rfl,_,⟨_,f,_,_⟩,d⟩:=e;exact⟨v,r,[],[],rfl,rfl,.inl ⟨rfl,rfl⟩,AX b (by simpa [aJ]using hs) d⟩
 | .cons (.own _) _,hs,_,_,_,_,_=>by simp[aJ]at hs
 | .cons (.row _) _,hs,_,_,_,_,_=>by simp[aJ]at hs
 | .cons (.nrw _) _,hs,_,_,_,_,_=>by simp[aJ]at hs
 | .cons (.box _) _,hs,_,_,_,_,_=>by simp[aJ]at hs
 | .cons (.agg _) _,hs,_,_,_,_,_=>by simp[aJ]at hs
 | .cons (.fn _ _ _) _,hs,_,_,_,_,_=>by simp[aJ]at hs
 | .cons .ign _,hs,_,_,_,_,_=>by simp[aJ]at hs
 | .cons .nl _,hs,_,_,_,_,_=>by simp[aJ]at hs
 | .cons .nil _,hs,_,_,_,_,_=>by simp[aJ]at hs
 | .cons (.cons _ _) _,hs,_,_,_,_,_=>by simp[aJ]at hs
 | .pur _,hs,_,_,_,_,_=>by simp[aJ]at hs
 | .own _,hs,_,_,_,_,_=>by simp[aJ]at hs
 | .row _,hs,_,_,_,_,_=>by simp[aJ]at hs
 | .nrw _,hs,_,_,_,_,_=>by simp[aJ]at hs
 | .box _,hs,_,_,_,_,_=>by simp[aJ]at hs
 | .agg _,hs,_,_,_,_,_=>by simp[aJ]at hs
 | .fn _ _ _,hs,_,_,_,_,_=>by simp[aJ]at hs
 | .ign,hs,_,_,_,_,_=>by simp[aJ]at hs
 | .nl,hs,_,_,_,_,_=>by simp[aJ]at hs
def IH {fn:Func} {A R:Sh} {den:A.T->Option (R.T×A.Out)} (q:P.funcs[f]?=some fn) (a:(fn.name== "runtime.NumGoroutine")=false) (c:fn.body.isNone=false) (o:aJ A=true) (s:∀(w:World) (x:A.T) (vs:List Value) (y:R.T×A.Out) (F:Nat->Prop),(∀b,F b->b<w.heap.size)->iX L (λ_=>False) w.heap->ck w.heap (λb=>¬F b) A x vs []->den x=some y->Calls P f vs.toArray w λe l=>∃m d,e= .returned (GD m)/\ck l.heap (λb=>¬FP F d b) R y.1 m d/\d.Nodup/\(∀b∈d,w.heap.size<=b)/\fh (λ_=>False) w l):aw P L f ⟨A,R,den,[]⟩:=by
 refine⟨⟨fn,q,a,c⟩,λw F x vs d y t u _ _ g v _=> ?_⟩;obtain⟨rfl,_⟩:=lV A o g;have j:ck w.heap (λb=>¬F b) A x vs []:=ck.mono (λb r k z=>⟨λh=>k (.inl h),z⟩) _ (λ_ _=>rfl) g;refine(s w x vs y F t (λp B=>⟨λh=>h,(u p B).2⟩) j v).mono λe l ⟨m,d,C,D,E,G,i⟩=> ?_
 have n:fh (·∈([]:List Nat)) w l:=⟨i.size,λb k _=>i.heap b k (λh=>h),i.cells,i.os,i.output,i.tape⟩;refine⟨m,d,[],C,by simpa using D,?_,by simpa using E,λb k=> .inr (G b (by simpa using k)),n⟩;exact AX A o g
def JE (w:World):fh (λ_=>False) w w:= .refl _ _
def GU {w a:World} (h:fh (λ_=>False) w a):Below w.heap.size w a:=⟨h.os,h.tape,h.output,h.size,λk b=>h.heap k b λh=>h⟩
end Go.Pev
namespace Go.Pev
variable {w:World} {v:Value}
open Go Go.RowKit
def Kd.WF:(k:Kd)->k.T->Prop
 | .int k,n=>k.min<=n/\n<=k.max
 | .str,s=>s.length<=140737488351232
 | .sl _ e,l=>l.length<=140737488351232/\∀x∈l,e.WF x
 | .cons a b,x=>a.WF x.1/\b.WF x.2
 |_,_=>True
section
variable {P:Program}
def Ei (P:Program) (a:TypeId->Option Kd) (ok:TypeId->Bool):List Field->Nat->Nat->Bool
 |[],off,n=>off==n
 |x::r,off,n=>ok x.type&& x.offset==off&& (match a x.type with|some k=>k.ch.n==P.cellsOf x.type&& k.ch.leafy&& Ei P a ok r (off+P.cellsOf x.type) n|none=>false)
def Ej (P:Program):Nat->TypeId->Bool
 |0,_=>false
 |f+1,t=>
  match d5 P t with
  |some (.int _)|some .bool|some .string=>true
  |some (.slice e)=>(match lD P f e with|some k=>k.n==P.cellsOf e&& decide (0<k.n)&& decide (0<P.bytesOf e)&& Ej P f e|none=>false)
  |some (.struct fs)=>Ei P (lD P f) (Ej P f) fs.toList 0 (P.cellsOf t)
  |_=>false
def ct.ch {h:Array Obj} {ok:Nat->Prop}:(k:Kd)-> {x:k.T}-> {cs:List Value}->ct h ok k x cs->ct h ok k.ch (PL k x) cs
 | .int _,_,cs,e=>⟨cs,[],by simp,e,rfl⟩
 | .bool,_,cs,e=>⟨cs,[],by simp,e,rfl⟩
 | .str,_,cs,e=>⟨cs,[],by simp,e,rfl⟩
 | .err,_,cs,e=>⟨cs,[],by simp,e,rfl⟩
 | .any,_,cs,e=>⟨cs,[],by simp,e,rfl⟩
 | .sl _ _,_,cs,e=>⟨cs,[],by simp,e,rfl⟩
 | .nil,_,_,e=>e
 | .cons _ _,_,_,e=>e
 | .tree _,_,cs,e=>⟨cs,[],by simp,e,rfl⟩
def Kd.WF.ch:(k:Kd)-> {x:k.T}->k.WF x->k.ch.WF (PL k x)
 | .int _,_,e=>⟨e,trivial⟩
 | .bool,_,e=>⟨e,trivial⟩
 | .str,_,e=>⟨e,trivial⟩
 | .err,_,e=>⟨e,trivial⟩
 | .any,_,e=>⟨e,trivial⟩
 | .sl _ _,_,e=>⟨e,trivial⟩
 | .nil,_,e=>e
 | .cons _ _,_,e=>e
 | .tree _,_,e=>⟨e,trivial⟩
def ct.app {h:Array Obj} {ok:Nat->Prop}:(a:Kd)->a.leafy=true-> {b:Kd}-> {x:a.T}-> {y:b.T}-> {c1 c2:List Value}->ct h ok a x c1->ct h ok b y c2->a.WF x->b.WF y->∃z:(a.app b).T,ct h ok (a.app b) z (c1++c2)/\(a.app b).WF z
 | .nil,_,b,x,y,c1,c2,c,e2,w1,w2=>by
  have c:c1=[]:=c;subst c;exact⟨y,e2,w2⟩
 | .cons a r,hl,b,x,y,c1,c2,c,e2,w1,w2=>by
  simp only[Kd.leafy,a0e]at hl;obtain⟨d,e,rfl,f,g⟩:=c;obtain⟨z,i,j⟩:=ct.app r hl.2 g e2 w1.2 w2;exact⟨(x.1,z),⟨d,e++c2,by simp,f,i⟩,w1.1,j⟩
 | .int _,hl,_,_,_,_,_,_,_,_,_=>by cases hl
 | .bool,hl,_,_,_,_,_,_,_,_,_=>by cases hl
 | .str,hl,_,_,_,_,_,_,_,_,_=>by cases hl
 | .err,hl,_,_,_,_,_,_,_,_,_=>by cases hl
 | .any,hl,_,_,_,_,_,_,_,_,_=>by cases hl
 | .sl _ _,hl,_,_,_,_,_,_,_,_,_=>by cases hl
 | .tree _,hl,_,_,_,_,_,_,_,_,_=>by cases hl
def xc {α β:Type} {g:α->Option β}: {l:List α}-> {r:List β}->l.mapM g=some r->r.length=l.length/\∀i (c:i<l.length) (d:i<r.length),g l[i]=some r[i]
 |[],r,h=>by cases h;exact⟨rfl,λi h=>by simp at h⟩
 |a::l,r,h=>by
  simp only[a7g,Option.bind_eq_bind,a2k,Option.pure_def,a0l]at h;obtain⟨b,e,m,f,rfl⟩:=h;obtain⟨c,d⟩:=xc f;refine⟨by simp[c],λi j k=> ?_⟩
  cases i with
  |zero=>exact e
  |succ i=>exact d i (by simpa using j) (by simpa using k)
def oA {H:Type} {e:TypeId}: {l:List (DataW H)}-> {d:DataW H}->d∈l-> {q:Nat->Bool}->(DataW.weightsAll P e l).all q=true->(d.weights P e).all q=true
 |a::l,d,hd,q,h=>by
  simp only[DataW.weightsAll,a6i,a0e]at h;rcases a1j.1 hd with rfl|hd
  ·exact h.1
  ·exact oA hd h.2
def AY {a:Addr} (h:w.cell? a=some v):a.spot=none/\∃r,am w.heap a.block=some r/\r[a.off]?=some v:=by
 unfold World.cell? at h;split at h
 ·rename_i c t f b
  split at h
  ·cases h
  ·rename_i d
   refine⟨by simpa using d,c,by unfold am;rw[b],h⟩
 ·cases h
def JF {b o n:Nat} {vs:List Value} {r:Array Value} (k:am w.heap b=some r) (h:w.cells? 0 ⟨b,o,none⟩ n=some vs):vs=bT r o n/\o+n<=r.size\/n=0/\vs=[]:=by
 unfold World.cells? at h;rw[a0f (a4j _)]at h;obtain⟨f,l⟩:=xc h;simp only[a5t]at f;by_cases m:n=0
 ·subst m
  right;exact⟨rfl,a0s f⟩
 left;have a:∀i,i<n->r[o+i]?=vs[i]?:=by
  intro i c;have g:i<vs.length:=by omega
  have:=l i (by simpa using c) g;simp only[List.getElem_range]at this;obtain⟨_,s,d,j⟩:=AY this;have p:(Addr.add ⟨b,o,none⟩ i).block=b:=by unfold Addr.add;split<;>rfl
  have q:(Addr.add ⟨b,o,none⟩ i).off=o+i:=by unfold Addr.add;split<;>simp_all
  rw[p,k]at d
  cases d
  rw[q]at j;rw[j,a0a g]
 have e:o+n<=r.size:=by
  have:=a (n-1) (by omega);rw[a0a (show n-1<vs.length by omega)]at this;have:=(a1b.1 this).1;omega
 refine⟨?_,e⟩;apply a2e;intro i;unfold bT;rw[a4h,a2y];by_cases c:i<n
 ·rw[a0f c,<-a i c];simp
 ·rw[a0d c,a1f (by omega)]
def xd {H:Type} {enc:TypeId×Value->H} {w:World} {B:Nat->Bool} {L:Bool}:(fuel f:Nat)-> {t:TypeId}-> {cs:List Value}-> {d:DataW H}-> {ps:List MemPlace}-> {k:Kd}->DataW.trod enc P w 0 B L fuel t cs=some (d,ps)->lD P f t=some k->Ej P f t=true->(d.weights P t).all (·<=reachBytes)=true->∃x:k.T,ct w.heap (λ_=>True) k x cs/\k.WF x
 |0,_,_,_,_,_,_,h,_,_,_=>by simp[DataW.trod]at h
 |_+1,0,_,_,_,_,_,_,hk,_,_=>by simp[lD]at hk
 |fuel+1,f+1,t,cs,d,ps,k,h,hk,ho,hw=>by
  simp only[lD,Ej,d5]at hk ho
  cases hu:P.underlying t with
  |none=>rw[hu]at hk;cases hk
  |some td=>
   rw[hu]at hk ho
   cases td with
   |bool=>
    simp only[a0l]at hk;subst hk;obtain⟨b,rfl,_⟩:=DataW.trod_bool hu h;exact⟨b,rfl,trivial⟩
   |int kk=>
    simp only[a0l]at hk;subst hk;obtain⟨n,rfl,_,Y⟩:=DataW.trod_int hu h;refine⟨n,rfl,?_⟩;simpa [Lit.wf,Kd.WF]using Y
   |string=>
    simp only[a0l]at hk;subst hk;obtain⟨s,rfl,M,_⟩:=DataW.trod_string hu h
    cases M
    refine⟨s.data.toList,rfl,?_⟩;simp only[DataW.weights,a5q,List.all_nil,a6j,a0v]at hw;exact hw
   |slice e=>
    cases he:lD P f e with
    |none=>simp[he]at hk
    |some ke=>
     simp only[he,a0l]at hk;subst hk;simp only[he,a0e,a3b,a0v]at ho;obtain⟨⟨⟨hn,R7⟩,Z⟩,R0⟩:=ho;rcases DataW.trod_slice hu h with⟨rfl,_⟩|⟨a,len,N,c,rest,n,C,rfl,M,_,R9,_,Sa,m,_,_⟩
     ·exact⟨[],⟨none,0,rfl,a1m _,.inl rfl⟩,by simp,λx O=>by simp at O⟩
     ·cases C
      cases M
      simp only[DataW.weights,hu,a5q,a6i,a0e,a0v,a4e]at hw;obtain⟨R1,j,_⟩:=hw;have R8:len<=140737488351232:=by
       have:c.length+rest.length<=(c.length+rest.length)*P.bytesOf e:=a4m _ Z;unfold reachBytes at R1;omega
      cases len with
      |zero=>exact⟨[],⟨some a,N,rfl,a4j _,.inl rfl⟩,by simp,λx O=>by simp at O⟩
      |succ len=>
       have v:∀i,i<len+1->∃vs x,w.cells? 0 (a.add (i*P.cellsOf e)) (P.cellsOf e)=some vs/\ct w.heap (λ_=>True) ke x vs/\ke.WF x:=by
        intro i D;have E:=m i D;rw[a0a (show i<c.length by omega)]at E;obtain⟨vs,Q,J⟩:=a2k.1 E;obtain⟨x,F,h5⟩:=xd fuel f (d:=c[i].1) (ps:=c[i].2) J he R0 (oA (a4q.2 ⟨c[i],a0n _,rfl⟩) j);exact⟨vs,x,Q,F,h5⟩
       obtain⟨b,o,sp⟩:=a;obtain⟨Sb,_,G,_,_⟩:=v 0 (by omega);have R2:sp=none/\∃r,am w.heap b=some r:=by
        unfold World.cells? at G;rw[a0f (a4j _)]at G;obtain⟨E,Q⟩:=xc G;have:=Q 0 (by simp;omega) (by rw[E];simp;omega);obtain⟨J,r,F,_⟩:=AY this;simp[Addr.add]at J F;exact⟨J,r,F⟩
       obtain⟨rfl,r,X⟩:=R2;have R:∀i,Addr.add ⟨b,o,none⟩ i=⟨b,o+i,none⟩:=λi=>by unfold Addr.add;split<;>simp_all
       have p:∀i:Fin (len+1),∃x,ct w.heap (λ_=>True) ke x (bT r (o+i.1*ke.n) ke.n)/\ke.WF x/\o+i.1*ke.n+ke.n<=r.size:=by
        intro i;obtain⟨vs,x,E,Q,J⟩:=v i.1 i.2;rw[R,<-hn]at E;rcases JF X E with⟨rfl,F⟩|⟨F,_⟩
        ·exact⟨x,Q,J,F⟩
        ·omega
       refine⟨List.ofFn λi=>(p i).choose,⟨some ⟨b,o,none⟩,N,by simp,by simp;omega,.inr ⟨b,o,r,rfl,trivial,X,?_,λi D=> ?_⟩⟩,by simp;omega,λx O=> ?_⟩
       ·have:=(p ⟨len,by omega⟩).choose_spec.2.2
        simp only[List.length_ofFn];rw[a6s];simp only at this;omega
       ·simp only[List.length_ofFn]at D
        simp only[List.getElem_ofFn];exact(p ⟨i,D⟩).choose_spec.1
       ·obtain⟨i,rfl⟩:=List.mem_ofFn.1 O
        exact(p i).choose_spec.2.1
   |struct fs=>
    obtain⟨xs,n,C,M,Sc,Sd,m⟩:=DataW.trod_struct hu h
    cases C
    cases M
    simp only[DataW.weights,hu]at hw;simp only at hk ho;have R3:∀(l:List Field) (i off:Nat) (K:Kd),fs.toList.drop i=l->l.foldr (λx R4=>match lD P f x.type,R4 with|some k,some r=>some (k.ch.app r)|_,_=>none) (some .nil)=some K->Ei P (lD P f) (Ej P f) l off (P.cellsOf t)=true->(DataW.weightsEach P (l.map (·.type)) ((xs.map (·.1)).drop i)).all (·<=reachBytes)=true->∃y:K.T,ct w.heap (λ_=>True) K y (cs.drop off)/\K.WF y:=by
     intro l
     induction l with
     |nil=>
      intro i off K _ g q _;simp only[List.foldr_nil,a0l]at g;subst g;simp only[Ei,a3b]at q;refine⟨(),?_,trivial⟩;show cs.drop off=[];exact List.drop_eq_nil_of_le (by omega)
     |cons fd l ih=>
      intro i off K hl g q j;simp only[List.foldr_cons]at g
      cases hk1:lD P f fd.type with
      |none=>rw[hk1]at g;simp at g
      |some k1=>
       rw[hk1]at g;split at g
       ·rename_i Se r S X
        cases S
        cases g
        simp only[Ei,hk1,a0e,a3b]at q;obtain⟨⟨U,V⟩,⟨Sf,R5⟩,I⟩:=q;have D:fs.toList[i]?=some fd:=by
         have:=a1v (λz=>z[0]?) hl;simpa [a2y]using this
        have A:i<xs.length:=by
         have:=(a0r.1 D).1;simp at this;omega
        have W:=m i fd (by simpa using D);rw[a0a A,V]at W;have R6:(xs.map (·.1)).drop i=xs[i].1::(xs.map (·.1)).drop (i+1):=by
         rw[a1d (by simpa using A)];simp
        rw[R6]at j;simp only[a2g,DataW.weightsEach,a6i,a0e]at j;obtain⟨x,e1,w1⟩:=xd fuel f (d:=xs[i].1) (ps:=xs[i].2) W hk1 U j.1;obtain⟨y,e2,w2⟩:=ih (i+1) (off+P.cellsOf fd.type) r (by
         have:=a1v List.tail hl;simpa using this) X I j.2
        obtain⟨z,e3,w3⟩:=ct.app k1.ch R5 e1.ch e2 w1.ch w2;refine⟨z,?_,w3⟩;have u:(cs.drop off).take (P.cellsOf fd.type)++cs.drop (off+P.cellsOf fd.type)=cs.drop off:=by
         rw[<-a4o,a3u]
        rw[u]at e3;exact e3
       ·cases g
    obtain⟨y,e1,w1⟩:=R3 fs.toList 0 0 k (by simp) hk ho (by simpa using hw);exact⟨y,by simpa using e1,w1⟩
   |interface ms=>simp at ho
   |_=>simp at hk
def QC:(l:List Kd)->(zL l).T->Prop
 |[],_=>True
 |k::r,x=>k.WF x.1/\QC r x.2
def II (P:Program) (t:TypeId) (k:Kd):Bool:=(match lD P 16 t with|some k'=>decide (k'=k)|none=>false)&& Ej P 16 t&& (!k.isSt||k.leafy)
def MC:(a:Kd)-> {b:Kd}->b.isSt=true->(a.app b).isSt=true
 | .cons _ _,_,_=>rfl
 | .nil,_,h=>h
 | .int _,_,h=>h
 | .bool,_,h=>h
 | .str,_,h=>h
 | .err,_,h=>h
 | .any,_,h=>h
 | .sl _ _,_,h=>h
 | .tree _,_,h=>h
def MD {f:Nat} {g:Nat} {t:TypeId} {b:Kd} {x:b.T} (a:lD P (f+1) t=some b) (m:Ej P (f+1) t=true) (p:(!b.isSt||b.leafy)=true) (c:ct w.heap (λ_=>True) b x v.cells.toList) (d:Value.okWide P w .any g t v):nY w.heap (λ_=>True) b x v:=by
 simp only[lD,Ej,d5]at a m
 cases hu:P.underlying t with
 |none=>rw[hu]at a;cases a
 |some td=>
  rw[hu]at a m;simp only[Value.okWide,hu]at d
  cases td with
  |bool=>
   simp only[a0l]at a;subst a;exact⟨c,(λh=>by cases h),λ_=>by simp only[Cell.okWide,hu]at d;cases v<;>simp_all[Cell.ok,Value.oneCell']⟩
  |int kk=>
   simp only[a0l]at a;subst a;exact⟨c,(λh=>by cases h),λ_=>by simp only[Cell.okWide,hu]at d;cases v<;>simp_all[Cell.ok,Value.oneCell']⟩
  |string=>
   simp only[a0l]at a;subst a;exact⟨c,(λh=>by cases h),λ_=>by simp only[Cell.okWide,hu]at d;cases v<;>simp_all[Cell.ok,Value.oneCell']⟩
  |slice e=>
   cases he:lD P f e with
   |none=>simp[he]at a
   |some ke=>
    simp only[he,a0l]at a;subst a;exact⟨c,(λh=>by cases h),λ_=>by simp only[Cell.okWide,hu]at d;cases v<;>simp_all[Cell.ok,Value.oneCell']⟩
  |struct fs=>
   obtain⟨cs,rfl,_⟩:=d;have i:b.isSt=true:=by
    have n:∀(l:List Field) (j:Kd),l.foldr (λx o=>match lD P f x.type,o with|some k,some r=>some (k.ch.app r)|_,_=>none) (some .nil)=some j->j.isSt=true:=by
     intro l
     induction l with
     |nil=>intro j h;cases h;rfl
     |cons fd l ih=>
      intro j h;simp only[List.foldr_cons]at h;split at h
      ·rename_i q r _ c
       cases h
       exact MC _ (ih r c)
      ·cases h
    exact n fs.toList b a
   refine⟨c,λ_=>⟨⟨cs,rfl⟩,?_⟩,λh=> ?_⟩
   ·simpa [i]using p
   ·rw[i]at h;cases h
  |interface ms=>simp at m
  |_=>simp at a
def OC {a:Nat} {t:TypeId} {k:Kd} {x:k.T} (c:II P t k=true) (d:ct w.heap (λ_=>True) k x v.cells.toList) (e:Value.okWide P w .any a t v):nY w.heap (λ_=>True) k x v:=by
 simp only[II,a0e]at c;obtain⟨⟨b,g⟩,h⟩:=c
 cases hk1:lD P 16 t with
 |none=>rw[hk1]at b;cases b
 |some k'=>
  rw[hk1]at b;obtain rfl:=a0w b;exact MD (f:=15) hk1 g h d e
def Ek {H:Type} {enc:TypeId×Value->H} {w:World} {c:Nat}:(ts:List TypeId)->(ks:List Kd)-> {vs:List Value}-> {b:List (DataW H)}-> {ps:List MemPlace}->DataW.TrodAll enc P w 0 (λ_=>true) true ts vs b ps->
 ts.length=ks.length->(ts.zip ks).all (λp=>II P p.1 p.2)=true->(∀(j:Nat) t v,ts[j]?=some t->vs[j]?=some v->Value.okWide P w .any c t v)->(DataW.weightsEach P ts b).all (·<=reachBytes)=true->
 ∃x:(zL ks).T,ck w.heap (λ_=>True) (zL ks) x vs []/\QC ks x
 |[],ks,vs,b,ps,h,hl,_,_,_=>by
  cases ks with
  |cons _ _=>simp at hl
  |nil=>
   cases vs with
   |nil=>exact⟨(),⟨rfl,rfl⟩,trivial⟩
   |cons _ _=>cases b<;>exact h.elim
 |t::ts,ks,vs,b,ps,h,hl,hk,hv,hw=>by
  cases ks with
  |nil=>simp at hl
  |cons k ks=>
   cases vs with
   |nil=>cases b<;>exact h.elim
   |cons v vs=>
    cases b with
    |nil=>exact h.elim
    |cons d b=>
     obtain⟨p,q,⟨e,l⟩,m,_⟩:=h;simp only[List.zip_cons_cons,a5q,a0e]at hk;simp only[DataW.weightsEach,a6i,a0e]at hw;have i:=hk.1;simp only[II,a0e]at i;obtain⟨⟨a,f⟩,_⟩:=i
     cases hk3:lD P 16 t with
     |none=>rw[hk3]at a;cases a
     |some k'=>
      rw[hk3]at a;obtain rfl:=a0w a;obtain⟨x,n,w1⟩:=xd e 16 l hk3 f hw.1;obtain⟨y,o,r⟩:=Ek ts ks m (by simpa using hl) hk.2 (λj t v s g=>hv (j+1) t v s g) hw.2;exact⟨(x,y),oz (OC hk.1 n (hv 0 t v rfl rfl)) o,w1,r⟩
def JG {L:List (Nat×Obj)} {f:FuncId} {ks:List Kd} {den:Nat->(zL ks).T->Option ((Bool×Unit)×(zL ks).Out)} (j:∀k,aw P L f ⟨zL ks,.cons (.pur .bool) .nil,den k,[]⟩)
 (c:∀x,QC ks x->∃k o,den k x=some ((true,()),o)) (l:iX L (λ_=>False) w.heap) {vs:List Value} {x:(zL ks).T} (m:ck w.heap (λ_=>True) (zL ks) x vs []) (n:QC ks x):
 Calls P f vs.toArray w λe i=>e= .returned (.bool true)/\Below w.heap.size w i:=by
 obtain⟨k,o,q⟩:=c x n;have d:ck w.heap (λb=>¬FP (λ_=>False) [] b) (zL ks) x vs []:=ck.mono (λb r _ g=>⟨λh=>by rcases h with h|h;exact h;simp at h,g⟩) _ (λ_ _=>rfl) m;refine((j k).2 w (λ_=>False) x vs [] _ (λ_ h=>h.elim) (λp s=>⟨λh=>by simp at h,(l p s).2⟩) a2i (λ_ h=>by simp at h) d q LZ.nil).mono λe i ⟨A,fp1,t,u,g,_,_,_,a⟩=> ?_
 obtain⟨v,r,rfl,p,y⟩:=lZ g;obtain⟨rfl,_⟩:=pb y;obtain rfl:=JD p;refine⟨u,GU ⟨a.size,λb z _=>a.heap b z (λh=>by simp at h),a.cells,a.os,a.output,a.tape⟩⟩
def rd {H:Type} {enc:TypeId×Value->H} {w e:World} (f:laidOutB P=true) (g:Below w.heap.size w e):(ts:List TypeId)->ts.all (λt=>P.readableRec t&& decide (t<P.types.size))=true-> {vs:List Value}-> {a:List (DataW H)}-> {ps:List MemPlace}->DataW.TrodAll enc P w 0 (λ_=>true) true ts vs a ps->DataW.TrodAll enc P e 0 (λb=>decide (b<w.heap.size)) true ts vs a ps
 |[],_,vs,a,ps,h=>by
  cases vs<;>cases a<;>first|exact h|exact h.elim
 |t::ts,ht,vs,a,ps,h=>by
  cases vs with
  |nil=>cases a<;>exact h.elim
  |cons v vs=>
   cases a with
   |nil=>exact h.elim
   |cons d a=>
    simp only[a5q,a0e,a0v]at ht;obtain⟨p,q,i,j,rfl⟩:=h;have c:∀x∈p,x.block<w.heap.size:=by
     obtain⟨m,k⟩:=i;exact DataW.trod_lt m _ _ _ k
    exact⟨p,q,Below.trod f ht.1.1 ht.1.2 i g c,rd f g ts ht.2 j,rfl⟩
def ut {H:Type} {enc:TypeId×Value->H} {w:World} {b:Nat} {e:Nat->Bool} {c:Bool}:(ts:List TypeId)-> {vs:List Value}-> {a:List (DataW H)}-> {ps:List MemPlace}->DataW.TrodAll enc P w b e c ts vs a ps->a.length=ts.length
 |[],vs,a,ps,h=>by cases vs<;>cases a<;>first|rfl|exact h.elim
 |t::ts,vs,a,ps,h=>by
  cases vs with
  |nil=>cases a<;>exact h.elim
  |cons v vs=>
   cases a with
   |nil=>exact h.elim
   |cons d a=>
    obtain⟨p,q,_,f,_⟩:=h;simp[ut ts f]
def ME {α:Type} {l:List α} (h:l.length=1):∃a,l=[a]:=by
 match l,h with
 |[a],_=>exact⟨a,rfl⟩
def iX.append {L a:List (Nat×Obj)} {I:Nat->Prop} {h:Array Obj} (b:iX L I h) (c:iX a I h):iX (L++a) I h:=λp hp=>by
 rcases a0k.1 hp with hp|hp
 ·exact b p hp
 ·exact c p hp
def iX.nil {I:Nat->Prop} {h:Array Obj}:iX [] I h:=λ_ a=>by cases a
def OD {a:String} {cs:Array Value} {g:Nat} (b:P.globalNamed a=some g) (h:w.var? P a=some cs):∃t fr,w.heap[g]?=some (.cells cs t fr):=by
 unfold World.var? at h;rw[b]at h;simp only[a0c]at h;split at h
 ·rename_i c t fr d
  cases h
  exact⟨t,fr,d⟩
 ·cases h
end
end Go.Pev
namespace Go.Proofs
open Go.Shelf
def Tryz.lays157_ren:Go.Shelf.Ren:=⟨λ|157=>272|229=>326|199=>327|261=>371|311=>405|312=>406|n=>n,λ|9=>9|31=>24|3=>3|5=>5|4=>4|119=>372|0=>0|40=>374|152=>401|21=>21|154=>403|51=>404|141=>406|196=>438|193=>435|198=>441|49=>439|194=>436|201=>444|226=>457|46=>94|227=>458|n=>n,λ|0=>0|6=>1|n=>n⟩
def Tryz.lays157:Go.Proofs.Lays.n157 Tryz.prog Tryz.lays157_ren:= {
 mixed:=by kernel_rfl
 f157:=Tryz.func272.trans (a1v some (by kernel_rfl))
 f199:=Tryz.func327.trans (a1v some (by kernel_rfl))
 f229:=Tryz.func326.trans (a1v some (by kernel_rfl))
 f261:=Tryz.func371.trans (a1v some (by kernel_rfl))
 f311:=Tryz.func405.trans (a1v some (by kernel_rfl))
 f312:=Tryz.func406.trans (a1v some (by kernel_rfl))
 t0:=Tryz.underlying0
 a0:=Tryz.isAgg0
 z0:=Tryz.sizeOf0
 v0:=Tryz.zeroValue0
 t3:=Tryz.underlying3
 a3:=Tryz.isAgg3
 z3:=Tryz.sizeOf3
 v3:=Tryz.zeroValue3
 t4:=Tryz.underlying4
 a4:=Tryz.isAgg4
 z4:=Tryz.sizeOf4
 v4:=Tryz.zeroValue4
 t5:=Tryz.underlying5
 a5:=Tryz.isAgg5
 z5:=Tryz.sizeOf5
 v5:=Tryz.zeroValue5
 t9:=Tryz.underlying9
 a9:=Tryz.isAgg9
 z9:=Tryz.sizeOf9
 v9:=Tryz.zeroValue9
 t21:=Tryz.underlying21
 a21:=Tryz.isAgg21
 z21:=Tryz.sizeOf21
 v21:=Tryz.zeroValue21
 t31:=Tryz.underlying24
 a31:=Tryz.isAgg24
 z31:=Tryz.sizeOf24
 v31:=Tryz.zeroValue24
 t40:=Tryz.underlying374
 a40:=Tryz.isAgg374
 z40:=Tryz.sizeOf374
 v40:=Tryz.zeroValue374
 t46:=Tryz.underlying94
 a46:=Tryz.isAgg94
 z46:=Tryz.sizeOf94
 v46:=Tryz.zeroValue94
 t49:=Tryz.underlying439
 a49:=Tryz.isAgg439
 z49:=Tryz.sizeOf439
 v49:=Tryz.zeroValue439
 t51:=Tryz.underlying404
 a51:=Tryz.isAgg404
 z51:=Tryz.sizeOf404
 v51:=Tryz.zeroValue404
 t119:=Tryz.underlying372
 a119:=Tryz.isAgg372
 z119:=Tryz.sizeOf372
 t141:=Tryz.underlying406
 a141:=Tryz.isAgg406
 z141:=Tryz.sizeOf406
 v141:=Tryz.zeroValue406
 t152:=Tryz.underlying401
 a152:=Tryz.isAgg401
 z152:=Tryz.sizeOf401
 v152:=Tryz.zeroValue401
 t154:=Tryz.underlying403
 a154:=Tryz.isAgg403
 z154:=Tryz.sizeOf403
 v154:=Tryz.zeroValue403
 t193:=Tryz.underlying435
 a193:=Tryz.isAgg435
 z193:=Tryz.sizeOf435
 v193:=Tryz.zeroValue435
 t194:=Tryz.underlying436
 a194:=Tryz.isAgg436
 z194:=Tryz.sizeOf436
 v194:=Tryz.zeroValue436
 t196:=Tryz.underlying438
 a196:=Tryz.isAgg438
 z196:=Tryz.sizeOf438
 v196:=Tryz.zeroValue438
 t198:=Tryz.underlying441
 a198:=Tryz.isAgg441
 z198:=Tryz.sizeOf441
 v198:=Tryz.zeroValue441
 t201:=Tryz.underlying444
 a201:=Tryz.isAgg444
 z201:=Tryz.sizeOf444
 v201:=Tryz.zeroValue444
 t226:=Tryz.underlying457
 a226:=Tryz.isAgg457
 z226:=Tryz.sizeOf457
 v226:=Tryz.zeroValue457
 t227:=Tryz.underlying458
 a227:=Tryz.isAgg458
 z227:=Tryz.sizeOf458
 v227:=Tryz.zeroValue458
 g0:=by kernel_rfl
 g6:=by kernel_rfl}
open Go.RowKit Go.Lib in
def Tryz.strings_Fields (s:ByteArray) (w:World) (d:s.size<4294967281) (a:∀(j:Nat) b,s.data.toList[j]?=some b->b.toNat<128) (c:Lib.TabIs Tryz.prog w "strings.asciiSpace" .u8 Lib.asciiSpaceTab):Calls Tryz.prog 272 #[.string s] w λe f=>
 e= .returned (.slice (some ⟨w.heap.size,0,none⟩) (Lib.fields s.data.toList).length (Lib.fields s.data.toList).length)/\f=w.alloc (.cells ((Lib.fields s.data.toList).map λl=>Value.string ⟨l.toArray⟩).toArray 9):=Any.strings_Fields Tryz.lays157 (by kernel_rfl) (by kernel_rfl) s w d a c
end Go.Proofs
section
open Go.Proofs
namespace Go.Pev.F.Lb
variable {L:List (Nat×Obj)}
def NeedSp (L:List (Nat×Obj)):Prop:=∃t fr,(0,Obj.cells (Go.Lib.asciiSpaceTab.map λz=>Value.int .u8 z).toArray t fr)∈L
def Fields.A:Sh:= .cons (.pur .str) .nil
def Fields.R:Sh:= .cons (.own .str) .nil
def Fields (_:Nat):(List UInt8×Unit)->Option ((List (List UInt8)×Unit)×(Unit×Unit)):=λx=>
 if x.1.length<4294967281/\x.1.all (λb=>decide (b.toNat<128))=true then some ((Go.Lib.fields x.1,()),((),()))else none
def Fields.sg (k:Nat):iR:=⟨Fields.A,Fields.R,Fields k,[]⟩
def sp_of {w:World} (h:NeedSp L) (b:iX L (λ_=>False) w.heap):Go.Lib.TabIs Tryz.prog w "strings.asciiSpace" .u8 Go.Lib.asciiSpaceTab:=by
 obtain⟨t,fr,c⟩:=h;have a:=(b _ c).2;have d:Tryz.prog.globalNamed "strings.asciiSpace" =some 0:=by kernel_rfl
 unfold Go.Lib.TabIs World.var?;rw[d];simp only[a0c];simp only at a;rw[a]
def strs_elems (h:Array Obj) (ok:Nat->Prop) (l:List (List UInt8)):bz (λx cs=>ct h ok .str x cs) Kd.str.n l (l.map λx=>Value.string ⟨x.toArray⟩).toArray 0:=by
 refine⟨by simp[Kd.n],λi a=> ?_⟩;show bT _ _ 1=_;simp only[bT,Kd.n,a5z,a1p];rw[a1d (by simpa using a)];simp
def Fields.ok (h:NeedSp L) (k:Nat):aw Tryz.prog L 272 (Fields.sg k):=IH Tryz.func272 (by kernel_rfl) (by kernel_rfl) rfl λw x vs y F _ d a c=>by
 obtain⟨(s:List UInt8),⟨⟩⟩:=x;obtain⟨q,r,rfl,g,a⟩:=lZ a;obtain⟨rfl,_⟩:=pb a;obtain rfl:=MB g;simp only[Fields]at c;split at c
 ·rename_i i
  obtain⟨l,m⟩:=i
  cases c
  refine(Tryz.strings_Fields ⟨s.toArray⟩ w (by simpa [ByteArray.size]using l) (λj b f=>a0w (a1g.1 m b (a3n f))) (sp_of h d)).mono λe t ⟨o,p⟩=> ?_
  subst p;refine⟨[_],[w.heap.size],o,⟨_,[],[w.heap.size],[],rfl,rfl,⟨_,rfl,rfl,_,_,rfl,a1m _,.inr ⟨w.heap.size,0,_,_,rfl,rfl,cH _ _,strs_elems _ _ _,?_⟩⟩,rfl,rfl⟩,by simp,λb f=>by simp at f;omega,ku _ _ _⟩;simp[Kd.n]
 ·cases c
def NeedSp.mono {a:List (Nat×Obj)} (h:NeedSp L) (b:∀p∈L,p∈a):NeedSp a:=by
 obtain⟨t,fr,c⟩:=h;exact⟨t,fr,b _ c⟩
def needSp_of {w:World} (h:Go.Lib.TabIs Tryz.prog w "strings.asciiSpace" .u8 Go.Lib.asciiSpaceTab):∃L,NeedSp L/\iX L (λ_=>False) w.heap:=by
 obtain⟨t,fr,b⟩:=OD (g:=0) (by kernel_rfl) h;refine⟨[(_,.cells _ t fr)],⟨t,fr,a0x.2 rfl⟩,λp a=> ?_⟩;rw[a0x]at a;subst a;exact⟨λh=>h,b⟩
end Go.Pev.F.Lb
end
namespace Go.Pev
open Go Go.Proofs Go.Shelf Go.RowKit
def sJ.A:Sh:= .cons .nl (.cons (.pur (.int .i64)) .nil)
def sJ.R (k:Kd):Sh:= .cons (.own k) .nil
def sJ (k:Kd) (a:Nat):(Unit×Int×Unit)->Option ((List k.T×Unit)×(Unit×Unit×Unit)):=λx=>if 0<=x.2.1/\x.2.1*a<=140737488355328 then some (([],()),((),(),()))else none
def IJ {P:Program} {ρ:Ren} {L:List (Nat×Obj)} (M:Lays8.n4 P ρ) {k:Kd} {e:TypeId} (p:ρ.t 25=e) (B:ko P e k=true) {f:FuncId} (O:ρ.f 4=f) {fn:Func} (C:P.funcs[f]?=some fn) (g:(fn.name== "runtime.NumGoroutine")=false) (j:fn.body.isNone=false):aw P L f ⟨sJ.A,sJ.R k,sJ k (c8 P e),[]⟩:=by
 refine⟨⟨fn,C,g,j⟩,λw F x vs fp y hF _ _ _ D u _=> ?_⟩;obtain⟨⟨⟩,(n:Int),⟨⟩⟩:=x;obtain⟨v1,r,f1,f2,rfl,rfl,⟨v,rfl⟩,Q⟩:=D;obtain⟨v2,r,rfl,S,T⟩:=lZ Q;obtain⟨rfl,rfl⟩:=pb T
 cases v
 obtain rfl:=rc S;simp only[sJ]at u;split at u
 ·rename_i U
  obtain⟨l,c⟩:=U;have l:0<=n:=l;have c:n*(c8 P e:Int)<=140737488355328:=c
  cases u
  obtain⟨d,N,_,o,i,z,E,V,W,G,H⟩:=fk B;subst p;subst O;have I:0<c8 P (ρ.t 25):=o;rw[G]at c I;have X:n<=140737488355328:=by
   have v:n*1<=n*(i.bytes:Int):=Int.mul_le_mul_of_nonneg_left (by omega) l;rw[Int.mul_one]at v;exact Int.le_trans v c
  by_cases Y:n=0
  ·subst Y
   refine(Any8.slices_Grow_room M none 0 0 0 w (by omega) (by omega) (by omega) (by omega)).mono λZ w' ⟨p,J⟩=> ?_
   subst J;refine⟨[_],[],[],p,⟨_,[],[],[],rfl,rfl,⟨_,rfl,d,none,0,rfl,a1m _,.inl ⟨rfl,rfl,rfl,rfl⟩⟩,rfl,rfl⟩,⟨_,_,[],[],rfl,rfl,.inl ⟨rfl,rfl⟩,_,_,[],[],rfl,rfl,.inl ⟨rfl,rfl⟩,rfl,rfl⟩,a2i,λb K=>by simp at K,.refl _ _⟩
  ·obtain⟨m,rfl⟩:∃m:Nat,n=(m:Int):=⟨n.toNat,by omega⟩
   have q:(0+m)*i.bytes<=140737488355328:=by
    have:((m*i.bytes:Nat):Int)<=140737488355328:=by rw[a6f];exact c
    rw[a1p];omega
   refine(Any8.slices_Grow_grow M i z E V (by omega) none 0 0 m [] w (by omega) (by omega) q (by omega) (by simp) (λ_=>rfl) (λa ha=>by cases ha)).mono λZ w' ⟨p,J⟩=> ?_
   subst J;have hg:=grownCap_ge w (0+m) 0 (ρ.t 25);have s:(w.drew.alloc (.cells ([].toArray++Builtin.zeroCells z.cells (0+m-0)++Builtin.zeroCells z.cells (grownCap w (0+m) 0 (ρ.t 25)-(0+m))) (ρ.t 25))).heap[w.heap.size]?=some (.cells ([].toArray++Builtin.zeroCells z.cells (0+m-0)++Builtin.zeroCells z.cells (grownCap w (0+m) 0 (ρ.t 25)-(0+m))) (ρ.t 25) (0,0)):=cH w.drew _;refine⟨[_],[w.heap.size],[],p,⟨_,[],[w.heap.size],[],rfl,rfl,⟨_,rfl,d,_,_,rfl,by simp,.inr ⟨w.heap.size,0,_,_,rfl,rfl,s,⟨by simp,λi E=>by simp at E⟩,?_⟩⟩,rfl,rfl⟩,⟨_,_,[],[],rfl,rfl,.inl ⟨rfl,rfl⟩,_,_,[],[],rfl,rfl,.inl ⟨rfl,rfl⟩,rfl,rfl⟩,by simp,λb K=> .inr (by simp at K;omega),(j0 _ _).trans (ku (λ_=>False) _ _) (λ_ h=>h.elim)⟩
   simp only[a3e,a2v,a0g,dP,H];rw[a1p,a1p,a1p,a8a,<-a1a];rw[a1p]at hg;exact a0q _ (by omega)
 ·cases u
end Go.Pev
section
open Go.Proofs Go.Pev Go.Shelf
namespace Go.Pev.F.Lb
set_option maxRecDepth 100000
def slices_Grow_string_string.ren:Ren:=⟨λ|4=>271|n=>n,λ|0=>0|3=>3|4=>4|9=>9|20=>20|22=>24|25=>9|n=>n,λn=>n⟩
def slices_Grow_string_string.lays:Go.Proofs.Lays8.n4 Tryz.prog slices_Grow_string_string.ren:= {
 mixed:=by kernel_rfl
 f4:=⟨"slices.Grow[[]string,string]",by kernel_rfl,Tryz.func271.trans (a1v some (by kernel_rfl))⟩
 t0:=Tryz.underlying0
 a0:=Tryz.isAgg0
 z0:=Tryz.sizeOf0
 v0:=Tryz.zeroValue0
 t3:=Tryz.underlying3
 a3:=Tryz.isAgg3
 z3:=Tryz.sizeOf3
 v3:=Tryz.zeroValue3
 t4:=Tryz.underlying4
 a4:=Tryz.isAgg4
 z4:=Tryz.sizeOf4
 v4:=Tryz.zeroValue4
 t9:=Tryz.underlying9
 a9:=Tryz.isAgg9
 z9:=Tryz.sizeOf9
 v9:=Tryz.zeroValue9
 t20:=Tryz.underlying20
 a20:=Tryz.isAgg20
 z20:=Tryz.sizeOf20
 v20:=Tryz.zeroValue20
 t22:=Tryz.underlying24
 a22:=Tryz.isAgg24
 z22:=Tryz.sizeOf24
 v22:=Tryz.zeroValue24}
def slices_Grow_string_string.A:Sh:=sJ.A
def slices_Grow_string_string.R:Sh:=sJ.R .str
def slices_Grow_string_string (_:Nat):(Unit×Int×Unit)->Option (((List (List UInt8))×Unit)×(Unit×Unit×Unit)):=sJ .str 16
def slices_Grow_string_string.sg (k:Nat):iR:=⟨slices_Grow_string_string.A,slices_Grow_string_string.R,slices_Grow_string_string k,[]⟩
def slices_Grow_string_string.ok {L:List (Nat×Obj)} (k:Nat):aw Tryz.prog L 271 (slices_Grow_string_string.sg k):=
 have h:=IJ (L:=L) slices_Grow_string_string.lays (k:= .str) (e:=9) rfl (by kernel_rfl) (f:=271) rfl Tryz.func271 (by kernel_rfl) (by kernel_rfl);have a:c8 Tryz.prog 9=16:=by kernel_rfl
 by rw[a]at h;exact h
def slices_Grow_impl_Tok_impl_Tok.ren:Ren:=⟨λ|4=>332|n=>n,λ|0=>0|3=>3|4=>4|9=>9|20=>20|22=>83|25=>216|n=>n,λn=>n⟩
def slices_Grow_impl_Tok_impl_Tok.lays:Go.Proofs.Lays8.n4 Tryz.prog slices_Grow_impl_Tok_impl_Tok.ren:= {
 mixed:=by kernel_rfl
 f4:=⟨"slices.Grow[[]loop.example/g00719/impl.Tok,loop.example/g00719/impl.Tok]",by kernel_rfl,Tryz.func332.trans (a1v some (by kernel_rfl))⟩
 t0:=Tryz.underlying0
 a0:=Tryz.isAgg0
 z0:=Tryz.sizeOf0
 v0:=Tryz.zeroValue0
 t3:=Tryz.underlying3
 a3:=Tryz.isAgg3
 z3:=Tryz.sizeOf3
 v3:=Tryz.zeroValue3
 t4:=Tryz.underlying4
 a4:=Tryz.isAgg4
 z4:=Tryz.sizeOf4
 v4:=Tryz.zeroValue4
 t9:=Tryz.underlying9
 a9:=Tryz.isAgg9
 z9:=Tryz.sizeOf9
 v9:=Tryz.zeroValue9
 t20:=Tryz.underlying20
 a20:=Tryz.isAgg20
 z20:=Tryz.sizeOf20
 v20:=Tryz.zeroValue20
 t22:=Tryz.underlying83
 a22:=Tryz.isAgg83
 z22:=Tryz.sizeOf83
 v22:=Tryz.zeroValue83}
def slices_Grow_impl_Tok_impl_Tok.A:Sh:=sJ.A
def slices_Grow_impl_Tok_impl_Tok.R:Sh:=sJ.R (.cons (.int .i64) (.cons (.int .i64) .nil))
def slices_Grow_impl_Tok_impl_Tok (_:Nat):(Unit×Int×Unit)->Option (((List (Int×Int×Unit))×Unit)×(Unit×Unit×Unit)):=sJ (.cons (.int .i64) (.cons (.int .i64) .nil)) 16
def slices_Grow_impl_Tok_impl_Tok.sg (k:Nat):iR:=⟨slices_Grow_impl_Tok_impl_Tok.A,slices_Grow_impl_Tok_impl_Tok.R,slices_Grow_impl_Tok_impl_Tok k,[]⟩
def slices_Grow_impl_Tok_impl_Tok.ok {L:List (Nat×Obj)} (k:Nat):aw Tryz.prog L 332 (slices_Grow_impl_Tok_impl_Tok.sg k):=
 have h:=IJ (L:=L) slices_Grow_impl_Tok_impl_Tok.lays (k:=(.cons (.int .i64) (.cons (.int .i64) .nil))) (e:=216) rfl (by kernel_rfl) (f:=332) rfl Tryz.func332 (by kernel_rfl) (by kernel_rfl);have a:c8 Tryz.prog 216=16:=by kernel_rfl
 by rw[a]at h;exact h
end Go.Pev.F.Lb
end
namespace Go.Pev
variable {n o i O B:Nat} {r Z:Array Value} {w:World} {α:Type} {fp:List Nat} {k:Kd}
open Go Go.Proofs Go.Shelf Go.RowKit Go.Lib
structure pc (P:Program) (ρ:Ren):Prop where
 mixed:P.follows .mixedOrders=true
 f22:Bears P (ρ.f 22) (Body2.n22 ρ)
 ov:∀(w:World) (vb voff m vc b off lb cb:Nat) (tA tB:TypeId) (kA kB:Nat),vb≠b->w.shape? vb=some (tA,kA)->w.shape? b=some (tB,kB)->kB≠0->w.frozen? ⟨vb,voff,none⟩=false->w.frozen? ⟨vb,kA,none⟩=false->(callFunc (ρ.f 29) #[.slice (some ⟨vb,voff,none⟩) m vc,.slice (some ⟨b,off,none⟩) lb cb]).run P w= .ok (.value (.bool false)) w
 t0:P.underlying (ρ.t 0)=some (TypeDesc.tuple #[])
 a0:∀w,(isAgg (ρ.t 0)).run P w= .ok false w
 z0:∀w,(Go.sizeOf (ρ.t 0)).run P w= .ok 1 w
 v0:∀w,(zeroValue (ρ.t 0)).run P w= .ok (Value.tuple #[]) w
 t3:P.underlying (ρ.t 3)=some (TypeDesc.int IntKind.i64)
 a3:∀w,(isAgg (ρ.t 3)).run P w= .ok false w
 z3:∀w,(Go.sizeOf (ρ.t 3)).run P w= .ok 1 w
 v3:∀w,(zeroValue (ρ.t 3)).run P w= .ok (Value.int IntKind.i64 0) w
 t4:P.underlying (ρ.t 4)=some (TypeDesc.bool)
 a4:∀w,(isAgg (ρ.t 4)).run P w= .ok false w
 z4:∀w,(Go.sizeOf (ρ.t 4)).run P w= .ok 1 w
 v4:∀w,(zeroValue (ρ.t 4)).run P w= .ok (Value.bool false) w
 t24:P.underlying (ρ.t 24)=some (TypeDesc.slice (ρ.t 9))
 a24:∀w,(isAgg (ρ.t 24)).run P w= .ok false w
 z24:∀w,(Go.sizeOf (ρ.t 24)).run P w= .ok 1 w
 v24:∀w,(zeroValue (ρ.t 24)).run P w= .ok (Value.slice none 0 0) w
def js {P:Program} (w:World) (l n ty c:TypeId) (i:TypeInfo) (b o d f:Nat) (a:Addr) (e g:Nat) (cs:List Value)
 (p:P.underlying l=some (.slice c)) (q:P.info? c=some i) {m:Nat} (r:Nat.min e d=m) (s:cs.length=m*i.size)
 (h:∀j v,cs[j]?=some v->w.cell? (a.add j)=some v) (t:∀j,j<cs.length->(w.cell? ⟨b,o+j,none⟩).isSome=true) (u:∀j,j<cs.length->w.frozen? ⟨b,o+j,none⟩=false) (x:∀v∈cs,v.oneCell'=true):
 (Builtin.copy_ #[l,n] ty #[.slice (some ⟨b,o,none⟩) d f,.slice (some a) e g]).run P w= .ok (goInt m) (w.setCells b o cs):=by
 have y:=run_loadCells_list (P:=P) w a cs h;have k:=run_storeCells_cells (P:=P) b o cs 0 w (by simpa using t) (by simpa using u) x;simp[Builtin.copy_,run_underlying p,Builtin.lenOf,Builtin.firstCells,sizeOf,typeInfo,q,r,<-s,y,k]
section
variable {P:Program} {ρ:Ren}
set_option maxHeartbeats 4000000 in
set_option maxRecDepth 100000 in
def Cv (L:pc P ρ) (d:TypeInfo) (h:P.info? (ρ.t 9)=some d) (b off n c i a m o:Nat) (vs:List Value) (w:World) (I:0<m) (g:n+m<=c) (y:n+m<=4611686018427387904)
 (p:vs.length=m*d.size) (q:∀j,j<vs.length->(w.cell? ⟨b,off+n*d.size+j,none⟩).isSome=true) (r:∀j,j<vs.length->w.frozen? ⟨b,off+n*d.size+j,none⟩=false)
 (s:∀j v,vs[j]?=some v->w.cell? ⟨i,a+j,none⟩=some v) (x:∀v∈vs,v.oneCell'=true):
 Calls P (ρ.f 22) #[.slice (some ⟨b,off,none⟩) n c,.int .i64 n,.slice (some ⟨i,a,none⟩) m o] w λe z=>
  e= .returned (.slice (some ⟨b,off,none⟩) (n+m) c)/\z=w.setCells b (off+n*d.size) vs:=by
 have J:=L.t0;have K:=L.a0;have M:=L.z0;have N:=L.v0;have O:=L.t3;have Q:=L.a3;have R:=L.z3;have S:=L.v3;have T:=L.t4;have U:=L.a4;have V:=L.z4;have W:=L.v4;have A:=L.t24;have B:=L.a24;have C:=L.z24;have D:=L.v24;have X:=run_underlying L.t0;have Y:=run_underlying L.t3;have Z:=run_underlying L.t4;have E:=run_underlying L.t24;have mixed:=L.mixed;have z9:∀w,(Go.sizeOf (ρ.t 9)).run P w= .ok d.size w:=λw=>by simp[Go.sizeOf,typeInfo,h]
 obtain⟨_,_,F⟩:=L.f22;have G:¬((m:Int)=0):=by omega
 have k:Src P d.size (ρ.t 24) (.slice (some ⟨i,a,none⟩) m o) m vs w:=Src.ofSlice w L.t24 ⟨i,a,none⟩ m o vs p (λj u H=>by rw[Addr.add_lit];exact s j u H) x;have l:∀ty,(Builtin.append_ #[ρ.t 24,ρ.t 24] ty #[.slice (some ⟨b,off,none⟩) n c,.slice (some ⟨i,a,none⟩) m o]).run P w= .ok (.slice (some ⟨b,off,none⟩) (n+m) c) (w.setCells b (off+n*d.size) vs):=λty=>run_append_room_src (P:=P) w (ρ.t 24) (ρ.t 24) ty (ρ.t 9) d L.t24 h b off n c _ m vs k g q r
 go_enter F,Body2.n22_ntmps ρ
 go_wp2_with (at_builtin;refine Lib.wpList_append_run _ rfl _ _ _ _ rfl _ _ rfl rfl _ _ (l _) ?_)
 go_ret
 exact⟨rfl,rfl⟩
set_option maxHeartbeats 4000000 in
set_option maxRecDepth 100000 in
def re (L:pc P ρ) (g:TypeInfo) (z:Value) (p:P.info? (ρ.t 9)=some g) (A:g.zero=some z) (b:Option Addr) (n c q d m y:Nat) (cs vs:List Value) (w:World) (W:0<m) (J:n<=c) (h:c<n+m) (r:(n+m)*g.bytes<=140737488355328) (K:n+m<=4611686018427387904)
 (o:cs.length=n*g.size) (B:vs.length=m*g.size) (k:b=none->n=0)
 (s:∀a,b=some a->∀j v,cs[j]?=some v->w.cell? (a.add j)=some v)
 (C:∀j v,vs[j]?=some v->w.cell? ⟨q,d+j,none⟩=some v) (D:∀v∈vs,v.oneCell'=true):
 Calls P (ρ.f 22) #[.slice b n c,.int .i64 n,.slice (some ⟨q,d,none⟩) m y] w λe M=>
  e= .returned (.slice (some ⟨w.heap.size,0,none⟩) (n+m) (grownCap w (n+m) c (ρ.t 9)))/\
  M=w.drew.alloc (.cells ((cs++vs).toArray++Builtin.zeroCells z.cells (grownCap w (n+m) c (ρ.t 9)-(n+m))) (ρ.t 9)):=by
 have X:=L.t0;have Y:=L.a0;have Z:=L.z0;have v0:=L.v0;have t3:=L.t3;have a3:=L.a3;have z3:=L.z3;have v3:=L.v3;have t4:=L.t4;have a4:=L.a4;have z4:=L.z4;have v4:=L.v4;have N:=L.t24;have O:=L.a24;have Q:=L.z24;have R:=L.v24;have u0:=run_underlying L.t0;have u3:=run_underlying L.t3;have u4:=run_underlying L.t4;have S:=run_underlying L.t24;have mixed:=L.mixed;have z9:∀w,(Go.sizeOf (ρ.t 9)).run P w= .ok g.size w:=λw=>by simp[Go.sizeOf,typeInfo,p]
 obtain⟨_,_,T⟩:=L.f22;have U:¬((m:Int)=0):=by omega
 have x:Src P g.size (ρ.t 24) (.slice (some ⟨q,d,none⟩) m y) m vs w:=Src.ofSlice w L.t24 ⟨q,d,none⟩ m y vs B (λj u E=>by rw[Addr.add_lit];exact C j u E) D;have l:(Builtin.firstCells g.size n (.slice b n c)).run P w.drew= .ok cs.toArray w.drew:=by
  cases b with
  |none=>
   have F:=k rfl;subst F;have H:cs=[]:=a4n.1 (by simpa using o);rw[H];exact run_firstCells_none w.drew g.size 0 0 c
  |some a=>exact run_firstCells_some w.drew g.size n a n c cs o (λj v E=>s a rfl j v E)
 have i:∀ty,(Builtin.append_ #[ρ.t 24,ρ.t 24] ty #[.slice b n c,.slice (some ⟨q,d,none⟩) m y]).run P w= .ok (.slice (some ⟨w.heap.size,0,none⟩) (n+m) (grownCap w (n+m) c (ρ.t 9))) (w.drew.alloc (.cells ((cs++vs).toArray++Builtin.zeroCells z.cells (grownCap w (n+m) c (ρ.t 9)-(n+m))) (ρ.t 9))):=λty=>run_append_grow_src (P:=P) w (ρ.t 24) (ρ.t 24) ty (ρ.t 9) g z L.t24 p A b n c cs l _ m vs x h (by omega) (growslice_fits h r)
 obtain⟨G,I⟩:∃G,G=grownCap w (n+m) c (ρ.t 9):=⟨_,rfl⟩;rw[<-I]at i⊢;clear l I s o
 go_enter T,Body2.n22_ntmps ρ
 cases b with
 |none=>
  have F:=k rfl;subst F
  go_wp2_with (at_builtin;refine Lib.wpList_append_run _ rfl _ _ _ _ rfl _ _ rfl rfl _ _ (i _) ?_)
  all_goals (go_ret;exact⟨rfl,rfl⟩)
 |some a=>
  obtain⟨ab,ao,V⟩:=a
  go_wp2_with (at_builtin;refine Lib.wpList_append_run _ rfl _ _ _ _ rfl _ _ rfl rfl _ _ (i _) ?_)
  all_goals (go_ret;exact⟨rfl,rfl⟩)
set_option maxHeartbeats 4000000 in
set_option maxRecDepth 100000 in
def JH (L:pc P ρ) (a:TypeInfo) (q:P.info? (ρ.t 9)=some a) (b off n c i l d m y:Nat) (cs vs:List Value) (w:World) (hi:i<n) (hm:0<m) (I:n+m<=c) (R2:n+m<=4611686018427387904) (z:l≠b)
 (J:cs.length=n*a.size) (K:vs.length=m*a.size)
 (M:∀j v,cs[j]?=some v->w.cell? ⟨b,off+j,none⟩=some v) (r:∀j,j<(n+m)*a.size->(w.cell? ⟨b,off+j,none⟩).isSome=true) (A:∀j,j<(n+m)*a.size->w.frozen? ⟨b,off+j,none⟩=false)
 (N:∀j v,vs[j]?=some v->w.cell? ⟨l,d+j,none⟩=some v) (O:∀v∈cs,v.oneCell'=true) (Q:∀v∈vs,v.oneCell'=true)
 (tA tB:TypeId) (R S:Nat) (T:w.shape? l=some (tA,R)) (U:w.shape? b=some (tB,S)) (V:S≠0) (X:w.frozen? ⟨l,d,none⟩=false) (Y:w.frozen? ⟨l,R,none⟩=false):
 Calls P (ρ.f 22) #[.slice (some ⟨b,off,none⟩) n c,.int .i64 i,.slice (some ⟨l,d,none⟩) m y] w λe w'=>
  e= .returned (.slice (some ⟨b,off,none⟩) (n+m) c)/\w'=(w.drew.setCells b (off+(i+m)*a.size) (cs.drop (i*a.size))).setCells b (off+i*a.size) vs:=by
 have t0:=L.t0;have a0:=L.a0;have z0:=L.z0;have v0:=L.v0;have t3:=L.t3;have a3:=L.a3;have z3:=L.z3;have v3:=L.v3;have t4:=L.t4;have a4:=L.a4;have z4:=L.z4;have v4:=L.v4;have R3:=L.t24;have R4:=L.a24;have R5:=L.z24;have R6:=L.v24;have u0:=run_underlying L.t0;have u3:=run_underlying L.t3;have u4:=run_underlying L.t4;have R7:=run_underlying L.t24;have mixed:=L.mixed;have z9:∀w,(Go.sizeOf (ρ.t 9)).run P w= .ok a.size w:=λw=>by simp[Go.sizeOf,typeInfo,q]
 obtain⟨_,_,FG⟩:=L.f22;have R8:¬((m:Int)=0):=by omega
 have R9:¬((i:Int)=(n:Int)):=by omega
 have Z:∀lb cb,(callFunc (ρ.f 29) #[.slice (some ⟨l,d,none⟩) m y,.slice (some ⟨b,off+(i+m)*a.size,none⟩) lb cb]).run P w= .ok (.value (.bool false)) w:=λlb cb=>L.ov w l d m y b _ lb cb tA tB R S z T U V X Y
 have B:i*a.size<=n*a.size:=a0q _ (by omega);have C:(n+m)*a.size=n*a.size+m*a.size:=a1a _ _ _;have s:(i+m)*a.size=i*a.size+m*a.size:=a1a _ _ _;have R0:(cs.drop (i*a.size)).length=(n-i)*a.size:=by rw[a2p,J,Nat.sub_mul]
 have D:(n-i)*a.size+i*a.size=n*a.size:=by rw[<-a1a];congr 1;omega
 have Sa:IntKind.i64.wrap ((i:Int)+(m:Int))=(i:Int)+(m:Int):=by rw[IntKind.wrap_i64];omega
 have Sb:(0:Int)<=(i:Int)+(m:Int):=by omega
 have Sc:i<=n:=by omega
 have Sd:((i:Int)+(m:Int)).toNat=i+m:=by omega
 have Se:¬(c=i+m):=by omega
 have Sf:(i:Int)<=(n:Int)+(m:Int):=by omega
 have Sg:¬(c=i):=by omega
 have o:∀ty u sc,(Builtin.copy_ #[(ρ.t 24),(ρ.t 24)] ty #[.slice (some ⟨b,off+(i+m)*a.size,none⟩) (n+m-(i+m)) u,.slice (some ⟨b,off+i*a.size,none⟩) (n+m-i) sc]).run P w.drew= .ok (goInt ((n-i:Nat):Int)) (w.drew.setCells b (off+(i+m)*a.size) (cs.drop (i*a.size))):=λty u sc=>
  js w.drew _ _ ty (ρ.t 9) a b (off+(i+m)*a.size) (n+m-(i+m)) u ⟨b,off+i*a.size,none⟩ (n+m-i) sc (cs.drop (i*a.size)) L.t24 q (m:=n-i) (by simp only[a8q];split<;>omega) R0
   (λj v p=>by rw[Addr.add_lit,a2n];exact M (i*a.size+j) v (by rwa [a2y]at p))
   (λj p=>by rw[a2n];exact r _ (by omega)) (λj p=>by rw[a2n];exact A _ (by omega)) (λv hv=>O v (a5u hv))
 obtain⟨E,g⟩:∃E,E=w.drew.setCells b (off+(i+m)*a.size) (cs.drop (i*a.size)):=⟨_,rfl⟩;have F:∀k,k<(n+m)*a.size->(E.cell? ⟨b,off+k,none⟩).isSome=true:=λk hk=>by
  rw[g];exact isSome_setCells b _ _ _ (λj p=>by rw[a2n];exact r _ (by omega)) _ (r k hk)
 have G:∀(W:World),(∀x,W.cell? x=E.cell? x)->(∀x,W.frozen? x=E.frozen? x)->∀ty u,(Builtin.copy_ #[(ρ.t 24),(ρ.t 24)] ty #[.slice (some ⟨b,off+i*a.size,none⟩) (n+m-i) u,.slice (some ⟨l,d,none⟩) m y]).run P W= .ok (goInt m) (W.setCells b (off+i*a.size) vs):=λW H R1 ty u=>
  js W _ _ ty (ρ.t 9) a b (off+i*a.size) (n+m-i) u ⟨l,d,none⟩ m y vs L.t24 q (m:=m) (by simp only[a8q];split<;>omega) K
   (λj v p=>by
    rw[Addr.add_lit,H,g,World.cell?_setCells_out b _ _ _ _ (λh _=>absurd h z)];exact N j v p)
   (λj p=>by rw[H,a2n];exact F _ (by omega)) (λj p=>by rw[R1,g,World.frozen?_setCells,a2n];exact A _ (by omega)) Q
 rw[<-g]at o;clear D B C s
 go_enter FG,Body2.n22_ntmps ρ
 go_wp2_with (simp only[Z])
 go_region_law_o (refine step_copy_runI rfl _ _ (ρ.t 24) (ρ.t 24) rfl _ _ (by simp[Act.eval,Act.put]) (by simp[Act.eval,Act.put]) (o _ _ _) ?_)
 go_wp2_with (at_builtin;refine wpList_copy_runI _ rfl _ _ (ρ.t 24) (ρ.t 24) rfl _ _ rfl rfl (G _ (λ_=>rfl) (λ_=>rfl) _ _) ?_)
 go_ret
 first|exact⟨rfl,rfl⟩|exact⟨rfl,by rw[g]⟩
set_option maxHeartbeats 4000000 in
set_option maxRecDepth 100000 in
def MF (L:pc P ρ) (a:TypeInfo) (z:Value) (r:P.info? (ρ.t 9)=some a) (U:a.zero=some z) (V:z.cells.size=a.size) (B:0<a.size) (b off n c i u g m X:Nat) (cs vs:List Value) (w:World) (hi:i<n) (hm:0<m) (Si:n<=c) (C:c<n+m) (J:(n+m)*a.bytes<=140737488355328) (Sj:n+m<=4611686018427387904)
 (Y:cs.length=n*a.size) (Z:vs.length=m*a.size)
 (D:∀j v,cs[j]?=some v->w.cell? ⟨b,off+j,none⟩=some v)
 (K:∀j v,vs[j]?=some v->w.cell? ⟨u,g+j,none⟩=some v) (R0:∀v∈cs,v.oneCell'=true) (R1:∀v∈vs,v.oneCell'=true):
 Calls P (ρ.f 22) #[.slice (some ⟨b,off,none⟩) n c,.int .i64 i,.slice (some ⟨u,g,none⟩) m X] w λe w'=>
  e= .returned (.slice (some ⟨w.heap.size,0,none⟩) (n+m) (grownCap w (n+m) c (ρ.t 9)))/\
  w'=(((w.alloc (.cells ((cs.take (i*a.size)).toArray++Builtin.zeroCells z.cells (n+m-i)++Builtin.zeroCells z.cells (grownCap w (n+m) c (ρ.t 9)-(n+m))) (ρ.t 9))).drew.setCells w.heap.size (i*a.size) vs).drew).setCells w.heap.size ((i+m)*a.size) (cs.drop (i*a.size)):=by
 have t0:=L.t0;have a0:=L.a0;have z0:=L.z0;have v0:=L.v0;have t3:=L.t3;have a3:=L.a3;have z3:=L.z3;have v3:=L.v3;have t4:=L.t4;have a4:=L.a4;have z4:=L.z4;have v4:=L.v4;have Sk:=L.t24;have Sl:=L.a24;have Sm:=L.z24;have Sn:=L.v24;have u0:=run_underlying L.t0;have u3:=run_underlying L.t3;have u4:=run_underlying L.t4;have So:=run_underlying L.t24;have mixed:=L.mixed;have z9:∀w,(Go.sizeOf (ρ.t 9)).run P w= .ok a.size w:=λw=>by simp[Go.sizeOf,typeInfo,r]
 obtain⟨_,_,FG⟩:=L.f22;have Sp:¬((m:Int)=0):=by omega
 have Sq:¬((i:Int)=(n:Int)):=by omega
 have Sr:(c:Int)<(n:Int)+(m:Int):=by omega
 have M:i*a.size<=n*a.size:=a0q _ (by omega);have N:(n+m)*a.size=n*a.size+m*a.size:=a1a _ _ _;have E:(i+m)*a.size=i*a.size+m*a.size:=a1a _ _ _;have R2:(cs.drop (i*a.size)).length=(n-i)*a.size:=by rw[a2p,Y,Nat.sub_mul]
 have O:(n-i)*a.size+i*a.size=n*a.size:=by rw[<-a1a];congr 1;omega
 have R3:1*1<=n*a.size:=a8m (by omega) B;have R4:1*1<=m*a.size:=a8m hm B;have R5:b<w.heap.size:=block_lt_of_cell (D 0 _ (a0a (by omega)));have R6:u<w.heap.size:=block_lt_of_cell (K 0 _ (a0a (by omega)));have Q:(n:Int)+(m:Int)-(i:Int)=((n+m-i:Nat):Int):=by omega
 have F:i+(n+m-i)=n+m:=by omega
 have y:(Builtin.firstCells a.size i (.slice (some ⟨b,off,none⟩) i c)).run P w.drew= .ok (cs.take (i*a.size)).toArray w.drew:=run_firstCells_some w.drew a.size i ⟨b,off,none⟩ i c (cs.take (i*a.size)) (by rw[a1h];omega) (λj v k=>by
  rw[Addr.add_lit];rw[a4h]at k;split at k
  ·exact D j v k
  ·cases k)
 have s:∀ty,(Builtin.append_ #[(ρ.t 24),(ρ.t 3)] ty #[.slice (some ⟨b,off,none⟩) i c,.int .i64 ((n:Int)+(m:Int)-(i:Int))]).run P w= .ok (.slice (some ⟨w.heap.size,0,none⟩) (n+m) (grownCap w (n+m) c (ρ.t 9))) (w.drew.alloc (.cells ((cs.take (i*a.size)).toArray++Builtin.zeroCells z.cells (n+m-i)++Builtin.zeroCells z.cells (grownCap w (n+m) c (ρ.t 9)-(n+m))) (ρ.t 9))):=λty=>by
  have h:=Lib.run_append_grow_zeros w (ρ.t 24) (ρ.t 3) ty (ρ.t 9) a z .i64 .i64 L.t24 L.t3 r U (some ⟨b,off,none⟩) i c (cs.take (i*a.size)) y (n+m-i) (by omega) B (by omega) (by omega)
   (by
    have:(n+m-i)*a.bytes<=(n+m)*a.bytes:=a0q _ (by omega)
    omega) (by rw[F];exact growslice_fits C J)
  rw[F]at h;rw[Q];exact h
 obtain⟨G,T⟩:∃G,G=grownCap w (n+m) c (ρ.t 9):=⟨_,rfl⟩;obtain⟨d,o⟩:∃d:Array Value,d=(cs.take (i*a.size)).toArray++Builtin.zeroCells z.cells (n+m-i)++Builtin.zeroCells z.cells (G-(n+m)):=⟨_,rfl⟩;rw[<-T]at s⊢;rw[<-o]at s⊢;have R7:(n+m)*a.size<=d.size:=by
  rw[o];simp only[a3e,a2v,a1h,dP,V];have h1:(n+m-i)*a.size+i*a.size=(n+m)*a.size:=by rw[<-a1a];congr 1;omega
  omega
 obtain⟨q,l⟩:∃q,q=w.drew.alloc (.cells d (ρ.t 9)):=⟨_,rfl⟩;rw[<-l]at s;have hN:∀j,j<(n+m)*a.size->(q.cell? ⟨w.heap.size,j,none⟩).isSome=true:=λj k=>by
  rw[l,World.cell?_alloc_at (w:=w.drew) d _ w.heap.size j rfl,a1o (by omega)];rfl
 have R:∀j,q.frozen? ⟨w.heap.size,j,none⟩=false:=λj=>by rw[l];exact World.frozen?_alloc_at (w:=w.drew) d _ w.heap.size j rfl
 have R8:∀j v,w.cell? ⟨b,j,none⟩=some v->q.cell? ⟨b,j,none⟩=some v:=λj v h=>by rw[l,World.cell?_alloc_past (w:=w.drew) _ b j R5];exact h
 have R9:∀j v,w.cell? ⟨u,j,none⟩=some v->q.cell? ⟨u,j,none⟩=some v:=λj v h=>by rw[l,World.cell?_alloc_past (w:=w.drew) _ u j R6];exact h
 have Ss:n+m<=G:=by rw[T];exact grownCap_ge w _ _ _
 have Sf:G<=9223372036854775807:=by
  have:=grownCap_le_maxLen w (n+m) c (ρ.t 9) (by unfold maxLen;omega);rw[<-T]at this;unfold maxLen at this;omega
 have Su:¬(G=i):=by omega
 have Sg:¬(G=i+m):=by omega
 have Sw:¬(c=i):=by omega
 have Sa:b≠w.heap.size:=by omega
 have S:∀(W:World),(∀x,W.cell? x=q.cell? x)->(∀x,W.frozen? x=q.frozen? x)->∀ty H,(Builtin.copy_ #[(ρ.t 24),(ρ.t 24)] ty #[.slice (some ⟨w.heap.size,i*a.size,none⟩) (n+m-i) H,.slice (some ⟨u,g,none⟩) m X]).run P W= .ok (goInt m) (W.setCells w.heap.size (i*a.size) vs):=λW p I ty H=>
  js W _ _ ty (ρ.t 9) a w.heap.size (i*a.size) (n+m-i) H ⟨u,g,none⟩ m X vs L.t24 r (m:=m) (by simp only[a8q];split<;>omega) Z
   (λj v k=>by rw[Addr.add_lit,p];exact R9 _ v (K j v k))
   (λj k=>by rw[p];exact hN _ (by omega)) (λj k=>by rw[I];exact R _) R1
 have A:∀(W:World),(∀x,W.cell? x=(q.setCells w.heap.size (i*a.size) vs).cell? x)->(∀x,W.frozen? x=(q.setCells w.heap.size (i*a.size) vs).frozen? x)->∀ty H sc,(Builtin.copy_ #[(ρ.t 24),(ρ.t 24)] ty #[.slice (some ⟨w.heap.size,(i+m)*a.size,none⟩) (n+m-(i+m)) H,.slice (some ⟨b,off+i*a.size,none⟩) (n-i) sc]).run P W= .ok (goInt ((n-i:Nat):Int)) (W.setCells w.heap.size ((i+m)*a.size) (cs.drop (i*a.size))):=λW p I ty H sc=>
  js W _ _ ty (ρ.t 9) a w.heap.size ((i+m)*a.size) (n+m-(i+m)) H ⟨b,off+i*a.size,none⟩ (n-i) sc (cs.drop (i*a.size)) L.t24 r (m:=n-i) (by simp only[a8q];split<;>omega) R2
   (λj v k=>by
    rw[Addr.add_lit,p,World.cell?_setCells_out _ _ _ _ _ (λh _=>absurd h Sa),a2n];exact R8 _ v (D (i*a.size+j) v (by rwa [a2y]at k)))
   (λj k=>by rw[p];exact isSome_setCells _ _ _ _ (λt ht=>hN _ (by omega)) _ (hN _ (by omega)))
   (λj k=>by rw[I,World.frozen?_setCells];exact R _) (λv hv=>R0 v (a5u hv))
 subst l;have Sb:∀x,((w.alloc (.cells d (ρ.t 9))).drew).cell? x=(w.drew.alloc (.cells d (ρ.t 9))).cell? x:=λx=>rfl
 have Sc:∀x,((w.alloc (.cells d (ρ.t 9))).drew).frozen? x=(w.drew.alloc (.cells d (ρ.t 9))).frozen? x:=λx=>rfl
 have Sd:∀x,(((w.alloc (.cells d (ρ.t 9))).drew.setCells w.heap.size (i*a.size) vs).drew).cell? x=((w.drew.alloc (.cells d (ρ.t 9))).setCells w.heap.size (i*a.size) vs).cell? x:=λx=>rfl
 have Se:∀x,(((w.alloc (.cells d (ρ.t 9))).drew.setCells w.heap.size (i*a.size) vs).drew).frozen? x=((w.drew.alloc (.cells d (ρ.t 9))).setCells w.heap.size (i*a.size) vs).frozen? x:=λx=>rfl
 have Sx:IntKind.i64.wrap ((i:Int)+(m:Int))=(i:Int)+(m:Int):=by rw[IntKind.wrap_i64];omega
 have Sy:(0:Int)<=(i:Int)+(m:Int):=by omega
 have Sz:i<=n:=by omega
 have S0:((i:Int)+(m:Int)).toNat=i+m:=by omega
 have S3:(i:Int)<=(n:Int):=by omega
 clear Q F y o T R7 O M N E R3 R4
 go_enter FG,Body2.n22_ntmps ρ
 go_wp2_with (first
  |(at_builtin;refine Lib.wpList_append_run _ rfl _ _ _ _ rfl _ _ rfl rfl _ _ (s _) ?_)
  |(at_builtin;refine wpList_copy_runI _ rfl _ _ (ρ.t 24) (ρ.t 24) rfl _ _ rfl rfl (S _ Sb Sc _ _) ?_)
  |(at_builtin;refine wpList_copy_runI _ rfl _ _ (ρ.t 24) (ρ.t 24) rfl _ _ rfl rfl (A _ (λ_=>rfl) (λ_=>rfl) _ _ _) ?_))
 go_region_law_o (refine step_copy_runI rfl _ _ (ρ.t 24) (ρ.t 24) rfl (.slice (some ⟨w.heap.size,(i+m)*a.size,none⟩) (n+m-(i+m)) (G-(i+m))) (.slice (some ⟨b,off+i*a.size,none⟩) (n-i) (c-i)) (by simp[Act.eval,Act.put]) (by simp[Act.eval,Act.put]) (A _ Sd Se (ρ.t 3) (G-(i+m)) (c-i)) ?_)
 go_wp2
 go_ret
 exact⟨rfl,rfl⟩
end
def iI.A (k:Kd):Sh:= .cons (.own k) (.cons (.pur (.int .i64)) (.cons (.own k) .nil))
def iI.R (k:Kd):Sh:= .cons (.own k) .nil
def iI (k:Kd) (a:Nat):(List k.T×Int×List k.T×Unit)->Option ((List k.T×Unit)×(Unit×Unit×Unit×Unit)):=λx=>
 if 0<=x.2.1/\x.2.1<=x.1.length/\0<x.2.2.1.length/\(x.1.length+x.2.2.1.length)*a<=140737488355328 then some ((x.1.take x.2.1.toNat++x.2.2.1++x.1.drop x.2.1.toNat,()),((),(),(),()))else none
def El {b:Nat} (h:am w.heap b=some r) {j:Nat} {v:Value} (a:(bT r o n)[j]?=some v):w.cell? ⟨b,o+j,none⟩=some v:=by
 rw[bQ h,<-a];by_cases c:j<n
 ·rw[aN c]
 ·rw[kw]at a;cases a
def MG {p:Nat} (h:p<=n):(bT r o n).drop p=bT r (o+p) (n-p):=by
 apply a2e;intro i;rw[a2y];by_cases a:i<n-p
 ·rw[aN (by omega),aN a,a2n]
 ·rw[kw,kw]
def MH {p:Nat} (h:p<=n):(bT r o n).take p=bT r o p:=by
 apply a2e;intro i;by_cases a:i<p
 ·rw[a5e a,aN (by omega),aN a]
 ·rw[List.getElem?_take_eq_none (by omega),kw]
def GV {R:α->List Value->Prop} {l:List α} (h:bz R n l r o) (a:i<=l.length):bz R n (l.take i) r o:=by
 have:=h.part (off:=0) (len:=i) (by omega);simpa [aM]using this
def GW {R:α->List Value->Prop} {l:List α} (h:bz R n l r o) (a:i<=l.length):bz R n (l.drop i) r (o+i*n):=by
 have:=h.part (off:=i) (len:=l.length-i) (by omega);have e:aM l i (l.length-i)=l.drop i:=by
  unfold aM;rw[a3i (by simp)]
 rwa [e]at this
def ll {R:α->List Value->Prop} {l y:List α} {d:Array Value} {e:Nat} (h:bz R n l r o) (g:bz R n y d e) (b:i<=l.length) (c:O+(l.length+y.length)*n<=Z.size) (j:bT Z O (i*n)=bT r o (i*n)) (k:bT Z (O+i*n) (y.length*n)=bT d e (y.length*n)) (f:bT Z (O+(i+y.length)*n) ((l.length-i)*n)=bT r (o+i*n) ((l.length-i)*n)):bz R n (l.take i++y++l.drop i) Z O:=by
 have m:i*n<=l.length*n:=a0q _ b;have p:(l.length-i)*n+i*n=l.length*n:=by rw[<-a1a];congr 1;omega
 rw[a1a]at c;rw[a1a]at f;have a:(l.take i).length=i:=by rw[a1h];omega
 refine bz.append (bz.append ((GV h b).congr ?_ ?_) (g.congr ?_ ?_)) ((GW h b).congr ?_ ?_)
 ·rw[a];omega
 ·rw[a];exact j
 ·rw[a];omega
 ·rw[a];exact k
 ·rw[a0j,a,a2p,a1a];omega
 ·rw[a0j,a,a2p,a1a];exact f
def OE {F:Nat->Prop} (l:k.good=true) {e:List k.T} {f:World} {c:Nat} {et:TypeId} (m:B∈fp\/w.heap.size<=B) (o:f.heap[B]?=some (.cells Z et (0,0)))
 (g:bz (λx cs=>ct w.heap (λb=>¬FP F fp b) k x cs) k.n e Z O) (p:e.length<=c) (a:O+c*k.n<=Z.size) (d:∀b r,b∉fp->am w.heap b=some r->am f.heap b=some r) (q:∀b∈fp,¬F b) (t:∀b,F b->b<w.heap.size):
 ck f.heap (λb=>¬FP F [B] b) (iI.R k) (e,()) [.slice (some ⟨B,O,none⟩) e.length c] [B]:=by
 refine⟨_,[],[B],[],rfl,rfl,⟨_,rfl,l,_,_,rfl,p,.inr ⟨B,O,Z,et,rfl,rfl,o,g.mono λx cs s=>ct.mono (λb r i j=>⟨λh3=> ?_,d b r (λh=>i (.inr h)) j⟩) _ s,a⟩⟩,rfl,rfl⟩;rcases h3 with h3|h3
 ·exact i (.inl h3)
 ·simp only[a0x]at h3
  subst h3;rcases m with h4|h4
  ·exact i (.inr h4)
  ·have:=cB j;omega
def MI {A B:List Value}:bT ((A++B).toArray++Z) A.length B.length=B:=by
 simp[bT]
def OF {A:List Value} {Y:Array Value}:bT (A.toArray++Y++Z) 0 A.length=A:=by
 simp[bT]
def OG {A B:List Value}:bT ((A++B).toArray++Z) 0 A.length=A:=by
 simp[bT]
def oB {F:Nat->Prop} (q:k.good=true) {h:List k.T} {e:World} {c:Nat} {et:TypeId} {s t u:Value} {l:Ending} (v:h.length=n) (y:l= .returned (.slice (some ⟨B,O,none⟩) n c)) (m:B∈fp\/w.heap.size<=B) (g:e.heap[B]?=some (.cells Z et (0,0)))
 (i:bz (λx cs=>ct w.heap (λb=>¬FP F fp b) k x cs) k.n h Z O) (z:n<=c) (f:O+c*k.n<=Z.size) (d:fh (·∈fp) w e) (j:∀b∈fp,¬F b) (C:∀b,F b->b<w.heap.size):
 ∃o fp1 a,l= .returned (GD o)/\ck e.heap (λb=>¬FP F (fp1++a) b) (iI.R k) (h,()) o fp1/\gK e.heap (λb=>¬FP F (fp1++a) b) (iI.A k) ((),(),(),()) [s,t,u] a/\(fp1++a).Nodup/\(∀b∈fp1++a,b∈fp\/w.heap.size<=b)/\fh (·∈fp) w e:=by
 subst v;subst y;refine⟨[_],[B],[],rfl,OE q m g i z f (λb r D p=> ?_) j C,⟨_,_,[],[],rfl,rfl,.inl ⟨rfl,rfl⟩,_,_,[],[],rfl,rfl,.inl ⟨rfl,rfl⟩,_,_,[],[],rfl,rfl,.inl ⟨rfl,rfl⟩,rfl,rfl⟩,by simp,λb g=> ?_,d⟩
 ·unfold am at*
  rw[d.heap b (cB (r:=r) p) D];exact p
 ·simp only[a2b,a0x]at g
  subst g;exact m
def pd {w1:World} (a:fh (·∈fp) w w1) (c:B∈fp\/w.heap.size<=B) (o:Nat) (vs:List Value):fh (·∈fp) w (w1.setCells B o vs):=a.trans (gS (I:=λb=>b=B) rfl w1 o vs) λb d=>d▸c
def JI {P:Program} {ρ:Ren} {L:List (Nat×Obj)} (hL:pc P ρ) {e:TypeId} (T:ρ.t 9=e) (Sy:ko P e k=true) {f:FuncId} (hf:ρ.f 22=f) {fn:Func} (Sz:P.funcs[f]?=some fn) (Sg:(fn.name== "runtime.NumGoroutine")=false) (Si:fn.body.isNone=false):aw P L f ⟨iI.A k,iI.R k,iI k (c8 P e),[]⟩:=by
 refine⟨⟨fn,Sz,Sg,Si⟩,λw F x vs fp y hF Tl S0 R0 S3 hy _=> ?_⟩;obtain⟨l,(i:Int),c,⟨⟩⟩:=x;obtain⟨v1,r1,f1,f2,rfl,rfl,⟨Tm,S4,s,a1,c1,rfl,Sn,e1⟩,h2⟩:=S3
 cases S4
 obtain⟨v2,r2,rfl,p2,h3⟩:=lZ h2;obtain⟨v3,r3,f3,f4,rfl,rfl,⟨Tn,S5,_,a3,c3,rfl,Tj,e3⟩,h4⟩:=h3
 cases S5
 obtain⟨rfl,rfl⟩:=pb h4;obtain rfl:=rc p2;simp only[iI]at hy;split at hy
 ·rename_i hc
  obtain⟨To,S6,N,Sd⟩:=hc
  cases hy
  obtain⟨_,R1,_,R2,i9,z,R3,Sj,H,S7,R9⟩:=fk Sy;subst T;subst hf;rw[S7]at Sd R2;obtain⟨m,rfl⟩:∃n:Nat,i=(n:Int):=⟨i.toNat,by omega⟩;have E:m<=l.length:=by exact_mod_cast S6
  have Q:(l.length+c.length)*i9.bytes<=140737488355328:=by exact_mod_cast Sd
  have Sa:l.length+c.length<=4611686018427387904:=by
   have:(l.length+c.length)*1<=(l.length+c.length)*i9.bytes:=Nat.mul_le_mul_left _ R2;omega
  simp only[a0i];rcases e3 with⟨_,rfl,_⟩|⟨W,u,G,So,rfl,rfl,Sb,C,S8⟩
  ·simp at N
  have S9:=aP Sb;have p:(bT G u (c.length*k.n)).length=c.length*k.n:=aW C.1;have J:(bT G u (c.length*k.n)).length=c.length*i9.size:=by rw[p,H]
  have R4:∀j v,(bT G u (c.length*k.n))[j]?=some v->w.cell? ⟨W,u+j,none⟩=some v:=λj v hj=>El S9 hj
  have R5:=sx R1 C;have U:(l.take m++c++l.drop m).length=l.length+c.length:=by simp;omega
  have Sk:∀K,(K-(l.length+c.length))*k.n+(l.length+c.length)*k.n=max K (l.length+c.length)*k.n:=λK=>by rw[<-a1a];congr 1;omega
  have Ta:(l.length+c.length)*k.n=l.length*k.n+c.length*k.n:=a1a _ _ _;rcases e1 with⟨rfl,rfl,rfl,rfl⟩|⟨b,o,r,et,rfl,rfl,hb,X,Se⟩
  ·
   obtain rfl:m=0:=by simpa using E
   refine(re hL i9 z R3 Sj none 0 0 W u c.length c3 [] (bT G u (c.length*k.n)) w N (by omega) (by omega) (by simpa using Q) (by omega) (by simp) J (λ_=>rfl) (λa ha=>by cases ha) R4 R5).mono λe' w' ⟨T,V⟩=> ?_
   have hg:=grownCap_ge w (0+c.length) 0 (ρ.t 9)
   generalize grownCap w (0+c.length) 0 (ρ.t 9)=K at hg T V
   subst V;refine oB s (n:=0+c.length) (by simp) T (.inr (a1m _)) (cH w.drew _) ?_ hg ?_ ((j0 _ _).trans (ku (λ_=>False) _ _) (λ_ h=>h.elim)) R0 hF
   ·have Sp:bz (λx cs=>ct w.heap (λb=>¬FP F ([]++([]++(W::[]++[]))) b) k x cs) k.n c (([]++bT G u (c.length*k.n)).toArray++Builtin.zeroCells z.cells (K-(0+c.length))) 0:=by
     refine C.congr ?_ ?_
     ·simp only[a1s,a3e,a2v,p];omega
     ·have:=MI (A:=[]) (B:=bT G u (c.length*k.n)) (Z:=Builtin.zeroCells z.cells (K-(0+c.length)))
      rwa [p]at this
    simpa using Sp
   ·have:=Sk K
    simp only[a0g,a1p]at this Ta hg⊢;simp only[a1s,a3e,a2v,p,dP,R9];rw[a8d hg]at this;omega
  ·have hr:=aP hb
   have S:(bT r o (l.length*k.n)).length=l.length*k.n:=aW X.1;have R6:(bT r o (l.length*k.n)).length=l.length*i9.size:=by rw[S,H]
   have Sl:∀j v,(bT r o (l.length*k.n))[j]?=some v->w.cell? ⟨b,o+j,none⟩=some v:=λj v hj=>El hr hj
   have Sq:=sx R1 X;have R7:b∈(b::[]++([]++(W::[]++[]))):=by simp
   have Tk:W∈(b::[]++([]++(W::[]++[]))):=by simp
   have Tb:W≠b:=by
    intro h;subst h;simp at S0
   by_cases Sr:m=l.length
   ·subst Sr
    by_cases q:l.length+c.length<=c1
    ·have Ss:(l.length+c.length)*k.n<=c1*k.n:=a0q _ q
     refine(Cv hL i9 R3 b o l.length c1 W u c.length c3 (bT G u (c.length*k.n)) w N q Sa J (λj hj=> ?_) (λj hj=> ?_) R4 R5).mono λe' w' ⟨T,V⟩=> ?_
     ·rw[H,bQ hr];rw[p]at hj;simp;omega
     ·unfold World.frozen?;rw[hb];simp
     ·subst V
      rw[H];have M:o+l.length*k.n+(bT G u (c.length*k.n)).length<=r.size:=by rw[p];omega
      refine oB s (n:=l.length+c.length) U T (.inl R7) (cV _ _ w hb M) ?_ q (by rw[bR M];exact Se) (gS (I:=(·∈_)) R7 w _ _) R0 hF
      refine ll X C E (by rw[bR M];omega) (ca M) ?_ (by simp[bT])
      have:=eH M
      rwa [p]at this
    ·refine(re hL i9 z R3 Sj (some ⟨b,o,none⟩) l.length c1 W u c.length c3 (bT r o (l.length*k.n)) (bT G u (c.length*k.n)) w N Sn (by omega) Q Sa R6 J (λh=>by cases h) (λa ha j v hj=>by cases ha;rw[Addr.add_lit];exact Sl j v hj) R4 R5).mono λe' w' ⟨T,V⟩=> ?_
     have hg:=grownCap_ge w (l.length+c.length) c1 (ρ.t 9)
     generalize grownCap w (l.length+c.length) c1 (ρ.t 9)=K at hg T V
     subst V;refine oB s (n:=l.length+c.length) U T (.inr (a1m _)) (cH w.drew _) ?_ hg ?_ ((j0 _ _).trans (ku (λ_=>False) _ _) (λ_ h=>h.elim)) R0 hF
     ·refine ll X C E ?_ ?_ ?_ (by simp[bT])
      ·simp only[a3e,a2v,a0j,S,p];omega
      ·have:=OG (A:=bT r o (l.length*k.n)) (B:=bT G u (c.length*k.n)) (Z:=Builtin.zeroCells z.cells (K-(l.length+c.length)))
       rwa [S]at this
      ·have:=MI (A:=bT r o (l.length*k.n)) (B:=bT G u (c.length*k.n)) (Z:=Builtin.zeroCells z.cells (K-(l.length+c.length)))
       rw[S,p]at this
       rwa [a1p]
     ·have:=Sk K
      rw[a8d hg]at this;simp only[a3e,a2v,a0j,S,p,dP,R9];omega
   ·have Su:m<l.length:=by omega
    have Sf:m*k.n<=l.length*k.n:=a0q _ E;have Tc:(m+c.length)*k.n=m*k.n+c.length*k.n:=a1a _ _ _;have hd:(l.length-m)*k.n+m*k.n=l.length*k.n:=by rw[<-a1a];congr 1;omega
    have Sc:((bT r o (l.length*k.n)).drop (m*k.n)).length=(l.length-m)*k.n:=by rw[a2p,S];omega
    have Sw:(bT r o (l.length*k.n)).drop (m*k.n)=bT r (o+m*k.n) ((l.length-m)*k.n):=by rw[MG Sf];congr 1;omega
    by_cases q:l.length+c.length<=c1
    ·have Ss:(l.length+c.length)*k.n<=c1*k.n:=a0q _ q
     have Td:w.shape? b=some (et,r.size):=by simp[World.shape?,hb]
     have Te:w.shape? W=some (So,G.size):=by simp[World.shape?,Sb]
     have Tf:r.size≠0:=by
      have:1*1<=c.length*k.n:=a8m N R1;omega
     refine(JH hL i9 R3 b o l.length c1 m W u c.length c3 (bT r o (l.length*k.n)) (bT G u (c.length*k.n)) w Su N q Sa Tb R6 J Sl (λj hj=> ?_) (λj hj=> ?_) R4 Sq R5 So et G.size r.size Te Td Tf ?_ ?_).mono λe' w' ⟨T,V⟩=> ?_
     ·rw[bQ hr];rw[H]at hj;simp;omega
     ·unfold World.frozen?;rw[hb];simp
     ·unfold World.frozen?;rw[Sb];simp
     ·unfold World.frozen?;rw[Sb];simp
     ·subst V
      rw[H];have d:o+(m+c.length)*k.n+((bT r o (l.length*k.n)).drop (m*k.n)).length<=r.size:=by rw[Sc];omega
      have Sm:=cV _ _ w.drew (r:=r) (et:=et) (f:=(0,0)) hb d;have g:o+m*k.n+(bT G u (c.length*k.n)).length<=(nF r (o+(m+c.length)*k.n) ((bT r o (l.length*k.n)).drop (m*k.n))).size:=by rw[bR d,p];omega
      refine oB s (n:=l.length+c.length) U T (.inl R7) (cV _ _ _ Sm g) ?_ q (by rw[bR g,bR d];exact Se) (pd (pd (j0 _ _) (.inl R7) _ _) (.inl R7) _ _) R0 hF
      refine ll X C E (by rw[bR g,bR d];omega) ?_ ?_ ?_
      ·rw[ca g,ca d]
      ·have:=eH g
       rwa [p]at this
      ·rw[iE g (by rw[p];omega)]
       have:=eH d;rw[Sc]at this;rw[this,Sw]
    ·have Sx:((bT r o (l.length*k.n)).take (m*k.n)).length=m*k.n:=by rw[a1h,S];omega
     refine(MF hL i9 z R3 Sj (by rw[R9,H]) (by omega) b o l.length c1 m W u c.length c3 (bT r o (l.length*k.n)) (bT G u (c.length*k.n)) w Su N Sn (by omega) Q Sa R6 J Sl R4 Sq R5).mono λe' w' ⟨T,V⟩=> ?_
     have hg:=grownCap_ge w (l.length+c.length) c1 (ρ.t 9)
     generalize grownCap w (l.length+c.length) c1 (ρ.t 9)=K at hg T V
     rw[H]at V;obtain⟨D,R8⟩:∃D:Array Value,D=((bT r o (l.length*k.n)).take (m*k.n)).toArray++Builtin.zeroCells z.cells (l.length+c.length-m)++Builtin.zeroCells z.cells (K-(l.length+c.length)):=⟨_,rfl⟩;have Tg:D.size=max K (l.length+c.length)*k.n:=by
      have h1:(l.length+c.length-m)*k.n+m*k.n=(l.length+c.length)*k.n:=by rw[<-a1a];congr 1;omega
      rw[R8,<-Sk K];simp only[a3e,a2v,Sx,dP,R9];omega
     rw[a8d hg]at Tg;have Tp:(l.length+c.length)*k.n<=K*k.n:=a0q _ hg;have Th:bT D 0 (m*k.n)=bT r o (m*k.n):=by
      rw[R8];have:=OF (A:=(bT r o (l.length*k.n)).take (m*k.n)) (Y:=Builtin.zeroCells z.cells (l.length+c.length-m)) (Z:=Builtin.zeroCells z.cells (K-(l.length+c.length)));rw[Sx]at this;rw[this];exact MH Sf
     rw[<-R8]at V;subst V;have k2:fh (·∈(b::[]++([]++(W::[]++[])))) w (w.alloc (.cells D (ρ.t 9))).drew:=fh.trans (ku _ w _) (j0 (λ_=>False) _) (λ_ h=>h.elim);have k3:=pd k2 (.inr (a1m _)) (m*k.n) (bT G u (c.length*k.n));have Ti:(w.alloc (.cells D (ρ.t 9))).drew.heap[w.heap.size]?=some (.cells D (ρ.t 9) (0,0)):=cH w _;have d:m*k.n+(bT G u (c.length*k.n)).length<=D.size:=by rw[p];omega
     have Sm:=cV _ _ (w.alloc (.cells D (ρ.t 9))).drew Ti d;have g:(m+c.length)*k.n+((bT r o (l.length*k.n)).drop (m*k.n)).length<=(nF D (m*k.n) (bT G u (c.length*k.n))).size:=by rw[bR d,Sc];omega
     refine oB s (n:=l.length+c.length) (O:=0) U T (.inr (a1m _)) (cV _ _ _ Sm g) ?_ hg (by rw[bR g,bR d];omega) (pd (fh.trans k3 (j0 (λ_=>False) _) (λ_ h=>h.elim)) (.inr (a1m _)) _ _) R0 hF
     refine ll X C E (by rw[bR g,bR d];omega) ?_ ?_ ?_
     ·rw[ca g,ca d]
      exact Th
     ·rw[ca g,a1p]
      have:=eH d
      rwa [p]at this
     ·have:=eH g
      rw[Sc]at this;rw[a1p,this,Sw]
 ·cases hy
end Go.Pev
section
open Go Go.Proofs Go.Pev Go.Shelf Go.Lib
namespace Go.Pev.F.Lb
set_option maxRecDepth 100000
def slices_Insert_impl_Part_impl_Part.ren:Ren:=⟨λ|22=>307|29=>355|30=>356|n=>n,λ|0=>0|3=>3|4=>4|9=>51|24=>53|n=>n,λn=>n⟩
def slices_Insert_impl_Part_impl_Part.lays:pc Tryz.prog slices_Insert_impl_Part_impl_Part.ren:= {
 mixed:=by kernel_rfl
 f22:=⟨"slices.Insert[[]loop.example/g00719/impl.Part,loop.example/g00719/impl.Part]",by kernel_rfl,Tryz.func307.trans (a1v some (by kernel_rfl))⟩
 ov:=λw c a m d b off f g h i j k l n o p q r=>by
  show(callFunc 355 _).run Tryz.prog w=_
  rw[run_callFunc_extern Tryz.func355 (by kernel_rfl) (by kernel_rfl) (by kernel_rfl) (e:=Extern.SlicesOverlaps.overlaps #[53,53] #[4]) (by kernel_rfl),Lib.run_overlaps_apart w 53 4 51 Tryz.underlying53 2 Tryz.sizeOf51 ⟨c,a,none⟩ ⟨b,off,none⟩ m d f g l h i j k n o p q r]
  rfl
 t0:=Tryz.underlying0
 a0:=Tryz.isAgg0
 z0:=Tryz.sizeOf0
 v0:=Tryz.zeroValue0
 t3:=Tryz.underlying3
 a3:=Tryz.isAgg3
 z3:=Tryz.sizeOf3
 v3:=Tryz.zeroValue3
 t4:=Tryz.underlying4
 a4:=Tryz.isAgg4
 z4:=Tryz.sizeOf4
 v4:=Tryz.zeroValue4
 t24:=Tryz.underlying53
 a24:=Tryz.isAgg53
 z24:=Tryz.sizeOf53
 v24:=Tryz.zeroValue53}
def slices_Insert_impl_Part_impl_Part.A:Sh:=iI.A (.cons (.sl false (.cons (.int .i64) (.cons (.int .i64) .nil))) (.cons (.sl false (.cons .bool (.cons (.sl false (.cons (.int .i64) (.cons (.int .i64) .nil))) (.cons (.sl false (.cons (.int .i64) (.cons (.int .i64) .nil))) .nil)))) .nil))
def slices_Insert_impl_Part_impl_Part.R:Sh:=iI.R (.cons (.sl false (.cons (.int .i64) (.cons (.int .i64) .nil))) (.cons (.sl false (.cons .bool (.cons (.sl false (.cons (.int .i64) (.cons (.int .i64) .nil))) (.cons (.sl false (.cons (.int .i64) (.cons (.int .i64) .nil))) .nil)))) .nil))
def slices_Insert_impl_Part_impl_Part (_:Nat):((List ((List (Int×Int×Unit))×(List (Bool×(List (Int×Int×Unit))×(List (Int×Int×Unit))×Unit))×Unit))×Int×(List ((List (Int×Int×Unit))×(List (Bool×(List (Int×Int×Unit))×(List (Int×Int×Unit))×Unit))×Unit))×Unit)->Option (((List ((List (Int×Int×Unit))×(List (Bool×(List (Int×Int×Unit))×(List (Int×Int×Unit))×Unit))×Unit))×Unit)×(Unit×Unit×Unit×Unit)):=iI (.cons (.sl false (.cons (.int .i64) (.cons (.int .i64) .nil))) (.cons (.sl false (.cons .bool (.cons (.sl false (.cons (.int .i64) (.cons (.int .i64) .nil))) (.cons (.sl false (.cons (.int .i64) (.cons (.int .i64) .nil))) .nil)))) .nil)) 48
def slices_Insert_impl_Part_impl_Part.sg (k:Nat):iR:=⟨slices_Insert_impl_Part_impl_Part.A,slices_Insert_impl_Part_impl_Part.R,slices_Insert_impl_Part_impl_Part k,[]⟩
def slices_Insert_impl_Part_impl_Part.ok {L:List (Nat×Obj)} (k:Nat):aw Tryz.prog L 307 (slices_Insert_impl_Part_impl_Part.sg k):=
 have h:=JI (L:=L) slices_Insert_impl_Part_impl_Part.lays (k:=(.cons (.sl false (.cons (.int .i64) (.cons (.int .i64) .nil))) (.cons (.sl false (.cons .bool (.cons (.sl false (.cons (.int .i64) (.cons (.int .i64) .nil))) (.cons (.sl false (.cons (.int .i64) (.cons (.int .i64) .nil))) .nil)))) .nil))) (e:=51) rfl (by kernel_rfl) (f:=307) rfl Tryz.func307 (by kernel_rfl) (by kernel_rfl);have a:c8 Tryz.prog 51=48:=by kernel_rfl
 by rw[a]at h;exact h
end Go.Pev.F.Lb
end
namespace Go.Proofs
open Go.Shelf
def Tryz.lays264_ren:Go.Shelf.Ren:=⟨λ|264=>387|n=>n,λ|53=>256|46=>94|n=>n,λ|n=>n⟩
def Tryz.lays264:Go.Proofs.Lays.n264 Tryz.prog Tryz.lays264_ren:= {
 mixed:=by kernel_rfl
 f264:=Tryz.func387.trans (a1v some (by kernel_rfl))
 t46:=Tryz.underlying94
 a46:=Tryz.isAgg94
 z46:=Tryz.sizeOf94
 v46:=Tryz.zeroValue94
 t53:=Tryz.underlying256
 a53:=Tryz.isAgg256
 z53:=Tryz.sizeOf256
 v53:=Tryz.zeroValue256}
open Go.RowKit Go.Lib in
def Tryz.bits_Mul64 (x y:Nat) (a:x<18446744073709551616) (b:y<18446744073709551616) (w:World):Calls Tryz.prog 387 #[.int .u64 x,.int .u64 y] w λe c=>e= .returned (.tuple #[.int .u64 ((x*y/18446744073709551616:Nat):Int),.int .u64 ((x*y % 18446744073709551616:Nat):Int)])/\c=w:=Any.bits_Mul64 Tryz.lays264 x y a b w
end Go.Proofs
section
open Go.Proofs
namespace Go.Pev.F.Lb
def Mul64.A:Sh:= .cons (.pur (.int .u64)) (.cons (.pur (.int .u64)) .nil)
def Mul64.R:Sh:= .cons (.pur (.int .u64)) (.cons (.pur (.int .u64)) .nil)
def Mul64 (_:Nat):(Int×Int×Unit)->Option ((Int×Int×Unit)×(Unit×Unit×Unit)):=λx=>if(0<=x.1/\x.1<18446744073709551616)/\0<=x.2.1/\x.2.1<18446744073709551616 then some ((x.1*x.2.1/18446744073709551616,x.1*x.2.1 % 18446744073709551616,()),((),(),()))else none
def Mul64.sg (k:Nat):iR:=⟨Mul64.A,Mul64.R,Mul64 k,[]⟩
def Mul64.ok {L:List (Nat×Obj)} (k:Nat):aw Tryz.prog L 387 (Mul64.sg k):=IH Tryz.func387 (by kernel_rfl) (by kernel_rfl) rfl λw x vs y F s f c d=>by
 obtain⟨a,b,⟨⟩⟩:=x;obtain⟨t,r,rfl,g,c⟩:=lZ c;obtain⟨u,r,rfl,h,c⟩:=lZ c;obtain⟨rfl,_⟩:=pb c;obtain rfl:=rc g;obtain rfl:=rc h;simp only[Mul64]at d;split at d
 ·rename_i i
  obtain⟨⟨j,a1⟩,l,v⟩:=i
  cases d
  obtain⟨x,rfl⟩:=a7q j;obtain⟨y,rfl⟩:=a7q l;refine(Tryz.bits_Mul64 x y (by omega) (by omega) w).mono λe z ⟨m,n⟩=> ?_
  subst n;refine⟨[_,_],[],m,?_,a2i,λb o=>by simp at o,JE _⟩;have p:((x:Int)*(y:Int)/18446744073709551616)=((x*y/18446744073709551616:Nat):Int):=by
   rw[<-a6f];omega
  have q:((x:Int)*(y:Int) % 18446744073709551616)=((x*y % 18446744073709551616:Nat):Int):=by
   rw[<-a6f];omega
  simp only[p,q];exact oz ur (oz ur ⟨rfl,rfl⟩)
 ·cases d
end Go.Pev.F.Lb
end
namespace Go.Pev
open Go Go.Proofs Go.Shelf Go.RowKit
def AZ.A:Sh:= .cons (.row (.int .i64)) .nil
def AZ (_:Nat):(List Int×Unit)->Option (Unit×(List Int×Unit)):=λx=>if 0<x.1.length/\x.1.length<4611686018427387904 then some ((),(x.1.mergeSort (λa b=>decide (a<=b)),()))else none
def uu {w:World} {b o n:Nat} {d:Array Int} {os:Array Obj} {r:Array Value} {et:TypeId} {f:Nat×Nat} (c:w.heap[b]?=some (.cells r et f)):(Go.Sort.grow (Go.Sort.putRow (Value.int .i64) (Go.Sort.ahead w n) b o d) os).heap[b]?=some (.cells (Go.Sort.putCells (Value.int .i64) o d r) et f):=by
 have a:=(a1b.1 c).1;show((w.heap.modify b _)++os)[b]?=_;rw[a4y (by simpa using a),a4f,a0f rfl,c];rfl
def Em {w:World} {b o n:Nat} {d:Array Int} {os:Array Obj} {I:Nat->Prop} (h:I b):fh I w (Go.Sort.grow (Go.Sort.putRow (Value.int .i64) (Go.Sort.ahead w n) b o d) os):=by
 refine⟨?_,λa i j=> ?_,λa r et f c=> ?_,rfl,rfl,rfl⟩
 ·show w.heap.size<=((w.heap.modify b _)++os).size
  simp
 ·show((w.heap.modify b _)++os)[a]?=_
  rw[a4y (by simpa using i),a4f,a0d (show¬b=a fromλe=>j (e▸h))]
 ·by_cases e:b=a
  ·subst e
   exact⟨_,uu c,by simp[Go.Sort.putCells]⟩
  ·have g:=(a1b.1 c).1
   refine⟨r,?_,rfl⟩;show((w.heap.modify b _)++os)[a]?=_;rw[a4y (by simpa using g),a4f,a0d e,c]
def OH {P:Program} {ρ:Ren} {L:List (Nat×Obj)} (M:SlLaysN.n53 P ρ) (k:Nat) {f:FuncId} (N:ρ.f 53=f) {fn:Func} (D:P.funcs[f]?=some fn) (d:(fn.name== "runtime.NumGoroutine")=false) (g:fn.body.isNone=false):aw P L f ⟨AZ.A,.nil,AZ k,[]⟩:=by
 refine⟨⟨fn,D,d,g⟩,λw F x vs fp y hF O Q R E v _=> ?_⟩;obtain⟨(l:List Int),⟨⟩⟩:=x;obtain⟨v1,r1,f1,f2,rfl,rfl,⟨T,G,h,a1,c1,rfl,H,U⟩,z⟩:=E
 cases G
 obtain⟨rfl,rfl⟩:=pb z;simp only[AZ]at v;split at v
 ·rename_i V
  obtain⟨W,s⟩:=V
  cases v
  subst N;rcases U with⟨_,e,_⟩|⟨b,o,r,et,rfl,rfl,B,m,t⟩
  ·simp only at e;subst e;simp at W
  have X:=aP B;have p:∀j (C:j<l.length),r[o+j]?=some (.int .i64 l[j]):=λj C=>by
   have Y:bT r (o+j*1) 1=[.int .i64 l[j]]:=m.2 j C;have z:(bT r (o+j*1) 1)[0]?=r[o+j*1+0]?:=aN (by omega);rw[Y,a5z,a4p]at z;exact z.symm
  have Z:Go.Sort.Holds (Value.int .i64) w b o l.toArray:=λj C=>by
   have u:j<l.length:=by simpa using C
   refine⟨?_,by unfold World.frozen?;rw[B];simp⟩;rw[bQ X,p j u];simp[u]
  have c:(l.mergeSort λa b=>decide (a<=b)).length=l.length:=List.length_mergeSort l;refine(AnyG.slices_Sort_int M b o c1 l w Z (a1b.1 B).1 s).mono λe' w' ⟨he,n,os,hw⟩=> ?_
  subst hw
  generalize hS:(l.mergeSort λa b=>decide (a<=b))=S at c⊢
  have I:o+l.length*1<=r.size:=m.1;rw[a5z]at I;refine⟨[],[],[b],he,⟨rfl,rfl⟩,⟨_,[],[b],[],rfl,rfl,.inr ⟨rfl,_,rfl,h,some ⟨b,o,none⟩,c1,by rw[c],by rw[c];exact H,.inr ⟨b,o,_,et,rfl,rfl,uu B,⟨?_,λi K=> ?_⟩,?_⟩⟩,rfl,rfl⟩,by simp,λb' J=> .inl (by simpa using J),Em (by simp)⟩
  ·rw[c]
   simpa [Go.Sort.putCells]using m.1
  ·show bT _ (o+i*1) 1=[.int .i64 S[i]]
   have R0:i<l.length:=by rw[<-c];exact K
   apply a2e;intro q
   cases q with
   |zero=>
    rw[aN (by omega)];have h3:r[o+i]?=some r[o+i]:=a1o (by omega);simp only[Go.Sort.putCells,a5z,a4p,Array.getElem?_mapIdx,h3,a1w,a2v,a1r];rw[ifPosQ,show o+i-o=i by omega];simp[K]
   |succ q=>rw[kw];rfl
  ·simpa [Go.Sort.putCells]using t
 ·cases v
end Go.Pev
section
open Go.Proofs Go.Pev Go.Shelf
namespace Go.Pev.F.Lb
set_option maxRecDepth 100000
def slices_Sort_int64_int64.ren:Ren:=⟨λ|53=>285|59=>380|63=>333|64=>334|68=>231|70=>374|71=>375|72=>376|73=>377|74=>378|75=>379|76=>381|77=>382|78=>383|79=>384|88=>408|89=>409|90=>410|91=>411|92=>412|96=>422|n=>n,λ|0=>0|3=>3|4=>4|5=>5|9=>9|22=>32|23=>2|44=>206|51=>94|60=>410|61=>411|67=>404|69=>256|75=>448|79=>451|83=>459|84=>460|n=>n,λn=>n⟩
def slices_Sort_int64_int64.lays:Go.Proofs.SlLaysN.n53 Tryz.prog slices_Sort_int64_int64.ren:= {
 mixed:=by kernel_rfl
 f53:=⟨"slices.Sort[[]int64,int64]",by kernel_rfl,Tryz.func285.trans (a1v some (by kernel_rfl))⟩
 f59:=⟨"cmp.Less[int64]",by kernel_rfl,Tryz.func380.trans (a1v some (by kernel_rfl))⟩
 f63:=⟨"slices.pdqsortOrdered[int64]",by kernel_rfl,Tryz.func333.trans (a1v some (by kernel_rfl))⟩
 f64:=Tryz.func334.trans (a1v some (by kernel_rfl))
 f68:=⟨"cmp.isNaN[int64]",by kernel_rfl,Tryz.func231.trans (a1v some (by kernel_rfl))⟩
 f70:=⟨"slices.insertionSortOrdered[int64]",by kernel_rfl,Tryz.func374.trans (a1v some (by kernel_rfl))⟩
 f71:=⟨"slices.heapSortOrdered[int64]",by kernel_rfl,Tryz.func375.trans (a1v some (by kernel_rfl))⟩
 f72:=⟨"slices.breakPatternsOrdered[int64]",by kernel_rfl,Tryz.func376.trans (a1v some (by kernel_rfl))⟩
 f73:=⟨"slices.choosePivotOrdered[int64]",by kernel_rfl,Tryz.func377.trans (a1v some (by kernel_rfl))⟩
 f74:=⟨"slices.reverseRangeOrdered[int64]",by kernel_rfl,Tryz.func378.trans (a1v some (by kernel_rfl))⟩
 f75:=⟨"slices.partialInsertionSortOrdered[int64]",by kernel_rfl,Tryz.func379.trans (a1v some (by kernel_rfl))⟩
 f76:=⟨"slices.partitionEqualOrdered[int64]",by kernel_rfl,Tryz.func381.trans (a1v some (by kernel_rfl))⟩
 f77:=⟨"slices.partitionOrdered[int64]",by kernel_rfl,Tryz.func382.trans (a1v some (by kernel_rfl))⟩
 f78:=Tryz.func383.trans (a1v some (by kernel_rfl))
 f79:=Tryz.func384.trans (a1v some (by kernel_rfl))
 f88:=⟨"slices.siftDownOrdered[int64]",by kernel_rfl,Tryz.func408.trans (a1v some (by kernel_rfl))⟩
 f89:=Tryz.func409.trans (a1v some (by kernel_rfl))
 f90:=Tryz.func410.trans (a1v some (by kernel_rfl))
 f91:=⟨"slices.medianAdjacentOrdered[int64]",by kernel_rfl,Tryz.func411.trans (a1v some (by kernel_rfl))⟩
 f92:=⟨"slices.medianOrdered[int64]",by kernel_rfl,Tryz.func412.trans (a1v some (by kernel_rfl))⟩
 f96:=⟨"slices.order2Ordered[int64]",by kernel_rfl,Tryz.func422.trans (a1v some (by kernel_rfl))⟩
 t0:=Tryz.underlying0
 a0:=Tryz.isAgg0
 z0:=Tryz.sizeOf0
 v0:=Tryz.zeroValue0
 t3:=Tryz.underlying3
 a3:=Tryz.isAgg3
 z3:=Tryz.sizeOf3
 v3:=Tryz.zeroValue3
 t4:=Tryz.underlying4
 a4:=Tryz.isAgg4
 z4:=Tryz.sizeOf4
 v4:=Tryz.zeroValue4
 t5:=Tryz.underlying5
 a5:=Tryz.isAgg5
 z5:=Tryz.sizeOf5
 v5:=Tryz.zeroValue5
 t9:=Tryz.underlying9
 a9:=Tryz.isAgg9
 z9:=Tryz.sizeOf9
 v9:=Tryz.zeroValue9
 t22:=Tryz.underlying32
 a22:=Tryz.isAgg32
 z22:=Tryz.sizeOf32
 v22:=Tryz.zeroValue32
 t23:=Tryz.underlying2
 a23:=Tryz.isAgg2
 z23:=Tryz.sizeOf2
 v23:=Tryz.zeroValue2
 t44:=Tryz.underlying206
 a44:=Tryz.isAgg206
 z44:=Tryz.sizeOf206
 v44:=Tryz.zeroValue206
 t51:=Tryz.underlying94
 a51:=Tryz.isAgg94
 z51:=Tryz.sizeOf94
 v51:=Tryz.zeroValue94
 t60:=Tryz.underlying410
 a60:=Tryz.isAgg410
 z60:=Tryz.sizeOf410
 v60:=Tryz.zeroValue410
 t61:=Tryz.underlying411
 a61:=Tryz.isAgg411
 z61:=Tryz.sizeOf411
 v61:=Tryz.zeroValue411
 t67:=Tryz.underlying404
 a67:=Tryz.isAgg404
 z67:=Tryz.sizeOf404
 v67:=Tryz.zeroValue404
 t69:=Tryz.underlying256
 a69:=Tryz.isAgg256
 z69:=Tryz.sizeOf256
 v69:=Tryz.zeroValue256
 t75:=Tryz.underlying448
 a75:=Tryz.isAgg448
 z75:=Tryz.sizeOf448
 v75:=Tryz.zeroValue448
 t79:=Tryz.underlying451
 a79:=Tryz.isAgg451
 z79:=Tryz.sizeOf451
 v79:=Tryz.zeroValue451
 t83:=Tryz.underlying459
 a83:=Tryz.isAgg459
 z83:=Tryz.sizeOf459
 v83:=Tryz.zeroValue459
 t84:=Tryz.underlying460
 a84:=Tryz.isAgg460
 z84:=Tryz.sizeOf460
 v84:=Tryz.zeroValue460}
def slices_Sort_int64_int64.A:Sh:=AZ.A
def slices_Sort_int64_int64.R:Sh:= .nil
def slices_Sort_int64_int64 (k:Nat):(List Int×Unit)->Option (Unit×(List Int×Unit)):=AZ k
def slices_Sort_int64_int64.sg (k:Nat):iR:=⟨slices_Sort_int64_int64.A,slices_Sort_int64_int64.R,slices_Sort_int64_int64 k,[]⟩
def slices_Sort_int64_int64.ok {L:List (Nat×Obj)} (k:Nat):aw Tryz.prog L 285 (slices_Sort_int64_int64.sg k):=OH slices_Sort_int64_int64.lays k (f:=285) rfl Tryz.func285 (by kernel_rfl) (by kernel_rfl)
