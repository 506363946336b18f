/-
  PEV, part 24: calls in place: the callee's code is gone through over what the caller owns.
-/
import Derived.Test.YtjjmipjhddlncaaGreatDoorK01
import Derived.Below
import Derived.Sort.Grow
import Derived.Deep.Draws
import Derived.Carry
import Derived.WideShapes
import Derived.Lib.LaidTab
import Derived.ChangeArms
import Derived.Shelf.Strings.Fields
import Derived.Shelf.Strings.SplitShaped
import Derived.Shelf.LaysM
import Derived.Test.YtjjmipjhddlncaaGreatDoorProg
import Derived.KernelRfl
import Derived.Shelf.Spec.SlicesGrow
import Derived.Shelf.Spec.SlicesInsertGrow
import Derived.Shelf.SlGeneric
import Derived.Shelf.Bits.Mul64
import Derived.Shelf.SortG.Plain
set_option linter.all false
noncomputable section
namespace Go.Pev
def p5 {γ:Type} {src:Bool} {s:SV} {f:SV->aX γ} {Q:γ->Prop} (h:((rK src s).bind f).can Q):(f (dE src s)).can Q:=by
 unfold rK at h;unfold dE
 cases src with
 |false=>exact h
 |true=>
  simp only[a2c]at h⊢;split at h
  ·rename_i b
   cases b<;>exact h
  ·rename_i a
   split
   ·rename_i b;exact absurd rfl (a b)
   ·exact h
def jY {β:Type} {Q:β->Prop}:(c:aX β)->c.noAmb.can Q->∃b,c.out=some b/\Q b
 | .ret b,h=>⟨b,rfl,h⟩
 | .fail,h=>h.elim
 | .chk c t,h=>by
  obtain⟨rfl,h⟩:=h;obtain⟨b,a,d⟩:=jY t h;exact⟨b,a,d⟩
 | .bnd _ m f,h=>by
  obtain⟨y,rfl,h⟩:=h;obtain⟨b,a,d⟩:=jY (f y) h;exact⟨b,a,d⟩
 | .amb _ _ _,h=>h.elim
 | .ite c f g,h=>by
  cases c with
  |false=>exact jY g h
  |true=>exact jY f h
def rZ {C:eB} {b:Array Oper} {ow:OW} {Q:List SV->Prop}:(l:List (Oper×Nat))->(∀p∈l,b[p.2]?=some p.1)-> {c:List SV}->(Au C b ow l c).can Q->∃a,kS (kp C b ow) (l.map (·.2)) c=some a/\Q a
 |[],_,c,h=>⟨c,rfl,h⟩
 |(o,i)::l,hl,c,h=>by
  have e:=hl (o,i) (by simp);simp only at e;have d:∀p∈l,b[p.2]?=some p.1:=λp k=>hl p (by simp[k])
  unfold Au at h;simp only[a2i,kS];split at h
  ·exact h.elim
  ·rename_i f
   obtain⟨a,g,j⟩:=rZ l d h;refine⟨a,?_,j⟩;simp only[kp,e,qN,f,a1w];exact g
  ·rename_i f
   obtain⟨s,g,j⟩:=jY _ (aX.can_bind _ h);obtain⟨a,m,n⟩:=rZ l d (p5 j);refine⟨a,?_,n⟩;simp only[kp,e,qN,f,g,a1w];exact m
def n9 {C:eB} {a:Option Nat->Nat} {b:Array Oper} {ks:List (List Nat×Bool)} {Q:St->Prop}:(l:List (Oper×Nat))->(∀p∈l,b[p.2]?=some p.1)-> {st:St}->(oK C a b ks l st).can Q->∃d,kS (iC C (PK C a) (λo=>a o.dst) (λ_=>none) b ks) (l.map (·.2)) st=some d/\Q d
 |[],_,st,h=>⟨st,rfl,h⟩
 |(o,i)::l,hl,st,h=>by
  have f:=hl (o,i) (by simp);simp only at f;have e:∀p∈l,b[p.2]?=some p.1:=λp n=>hl p (by simp[n])
  unfold oK at h;simp only[a2i,kS];split at h
  ·exact h.elim
  ·rename_i g
   obtain⟨c,j,k⟩:=n9 l e h;rw[(eE (E:=PK C a) (dk:=λo=>a o.dst) (B:=λ_=>none) f).1 g];exact⟨c,j,k⟩
  ·rename_i g
   split at h
   ·rename_i q r
    split at h
    ·rename_i m
     obtain⟨s,j,k⟩:=jY _ (aX.can_bind _ h);obtain⟨c,t,u⟩:=n9 l e (p5 k);rw[(eE (E:=PK C a) (dk:=λo=>a o.dst) (B:=λ_=>none) f).2 g q s.1 s.2 r m ((aX.outB_none _).trans j)];exact⟨c,t,u⟩
    ·exact h.elim
   ·exact h.elim
section
variable {F:Nat->Prop} {G0:Gh} {ow0:OW} {w0:World} {L:List (Nat×Obj)} {C:eB}
structure qp (F:Nat->Prop) (G0:Gh) (ow0:OW) (w0:World) (st:St) (a:Act) (w:World):Prop where
 ex:∃G,Tr F G0 ow0 w0 G st.ow w/\dn F G st.ow w.heap st.sl a.tmps.toList
 defers:a.defers=[]
structure N8 (F:Nat->Prop) (G0:Gh) (ow0:OW) (w0:World) (L:List (Nat×Obj)):Prop where
 wide:∀b,F b->b<w0.heap.size
 laid:iV L (cm G0 ow0) w0.heap
def N8.wideAt (a:N8 F G0 ow0 w0 L) {G:Gh} {ow:OW} {w:World} (t:Tr F G0 ow0 w0 G ow w):∀b,F b->b<w.heap.size:=λb c=>a7b (a.wide b c) t.kept.size
def N8.laidAt (d:N8 F G0 ow0 w0 L) {G:Gh} {ow:OW} {w:World} (t:Tr F G0 ow0 w0 G ow w):iV L (cm G ow) w.heap:=λp e=>by
 obtain⟨b,c⟩:=d.laid p e;have a:=(a1b.1 c).1;refine⟨λh=> ?_,by rw[t.kept.heap p.1 a b];exact c⟩;rcases t.own _ h with h|h
 ·exact b h
 ·omega
def qp.op {st:St} {a:Act} {w:World} (g:a.defers=[]) {G:Gh} (t:Tr F G0 ow0 w0 G st.ow w) (e:dn F G st.ow w.heap st.sl a.tmps.toList) {b:Gh} {ow':OW} {c:World} (f:Tr F G st.ow w b ow' c) {s:SV} {v:Value} (h:Sv F b ow' c.heap s v) {d:Option Tmp}:qp F G0 ow0 w0 ⟨bn st.sl d s,ow'⟩ (a.put d v) c:=⟨⟨b,t.trans f,vm ⟨e.1,λi j k=>f.sv _ _ (e.2 i j k)⟩ h d⟩,by rw[mw];exact g⟩
def qp.slot {st:St} {a:Act} {w:World} (h:qp F G0 ow0 w0 st a w) {s:SV} {v:Value} (b:∀G,Sv F G st.ow w.heap s v) {d:Option Tmp}:qp F G0 ow0 w0 ⟨bn st.sl d s,st.ow⟩ (a.put d v) w:=by
 obtain⟨G,t,c⟩:=h.ex;exact⟨⟨G,t,vm c (b G) d⟩,by rw[mw];exact h.defers⟩
def mz (r:C.Holds L) (n:N8 F G0 ow0 w0 L) {d:Option Nat->Nat} {b:Array Oper} {Q:St->Prop} {R:Exit->Act->World->Prop} (u:∀g A c,Q g->qp F G0 ow0 w0 g A c->R .normal A c):(l:List (Oper×Nat))->(∀p∈l,b[p.2]?=some p.1)-> {st:St}-> {a:Act}-> {w:World}->qp F G0 ow0 w0 st a w->(rL C d b l st).can Q->wpOps C.P b R (l.map (·.2)) a w
 |[],_,st,a,w,h,e=>u _ _ _ e h
 |(o,i)::l,hl,st,a,w,h,e=>by
  have B:=hl (o,i) (by simp);have j:∀p∈l,b[p.2]?=some p.1:=λp D=>hl p (by simp[D])
  obtain⟨G,t,q⟩:=h.ex;unfold rL at e;simp only[a2i,wpOps];rw[B];simp only;split at e
  ·exact e.elim
  ·rename_i x
   rw[cG q x];exact mz r n u l j (h.slot (λ_=>ko)) e
  ·rename_i x
   rw[cG q x];simp only[a2c];left;have y:=mv r rfl t.hrep (n.wideAt t) (n.laidAt t) (eD q) (aX.can_bind _ e);refine uG.wp ?_
   have conv:∀v c,(∃s ow' z,((rK (d9 b i) s).bind λE=>rL C d b l ⟨bn st.sl o.dst E,ow'⟩).can Q/\Tr F G st.ow w z ow' c/\Sv F z ow' c.heap s v)->wpOps C.P b R (l.map (·.2)) (a.put o.dst v) c:=by
    rintro v c ⟨s,ow',z,H,I,J⟩
    exact mz r n u l j (qp.op h.defers t q I (cA J)) (p5 H)
   rcases y with⟨v,c,k,m⟩|⟨c,k,m⟩|⟨f,args,k,m⟩
   ·exact .inl ⟨v,c,k,conv v c m⟩
   ·exact .inr (.inl ⟨c,k,conv undef c m⟩)
   ·exact .inr (.inr ⟨f,args,k,m.mono λe c ⟨v,K,M⟩=>⟨v,K,conv v c M⟩⟩)
def Pi (T:C.Holds L) (U:C.P.follows .mixedOrders=true) (I:N8 F G0 ow0 w0 L) {V:Nat} {b:Array Oper} {st:St} {a:Act} {w:World} (h:qp F G0 ow0 w0 st a w) (z:lK b (iu b)=true) {J:List SV->Prop} (W:(Au C b st.ow b.toList.zipIdx st.sl).can J) {Q:Exit->Act->World->Prop} (X:∀g x c,J g->qp F G0 ow0 w0 ⟨g,st.ow⟩ x c->Q .normal x c):(Code.region V b true).wp C.P Q a w:=by
 obtain⟨Y,Z⟩:=hZ b (fr:=λ_=>true) (a1e.2 λo _=>by cases o.dst<;>rfl);obtain⟨l,M,h2⟩:=rZ _ (λp hp=>(Y p hp).1) W;rw[Z]at M
 let R:List SV->Act->World->Prop:=λA a w=>qp F G0 ow0 w0 ⟨A,st.ow⟩ a w
 refine wp_region_any U (pX (step:=kp C b st.ow) (R:=R) (λi j s s1 s2=>wH i j s s1 s2) ?_ z (sF:=l) (λx c m=>X l x c h2 m) b.size _ st.sl a _ (by simp) ?_ ?_ ?_ ?_)
 ·intro i A g a w N d m K O
  unfold kp at d
  cases ho:b[i]? with
  |none=>rw[ho]at d;cases d
  |some o=>
   rw[ho]at d;simp only[a2k]at d;obtain⟨v,k,rfl⟩:=d;obtain⟨G,t,y⟩:=m.ex;unfold wpOp;rw[ho];simp only;unfold qN at k;split at k
   ·cases k
   ·rename_i B
    cases k
    rw[cG y B];exact O _ _ (qp.slot m (λ_=>ko))
   ·rename_i B
    rw[cG y B];simp only[a2c];left;rw[a2k]at k;obtain⟨s,d,rfl⟩:=k;have D:=fR T (op:=o) rfl t.hrep (I.wideAt t) (I.laidAt t) (eD y) (aX.out_can _ d);refine uG.wp ?_
    have conv:∀u c,(∃E,E=s/\Tr F G st.ow w G st.ow c/\Sv F G st.ow c.heap E u)->K (a.put o.dst u) c:=by
     rintro u c ⟨E,rfl,ht,H⟩
     exact O _ _ (qp.op (st:=⟨A,st.ow⟩) m.defers t y ht (cA H))
    rcases D with⟨u,c,n,q⟩|⟨c,n,q⟩|⟨f,args,n,q⟩
    ·exact .inl ⟨u,c,n,conv u c q⟩
    ·exact .inr (.inl ⟨c,n,conv undef c q⟩)
    ·exact .inr (.inr ⟨f,args,n,q.mono λe c ⟨u,q3,q4⟩=>⟨u,q3,conv u c q4⟩⟩)
 ·refine a5p (a5r _ _) (by simp)
 ·intro j S
  exfalso;by_cases r:j<b.size
  ·simp[Array.getD,r]at S
  ·simp[Array.getD,r]at S
 ·have:((List.range b.size).filter λi=> !(Array.replicate b.size false).getD i true)=List.range b.size:=by
   rw[a6c];intro i N;have:=a2h.1 N;simp[Array.getD,this]
  rw[this];exact M
 ·obtain⟨G,t,d⟩:=h.ex
  exact⟨⟨G,⟨t.hrep,t.sv,⟨t.kept.size,t.kept.heap,t.kept.cells,t.kept.os,t.kept.output,t.kept.tape⟩,t.own,t.len⟩,d⟩,h.defers⟩
def N9 (U:C.Holds L) (hm:C.P.follows .mixedOrders=true) (hE:N8 F G0 ow0 w0 L) {E:Option Nat->Nat} {id:Nat} {m:Array Oper} {ks:List (List Nat×Bool)} {st:St} {a:Act} {w:World} (h:qp F G0 ow0 w0 st a w) (Qp:lK m (pM (λo=>E o.dst) m ks)=true) {Qs:St->Prop} (he:(oK C E m ks m.toList.zipIdx st).can Qs) {Q:Exit->Act->World->Prop} (hQ:∀V a' c,Qs V->qp F G0 ow0 w0 V a' c->Q .normal a' c):(Code.region id m true).wp C.P Q a w:=by
 obtain⟨W,hr⟩:=hZ m (fr:=λ_=>true) (a1e.2 λo _=>by cases o.dst<;>rfl);obtain⟨Ql,h1,h2⟩:=n9 _ (λp hp=>(W p hp).1) he;rw[hr]at h1
 let R:St->Act->World->Prop:=λst a w=>qp F G0 ow0 w0 st a w
 refine wp_region_any hm (pX (step:=iC C (PK C E) (λo=>E o.dst) (λ_=>none) m ks) (R:=R) (λi j s s1 s2=>wL (I2 C E) i j s s1 s2) ?_ Qp (sF:=Ql) (λa' c hR=>hQ Ql a' c h2 hR) m.size _ st a _ (by simp) ?_ ?_ ?_ ?_)
 ·intro i st V a w hi hs O K S
  obtain⟨o,ho,hs⟩:=kq hs;obtain⟨G,t,B⟩:=O.ex;have N:=t.hrep;unfold wpOp;rw[ho];simp only;rcases hs with⟨hw,rfl⟩|⟨hw,q,s,r,hq,A,g,rfl⟩
  ·rw[cG B hw]
   exact S _ _ (qp.slot O (λ_=>ko))
  ·rw[cG B hw]
   simp only[a2c];left;have z:=hE.wideAt t;have H:=hE.laidAt t;have X:∀b,FM F G st.ow q.1 b->b<w.heap.size:=λb hb=>OX N z hb
   have Y:iV L (cm G (aL q.1 0 st.ow)) w.heap:=λp hp=>⟨λh=>(H p hp).1 (gg h),(H p hp).2⟩
   have hρ:L7 (FM F G st.ow q.1) G (aL q.1 0 st.ow) w.heap (iS st.sl) a.eval:=λx=>oO A (eD B x)
   refine uG.wp ?_
   rw[aX.outB_none]at g;unfold pL at g;split at g
   ·obtain⟨x,e1,D⟩:=aX.out_bind _ g
    split at D
    ·rename_i y
     simp only[a0f]at y;simp only[aX.out,a0k,a0y]at D;obtain⟨rfl,rfl⟩:=D;have n:=mv U (op:=o) rfl (jX A N) X Y hρ (aX.out_can _ e1);have conv:∀u c,(∃s ow' Z,(s,ow')=x/\Tr (FM F G st.ow q.1) G (aL q.1 0 st.ow) w Z ow' c/\Sv (FM F G st.ow q.1) Z ow' c.heap s u)->K (a.put o.dst u) c:=by
      rintro u c ⟨s,ow',Z,rfl,I,v⟩
      obtain⟨t1,t2⟩:=lO N z A I y.1.1.1;exact S _ _ (qp.op O.defers t B t1 (cA (t2 s u 8 y.1.1.2 v)))
     rcases n with⟨u,c,k,l⟩|⟨c,k,l⟩|⟨f,args,k,l⟩
     ·exact .inl ⟨u,c,k,conv u c l⟩
     ·exact .inr (.inl ⟨c,k,conv undef c l⟩)
     ·exact .inr (.inr ⟨f,args,k,l.mono λe c ⟨u,J,M⟩=>⟨u,J,conv u c M⟩⟩)
    ·cases D
   ·split at g
    ·split at g
     ·rename_i s' W
      split at g
      ·rename_i hh
       simp only[aX.out,a0k,a0y]at g;obtain⟨rfl,rfl⟩:=g;have n:=fR U (op:=o) rfl N z H (eD B) (ic (C:=C) (λd j ob h=>iY h) (wI W hh));have conv:∀u c,(∃s,s=s'/\Tr F G st.ow w G st.ow c/\Sv F G st.ow c.heap s u)->K (a.put o.dst u) c:=by
        rintro u c ⟨s,rfl,I,v⟩
        exact S _ _ (qp.op O.defers t B I (cA v))
       rcases n with⟨u,c,k,l⟩|⟨c,k,l⟩|⟨f,args,k,l⟩
       ·exact .inl ⟨u,c,k,conv u c l⟩
       ·exact .inr (.inl ⟨c,k,conv undef c l⟩)
       ·exact .inr (.inr ⟨f,args,k,l.mono λe c ⟨u,J,M⟩=>⟨u,J,conv u c M⟩⟩)
      ·cases g
     ·cases g
    split at g
    ·split at g
     ·rename_i s' W
      simp only[aX.out,a0k,a0y]at g;obtain⟨rfl,rfl⟩:=g;have n:=fR U (op:=o) rfl N z H (eD B) (ic (C:=C) (λd j ob h=>iY h) (tO W));have conv:∀u c,(∃s,s=s'/\Tr F G st.ow w G st.ow c/\Sv F G st.ow c.heap s u)->K (a.put o.dst u) c:=by
       rintro u c ⟨s,rfl,I,v⟩
       exact S _ _ (qp.op O.defers t B I (cA v))
      rcases n with⟨u,c,k,l⟩|⟨c,k,l⟩|⟨f,args,k,l⟩
      ·exact .inl ⟨u,c,k,conv u c l⟩
      ·exact .inr (.inl ⟨c,k,conv undef c l⟩)
      ·exact .inr (.inr ⟨f,args,k,l.mono λe c ⟨u,J,M⟩=>⟨u,J,conv u c M⟩⟩)
     ·cases g
    split at g
    ·rename_i x hx
     simp only[aX.out,a0k,a0y]at g;obtain⟨rfl,rfl⟩:=g;have Qm:(Aq C o.op (iS st.sl) st.ow).can λs=>s=x:=AH hx
     have n:=fR U (op:=o) rfl N z H (eD B) Qm;have conv:∀u c,(∃s,s=x/\Tr F G st.ow w G st.ow c/\Sv F G st.ow c.heap s u)->K (a.put o.dst u) c:=by
      rintro u c ⟨s,rfl,I,v⟩
      exact S _ _ (qp.op O.defers t B I (cA v))
     rcases n with⟨u,c,k,l⟩|⟨c,k,l⟩|⟨f,args,k,l⟩
     ·exact .inl ⟨u,c,k,conv u c l⟩
     ·exact .inr (.inl ⟨c,k,conv undef c l⟩)
     ·exact .inr (.inr ⟨f,args,k,l.mono λe c ⟨u,J,M⟩=>⟨u,J,conv u c M⟩⟩)
    ·split at g
     ·rename_i s' W
      simp only[aX.out,a0k,a0y]at g;obtain⟨rfl,rfl⟩:=g;have n:=fR U (op:=o) rfl N z H (eD B) (ic (C:=C) (λd j ob h=>iY h) W);have conv:∀u c,(∃s,s=s'/\Tr F G st.ow w G st.ow c/\Sv F G st.ow c.heap s u)->K (a.put o.dst u) c:=by
       rintro u c ⟨s,rfl,I,v⟩
       exact S _ _ (qp.op O.defers t B I (cA v))
      rcases n with⟨u,c,k,l⟩|⟨c,k,l⟩|⟨f,args,k,l⟩
      ·exact .inl ⟨u,c,k,conv u c l⟩
      ·exact .inr (.inl ⟨c,k,conv undef c l⟩)
      ·exact .inr (.inr ⟨f,args,k,l.mono λe c ⟨u,J,M⟩=>⟨u,J,conv u c M⟩⟩)
     ·split at g
      ·obtain⟨x,e1,D⟩:=aX.out_bind _ g
       split at D
       ·rename_i y
        simp only[a0f]at y;simp only[aX.out,a0k,a0y]at D;obtain⟨rfl,rfl⟩:=D;have n:=tG U (op:=o) rfl (jX A N) X Y hρ (aX.out_can _ e1);obtain⟨Qr,Qn⟩:=wM (b:=none) ((aX.outB_none _).trans e1);have Qq:mf st.ow (some ([E o.dst],x.2))=bQ q.1 0 st.ow x.2:=AM Qn y.2;have conv:∀u c,(∃s ow' Z,(s,ow')=x/\Tr (FM F G st.ow q.1) G (aL q.1 0 st.ow) w Z ow' c/\Sv (FM F G st.ow q.1) Z ow' c.heap s u)->K (a.put o.dst u) c:=by
         rintro u c ⟨s,ow',Z,rfl,I,v⟩
         obtain⟨t1,t2⟩:=lO N z A I y.1.1;have T:R ⟨bn st.sl o.dst (dE (d9 m i) s),bQ q.1 0 st.ow ow'⟩ (a.put o.dst u) c:=qp.op O.defers t B t1 (cA (t2 s u 8 y.1.2 v));rw[<-Qq]at T;exact S _ _ T
        rcases n with⟨u,c,k,l⟩|⟨c,k,l⟩|⟨f,args,k,l⟩
        ·exact .inl ⟨u,c,k,conv u c l⟩
        ·exact .inr (.inl ⟨c,k,conv undef c l⟩)
        ·exact .inr (.inr ⟨f,args,k,l.mono λe c ⟨u,J,M⟩=>⟨u,J,conv u c M⟩⟩)
       ·cases D
      ·obtain⟨x,e1,D⟩:=aX.out_bind _ g
       split at D
       ·rename_i y
        simp only[a0f]at y;simp only[aX.out,a0k,a0y]at D;obtain⟨rfl,rfl⟩:=D;have n:=fR U (op:=o) rfl (jX A N) X Y hρ (aX.out_can _ e1);have conv:∀u c,(∃s,s=x/\Tr (FM F G st.ow q.1) G (aL q.1 0 st.ow) w G (aL q.1 0 st.ow) c/\Sv (FM F G st.ow q.1) G (aL q.1 0 st.ow) c.heap s u)->K (a.put o.dst u) c:=by
         rintro u c ⟨s,rfl,I,v⟩
         obtain⟨t1,t2⟩:=n7 N z A I y.1;exact S _ _ (qp.op O.defers t B t1 (cA (t2 s u 8 y.2 v)))
        rcases n with⟨u,c,k,l⟩|⟨c,k,l⟩|⟨f,args,k,l⟩
        ·exact .inl ⟨u,c,k,conv u c l⟩
        ·exact .inr (.inl ⟨c,k,conv undef c l⟩)
        ·exact .inr (.inr ⟨f,args,k,l.mono λe c ⟨u,J,M⟩=>⟨u,J,conv u c M⟩⟩)
       ·cases D
 ·refine a5p (a5r _ _) (by simp)
 ·intro j hj
  exfalso;by_cases Qo:j<m.size
  ·simp[Array.getD,Qo]at hj
  ·simp[Array.getD,Qo]at hj
 ·have:((List.range m.size).filter λi=> !(Array.replicate m.size false).getD i true)=List.range m.size:=by
   rw[a6c];intro i hi;have:=a2h.1 hi;simp[Array.getD,this]
  rw[this];exact h1
 ·obtain⟨G,t,hs⟩:=h.ex
  exact⟨⟨G,⟨t.hrep,t.sv,⟨t.kept.size,t.kept.heap,t.kept.cells,t.kept.os,t.kept.output,t.kept.tape⟩,t.own,t.len⟩,hs⟩,h.defers⟩
def QI (F:Nat->Prop) (c:Gh) (b:OW) (d:World) (Q:P5×St->Prop):Exit->Act->World->Prop
 | .normal,a,w=>∃st,qp F c b d st a w/\Q (.normal,st)
 | .exit i,a,w=>∃st,qp F c b d st a w/\Q (.exit i,st)
 | .ret,a,w=>∃st,qp F c b d st a w/\Q (.ret,st)
 |_,_,_=>False
def dO (j:C.Holds L) (l:C.P.follows .mixedOrders=true) (k:N8 F G0 ow0 w0 L) {A:NN} {u:Option Nat->Nat}:(c:Code)-> {g:Nat}-> {Q:P5×St->Prop}-> {st:St}-> {a:Act}-> {w:World}->(d7 C A u c g st).can Q->qp F G0 ow0 w0 st a w->c.wp C.P (QI F G0 ow0 w0 Q) a w
 | .skip,_,Q,st,a,w,e,h=>wp_skip ⟨st,h,e⟩
 | .exit id,_,Q,st,a,w,e,h=>wp_exit ⟨st,h,e⟩
 | .ret,_,Q,st,a,w,e,h=>wp_ret ⟨st,h,e⟩
 | .seq x y,g,Q,st,a,w,e,h=>by
  simp only[d7]at e;refine wp_seq (wp_mono (dO j l k x (aX.can_bind _ e) h) λv q r m=> ?_)
  cases v with
  |normal=>obtain⟨b,f,d⟩:=m;exact dO j l k y d f
  |exit i=>obtain⟨b,f,d⟩:=m;exact⟨b,f,d⟩
  |ret=>obtain⟨b,f,d⟩:=m;exact⟨b,f,d⟩
  |_=>exact m.elim
 | .cond o x y,g,Q,st,a,w,e,h=>by
  simp only[d7]at e;obtain⟨G,M,D⟩:=h.ex;have s:=eD D o;split at e
  ·rename_i t z
   rw[z]at s;refine wp_cond s.lb_inv ?_
   cases t with
   |true=>exact dO j l k x e h
   |false=>exact dO j l k y e h
  ·rename_i t z
   rw[z]at s;refine wp_cond s.bool_inv ?_
   cases t with
   |true=>exact dO j l k x e h
   |false=>exact dO j l k y e h
  ·exact e.elim
 | .block id x,g,Q,st,a,w,e,h=>by
  simp only[d7]at e;refine wp_block (wp_mono (dO j l k x (aX.can_bind _ e) h) λv q r m=> ?_)
  cases v with
  |normal=>obtain⟨b,f,d⟩:=m;exact⟨b,f,d⟩
  |exit i=>
   obtain⟨b,f,d⟩:=m;by_cases B:i=id
   ·subst B
    simp only[a5x,a2c]at d;simp only[Exit.inBlock,a2c];exact⟨b,f,d⟩
   ·have E:(i==id)=false:=by simpa using B
    simp only[E,a0r,a1y]at d;simp only[Exit.inBlock,B,a1y];exact⟨b,f,d⟩
  |ret=>obtain⟨b,f,d⟩:=m;exact⟨b,f,d⟩
  |_=>exact m.elim
 | .region id ops draw,g,Q,st,a,w,e,h=>by
  simp only[d7]at e
  cases draw with
  |true=>
   simp only[a2c]at e;split at e
   ·split at e
    ·rename_i n
     exact N9 j l k h n (aX.can_bind _ e) λb q r f d=>⟨_,d,f⟩
    ·exact e.elim
   split at e
   ·rename_i n
    exact Pi j l k h n (aX.can_bind _ e) λH q r f d=>⟨_,d,f⟩
   ·exact e.elim
  |false=>
   simp only[a0r,a1y]at e;obtain⟨I,J⟩:=hZ ops (fr:=λ_=>true) (a1e.2 λo _=>by cases o.dst<;>rfl);refine wp_region ?_
   rw[<-J];exact mz j k (λb q r f d=>⟨b,d,f⟩) _ (λp K=>(I p K).1) h (aX.can_bind _ e)
 | .loop _,_,_,_,_,_,e,_=>by simp[d7]at e;exact e.elim
 | .label _,_,_,_,_,_,e,_=>by simp[d7]at e;exact e.elim
 | .goto _,_,_,_,_,_,e,_=>by simp[d7]at e;exact e.elim
 | .scope _,_,_,_,_,_,e,_=>by simp[d7]at e;exact e.elim
 | .rangeFunc _ _ _ _,_,_,_,_,_,e,_=>by simp[d7]at e;exact e.elim
def DY (D:C.Holds L) (E:C.P.follows .mixedOrders=true) {G:Gh} {ow:OW} {w:World} (H:bz F G ow w.heap) (I:∀b,F b->b<w.heap.size) (J:iV L (cm G ow) w.heap) {u:FuncId} {fn:Func} (K:C.P.funcs[u]?=some fn) {args:List SV} {vs:List Value} (x:dn F G ow w.heap args vs) {A:NN} {d:Nat} {Q:SV×OW->Prop} (h:(LZ C fn args ow A d).can Q):DI C.P F G ow w u vs Q:=by
 unfold LZ at h;split at h
 ·exact h.elim
 rename_i c M;split at h
 ·rename_i y
  have N:vs.length=args.length:=x.1.symm;have O:N8 F G ow w L:=⟨I,J⟩;unfold DI;refine calls_of_wp K M ?_
  have R:qp F G ow w ⟨args++List.replicate (fn.ntmps-args.length) .dead,ow⟩ {tmps:=vs.toArray++Array.replicate (fn.ntmps-vs.toArray.size) undef,defers:=[]} w:=by
   refine⟨⟨G,.refl H,⟨by simp[N],λi f a=> ?_⟩⟩,rfl⟩;simp only[Array.toList_append,Array.toList_replicate]at a⊢;by_cases z:i<args.length
   ·simp only[a1j z,a1j (show i<vs.length by omega)]
    exact x.2 i z (by omega)
   ·rw[a1z (by omega),a4u]
    exact .dead _
  refine wp_mono (dO D E O c (aX.can_bind _ h) R) λS n g e=> ?_
  have j:∀st,qp F G ow w st n g->((Av C.P st fn.results.toList).bind λl=>aX.ret (PC l,st.ow)).can Q->n.defers=[]/\∃v,(results fn n.tmps).run C.P g= .ok v g/\∃s ow' B m,Ending.returned v= .returned B/\Q (s,ow')/\Tr F G ow w m ow' g/\Sv F m ow' g.heap s B:=by
   intro st k T;obtain⟨m,t,U⟩:=k.ex;obtain⟨W,X,e,V,o⟩:=lf t.hrep U _ (aX.can_bind _ T);exact⟨k.defers,_,tK V,_,_,_,m,rfl,e,t,vl o⟩
  cases S with
  |normal=>
   obtain⟨st,f,a⟩:=e;obtain⟨p,v,q,r⟩:=j st f a;exact⟨p,v,q,r⟩
  |ret=>
   obtain⟨st,f,a⟩:=e;obtain⟨p,v,q,r⟩:=j st f a;exact⟨p,v,q,r⟩
  |exit i=>obtain⟨st,f,a⟩:=e;exact a.elim
  |_=>exact e.elim
 ·exact h.elim
def Gu {f:SV} {q:FuncId×Func×List SV×List SV} (h:L0 C f=some q):f= .fn (.func q.1) q.2.2.1 q.2.2.2/\C.P.funcs[q.1]?=some q.2.1/\(q.2.1.name== "runtime.NumGoroutine")=false/\q.2.1.body.isNone=false:=by
 unfold L0 at h;split at h
 ·split at h
  ·split at h
   ·rename_i fn a
    split at h
    ·rename_i b
     simp only[a0f,a2p]at b
     cases h
     exact⟨rfl,a,b.1,b.2⟩
    ·cases h
   ·cases h
  ·cases h
 ·cases h
def DZ (f:C.Holds L) (n:C.P.follows .mixedOrders=true):ww C L:=by
 intro F G ow w o op g ρ p i j k b d Q h;unfold ta at h;split at h
 ·rename_i r args t
  split at h
  ·rename_i q u
   obtain⟨l,m,x,y⟩:=Gu u;have c:=b r;rw[l]at c;obtain⟨xs,ys,c,z,A⟩:=c.fn_inv;have a:dn F G ow w.heap (q.2.2.1++args.toList.map ρ++q.2.2.2) (xs++args.toList.map p++ys):=(z.append (b.svs _)).append A;have:=DY f n i j k m a h;exact .inr (.inr ⟨q.1,_,iB g rfl c ⟨_,m,x,y⟩,this.mono λe J ⟨s,ow',v,B,D,E,H,I⟩=>⟨v,D,s,ow',B,E,H,I⟩⟩)
  ·exact mv f g i j k b h
 ·exact mv f g i j k b h
end
def Gv {C:eB} {L:List (Nat×Obj)} (hC:C.Holds L) (hm:C.P.follows .mixedOrders=true):wA C L:=by
 intro α nt fr F fp w0 vs id g ks st a w k r hE hd h Q1 he Q D;obtain⟨hl,hr⟩:=hZ g hd;have Qo:∀B:Nat->Nat->Bool,∃H,kS (λi=>iC C (LD C) qv (λ_=>some (B i)) g ks i) (List.range g.size) st=some H/\k H=some r:=λB=>by
  obtain⟨H,h1,h2⟩:=pZ B _ (λp hp=>(hl p hp).1) he;rw[hr]at h1;exact⟨H,h1,h2⟩
 have hD:∀(i:Nat) (o:Oper),g[i]?=some o->∀d,o.dst=some d->fr d=true:=by
  intro i o ho d hx;have Qw:o∈g.toList:=by
   obtain⟨Qp,rfl⟩:=a1b.1 ho;simp
  have:=a1e.1 hd o Qw;rw[hx]at this;simpa using this
 let R:St->Act->World->Prop:=λst a w=>ni nt fr F fp w0 vs st a w
 refine wp_region_any hm (DN (step:=λ(o:Nat->Bool) i s=>iC C (LD C) qv (λ_=>some o) g ks i s) (R:=R) (λB i j s s1 s2 ha=>DX (I1 C) B i j s s1 s2 ha) ?_ Q1 (Fin:=λH=>k H=some r) (λH a' c h2 hR=>D H a' c h2 hR) (λ_=>true) g.size _ st a _ (by simp) ?_ ?_ ?_ ?_)
 ·intro i st a w hi hs hI K hK
  obtain⟨o,ho,Q2⟩:=kq (hs λ_=>true).choose_spec;have I:dG g o st.sl=some true->∀q,ks[i]?=some q->∀b:Nat->Bool,∃x,(pL C (LD C o (iS st.sl) (aL q.1 0 st.ow)) o.op q (iS st.sl) (aL q.1 0 st.ow) (qv o)).outB (some b)=some x:=by
   intro Y q hq b;obtain⟨o',Qy,Q3⟩:=kq (hs b).choose_spec;rw[ho]at Qy
   cases Qy
   rcases Q3 with⟨Qz,_⟩|⟨_,q',s,r,Q0,_,Qq,_⟩
   ·rw[Y]at Qz;cases Qz
   ·rw[hq]at Q0;cases Q0;exact⟨_,Qq⟩
  have N:dG g o st.sl=some true->∀q,ks[i]?=some q->cU st.ow=true->∀(b:Nat->Bool) s r,(pL C (LD C o (iS st.sl) (aL q.1 0 st.ow)) o.op q (iS st.sl) (aL q.1 0 st.ow) (qv o)).outB (some b)=some (s,r)->∀a' c,R ⟨bn st.sl o.dst (dE (d9 g i) s),mf st.ow r⟩ a' c->K a' c:=λY q hq z b s r Qq a' c hR=>hK b _ a' c ((eE (C:=C) (E:=LD C) (dk:=qv) (B:=λ_=>some b) (ks:=ks) ho).2 Y q s r hq z Qq) hR
  have V:=hD i o ho;obtain⟨G,g1,g2,g3⟩:=hI.ex;unfold wpOp;rw[ho];simp only;rcases Q2 with⟨Y,_⟩|⟨Y,q,s,r,hq,z,Q5,_⟩
  ·rw[cG g1 Y]
   exact hK (λ_=>true) _ _ _ ((eE (C:=C) (E:=LD C) (dk:=qv) (B:=λ_=>some λ_=>true) (ks:=ks) ho).1 Y) (hI.slot (λ_=>ko) V)
  ·rw[cG g1 Y]
   simp only[a2c];left;have W:=hE.wideAt hI.kept;have Qr:=hE.laidAt hI.kept g3;have Qt:∀b,FM F G st.ow q.1 b->b<w.heap.size:=λb U=>OX g2 W U
   have Qu:iV L (cm G (aL q.1 0 st.ow)) w.heap:=λp hp=>⟨λh=>(Qr p hp).1 (gg h),(Qr p hp).2⟩
   have hρ:L7 (FM F G st.ow q.1) G (aL q.1 0 st.ow) w.heap (iS st.sl) a.eval:=λx=>oO z (eD g1 x)
   refine uG.wp ?_
   have I:=I Y q hq;have N:=N Y q hq z;have J:∀ {s':SV},(Aq C o.op (iS st.sl) st.ow).can (λs=>s=s')->(∃b:Nat->Bool,(pL C (LD C o (iS st.sl) (aL q.1 0 st.ow)) o.op q (iS st.sl) (aL q.1 0 st.ow) (qv o)).outB (some b)=some (s',none))->uG C.P o a.eval w λv c=>K (a.put o.dst v) c:=by
    intro s' l ⟨b,U⟩;have O:=fR hC (op:=o) rfl g2 W Qr (eD g1) l;have conv:∀u c,(∃s,s=s'/\Tr F G st.ow w G st.ow c/\Sv F G st.ow c.heap s u)->K (a.put o.dst u) c:=by
     rintro u c ⟨s,rfl,ht,S⟩
     exact N b s none U _ _ (hI.op hE g1 g3 ht (cA S) V)
    rcases O with⟨u,c,n,t⟩|⟨c,n,t⟩|⟨f,args,n,t⟩
    ·exact .inl ⟨u,c,n,conv u c t⟩
    ·exact .inr (.inl ⟨c,n,conv undef c t⟩)
    ·exact .inr (.inr ⟨f,args,n,t.mono λe c ⟨u,q3,q4⟩=>⟨u,q3,conv u c q4⟩⟩)
   generalize A:pL C (LD C o (iS st.sl) (aL q.1 0 st.ow)) o.op q (iS st.sl) (aL q.1 0 st.ow) (qv o)=M at I N J
   have no:M= .fail->False:=λe=>by
    subst e;obtain⟨x,hx⟩:=I λ_=>true
    cases hx
   obtain⟨Z,Ql⟩:∃P:SV×Option (List Nat×OW)->Prop,P=λy=>∃b:Nat->Bool,M.outB (some b)=some y:=⟨_,rfl⟩
   have l:M.can Z:=by rw[Ql];exact aX.outB_can _ I
   unfold pL at A;split at A
   ·rw[<-A]at l
    have O:=DZ hC hm (op:=o) rfl (jX z g2) Qt Qu hρ (aX.can_bind _ l);have conv:∀ {Q:SV×OW->Prop},(∀s ow',Q (s,ow')->Dp q.1 ow'=true/\jL q.1 8 s=true/\Z (s,some (q.1,ow')))->∀u c,(∃s ow' G',Q (s,ow')/\Tr (FM F G st.ow q.1) G (aL q.1 0 st.ow) w G' ow' c/\Sv (FM F G st.ow q.1) G' ow' c.heap s u)->K (a.put o.dst u) c:=by
     rintro Q D u c ⟨s,ow',G',X,ht,S⟩
     obtain⟨c1,c2,c3⟩:=D _ _ X;rw[Ql]at c3;obtain⟨b,U⟩:=c3;obtain⟨t1,t2⟩:=lO g2 W z ht c1;exact N b s (some (q.1,ow')) U _ _ (hI.op hE g1 g3 t1 (cA (t2 s u 8 c2 S)) V)
    have conv:=conv (Q:=λx=>aX.can (if Dp q.1 x.2&& jL q.1 8 x.1&& (!vP q||BV q.1 (qv o) (aL q.1 0 st.ow) x.2)&& (!qu q||vh q.1 (qv o) (aL q.1 0 st.ow) x.2)then aX.ret (x.1,some (q.1,x.2))else .fail) Z) λs ow' (D:aX.can (if Dp q.1 ow'&& jL q.1 8 s&& (!vP q||BV q.1 (qv o) (aL q.1 0 st.ow) ow')&& (!qu q||vh q.1 (qv o) (aL q.1 0 st.ow) ow')then aX.ret (s,some (q.1,ow'))else .fail) Z)=>by
     split at D
     ·rename_i m
      simp only[a0f]at m;exact⟨m.1.1.1,m.1.1.2,D⟩
     ·exact D.elim
    rcases O with⟨u,c,n,t⟩|⟨c,n,t⟩|⟨f,args,n,t⟩
    ·exact .inl ⟨u,c,n,conv u c t⟩
    ·exact .inr (.inl ⟨c,n,conv undef c t⟩)
    ·exact .inr (.inr ⟨f,args,n,t.mono λe c ⟨u,q3,q4⟩=>⟨u,q3,conv u c q4⟩⟩)
   ·split at A
    ·split at A
     ·rename_i s' hl
      split at A
      ·rename_i hh
       exact J (ic (C:=C) (λd j ob h=>iY h) (wI hl hh)) ⟨λ_=>true,by rw[<-A];rfl⟩
      ·exact(no A.symm).elim
     ·exact(no A.symm).elim
    split at A
    ·split at A
     ·rename_i s' hl
      exact J (ic (C:=C) (λd j ob h=>iY h) (tO hl)) ⟨λ_=>true,by rw[<-A];rfl⟩
     ·exact(no A.symm).elim
    split at A
    ·rename_i x hx
     exact J (AH hx) ⟨λ_=>true,by rw[<-A];rfl⟩
    ·split at A
     ·rename_i s' hl
      exact J (ic (C:=C) (λd j ob h=>iY h) hl) ⟨λ_=>true,by rw[<-A];rfl⟩
     ·split at A
      ·rename_i Q6
       have Qv:∀(b:Nat->Bool) s ow',M.outB (some b)=some (s,some ([qv o],ow'))->∃Qm,bV (aL q.1 0 st.ow) (qv o) Qm=some ow':=by
        intro b s ow' U;rw[<-A]at U;obtain⟨x,e1,_,e2⟩:=aX.outB_bind _ U;split at e2
        ·simp only[aX.outB,a0k,a0y,true_and]at e2
         obtain⟨Qm,T⟩:=wM e1;rw[e2.2]at T;exact⟨Qm,T⟩
        ·cases e2
       rw[<-A]at l;have O:=tG hC (op:=o) rfl (jX z g2) Qt Qu hρ (aX.can_bind _ l);have conv:∀ {Q:SV×OW->Prop},(∀s ow',Q (s,ow')->Dp q.1 ow'=true/\jL q.1 8 s=true/\q.1.contains (qv o)=true/\Z (s,some ([qv o],ow')))->∀u c,(∃s ow' G',Q (s,ow')/\Tr (FM F G st.ow q.1) G (aL q.1 0 st.ow) w G' ow' c/\Sv (FM F G st.ow q.1) G' ow' c.heap s u)->K (a.put o.dst u) c:=by
        rintro Q D u c ⟨s,ow',G',X,ht,S⟩
        obtain⟨c1,c2,c3,c4⟩:=D _ _ X;rw[Ql]at c4;obtain⟨b,U⟩:=c4;obtain⟨Qm,T⟩:=Qv b s ow' U;have Q4:mf st.ow (some ([qv o],ow'))=bQ q.1 0 st.ow ow':=AM T c3;obtain⟨t1,t2⟩:=lO g2 W z ht c1;have Qn:R ⟨bn st.sl o.dst (dE (d9 g i) s),bQ q.1 0 st.ow ow'⟩ (a.put o.dst u) c:=hI.op hE g1 g3 t1 (cA (t2 s u 8 c2 S)) V;rw[<-Q4]at Qn;exact N b s (some ([qv o],ow')) U _ _ Qn
       have conv:=conv (Q:=λx=>aX.can (if Dp q.1 x.2&& jL q.1 8 x.1&& q.1.contains (qv o)then aX.ret (x.1,some ([qv o],x.2))else .fail) Z) λs ow' (D:aX.can (if Dp q.1 ow'&& jL q.1 8 s&& q.1.contains (qv o)then aX.ret (s,some ([qv o],ow'))else .fail) Z)=>by
        split at D
        ·rename_i m
         simp only[a0f]at m;exact⟨m.1.1,m.1.2,m.2,D⟩
        ·exact D.elim
       rcases O with⟨u,c,n,t⟩|⟨c,n,t⟩|⟨f,args,n,t⟩
       ·exact .inl ⟨u,c,n,conv u c t⟩
       ·exact .inr (.inl ⟨c,n,conv undef c t⟩)
       ·exact .inr (.inr ⟨f,args,n,t.mono λe c ⟨u,q3,q4⟩=>⟨u,q3,conv u c q4⟩⟩)
      ·rw[<-A]at l
       have O:=fR hC (op:=o) rfl (jX z g2) Qt Qu hρ (aX.can_bind _ l);have conv:∀ {Q:SV->Prop},(∀s,Q s->Dp q.1 (aL q.1 0 st.ow)=true/\jL q.1 8 s=true/\Z (s,none))->∀u c,(∃s,Q s/\Tr (FM F G st.ow q.1) G (aL q.1 0 st.ow) w G (aL q.1 0 st.ow) c/\Sv (FM F G st.ow q.1) G (aL q.1 0 st.ow) c.heap s u)->K (a.put o.dst u) c:=by
        rintro Q D u c ⟨s,X,ht,S⟩
        obtain⟨c1,c2,c3⟩:=D _ X;rw[Ql]at c3;obtain⟨b,U⟩:=c3;obtain⟨t1,t2⟩:=n7 g2 W z ht c1;exact N b s none U _ _ (hI.op hE g1 g3 t1 (cA (t2 s u 8 c2 S)) V)
       have conv:=conv (Q:=λs=>aX.can (if Dp q.1 (aL q.1 0 st.ow)&& jL q.1 8 s then aX.ret (s,(none:Option (List Nat×OW)))else .fail) Z) λs (D:aX.can (if Dp q.1 (aL q.1 0 st.ow)&& jL q.1 8 s then aX.ret (s,(none:Option (List Nat×OW)))else .fail) Z)=>by
        split at D
        ·rename_i m
         simp only[a0f]at m;exact⟨m.1,m.2,D⟩
        ·exact D.elim
       rcases O with⟨u,c,n,t⟩|⟨c,n,t⟩|⟨f,args,n,t⟩
       ·exact .inl ⟨u,c,n,conv u c t⟩
       ·exact .inr (.inl ⟨c,n,conv undef c t⟩)
       ·exact .inr (.inr ⟨f,args,n,t.mono λe c ⟨u,q3,q4⟩=>⟨u,q3,conv u c q4⟩⟩)
 ·refine a5p (a5r _ _) (by simp)
 ·intro j hj
  exfalso;by_cases Qp:j<g.size
  ·simp[Array.getD,Qp]at hj
  ·simp[Array.getD,Qp]at hj
 ·have:((List.range g.size).filter λi=> !(Array.replicate g.size false).getD i true)=List.range g.size:=by
   rw[a6c];intro i hi;have:=a2h.1 hi;simp[Array.getD,this]
  rw[this];exact Qo
 ·exact⟨h.ex,⟨h.kept.size,h.kept.heap,h.kept.cells,h.kept.os,h.kept.output,h.kept.tape⟩,h.defers,h.args,h.size⟩
def I3 {C:eB} {L:List (Nat×Obj)} (a:C.Holds L) (b:C.P.follows .mixedOrders=true):oN C L:=⟨Gr a b,Gv a b,DZ a b⟩
def oQ {C:eB} {L:List (Nat×Obj)} (g:C.Holds L) (h:C.P.follows .mixedOrders=true) {f:FuncId} {fn:Func} (i:C.P.funcs[f]?=some fn) (b:(fn.name== "runtime.NumGoroutine")=false) (c:LA) (args a:Sh) {den:args.T->Option (a.T×args.Out)} (e:∀x y,den x=some y->nJ C c fn args a x=some y) (d:fn.body.isNone=false):aA C.P L f ⟨args,a,den,c.al⟩:=Cd g (I3 g h) i b c args a e d
open Go Go.RowKit
def Il (P:Program) (L:List (Nat×Obj)) (f:FuncId) (l:List jV):Prop:=∀a∈l,aA P L f a
def cp {P:Program} {L:List (Nat×Obj)} {f:FuncId}:Il P L f []:=λ_ h=>by cases h
def bR {P:Program} {L:List (Nat×Obj)} {f:FuncId} {a:jV} {l:List jV} (h:aA P L f a) (b:Il P L f l):Il P L f (a::l):=λs hs=>by
 rcases a1s.1 hs with rfl|hs
 ·exact h
 ·exact b s hs
def ae {P:Program} {L:List (Nat×Obj)} {k:Nat} {a:List (Nat×Sh)} {b:List (FuncId×List (Nat×NN))}:eB.Holds ⟨P,[],k,a,b⟩ L:=λf c h=>by simp[eB.sigsOf]at h
def bS {P:Program} {L:List (Nat×Obj)} {k:Nat} {f:FuncId} {l:List jV} {r:List (FuncId×List jV)} {b:List (Nat×Sh)} {c:List (FuncId×List (Nat×NN))} (h:Il P L f l) (i:eB.Holds ⟨P,r,k,b,c⟩ L):eB.Holds ⟨P,(f,l)::r,k,b,c⟩ L:=λg d a=>by
 unfold eB.sigsOf at a;simp only[List.find?_cons]at a;by_cases e:f=g
 ·subst e
  simp only[a5x]at a;exact h d a
 ·have:(f==g)=false:=by simpa using e
  rw[this]at a;exact i g d a
def wN {P:Program} {L:List (Nat×Obj)} {f:FuncId} {fn:Func} {A R:Sh} {b:(A.T->Option (R.T×A.Out))->A.T->Option (R.T×A.Out)} {d:List (Nat×Nat×Nat×List Nat)} (e:P.funcs[f]?=some fn) (a:(fn.name== "runtime.NumGoroutine")=false) (c:fn.body.isNone=false):aA P L f ⟨A,R,aG b 0,d⟩:=⟨⟨fn,e,a,c⟩,λ_ _ _ _ _ _ _ _ _ _ _ h=>by cases h⟩
def lQ {h:Array Obj} {ok:Nat->Prop} {k:Kd} {b:Sh} {x:Sh.T (.cons (.pur k) b)} {vs:List Value} {a:List Nat} (e:cq h ok (.cons (.pur k) b) x vs a):∃v r,vs=v::r/\nK h ok k x.1 v/\cq h ok b x.2 r a:=by
 obtain⟨v,r,f1,f2,rfl,rfl,⟨g,c,rfl,d⟩,f⟩:=e
 cases c
 exact⟨v,r,rfl,d,f⟩
def oR {h:Array Obj} {ok:Nat->Prop} {x:Sh.T .nil} {vs:List Value} {a:List Nat} (e:cq h ok .nil x vs a):vs=[]/\a=[]:=e
def oc {h:Array Obj} {ok:Nat->Prop} {k:Kd} {b:Sh} {x:Sh.T (.cons (.pur k) b)} {v:Value} {r:List Value} {a:List Nat} (c:nK h ok k x.1 v) (d:cq h ok b x.2 r a):cq h ok (.cons (.pur k) b) x (v::r) a:=⟨v,r,[],a,rfl,rfl,⟨v,rfl,rfl,c⟩,d⟩
def r4 {v c:Value} (h:v.oneCell'=true) (a:v.cells.toList=[c]):v=c:=by
 rw[ix h]at a;simpa using a
def qO {h:Array Obj} {ok:Nat->Prop} {k:IntKind} {n:Int} {v:Value} (e:nK h ok (.int k) n v):v= .int k n:=r4 (e.2.2 rfl) e.1
def Mj {h:Array Obj} {ok:Nat->Prop} {s:List UInt8} {v:Value} (e:nK h ok .str s v):v= .string ⟨s.toArray⟩:=r4 (e.2.2 rfl) e.1
def I4 {h:Array Obj} {ok:Nat->Prop} {b:Bool} {v:Value} (e:nK h ok .bool b v):v= .bool b:=r4 (e.2.2 rfl) e.1
def tP {h:Array Obj} {ok:Nat->Prop} {k:IntKind} {n:Int}:nK h ok (.int k) n (.int k n):=⟨rfl,(λh=>by cases h),λ_=>rfl⟩
def zD:List Kd->Sh
 |[]=> .nil
 |k::r=> .cons (.pur k) (zD r)
def AN {h c:Array Obj} {ok ok':Nat->Prop}:(s:Sh)->aI s=true-> {x:s.T}-> {o:s.Out}-> {vs:List Value}-> {a:List Nat}->cq h ok s x vs a->gJ c ok' s o vs []
 | .nil,_,_,_,vs,a,e=>⟨e.1,rfl⟩
 | .cons (.pur k) b,hs,x,o,vs,a,e=>by
  obtain⟨v,r,f1,f2,rfl,_,⟨_,f,_,_⟩,d⟩:=e;exact⟨v,r,[],[],rfl,rfl,.inl ⟨rfl,rfl⟩,AN b (by simpa [aI]using hs) d⟩
 | .cons (.own _) _,hs,_,_,_,_,_=>by simp[aI]at hs
 | .cons (.row _) _,hs,_,_,_,_,_=>by simp[aI]at hs
 | .cons (.nrw _) _,hs,_,_,_,_,_=>by simp[aI]at hs
 | .cons (.box _) _,hs,_,_,_,_,_=>by simp[aI]at hs
 | .cons (.agg _) _,hs,_,_,_,_,_=>by simp[aI]at hs
 | .cons (.fn _ _ _) _,hs,_,_,_,_,_=>by simp[aI]at hs
 | .cons .ign _,hs,_,_,_,_,_=>by simp[aI]at hs
 | .cons .nl _,hs,_,_,_,_,_=>by simp[aI]at hs
 | .cons .nil _,hs,_,_,_,_,_=>by simp[aI]at hs
 | .cons (.cons _ _) _,hs,_,_,_,_,_=>by simp[aI]at hs
 | .pur _,hs,_,_,_,_,_=>by simp[aI]at hs
 | .own _,hs,_,_,_,_,_=>by simp[aI]at hs
 | .row _,hs,_,_,_,_,_=>by simp[aI]at hs
 | .nrw _,hs,_,_,_,_,_=>by simp[aI]at hs
 | .box _,hs,_,_,_,_,_=>by simp[aI]at hs
 | .agg _,hs,_,_,_,_,_=>by simp[aI]at hs
 | .fn _ _ _,hs,_,_,_,_,_=>by simp[aI]at hs
 | .ign,hs,_,_,_,_,_=>by simp[aI]at hs
 | .nl,hs,_,_,_,_,_=>by simp[aI]at hs
def Im {P:Program} {L:List (Nat×Obj)} {f:FuncId} {fn:Func} {A R:Sh} {den:A.T->Option (R.T×A.Out)} (q:P.funcs[f]?=some fn) (a:(fn.name== "runtime.NumGoroutine")=false) (c:fn.body.isNone=false) (o:aI A=true) (s:∀(w:World) (x:A.T) (vs:List Value) (y:R.T×A.Out) (F:Nat->Prop),(∀b,F b->b<w.heap.size)->iV L (λ_=>False) w.heap->cq w.heap (λb=>¬F b) A x vs []->den x=some y->Calls P f vs.toArray w λe l=>∃m d,e= .returned (Gi m)/\cq l.heap (λb=>¬FP F d b) R y.1 m d/\d.Nodup/\(∀b∈d,w.heap.size<=b)/\fh (λ_=>False) w l):aA P L f ⟨A,R,den,[]⟩:=by
 refine⟨⟨fn,q,a,c⟩,λw F x vs d y t u _ _ g v _=> ?_⟩;obtain⟨rfl,_⟩:=lN A o g;have j:cq w.heap (λb=>¬F b) A x vs []:=cq.mono (λb r k z=>⟨λh=>k (.inl h),z⟩) _ (λ_ _=>rfl) g;refine(s w x vs y F t (λp B=>⟨λh=>h,(u p B).2⟩) j v).mono λe l ⟨m,d,C,D,E,G,i⟩=> ?_
 have n:fh (·∈([]:List Nat)) w l:=⟨i.size,λb k _=>i.heap b k (λh=>h),i.cells,i.os,i.output,i.tape⟩;refine⟨m,d,[],C,by simpa using D,?_,by simpa using E,λb k=> .inr (G b (by simpa using k)),n⟩;exact AN A o g
def I5 (w:World):fh (λ_=>False) w w:= .refl _ _
def Gw {w a:World} (h:fh (λ_=>False) w a):Below w.heap.size w a:=⟨h.os,h.tape,h.output,h.size,λk b=>h.heap k b λh=>h⟩
end Go.Pev
namespace Go.Pev
open Go Go.RowKit
def Kd.WF:(k:Kd)->k.T->Prop
 | .int k,n=>k.min<=n/\n<=k.max
 | .str,s=>s.length<=140737488351232
 | .sl _ e,l=>l.length<=140737488351232/\∀x∈l,e.WF x
 | .cons a b,x=>a.WF x.1/\b.WF x.2
 |_,_=>True
section
variable {P:Program}
def D0 (P:Program) (a:TypeId->Option Kd) (ok:TypeId->Bool):List Field->Nat->Nat->Bool
 |[],off,n=>off==n
 |x::r,off,n=>ok x.type&& x.offset==off&& (match a x.type with|some k=>k.ch.n==P.cellsOf x.type&& k.ch.leafy&& D0 P a ok r (off+P.cellsOf x.type) n|none=>false)
def D1 (P:Program):Nat->TypeId->Bool
 |0,_=>false
 |f+1,t=>
  match ee P t with
  |some (.int _)|some .bool|some .string=>true
  |some (.slice e)=>(match ls P f e with|some k=>k.n==P.cellsOf e&& decide (0<k.n)&& decide (0<P.bytesOf e)&& D1 P f e|none=>false)
  |some (.struct fs)=>D0 P (ls P f) (D1 P f) fs.toList 0 (P.cellsOf t)
  |_=>false
def cz.ch {h:Array Obj} {ok:Nat->Prop}:(k:Kd)-> {x:k.T}-> {cs:List Value}->cz h ok k x cs->cz h ok k.ch (O4 k x) cs
 | .int _,_,cs,e=>⟨cs,[],by simp,e,rfl⟩
 | .bool,_,cs,e=>⟨cs,[],by simp,e,rfl⟩
 | .str,_,cs,e=>⟨cs,[],by simp,e,rfl⟩
 | .err,_,cs,e=>⟨cs,[],by simp,e,rfl⟩
 | .any,_,cs,e=>⟨cs,[],by simp,e,rfl⟩
 | .sl _ _,_,cs,e=>⟨cs,[],by simp,e,rfl⟩
 | .nil,_,_,e=>e
 | .cons _ _,_,_,e=>e
 | .tree _,_,cs,e=>⟨cs,[],by simp,e,rfl⟩
def Kd.WF.ch:(k:Kd)-> {x:k.T}->k.WF x->k.ch.WF (O4 k x)
 | .int _,_,e=>⟨e,trivial⟩
 | .bool,_,e=>⟨e,trivial⟩
 | .str,_,e=>⟨e,trivial⟩
 | .err,_,e=>⟨e,trivial⟩
 | .any,_,e=>⟨e,trivial⟩
 | .sl _ _,_,e=>⟨e,trivial⟩
 | .nil,_,e=>e
 | .cons _ _,_,e=>e
 | .tree _,_,e=>⟨e,trivial⟩
def cz.app {h:Array Obj} {ok:Nat->Prop}:(a:Kd)->a.leafy=true-> {b:Kd}-> {x:a.T}-> {y:b.T}-> {c1 c2:List Value}->cz h ok a x c1->cz h ok b y c2->a.WF x->b.WF y->∃z:(a.app b).T,cz h ok (a.app b) z (c1++c2)/\(a.app b).WF z
 | .nil,_,b,x,y,c1,c2,c,e2,w1,w2=>by
  have c:c1=[]:=c;subst c;exact⟨y,e2,w2⟩
 | .cons a r,hl,b,x,y,c1,c2,c,e2,w1,w2=>by
  simp only[Kd.leafy,a0f]at hl;obtain⟨d,e,rfl,f,g⟩:=c;obtain⟨z,i,j⟩:=cz.app r hl.2 g e2 w1.2 w2;exact⟨(x.1,z),⟨d,e++c2,by simp,f,i⟩,w1.1,j⟩
 | .int _,hl,_,_,_,_,_,_,_,_,_=>by cases hl
 | .bool,hl,_,_,_,_,_,_,_,_,_=>by cases hl
 | .str,hl,_,_,_,_,_,_,_,_,_=>by cases hl
 | .err,hl,_,_,_,_,_,_,_,_,_=>by cases hl
 | .any,hl,_,_,_,_,_,_,_,_,_=>by cases hl
 | .sl _ _,hl,_,_,_,_,_,_,_,_,_=>by cases hl
 | .tree _,hl,_,_,_,_,_,_,_,_,_=>by cases hl
def wO {α β:Type} {g:α->Option β}: {l:List α}-> {r:List β}->l.mapM g=some r->r.length=l.length/\∀i (c:i<l.length) (d:i<r.length),g l[i]=some r[i]
 |[],r,h=>by cases h;exact⟨rfl,λi h=>by simp at h⟩
 |a::l,r,h=>by
  simp only[a7i,Option.bind_eq_bind,a2l,Option.pure_def,a0k]at h;obtain⟨b,e,m,f,rfl⟩:=h;obtain⟨c,d⟩:=wO f;refine⟨by simp[c],λi j k=> ?_⟩
  cases i with
  |zero=>exact e
  |succ i=>exact d i (by simpa using j) (by simpa using k)
def od {H:Type} {e:TypeId}: {l:List (DataW H)}-> {d:DataW H}->d∈l-> {q:Nat->Bool}->(DataW.weightsAll P e l).all q=true->(d.weights P e).all q=true
 |a::l,d,hd,q,h=>by
  simp only[DataW.weightsAll,a5s,a0f]at h;rcases a1s.1 hd with rfl|hd
  ·exact h.1
  ·exact od hd h.2
def AO {w:World} {a:Addr} {v:Value} (h:w.cell? a=some v):a.spot=none/\∃r,ap w.heap a.block=some r/\r[a.off]?=some v:=by
 unfold World.cell? at h;split at h
 ·rename_i c t f b
  split at h
  ·cases h
  ·rename_i d
   refine⟨by simpa using d,c,by unfold ap;rw[b],h⟩
 ·cases h
def I6 {w:World} {b o n:Nat} {vs:List Value} {r:Array Value} (k:ap w.heap b=some r) (h:w.cells? 0 ⟨b,o,none⟩ n=some vs):vs=bP r o n/\o+n<=r.size\/n=0/\vs=[]:=by
 unfold World.cells? at h;rw[a0e (a4q _)]at h;obtain⟨f,l⟩:=wO h;simp only[a5v]at f;by_cases m:n=0
 ·subst m
  right;exact⟨rfl,a0s f⟩
 left;have a:∀i,i<n->r[o+i]?=vs[i]?:=by
  intro i c;have g:i<vs.length:=by omega
  have:=l i (by simpa using c) g;simp only[List.getElem_range]at this;obtain⟨_,s,d,j⟩:=AO this;have p:(Addr.add ⟨b,o,none⟩ i).block=b:=by unfold Addr.add;split<;>rfl
  have q:(Addr.add ⟨b,o,none⟩ i).off=o+i:=by unfold Addr.add;split<;>simp_all
  rw[p,k]at d
  cases d
  rw[q]at j;rw[j,a0a g]
 have e:o+n<=r.size:=by
  have:=a (n-1) (by omega);rw[a0a (show n-1<vs.length by omega)]at this;have:=(a1b.1 this).1;omega
 refine⟨?_,e⟩;apply a2g;intro i;unfold bP;rw[a4i,a2v];by_cases c:i<n
 ·rw[a0e c,<-a i c];simp
 ·rw[a0c c,a1g (by omega)]
def wP {H:Type} {enc:TypeId×Value->H} {w:World} {B:Nat->Bool} {L:Bool}:(fuel f:Nat)-> {t:TypeId}-> {cs:List Value}-> {d:DataW H}-> {ps:List MemPlace}-> {k:Kd}->DataW.trod enc P w 0 B L fuel t cs=some (d,ps)->ls P f t=some k->D1 P f t=true->(d.weights P t).all (·<=reachBytes)=true->∃x:k.T,cz w.heap (λ_=>True) k x cs/\k.WF x
 |0,_,_,_,_,_,_,h,_,_,_=>by simp[DataW.trod]at h
 |_+1,0,_,_,_,_,_,_,hk,_,_=>by simp[ls]at hk
 |fuel+1,f+1,t,cs,d,ps,k,h,hk,ho,hw=>by
  simp only[ls,D1,ee]at hk ho
  cases hu:P.underlying t with
  |none=>rw[hu]at hk;cases hk
  |some td=>
   rw[hu]at hk ho
   cases td with
   |bool=>
    simp only[a0k]at hk;subst hk;obtain⟨b,rfl,_⟩:=DataW.trod_bool hu h;exact⟨b,rfl,trivial⟩
   |int kk=>
    simp only[a0k]at hk;subst hk;obtain⟨n,rfl,_,Y⟩:=DataW.trod_int hu h;refine⟨n,rfl,?_⟩;simpa [Lit.wf,Kd.WF]using Y
   |string=>
    simp only[a0k]at hk;subst hk;obtain⟨s,rfl,M,_⟩:=DataW.trod_string hu h
    cases M
    refine⟨s.data.toList,rfl,?_⟩;simp only[DataW.weights,a5t,List.all_nil,a8u,a0u]at hw;exact hw
   |slice e=>
    cases he:ls P f e with
    |none=>simp[he]at hk
    |some ke=>
     simp only[he,a0k]at hk;subst hk;simp only[he,a0f,a2w,a0u]at ho;obtain⟨⟨⟨hn,Qt⟩,Z⟩,Ql⟩:=ho;rcases DataW.trod_slice hu h with⟨rfl,_⟩|⟨a,len,N,c,rest,n,C,rfl,M,_,Qv,_,Qw,m,_,_⟩
     ·exact⟨[],⟨none,0,rfl,a1l _,.inl rfl⟩,by simp,λx O=>by simp at O⟩
     ·cases C
      cases M
      simp only[DataW.weights,hu,a5t,a5s,a0f,a0u,a3a]at hw;obtain⟨Qm,j,_⟩:=hw;have Qu:len<=140737488351232:=by
       have:c.length+rest.length<=(c.length+rest.length)*P.bytesOf e:=a4m _ Z;unfold reachBytes at Qm;omega
      cases len with
      |zero=>exact⟨[],⟨some a,N,rfl,a4q _,.inl rfl⟩,by simp,λx O=>by simp at O⟩
      |succ len=>
       have v:∀i,i<len+1->∃vs x,w.cells? 0 (a.add (i*P.cellsOf e)) (P.cellsOf e)=some vs/\cz w.heap (λ_=>True) ke x vs/\ke.WF x:=by
        intro i D;have E:=m i D;rw[a0a (show i<c.length by omega)]at E;obtain⟨vs,Q,J⟩:=a2l.1 E;obtain⟨x,F,h5⟩:=wP fuel f (d:=c[i].1) (ps:=c[i].2) J he Ql (od (a4o.2 ⟨c[i],a0h _,rfl⟩) j);exact⟨vs,x,Q,F,h5⟩
       obtain⟨b,o,sp⟩:=a;obtain⟨Qy,_,G,_,_⟩:=v 0 (by omega);have Qn:sp=none/\∃r,ap w.heap b=some r:=by
        unfold World.cells? at G;rw[a0e (a4q _)]at G;obtain⟨E,Q⟩:=wO G;have:=Q 0 (by simp;omega) (by rw[E];simp;omega);obtain⟨J,r,F,_⟩:=AO this;simp[Addr.add]at J F;exact⟨J,r,F⟩
       obtain⟨rfl,r,X⟩:=Qn;have R:∀i,Addr.add ⟨b,o,none⟩ i=⟨b,o+i,none⟩:=λi=>by unfold Addr.add;split<;>simp_all
       have p:∀i:Fin (len+1),∃x,cz w.heap (λ_=>True) ke x (bP r (o+i.1*ke.n) ke.n)/\ke.WF x/\o+i.1*ke.n+ke.n<=r.size:=by
        intro i;obtain⟨vs,x,E,Q,J⟩:=v i.1 i.2;rw[R,<-hn]at E;rcases I6 X E with⟨rfl,F⟩|⟨F,_⟩
        ·exact⟨x,Q,J,F⟩
        ·omega
       refine⟨List.ofFn λi=>(p i).choose,⟨some ⟨b,o,none⟩,N,by simp,by simp;omega,.inr ⟨b,o,r,rfl,trivial,X,?_,λi D=> ?_⟩⟩,by simp;omega,λx O=> ?_⟩
       ·have:=(p ⟨len,by omega⟩).choose_spec.2.2
        simp only[List.length_ofFn];rw[a6q];simp only at this;omega
       ·simp only[List.length_ofFn]at D
        simp only[List.getElem_ofFn];exact(p ⟨i,D⟩).choose_spec.1
       ·obtain⟨i,rfl⟩:=List.mem_ofFn.1 O
        exact(p i).choose_spec.2.1
   |struct fs=>
    obtain⟨xs,n,C,M,Qz,Q0,m⟩:=DataW.trod_struct hu h
    cases C
    cases M
    simp only[DataW.weights,hu]at hw;simp only at hk ho;have Qo:∀(l:List Field) (i off:Nat) (K:Kd),fs.toList.drop i=l->l.foldr (λx Qp=>match ls P f x.type,Qp with|some k,some r=>some (k.ch.app r)|_,_=>none) (some .nil)=some K->D0 P (ls P f) (D1 P f) l off (P.cellsOf t)=true->(DataW.weightsEach P (l.map (·.type)) ((xs.map (·.1)).drop i)).all (·<=reachBytes)=true->∃y:K.T,cz w.heap (λ_=>True) K y (cs.drop off)/\K.WF y:=by
     intro l
     induction l with
     |nil=>
      intro i off K _ g q _;simp only[List.foldr_nil,a0k]at g;subst g;simp only[D0,a2w]at q;refine⟨(),?_,trivial⟩;show cs.drop off=[];exact List.drop_eq_nil_of_le (by omega)
     |cons fd l ih=>
      intro i off K hl g q j;simp only[List.foldr_cons]at g
      cases hk1:ls P f fd.type with
      |none=>rw[hk1]at g;simp at g
      |some k1=>
       rw[hk1]at g;split at g
       ·rename_i Q1 r S X
        cases S
        cases g
        simp only[D0,hk1,a0f,a2w]at q;obtain⟨⟨U,V⟩,⟨Q2,Qq⟩,I⟩:=q;have D:fs.toList[i]?=some fd:=by
         have:=a1v (λz=>z[0]?) hl;simpa [a2v]using this
        have A:i<xs.length:=by
         have:=(a0t.1 D).1;simp at this;omega
        have W:=m i fd (by simpa using D);rw[a0a A,V]at W;have Qr:(xs.map (·.1)).drop i=xs[i].1::(xs.map (·.1)).drop (i+1):=by
         rw[a1a (by simpa using A)];simp
        rw[Qr]at j;simp only[a2i,DataW.weightsEach,a5s,a0f]at j;obtain⟨x,e1,w1⟩:=wP fuel f (d:=xs[i].1) (ps:=xs[i].2) W hk1 U j.1;obtain⟨y,e2,w2⟩:=ih (i+1) (off+P.cellsOf fd.type) r (by
         have:=a1v List.tail hl;simpa using this) X I j.2
        obtain⟨z,e3,w3⟩:=cz.app k1.ch Qq e1.ch e2 w1.ch w2;refine⟨z,?_,w3⟩;have u:(cs.drop off).take (P.cellsOf fd.type)++cs.drop (off+P.cellsOf fd.type)=cs.drop off:=by
         rw[<-a4n,a3t]
        rw[u]at e3;exact e3
       ·cases g
    obtain⟨y,e1,w1⟩:=Qo fs.toList 0 0 k (by simp) hk ho (by simpa using hw);exact⟨y,by simpa using e1,w1⟩
   |interface ms=>simp at ho
   |_=>simp at hk
def PL:(l:List Kd)->(zD l).T->Prop
 |[],_=>True
 |k::r,x=>k.WF x.1/\PL r x.2
def In (P:Program) (t:TypeId) (k:Kd):Bool:=(match ls P 16 t with|some k'=>decide (k'=k)|none=>false)&& D1 P 16 t&& (!k.isSt||k.leafy)
def Mk:(a:Kd)-> {b:Kd}->b.isSt=true->(a.app b).isSt=true
 | .cons _ _,_,_=>rfl
 | .nil,_,h=>h
 | .int _,_,h=>h
 | .bool,_,h=>h
 | .str,_,h=>h
 | .err,_,h=>h
 | .any,_,h=>h
 | .sl _ _,_,h=>h
 | .tree _,_,h=>h
def Ml {f:Nat} {w:World} {g:Nat} {t:TypeId} {b:Kd} {x:b.T} {v:Value} (a:ls P (f+1) t=some b) (m:D1 P (f+1) t=true) (p:(!b.isSt||b.leafy)=true) (c:cz w.heap (λ_=>True) b x v.cells.toList) (d:Value.okWide P w .any g t v):nK w.heap (λ_=>True) b x v:=by
 simp only[ls,D1,ee]at a m
 cases hu:P.underlying t with
 |none=>rw[hu]at a;cases a
 |some td=>
  rw[hu]at a m;simp only[Value.okWide,hu]at d
  cases td with
  |bool=>
   simp only[a0k]at a;subst a;exact⟨c,(λh=>by cases h),λ_=>by simp only[Cell.okWide,hu]at d;cases v<;>simp_all[Cell.ok,Value.oneCell']⟩
  |int kk=>
   simp only[a0k]at a;subst a;exact⟨c,(λh=>by cases h),λ_=>by simp only[Cell.okWide,hu]at d;cases v<;>simp_all[Cell.ok,Value.oneCell']⟩
  |string=>
   simp only[a0k]at a;subst a;exact⟨c,(λh=>by cases h),λ_=>by simp only[Cell.okWide,hu]at d;cases v<;>simp_all[Cell.ok,Value.oneCell']⟩
  |slice e=>
   cases he:ls P f e with
   |none=>simp[he]at a
   |some ke=>
    simp only[he,a0k]at a;subst a;exact⟨c,(λh=>by cases h),λ_=>by simp only[Cell.okWide,hu]at d;cases v<;>simp_all[Cell.ok,Value.oneCell']⟩
  |struct fs=>
   obtain⟨cs,rfl,_⟩:=d;have i:b.isSt=true:=by
    have n:∀(l:List Field) (j:Kd),l.foldr (λx o=>match ls P f x.type,o with|some k,some r=>some (k.ch.app r)|_,_=>none) (some .nil)=some j->j.isSt=true:=by
     intro l
     induction l with
     |nil=>intro j h;cases h;rfl
     |cons fd l ih=>
      intro j h;simp only[List.foldr_cons]at h;split at h
      ·rename_i q r _ c
       cases h
       exact Mk _ (ih r c)
      ·cases h
    exact n fs.toList b a
   refine⟨c,λ_=>⟨⟨cs,rfl⟩,?_⟩,λh=> ?_⟩
   ·simpa [i]using p
   ·rw[i]at h;cases h
  |interface ms=>simp at m
  |_=>simp at a
def Oa {w:World} {a:Nat} {t:TypeId} {k:Kd} {x:k.T} {v:Value} (c:In P t k=true) (d:cz w.heap (λ_=>True) k x v.cells.toList) (e:Value.okWide P w .any a t v):nK w.heap (λ_=>True) k x v:=by
 simp only[In,a0f]at c;obtain⟨⟨b,g⟩,h⟩:=c
 cases hk1:ls P 16 t with
 |none=>rw[hk1]at b;cases b
 |some k'=>
  rw[hk1]at b;obtain rfl:=a0x b;exact Ml (f:=15) hk1 g h d e
def D2 {H:Type} {enc:TypeId×Value->H} {w:World} {c:Nat}:(ts:List TypeId)->(ks:List Kd)-> {vs:List Value}-> {b:List (DataW H)}-> {ps:List MemPlace}->DataW.TrodAll enc P w 0 (λ_=>true) true ts vs b ps->
 ts.length=ks.length->(ts.zip ks).all (λp=>In P p.1 p.2)=true->(∀(j:Nat) t v,ts[j]?=some t->vs[j]?=some v->Value.okWide P w .any c t v)->(DataW.weightsEach P ts b).all (·<=reachBytes)=true->
 ∃x:(zD ks).T,cq w.heap (λ_=>True) (zD ks) x vs []/\PL ks x
 |[],ks,vs,b,ps,h,hl,_,_,_=>by
  cases ks with
  |cons _ _=>simp at hl
  |nil=>
   cases vs with
   |nil=>exact⟨(),⟨rfl,rfl⟩,trivial⟩
   |cons _ _=>cases b<;>exact h.elim
 |t::ts,ks,vs,b,ps,h,hl,hk,hv,hw=>by
  cases ks with
  |nil=>simp at hl
  |cons k ks=>
   cases vs with
   |nil=>cases b<;>exact h.elim
   |cons v vs=>
    cases b with
    |nil=>exact h.elim
    |cons d b=>
     obtain⟨p,q,⟨e,l⟩,m,_⟩:=h;simp only[List.zip_cons_cons,a5t,a0f]at hk;simp only[DataW.weightsEach,a5s,a0f]at hw;have i:=hk.1;simp only[In,a0f]at i;obtain⟨⟨a,f⟩,_⟩:=i
     cases hk3:ls P 16 t with
     |none=>rw[hk3]at a;cases a
     |some k'=>
      rw[hk3]at a;obtain rfl:=a0x a;obtain⟨x,n,w1⟩:=wP e 16 l hk3 f hw.1;obtain⟨y,o,r⟩:=D2 ts ks m (by simpa using hl) hk.2 (λj t v s g=>hv (j+1) t v s g) hw.2;exact⟨(x,y),oc (Oa hk.1 n (hv 0 t v rfl rfl)) o,w1,r⟩
def I7 {L:List (Nat×Obj)} {f:FuncId} {ks:List Kd} {den:Nat->(zD ks).T->Option ((Bool×Unit)×(zD ks).Out)} (j:∀k,aA P L f ⟨zD ks,.cons (.pur .bool) .nil,den k,[]⟩)
 (c:∀x,PL ks x->∃k o,den k x=some ((true,()),o)) {w:World} (l:iV L (λ_=>False) w.heap) {vs:List Value} {x:(zD ks).T} (m:cq w.heap (λ_=>True) (zD ks) x vs []) (n:PL ks x):
 Calls P f vs.toArray w λe i=>e= .returned (.bool true)/\Below w.heap.size w i:=by
 obtain⟨k,o,q⟩:=c x n;have d:cq w.heap (λb=>¬FP (λ_=>False) [] b) (zD ks) x vs []:=cq.mono (λb r _ g=>⟨λh=>by rcases h with h|h;exact h;simp at h,g⟩) _ (λ_ _=>rfl) m;refine((j k).2 w (λ_=>False) x vs [] _ (λ_ h=>h.elim) (λp s=>⟨λh=>by simp at h,(l p s).2⟩) a2j (λ_ h=>by simp at h) d q LC.nil).mono λe i ⟨A,fp1,t,u,g,_,_,_,a⟩=> ?_
 obtain⟨v,r,rfl,p,y⟩:=lQ g;obtain⟨rfl,_⟩:=oR y;obtain rfl:=I4 p;refine⟨u,Gw ⟨a.size,λb z _=>a.heap b z (λh=>by simp at h),a.cells,a.os,a.output,a.tape⟩⟩
def qP {H:Type} {enc:TypeId×Value->H} {w e:World} (f:laidOutB P=true) (g:Below w.heap.size w e):(ts:List TypeId)->ts.all (λt=>P.readableRec t&& decide (t<P.types.size))=true-> {vs:List Value}-> {a:List (DataW H)}-> {ps:List MemPlace}->DataW.TrodAll enc P w 0 (λ_=>true) true ts vs a ps->DataW.TrodAll enc P e 0 (λb=>decide (b<w.heap.size)) true ts vs a ps
 |[],_,vs,a,ps,h=>by
  cases vs<;>cases a<;>first|exact h|exact h.elim
 |t::ts,ht,vs,a,ps,h=>by
  cases vs with
  |nil=>cases a<;>exact h.elim
  |cons v vs=>
   cases a with
   |nil=>exact h.elim
   |cons d a=>
    simp only[a5t,a0f,a0u]at ht;obtain⟨p,q,i,j,rfl⟩:=h;have c:∀x∈p,x.block<w.heap.size:=by
     obtain⟨m,k⟩:=i;exact DataW.trod_lt m _ _ _ k
    exact⟨p,q,Below.trod f ht.1.1 ht.1.2 i g c,qP f g ts ht.2 j,rfl⟩
def tQ {H:Type} {enc:TypeId×Value->H} {w:World} {b:Nat} {e:Nat->Bool} {c:Bool}:(ts:List TypeId)-> {vs:List Value}-> {a:List (DataW H)}-> {ps:List MemPlace}->DataW.TrodAll enc P w b e c ts vs a ps->a.length=ts.length
 |[],vs,a,ps,h=>by cases vs<;>cases a<;>first|rfl|exact h.elim
 |t::ts,vs,a,ps,h=>by
  cases vs with
  |nil=>cases a<;>exact h.elim
  |cons v vs=>
   cases a with
   |nil=>exact h.elim
   |cons d a=>
    obtain⟨p,q,_,f,_⟩:=h;simp[tQ ts f]
def Mm {α:Type} {l:List α} (h:l.length=2):∃a b,l=[a,b]:=by
 match l,h with
 |[a,b],_=>exact⟨a,b,rfl⟩
def iV.append {L a:List (Nat×Obj)} {I:Nat->Prop} {h:Array Obj} (b:iV L I h) (c:iV a I h):iV (L++a) I h:=λp hp=>by
 rcases a0l.1 hp with hp|hp
 ·exact b p hp
 ·exact c p hp
def iV.nil {I:Nat->Prop} {h:Array Obj}:iV [] I h:=λ_ a=>by cases a
def Ob {w:World} {a:String} {cs:Array Value} {g:Nat} (b:P.globalNamed a=some g) (h:w.var? P a=some cs):∃t fr,w.heap[g]?=some (.cells cs t fr):=by
 unfold World.var? at h;rw[b]at h;simp only[a0d]at h;split at h
 ·rename_i c t fr d
  cases h
  exact⟨t,fr,d⟩
 ·cases h
end
end Go.Pev
namespace Go.Proofs
open Go.Shelf
def Tryz.lays157_ren:Go.Shelf.Ren:=⟨λ|157=>272|229=>326|199=>327|261=>371|311=>405|312=>406|n=>n,λ|9=>9|31=>24|3=>3|5=>5|4=>4|119=>372|0=>0|40=>374|152=>401|21=>21|154=>403|51=>404|141=>406|196=>438|193=>435|198=>441|49=>439|194=>436|201=>444|226=>457|46=>94|227=>458|n=>n,λ|0=>0|6=>1|n=>n⟩
def Tryz.lays157:Go.Proofs.Lays.n157 Tryz.prog Tryz.lays157_ren:= {
 mixed:=by kernel_rfl
 f157:=Tryz.func272.trans (a1v some (by kernel_rfl))
 f199:=Tryz.func327.trans (a1v some (by kernel_rfl))
 f229:=Tryz.func326.trans (a1v some (by kernel_rfl))
 f261:=Tryz.func371.trans (a1v some (by kernel_rfl))
 f311:=Tryz.func405.trans (a1v some (by kernel_rfl))
 f312:=Tryz.func406.trans (a1v some (by kernel_rfl))
 t0:=Tryz.underlying0
 a0:=Tryz.isAgg0
 z0:=Tryz.sizeOf0
 v0:=Tryz.zeroValue0
 t3:=Tryz.underlying3
 a3:=Tryz.isAgg3
 z3:=Tryz.sizeOf3
 v3:=Tryz.zeroValue3
 t4:=Tryz.underlying4
 a4:=Tryz.isAgg4
 z4:=Tryz.sizeOf4
 v4:=Tryz.zeroValue4
 t5:=Tryz.underlying5
 a5:=Tryz.isAgg5
 z5:=Tryz.sizeOf5
 v5:=Tryz.zeroValue5
 t9:=Tryz.underlying9
 a9:=Tryz.isAgg9
 z9:=Tryz.sizeOf9
 v9:=Tryz.zeroValue9
 t21:=Tryz.underlying21
 a21:=Tryz.isAgg21
 z21:=Tryz.sizeOf21
 v21:=Tryz.zeroValue21
 t31:=Tryz.underlying24
 a31:=Tryz.isAgg24
 z31:=Tryz.sizeOf24
 v31:=Tryz.zeroValue24
 t40:=Tryz.underlying374
 a40:=Tryz.isAgg374
 z40:=Tryz.sizeOf374
 v40:=Tryz.zeroValue374
 t46:=Tryz.underlying94
 a46:=Tryz.isAgg94
 z46:=Tryz.sizeOf94
 v46:=Tryz.zeroValue94
 t49:=Tryz.underlying439
 a49:=Tryz.isAgg439
 z49:=Tryz.sizeOf439
 v49:=Tryz.zeroValue439
 t51:=Tryz.underlying404
 a51:=Tryz.isAgg404
 z51:=Tryz.sizeOf404
 v51:=Tryz.zeroValue404
 t119:=Tryz.underlying372
 a119:=Tryz.isAgg372
 z119:=Tryz.sizeOf372
 t141:=Tryz.underlying406
 a141:=Tryz.isAgg406
 z141:=Tryz.sizeOf406
 v141:=Tryz.zeroValue406
 t152:=Tryz.underlying401
 a152:=Tryz.isAgg401
 z152:=Tryz.sizeOf401
 v152:=Tryz.zeroValue401
 t154:=Tryz.underlying403
 a154:=Tryz.isAgg403
 z154:=Tryz.sizeOf403
 v154:=Tryz.zeroValue403
 t193:=Tryz.underlying435
 a193:=Tryz.isAgg435
 z193:=Tryz.sizeOf435
 v193:=Tryz.zeroValue435
 t194:=Tryz.underlying436
 a194:=Tryz.isAgg436
 z194:=Tryz.sizeOf436
 v194:=Tryz.zeroValue436
 t196:=Tryz.underlying438
 a196:=Tryz.isAgg438
 z196:=Tryz.sizeOf438
 v196:=Tryz.zeroValue438
 t198:=Tryz.underlying441
 a198:=Tryz.isAgg441
 z198:=Tryz.sizeOf441
 v198:=Tryz.zeroValue441
 t201:=Tryz.underlying444
 a201:=Tryz.isAgg444
 z201:=Tryz.sizeOf444
 v201:=Tryz.zeroValue444
 t226:=Tryz.underlying457
 a226:=Tryz.isAgg457
 z226:=Tryz.sizeOf457
 v226:=Tryz.zeroValue457
 t227:=Tryz.underlying458
 a227:=Tryz.isAgg458
 z227:=Tryz.sizeOf458
 v227:=Tryz.zeroValue458
 g0:=by kernel_rfl
 g6:=by kernel_rfl}
open Go.RowKit Go.Lib in
def Tryz.strings_Fields (s:ByteArray) (w:World) (d:s.size<4294967281) (a:∀(j:Nat) b,s.data.toList[j]?=some b->b.toNat<128) (c:Lib.TabIs Tryz.prog w "strings.asciiSpace" .u8 Lib.asciiSpaceTab):Calls Tryz.prog 272 #[.string s] w λe f=>
 e= .returned (.slice (some ⟨w.heap.size,0,none⟩) (Lib.fields s.data.toList).length (Lib.fields s.data.toList).length)/\f=w.alloc (.cells ((Lib.fields s.data.toList).map λl=>Value.string ⟨l.toArray⟩).toArray 9):=Any.strings_Fields Tryz.lays157 (by kernel_rfl) (by kernel_rfl) s w d a c
end Go.Proofs
section
open Go.Proofs
namespace Go.Pev.F.Lb
def NeedSp (L:List (Nat×Obj)):Prop:=∃t fr,(0,Obj.cells (Go.Lib.asciiSpaceTab.map λz=>Value.int .u8 z).toArray t fr)∈L
def Fields.A:Sh:= .cons (.pur .str) .nil
def Fields.R:Sh:= .cons (.own .str) .nil
def Fields (_:Nat):(List UInt8×Unit)->Option ((List (List UInt8)×Unit)×(Unit×Unit)):=λx=>
 if x.1.length<4294967281/\x.1.all (λb=>decide (b.toNat<128))=true then some ((Go.Lib.fields x.1,()),((),()))else none
def Fields.sg (k:Nat):jV:=⟨Fields.A,Fields.R,Fields k,[]⟩
def sp_of {L:List (Nat×Obj)} {w:World} (h:NeedSp L) (b:iV L (λ_=>False) w.heap):Go.Lib.TabIs Tryz.prog w "strings.asciiSpace" .u8 Go.Lib.asciiSpaceTab:=by
 obtain⟨t,fr,c⟩:=h;have a:=(b _ c).2;have d:Tryz.prog.globalNamed "strings.asciiSpace" =some 0:=by kernel_rfl
 unfold Go.Lib.TabIs World.var?;rw[d];simp only[a0d];simp only at a;rw[a]
def strs_elems (h:Array Obj) (ok:Nat->Prop) (l:List (List UInt8)):bA (λx cs=>cz h ok .str x cs) Kd.str.n l (l.map λx=>Value.string ⟨x.toArray⟩).toArray 0:=by
 refine⟨by simp[Kd.n],λi a=> ?_⟩;show bP _ _ 1=_;simp only[bP,Kd.n,a6a,a1o];rw[a1a (by simpa using a)];simp
def Fields.ok {L:List (Nat×Obj)} (h:NeedSp L) (k:Nat):aA Tryz.prog L 272 (Fields.sg k):=Im Tryz.func272 (by kernel_rfl) (by kernel_rfl) rfl λw x vs y F _ d a c=>by
 obtain⟨(s:List UInt8),⟨⟩⟩:=x;obtain⟨q,r,rfl,g,a⟩:=lQ a;obtain⟨rfl,_⟩:=oR a;obtain rfl:=Mj g;simp only[Fields]at c;split at c
 ·rename_i i
  obtain⟨l,m⟩:=i
  cases c
  refine(Tryz.strings_Fields ⟨s.toArray⟩ w (by simpa [ByteArray.size]using l) (λj b f=>a0x (a1e.1 m b (a3w f))) (sp_of h d)).mono λe t ⟨o,p⟩=> ?_
  subst p;refine⟨[_],[w.heap.size],o,⟨_,[],[w.heap.size],[],rfl,rfl,⟨_,rfl,rfl,_,_,rfl,a1l _,.inr ⟨w.heap.size,0,_,_,rfl,rfl,cI _ _,strs_elems _ _ _,?_⟩⟩,rfl,rfl⟩,by simp,λb f=>by simp at f;omega,km _ _ _⟩;simp[Kd.n]
 ·cases c
def NeedSp.mono {L a:List (Nat×Obj)} (h:NeedSp L) (b:∀p∈L,p∈a):NeedSp a:=by
 obtain⟨t,fr,c⟩:=h;exact⟨t,fr,b _ c⟩
def needSp_of {w:World} (h:Go.Lib.TabIs Tryz.prog w "strings.asciiSpace" .u8 Go.Lib.asciiSpaceTab):∃L,NeedSp L/\iV L (λ_=>False) w.heap:=by
 obtain⟨t,fr,b⟩:=Ob (g:=0) (by kernel_rfl) h;refine⟨[(_,.cells _ t fr)],⟨t,fr,a1c.2 rfl⟩,λp a=> ?_⟩;rw[a1c]at a;subst a;exact⟨λh=>h,b⟩
end Go.Pev.F.Lb
end
namespace Go.Pev
open Go Go.Proofs Go.Shelf Go.RowKit
def qQ.A:Sh:= .cons .nl (.cons (.pur (.int .i64)) .nil)
def qQ.R (k:Kd):Sh:= .cons (.own k) .nil
def qQ (k:Kd) (a:Nat):(Unit×Int×Unit)->Option ((List k.T×Unit)×(Unit×Unit×Unit)):=λx=>if 0<=x.2.1/\x.2.1*a<=140737488355328 then some (([],()),((),(),()))else none
def Io {P:Program} {ρ:Ren} {L:List (Nat×Obj)} (M:Lays8.n4 P ρ) {k:Kd} {e:TypeId} (p:ρ.t 25=e) (B:kc P e k=true) {f:FuncId} (O:ρ.f 4=f) {fn:Func} (C:P.funcs[f]?=some fn) (g:(fn.name== "runtime.NumGoroutine")=false) (j:fn.body.isNone=false):aA P L f ⟨qQ.A,qQ.R k,qQ k (c7 P e),[]⟩:=by
 refine⟨⟨fn,C,g,j⟩,λw F x vs fp y hF _ _ _ D u _=> ?_⟩;obtain⟨⟨⟩,(n:Int),⟨⟩⟩:=x;obtain⟨v1,r,f1,f2,rfl,rfl,⟨v,rfl⟩,Q⟩:=D;obtain⟨v2,r,rfl,S,T⟩:=lQ Q;obtain⟨rfl,rfl⟩:=oR T
 cases v
 obtain rfl:=qO S;simp only[qQ]at u;split at u
 ·rename_i U
  obtain⟨l,c⟩:=U;have l:0<=n:=l;have c:n*(c7 P e:Int)<=140737488355328:=c
  cases u
  obtain⟨d,N,_,o,i,z,E,V,W,G,H⟩:=fk B;subst p;subst O;have I:0<c7 P (ρ.t 25):=o;rw[G]at c I;have X:n<=140737488355328:=by
   have v:n*1<=n*(i.bytes:Int):=Int.mul_le_mul_of_nonneg_left (by omega) l;rw[Int.mul_one]at v;exact Int.le_trans v c
  by_cases Y:n=0
  ·subst Y
   refine(Any8.slices_Grow_room M none 0 0 0 w (by omega) (by omega) (by omega) (by omega)).mono λZ w' ⟨p,J⟩=> ?_
   subst J;refine⟨[_],[],[],p,⟨_,[],[],[],rfl,rfl,⟨_,rfl,d,none,0,rfl,a1l _,.inl ⟨rfl,rfl,rfl,rfl⟩⟩,rfl,rfl⟩,⟨_,_,[],[],rfl,rfl,.inl ⟨rfl,rfl⟩,_,_,[],[],rfl,rfl,.inl ⟨rfl,rfl⟩,rfl,rfl⟩,a2j,λb K=>by simp at K,.refl _ _⟩
  ·obtain⟨m,rfl⟩:∃m:Nat,n=(m:Int):=⟨n.toNat,by omega⟩
   have q:(0+m)*i.bytes<=140737488355328:=by
    have:((m*i.bytes:Nat):Int)<=140737488355328:=by rw[a6g];exact c
    rw[a1o];omega
   refine(Any8.slices_Grow_grow M i z E V (by omega) none 0 0 m [] w (by omega) (by omega) q (by omega) (by simp) (λ_=>rfl) (λa ha=>by cases ha)).mono λZ w' ⟨p,J⟩=> ?_
   subst J;have hg:=grownCap_ge w (0+m) 0 (ρ.t 25);have s:(w.drew.alloc (.cells ([].toArray++Builtin.zeroCells z.cells (0+m-0)++Builtin.zeroCells z.cells (grownCap w (0+m) 0 (ρ.t 25)-(0+m))) (ρ.t 25))).heap[w.heap.size]?=some (.cells ([].toArray++Builtin.zeroCells z.cells (0+m-0)++Builtin.zeroCells z.cells (grownCap w (0+m) 0 (ρ.t 25)-(0+m))) (ρ.t 25) (0,0)):=cI w.drew _;refine⟨[_],[w.heap.size],[],p,⟨_,[],[w.heap.size],[],rfl,rfl,⟨_,rfl,d,_,_,rfl,by simp,.inr ⟨w.heap.size,0,_,_,rfl,rfl,s,⟨by simp,λi E=>by simp at E⟩,?_⟩⟩,rfl,rfl⟩,⟨_,_,[],[],rfl,rfl,.inl ⟨rfl,rfl⟩,_,_,[],[],rfl,rfl,.inl ⟨rfl,rfl⟩,rfl,rfl⟩,by simp,λb K=> .inr (by simp at K;omega),(jW _ _).trans (km (λ_=>False) _ _) (λ_ h=>h.elim)⟩
   simp only[a3e,a2t,a0q,dV,H];rw[a1o,a1o,a1o,a8d,<-a1d];rw[a1o]at hg;exact a0p _ (by omega)
 ·cases u
end Go.Pev
section
open Go.Proofs Go.Pev Go.Shelf
namespace Go.Pev.F.Lb
set_option maxRecDepth 100000
def slices_Grow_string_string.ren:Ren:=⟨λ|4=>271|n=>n,λ|0=>0|3=>3|4=>4|9=>9|20=>20|22=>24|25=>9|n=>n,λn=>n⟩
def slices_Grow_string_string.lays:Go.Proofs.Lays8.n4 Tryz.prog slices_Grow_string_string.ren:= {
 mixed:=by kernel_rfl
 f4:=⟨"slices.Grow[[]string,string]",by kernel_rfl,Tryz.func271.trans (a1v some (by kernel_rfl))⟩
 t0:=Tryz.underlying0
 a0:=Tryz.isAgg0
 z0:=Tryz.sizeOf0
 v0:=Tryz.zeroValue0
 t3:=Tryz.underlying3
 a3:=Tryz.isAgg3
 z3:=Tryz.sizeOf3
 v3:=Tryz.zeroValue3
 t4:=Tryz.underlying4
 a4:=Tryz.isAgg4
 z4:=Tryz.sizeOf4
 v4:=Tryz.zeroValue4
 t9:=Tryz.underlying9
 a9:=Tryz.isAgg9
 z9:=Tryz.sizeOf9
 v9:=Tryz.zeroValue9
 t20:=Tryz.underlying20
 a20:=Tryz.isAgg20
 z20:=Tryz.sizeOf20
 v20:=Tryz.zeroValue20
 t22:=Tryz.underlying24
 a22:=Tryz.isAgg24
 z22:=Tryz.sizeOf24
 v22:=Tryz.zeroValue24}
def slices_Grow_string_string.A:Sh:=qQ.A
def slices_Grow_string_string.R:Sh:=qQ.R .str
def slices_Grow_string_string (_:Nat):(Unit×Int×Unit)->Option (((List (List UInt8))×Unit)×(Unit×Unit×Unit)):=qQ .str 16
def slices_Grow_string_string.sg (k:Nat):jV:=⟨slices_Grow_string_string.A,slices_Grow_string_string.R,slices_Grow_string_string k,[]⟩
def slices_Grow_string_string.ok {L:List (Nat×Obj)} (k:Nat):aA Tryz.prog L 271 (slices_Grow_string_string.sg k):=
 have h:=Io (L:=L) slices_Grow_string_string.lays (k:= .str) (e:=9) rfl (by kernel_rfl) (f:=271) rfl Tryz.func271 (by kernel_rfl) (by kernel_rfl);have a:c7 Tryz.prog 9=16:=by kernel_rfl
 by rw[a]at h;exact h
def slices_Grow_impl_Tok_impl_Tok.ren:Ren:=⟨λ|4=>332|n=>n,λ|0=>0|3=>3|4=>4|9=>9|20=>20|22=>83|25=>216|n=>n,λn=>n⟩
def slices_Grow_impl_Tok_impl_Tok.lays:Go.Proofs.Lays8.n4 Tryz.prog slices_Grow_impl_Tok_impl_Tok.ren:= {
 mixed:=by kernel_rfl
 f4:=⟨"slices.Grow[[]loop.example/g00719/impl.Tok,loop.example/g00719/impl.Tok]",by kernel_rfl,Tryz.func332.trans (a1v some (by kernel_rfl))⟩
 t0:=Tryz.underlying0
 a0:=Tryz.isAgg0
 z0:=Tryz.sizeOf0
 v0:=Tryz.zeroValue0
 t3:=Tryz.underlying3
 a3:=Tryz.isAgg3
 z3:=Tryz.sizeOf3
 v3:=Tryz.zeroValue3
 t4:=Tryz.underlying4
 a4:=Tryz.isAgg4
 z4:=Tryz.sizeOf4
 v4:=Tryz.zeroValue4
 t9:=Tryz.underlying9
 a9:=Tryz.isAgg9
 z9:=Tryz.sizeOf9
 v9:=Tryz.zeroValue9
 t20:=Tryz.underlying20
 a20:=Tryz.isAgg20
 z20:=Tryz.sizeOf20
 v20:=Tryz.zeroValue20
 t22:=Tryz.underlying83
 a22:=Tryz.isAgg83
 z22:=Tryz.sizeOf83
 v22:=Tryz.zeroValue83}
def slices_Grow_impl_Tok_impl_Tok.A:Sh:=qQ.A
def slices_Grow_impl_Tok_impl_Tok.R:Sh:=qQ.R (.cons (.int .i64) (.cons (.int .i64) .nil))
def slices_Grow_impl_Tok_impl_Tok (_:Nat):(Unit×Int×Unit)->Option (((List (Int×Int×Unit))×Unit)×(Unit×Unit×Unit)):=qQ (.cons (.int .i64) (.cons (.int .i64) .nil)) 16
def slices_Grow_impl_Tok_impl_Tok.sg (k:Nat):jV:=⟨slices_Grow_impl_Tok_impl_Tok.A,slices_Grow_impl_Tok_impl_Tok.R,slices_Grow_impl_Tok_impl_Tok k,[]⟩
def slices_Grow_impl_Tok_impl_Tok.ok {L:List (Nat×Obj)} (k:Nat):aA Tryz.prog L 332 (slices_Grow_impl_Tok_impl_Tok.sg k):=
 have h:=Io (L:=L) slices_Grow_impl_Tok_impl_Tok.lays (k:=(.cons (.int .i64) (.cons (.int .i64) .nil))) (e:=216) rfl (by kernel_rfl) (f:=332) rfl Tryz.func332 (by kernel_rfl) (by kernel_rfl);have a:c7 Tryz.prog 216=16:=by kernel_rfl
 by rw[a]at h;exact h
end Go.Pev.F.Lb
end
namespace Go.Pev
open Go Go.Proofs Go.Shelf Go.RowKit Go.Lib
structure oS (P:Program) (ρ:Ren):Prop where
 mixed:P.follows .mixedOrders=true
 f22:Bears P (ρ.f 22) (Body2.n22 ρ)
 ov:∀(w:World) (vb voff m vc b off lb cb:Nat) (tA tB:TypeId) (kA kB:Nat),vb≠b->w.shape? vb=some (tA,kA)->w.shape? b=some (tB,kB)->kB≠0->w.frozen? ⟨vb,voff,none⟩=false->w.frozen? ⟨vb,kA,none⟩=false->(callFunc (ρ.f 29) #[.slice (some ⟨vb,voff,none⟩) m vc,.slice (some ⟨b,off,none⟩) lb cb]).run P w= .ok (.value (.bool false)) w
 t0:P.underlying (ρ.t 0)=some (TypeDesc.tuple #[])
 a0:∀w,(isAgg (ρ.t 0)).run P w= .ok false w
 z0:∀w,(Go.sizeOf (ρ.t 0)).run P w= .ok 1 w
 v0:∀w,(zeroValue (ρ.t 0)).run P w= .ok (Value.tuple #[]) w
 t3:P.underlying (ρ.t 3)=some (TypeDesc.int IntKind.i64)
 a3:∀w,(isAgg (ρ.t 3)).run P w= .ok false w
 z3:∀w,(Go.sizeOf (ρ.t 3)).run P w= .ok 1 w
 v3:∀w,(zeroValue (ρ.t 3)).run P w= .ok (Value.int IntKind.i64 0) w
 t4:P.underlying (ρ.t 4)=some (TypeDesc.bool)
 a4:∀w,(isAgg (ρ.t 4)).run P w= .ok false w
 z4:∀w,(Go.sizeOf (ρ.t 4)).run P w= .ok 1 w
 v4:∀w,(zeroValue (ρ.t 4)).run P w= .ok (Value.bool false) w
 t24:P.underlying (ρ.t 24)=some (TypeDesc.slice (ρ.t 9))
 a24:∀w,(isAgg (ρ.t 24)).run P w= .ok false w
 z24:∀w,(Go.sizeOf (ρ.t 24)).run P w= .ok 1 w
 v24:∀w,(zeroValue (ρ.t 24)).run P w= .ok (Value.slice none 0 0) w
def jl {P:Program} (w:World) (l n ty c:TypeId) (i:TypeInfo) (b o d f:Nat) (a:Addr) (e g:Nat) (cs:List Value)
 (p:P.underlying l=some (.slice c)) (q:P.info? c=some i) {m:Nat} (r:Nat.min e d=m) (s:cs.length=m*i.size)
 (h:∀j v,cs[j]?=some v->w.cell? (a.add j)=some v) (t:∀j,j<cs.length->(w.cell? ⟨b,o+j,none⟩).isSome=true) (u:∀j,j<cs.length->w.frozen? ⟨b,o+j,none⟩=false) (x:∀v∈cs,v.oneCell'=true):
 (Builtin.copy_ #[l,n] ty #[.slice (some ⟨b,o,none⟩) d f,.slice (some a) e g]).run P w= .ok (goInt m) (w.setCells b o cs):=by
 have y:=run_loadCells_list (P:=P) w a cs h;have k:=run_storeCells_cells (P:=P) b o cs 0 w (by simpa using t) (by simpa using u) x;simp[Builtin.copy_,run_underlying p,Builtin.lenOf,Builtin.firstCells,sizeOf,typeInfo,q,r,<-s,y,k]
section
variable {P:Program} {ρ:Ren}
set_option maxHeartbeats 4000000 in
set_option maxRecDepth 100000 in
def Ch (L:oS P ρ) (d:TypeInfo) (h:P.info? (ρ.t 9)=some d) (b off n c i a m o:Nat) (vs:List Value) (w:World) (I:0<m) (g:n+m<=c) (y:n+m<=4611686018427387904)
 (p:vs.length=m*d.size) (q:∀j,j<vs.length->(w.cell? ⟨b,off+n*d.size+j,none⟩).isSome=true) (r:∀j,j<vs.length->w.frozen? ⟨b,off+n*d.size+j,none⟩=false)
 (s:∀j v,vs[j]?=some v->w.cell? ⟨i,a+j,none⟩=some v) (x:∀v∈vs,v.oneCell'=true):
 Calls P (ρ.f 22) #[.slice (some ⟨b,off,none⟩) n c,.int .i64 n,.slice (some ⟨i,a,none⟩) m o] w λe z=>
  e= .returned (.slice (some ⟨b,off,none⟩) (n+m) c)/\z=w.setCells b (off+n*d.size) vs:=by
 have J:=L.t0;have K:=L.a0;have M:=L.z0;have N:=L.v0;have O:=L.t3;have Q:=L.a3;have R:=L.z3;have S:=L.v3;have T:=L.t4;have U:=L.a4;have V:=L.z4;have W:=L.v4;have A:=L.t24;have B:=L.a24;have C:=L.z24;have D:=L.v24;have X:=run_underlying L.t0;have Y:=run_underlying L.t3;have Z:=run_underlying L.t4;have E:=run_underlying L.t24;have mixed:=L.mixed;have z9:∀w,(Go.sizeOf (ρ.t 9)).run P w= .ok d.size w:=λw=>by simp[Go.sizeOf,typeInfo,h]
 obtain⟨_,_,F⟩:=L.f22;have G:¬((m:Int)=0):=by omega
 have k:Src P d.size (ρ.t 24) (.slice (some ⟨i,a,none⟩) m o) m vs w:=Src.ofSlice w L.t24 ⟨i,a,none⟩ m o vs p (λj u H=>by rw[Addr.add_lit];exact s j u H) x;have l:∀ty,(Builtin.append_ #[ρ.t 24,ρ.t 24] ty #[.slice (some ⟨b,off,none⟩) n c,.slice (some ⟨i,a,none⟩) m o]).run P w= .ok (.slice (some ⟨b,off,none⟩) (n+m) c) (w.setCells b (off+n*d.size) vs):=λty=>run_append_room_src (P:=P) w (ρ.t 24) (ρ.t 24) ty (ρ.t 9) d L.t24 h b off n c _ m vs k g q r
 go_enter F,Body2.n22_ntmps ρ
 go_wp2_with (at_builtin;refine Lib.wpList_append_run _ rfl _ _ _ _ rfl _ _ rfl rfl _ _ (l _) ?_)
 go_ret
 exact⟨rfl,rfl⟩
set_option maxHeartbeats 4000000 in
set_option maxRecDepth 100000 in
def qR (L:oS P ρ) (g:TypeInfo) (z:Value) (p:P.info? (ρ.t 9)=some g) (A:g.zero=some z) (b:Option Addr) (n c q d m y:Nat) (cs vs:List Value) (w:World) (W:0<m) (J:n<=c) (h:c<n+m) (r:(n+m)*g.bytes<=140737488355328) (K:n+m<=4611686018427387904)
 (o:cs.length=n*g.size) (B:vs.length=m*g.size) (k:b=none->n=0)
 (s:∀a,b=some a->∀j v,cs[j]?=some v->w.cell? (a.add j)=some v)
 (C:∀j v,vs[j]?=some v->w.cell? ⟨q,d+j,none⟩=some v) (D:∀v∈vs,v.oneCell'=true):
 Calls P (ρ.f 22) #[.slice b n c,.int .i64 n,.slice (some ⟨q,d,none⟩) m y] w λe M=>
  e= .returned (.slice (some ⟨w.heap.size,0,none⟩) (n+m) (grownCap w (n+m) c (ρ.t 9)))/\
  M=w.drew.alloc (.cells ((cs++vs).toArray++Builtin.zeroCells z.cells (grownCap w (n+m) c (ρ.t 9)-(n+m))) (ρ.t 9)):=by
 have X:=L.t0;have Y:=L.a0;have Z:=L.z0;have v0:=L.v0;have t3:=L.t3;have a3:=L.a3;have z3:=L.z3;have v3:=L.v3;have t4:=L.t4;have a4:=L.a4;have z4:=L.z4;have v4:=L.v4;have N:=L.t24;have O:=L.a24;have Q:=L.z24;have R:=L.v24;have u0:=run_underlying L.t0;have u3:=run_underlying L.t3;have u4:=run_underlying L.t4;have S:=run_underlying L.t24;have mixed:=L.mixed;have z9:∀w,(Go.sizeOf (ρ.t 9)).run P w= .ok g.size w:=λw=>by simp[Go.sizeOf,typeInfo,p]
 obtain⟨_,_,T⟩:=L.f22;have U:¬((m:Int)=0):=by omega
 have x:Src P g.size (ρ.t 24) (.slice (some ⟨q,d,none⟩) m y) m vs w:=Src.ofSlice w L.t24 ⟨q,d,none⟩ m y vs B (λj u E=>by rw[Addr.add_lit];exact C j u E) D;have l:(Builtin.firstCells g.size n (.slice b n c)).run P w.drew= .ok cs.toArray w.drew:=by
  cases b with
  |none=>
   have F:=k rfl;subst F;have H:cs=[]:=a3o.1 (by simpa using o);rw[H];exact run_firstCells_none w.drew g.size 0 0 c
  |some a=>exact run_firstCells_some w.drew g.size n a n c cs o (λj v E=>s a rfl j v E)
 have i:∀ty,(Builtin.append_ #[ρ.t 24,ρ.t 24] ty #[.slice b n c,.slice (some ⟨q,d,none⟩) m y]).run P w= .ok (.slice (some ⟨w.heap.size,0,none⟩) (n+m) (grownCap w (n+m) c (ρ.t 9))) (w.drew.alloc (.cells ((cs++vs).toArray++Builtin.zeroCells z.cells (grownCap w (n+m) c (ρ.t 9)-(n+m))) (ρ.t 9))):=λty=>run_append_grow_src (P:=P) w (ρ.t 24) (ρ.t 24) ty (ρ.t 9) g z L.t24 p A b n c cs l _ m vs x h (by omega) (growslice_fits h r)
 obtain⟨G,I⟩:∃G,G=grownCap w (n+m) c (ρ.t 9):=⟨_,rfl⟩;rw[<-I]at i⊢;clear l I s o
 go_enter T,Body2.n22_ntmps ρ
 cases b with
 |none=>
  have F:=k rfl;subst F
  go_wp2_with (at_builtin;refine Lib.wpList_append_run _ rfl _ _ _ _ rfl _ _ rfl rfl _ _ (i _) ?_)
  all_goals (go_ret;exact⟨rfl,rfl⟩)
 |some a=>
  obtain⟨ab,ao,V⟩:=a
  go_wp2_with (at_builtin;refine Lib.wpList_append_run _ rfl _ _ _ _ rfl _ _ rfl rfl _ _ (i _) ?_)
  all_goals (go_ret;exact⟨rfl,rfl⟩)
set_option maxHeartbeats 4000000 in
set_option maxRecDepth 100000 in
def I8 (L:oS P ρ) (a:TypeInfo) (q:P.info? (ρ.t 9)=some a) (b off n c i l d m y:Nat) (cs vs:List Value) (w:World) (hi:i<n) (hm:0<m) (I:n+m<=c) (Qn:n+m<=4611686018427387904) (z:l≠b)
 (J:cs.length=n*a.size) (K:vs.length=m*a.size)
 (M:∀j v,cs[j]?=some v->w.cell? ⟨b,off+j,none⟩=some v) (r:∀j,j<(n+m)*a.size->(w.cell? ⟨b,off+j,none⟩).isSome=true) (A:∀j,j<(n+m)*a.size->w.frozen? ⟨b,off+j,none⟩=false)
 (N:∀j v,vs[j]?=some v->w.cell? ⟨l,d+j,none⟩=some v) (O:∀v∈cs,v.oneCell'=true) (Q:∀v∈vs,v.oneCell'=true)
 (tA tB:TypeId) (R S:Nat) (T:w.shape? l=some (tA,R)) (U:w.shape? b=some (tB,S)) (V:S≠0) (X:w.frozen? ⟨l,d,none⟩=false) (Y:w.frozen? ⟨l,R,none⟩=false):
 Calls P (ρ.f 22) #[.slice (some ⟨b,off,none⟩) n c,.int .i64 i,.slice (some ⟨l,d,none⟩) m y] w λe w'=>
  e= .returned (.slice (some ⟨b,off,none⟩) (n+m) c)/\w'=(w.drew.setCells b (off+(i+m)*a.size) (cs.drop (i*a.size))).setCells b (off+i*a.size) vs:=by
 have t0:=L.t0;have a0:=L.a0;have z0:=L.z0;have v0:=L.v0;have t3:=L.t3;have a3:=L.a3;have z3:=L.z3;have v3:=L.v3;have t4:=L.t4;have a4:=L.a4;have z4:=L.z4;have v4:=L.v4;have Qo:=L.t24;have Qp:=L.a24;have Qq:=L.z24;have Qr:=L.v24;have u0:=run_underlying L.t0;have u3:=run_underlying L.t3;have u4:=run_underlying L.t4;have Qt:=run_underlying L.t24;have mixed:=L.mixed;have z9:∀w,(Go.sizeOf (ρ.t 9)).run P w= .ok a.size w:=λw=>by simp[Go.sizeOf,typeInfo,q]
 obtain⟨_,_,FG⟩:=L.f22;have Qu:¬((m:Int)=0):=by omega
 have Qv:¬((i:Int)=(n:Int)):=by omega
 have Z:∀lb cb,(callFunc (ρ.f 29) #[.slice (some ⟨l,d,none⟩) m y,.slice (some ⟨b,off+(i+m)*a.size,none⟩) lb cb]).run P w= .ok (.value (.bool false)) w:=λlb cb=>L.ov w l d m y b _ lb cb tA tB R S z T U V X Y
 have B:i*a.size<=n*a.size:=a0p _ (by omega);have C:(n+m)*a.size=n*a.size+m*a.size:=a1d _ _ _;have s:(i+m)*a.size=i*a.size+m*a.size:=a1d _ _ _;have Ql:(cs.drop (i*a.size)).length=(n-i)*a.size:=by rw[a2u,J,Nat.sub_mul]
 have D:(n-i)*a.size+i*a.size=n*a.size:=by rw[<-a1d];congr 1;omega
 have Qw:IntKind.i64.wrap ((i:Int)+(m:Int))=(i:Int)+(m:Int):=by rw[IntKind.wrap_i64];omega
 have Qy:(0:Int)<=(i:Int)+(m:Int):=by omega
 have Qz:i<=n:=by omega
 have Q0:((i:Int)+(m:Int)).toNat=i+m:=by omega
 have Q1:¬(c=i+m):=by omega
 have Q2:(i:Int)<=(n:Int)+(m:Int):=by omega
 have Q3:¬(c=i):=by omega
 have o:∀ty u sc,(Builtin.copy_ #[(ρ.t 24),(ρ.t 24)] ty #[.slice (some ⟨b,off+(i+m)*a.size,none⟩) (n+m-(i+m)) u,.slice (some ⟨b,off+i*a.size,none⟩) (n+m-i) sc]).run P w.drew= .ok (goInt ((n-i:Nat):Int)) (w.drew.setCells b (off+(i+m)*a.size) (cs.drop (i*a.size))):=λty u sc=>
  jl w.drew _ _ ty (ρ.t 9) a b (off+(i+m)*a.size) (n+m-(i+m)) u ⟨b,off+i*a.size,none⟩ (n+m-i) sc (cs.drop (i*a.size)) L.t24 q (m:=n-i) (by simp only[a8t];split<;>omega) Ql
   (λj v p=>by rw[Addr.add_lit,a2o];exact M (i*a.size+j) v (by rwa [a2v]at p))
   (λj p=>by rw[a2o];exact r _ (by omega)) (λj p=>by rw[a2o];exact A _ (by omega)) (λv hv=>O v (List.mem_of_mem_drop hv))
 obtain⟨E,g⟩:∃E,E=w.drew.setCells b (off+(i+m)*a.size) (cs.drop (i*a.size)):=⟨_,rfl⟩;have F:∀k,k<(n+m)*a.size->(E.cell? ⟨b,off+k,none⟩).isSome=true:=λk hk=>by
  rw[g];exact isSome_setCells b _ _ _ (λj p=>by rw[a2o];exact r _ (by omega)) _ (r k hk)
 have G:∀(W:World),(∀x,W.cell? x=E.cell? x)->(∀x,W.frozen? x=E.frozen? x)->∀ty u,(Builtin.copy_ #[(ρ.t 24),(ρ.t 24)] ty #[.slice (some ⟨b,off+i*a.size,none⟩) (n+m-i) u,.slice (some ⟨l,d,none⟩) m y]).run P W= .ok (goInt m) (W.setCells b (off+i*a.size) vs):=λW H Qm ty u=>
  jl W _ _ ty (ρ.t 9) a b (off+i*a.size) (n+m-i) u ⟨l,d,none⟩ m y vs L.t24 q (m:=m) (by simp only[a8t];split<;>omega) K
   (λj v p=>by
    rw[Addr.add_lit,H,g,World.cell?_setCells_out b _ _ _ _ (λh _=>absurd h z)];exact N j v p)
   (λj p=>by rw[H,a2o];exact F _ (by omega)) (λj p=>by rw[Qm,g,World.frozen?_setCells,a2o];exact A _ (by omega)) Q
 rw[<-g]at o;clear D B C s
 go_enter FG,Body2.n22_ntmps ρ
 go_wp2_with (simp only[Z])
 go_region_law_o (refine step_copy_runI rfl _ _ (ρ.t 24) (ρ.t 24) rfl _ _ (by simp[Act.eval,Act.put]) (by simp[Act.eval,Act.put]) (o _ _ _) ?_)
 go_wp2_with (at_builtin;refine wpList_copy_runI _ rfl _ _ (ρ.t 24) (ρ.t 24) rfl _ _ rfl rfl (G _ (λ_=>rfl) (λ_=>rfl) _ _) ?_)
 go_ret
 first|exact⟨rfl,rfl⟩|exact⟨rfl,by rw[g]⟩
set_option maxHeartbeats 4000000 in
set_option maxRecDepth 100000 in
def Mn (L:oS P ρ) (a:TypeInfo) (z:Value) (r:P.info? (ρ.t 9)=some a) (U:a.zero=some z) (V:z.cells.size=a.size) (B:0<a.size) (b off n c i u g m X:Nat) (cs vs:List Value) (w:World) (hi:i<n) (hm:0<m) (Q4:n<=c) (C:c<n+m) (J:(n+m)*a.bytes<=140737488355328) (Q5:n+m<=4611686018427387904)
 (Y:cs.length=n*a.size) (Z:vs.length=m*a.size)
 (D:∀j v,cs[j]?=some v->w.cell? ⟨b,off+j,none⟩=some v)
 (K:∀j v,vs[j]?=some v->w.cell? ⟨u,g+j,none⟩=some v) (Ql:∀v∈cs,v.oneCell'=true) (Qm:∀v∈vs,v.oneCell'=true):
 Calls P (ρ.f 22) #[.slice (some ⟨b,off,none⟩) n c,.int .i64 i,.slice (some ⟨u,g,none⟩) m X] w λe w'=>
  e= .returned (.slice (some ⟨w.heap.size,0,none⟩) (n+m) (grownCap w (n+m) c (ρ.t 9)))/\
  w'=(((w.alloc (.cells ((cs.take (i*a.size)).toArray++Builtin.zeroCells z.cells (n+m-i)++Builtin.zeroCells z.cells (grownCap w (n+m) c (ρ.t 9)-(n+m))) (ρ.t 9))).drew.setCells w.heap.size (i*a.size) vs).drew).setCells w.heap.size ((i+m)*a.size) (cs.drop (i*a.size)):=by
 have t0:=L.t0;have a0:=L.a0;have z0:=L.z0;have v0:=L.v0;have t3:=L.t3;have a3:=L.a3;have z3:=L.z3;have v3:=L.v3;have t4:=L.t4;have a4:=L.a4;have z4:=L.z4;have v4:=L.v4;have Q6:=L.t24;have Q7:=L.a24;have Q8:=L.z24;have Q9:=L.v24;have u0:=run_underlying L.t0;have u3:=run_underlying L.t3;have u4:=run_underlying L.t4;have Ra:=run_underlying L.t24;have mixed:=L.mixed;have z9:∀w,(Go.sizeOf (ρ.t 9)).run P w= .ok a.size w:=λw=>by simp[Go.sizeOf,typeInfo,r]
 obtain⟨_,_,FG⟩:=L.f22;have Rb:¬((m:Int)=0):=by omega
 have Rc:¬((i:Int)=(n:Int)):=by omega
 have Rd:(c:Int)<(n:Int)+(m:Int):=by omega
 have M:i*a.size<=n*a.size:=a0p _ (by omega);have N:(n+m)*a.size=n*a.size+m*a.size:=a1d _ _ _;have E:(i+m)*a.size=i*a.size+m*a.size:=a1d _ _ _;have Qn:(cs.drop (i*a.size)).length=(n-i)*a.size:=by rw[a2u,Y,Nat.sub_mul]
 have O:(n-i)*a.size+i*a.size=n*a.size:=by rw[<-a1d];congr 1;omega
 have Qo:1*1<=n*a.size:=a8p (by omega) B;have Qp:1*1<=m*a.size:=a8p hm B;have Qq:b<w.heap.size:=block_lt_of_cell (D 0 _ (a0a (by omega)));have Qr:u<w.heap.size:=block_lt_of_cell (K 0 _ (a0a (by omega)));have Q:(n:Int)+(m:Int)-(i:Int)=((n+m-i:Nat):Int):=by omega
 have F:i+(n+m-i)=n+m:=by omega
 have y:(Builtin.firstCells a.size i (.slice (some ⟨b,off,none⟩) i c)).run P w.drew= .ok (cs.take (i*a.size)).toArray w.drew:=run_firstCells_some w.drew a.size i ⟨b,off,none⟩ i c (cs.take (i*a.size)) (by rw[a1m];omega) (λj v k=>by
  rw[Addr.add_lit];rw[a4i]at k;split at k
  ·exact D j v k
  ·cases k)
 have s:∀ty,(Builtin.append_ #[(ρ.t 24),(ρ.t 3)] ty #[.slice (some ⟨b,off,none⟩) i c,.int .i64 ((n:Int)+(m:Int)-(i:Int))]).run P w= .ok (.slice (some ⟨w.heap.size,0,none⟩) (n+m) (grownCap w (n+m) c (ρ.t 9))) (w.drew.alloc (.cells ((cs.take (i*a.size)).toArray++Builtin.zeroCells z.cells (n+m-i)++Builtin.zeroCells z.cells (grownCap w (n+m) c (ρ.t 9)-(n+m))) (ρ.t 9))):=λty=>by
  have h:=Lib.run_append_grow_zeros w (ρ.t 24) (ρ.t 3) ty (ρ.t 9) a z .i64 .i64 L.t24 L.t3 r U (some ⟨b,off,none⟩) i c (cs.take (i*a.size)) y (n+m-i) (by omega) B (by omega) (by omega)
   (by
    have:(n+m-i)*a.bytes<=(n+m)*a.bytes:=a0p _ (by omega)
    omega) (by rw[F];exact growslice_fits C J)
  rw[F]at h;rw[Q];exact h
 obtain⟨G,T⟩:∃G,G=grownCap w (n+m) c (ρ.t 9):=⟨_,rfl⟩;obtain⟨d,o⟩:∃d:Array Value,d=(cs.take (i*a.size)).toArray++Builtin.zeroCells z.cells (n+m-i)++Builtin.zeroCells z.cells (G-(n+m)):=⟨_,rfl⟩;rw[<-T]at s⊢;rw[<-o]at s⊢;have Qt:(n+m)*a.size<=d.size:=by
  rw[o];simp only[a3e,a2t,a1m,dV,V];have h1:(n+m-i)*a.size+i*a.size=(n+m)*a.size:=by rw[<-a1d];congr 1;omega
  omega
 obtain⟨q,l⟩:∃q,q=w.drew.alloc (.cells d (ρ.t 9)):=⟨_,rfl⟩;rw[<-l]at s;have hN:∀j,j<(n+m)*a.size->(q.cell? ⟨w.heap.size,j,none⟩).isSome=true:=λj k=>by
  rw[l,World.cell?_alloc_at (w:=w.drew) d _ w.heap.size j rfl,a1n (by omega)];rfl
 have R:∀j,q.frozen? ⟨w.heap.size,j,none⟩=false:=λj=>by rw[l];exact World.frozen?_alloc_at (w:=w.drew) d _ w.heap.size j rfl
 have Qu:∀j v,w.cell? ⟨b,j,none⟩=some v->q.cell? ⟨b,j,none⟩=some v:=λj v h=>by rw[l,World.cell?_alloc_past (w:=w.drew) _ b j Qq];exact h
 have Qv:∀j v,w.cell? ⟨u,j,none⟩=some v->q.cell? ⟨u,j,none⟩=some v:=λj v h=>by rw[l,World.cell?_alloc_past (w:=w.drew) _ u j Qr];exact h
 have Re:n+m<=G:=by rw[T];exact grownCap_ge w _ _ _
 have Q2:G<=9223372036854775807:=by
  have:=grownCap_le_maxLen w (n+m) c (ρ.t 9) (by unfold maxLen;omega);rw[<-T]at this;unfold maxLen at this;omega
 have Rf:¬(G=i):=by omega
 have Q3:¬(G=i+m):=by omega
 have Rg:¬(c=i):=by omega
 have Qw:b≠w.heap.size:=by omega
 have S:∀(W:World),(∀x,W.cell? x=q.cell? x)->(∀x,W.frozen? x=q.frozen? x)->∀ty H,(Builtin.copy_ #[(ρ.t 24),(ρ.t 24)] ty #[.slice (some ⟨w.heap.size,i*a.size,none⟩) (n+m-i) H,.slice (some ⟨u,g,none⟩) m X]).run P W= .ok (goInt m) (W.setCells w.heap.size (i*a.size) vs):=λW p I ty H=>
  jl W _ _ ty (ρ.t 9) a w.heap.size (i*a.size) (n+m-i) H ⟨u,g,none⟩ m X vs L.t24 r (m:=m) (by simp only[a8t];split<;>omega) Z
   (λj v k=>by rw[Addr.add_lit,p];exact Qv _ v (K j v k))
   (λj k=>by rw[p];exact hN _ (by omega)) (λj k=>by rw[I];exact R _) Qm
 have A:∀(W:World),(∀x,W.cell? x=(q.setCells w.heap.size (i*a.size) vs).cell? x)->(∀x,W.frozen? x=(q.setCells w.heap.size (i*a.size) vs).frozen? x)->∀ty H sc,(Builtin.copy_ #[(ρ.t 24),(ρ.t 24)] ty #[.slice (some ⟨w.heap.size,(i+m)*a.size,none⟩) (n+m-(i+m)) H,.slice (some ⟨b,off+i*a.size,none⟩) (n-i) sc]).run P W= .ok (goInt ((n-i:Nat):Int)) (W.setCells w.heap.size ((i+m)*a.size) (cs.drop (i*a.size))):=λW p I ty H sc=>
  jl W _ _ ty (ρ.t 9) a w.heap.size ((i+m)*a.size) (n+m-(i+m)) H ⟨b,off+i*a.size,none⟩ (n-i) sc (cs.drop (i*a.size)) L.t24 r (m:=n-i) (by simp only[a8t];split<;>omega) Qn
   (λj v k=>by
    rw[Addr.add_lit,p,World.cell?_setCells_out _ _ _ _ _ (λh _=>absurd h Qw),a2o];exact Qu _ v (D (i*a.size+j) v (by rwa [a2v]at k)))
   (λj k=>by rw[p];exact isSome_setCells _ _ _ _ (λt ht=>hN _ (by omega)) _ (hN _ (by omega)))
   (λj k=>by rw[I,World.frozen?_setCells];exact R _) (λv hv=>Ql v (List.mem_of_mem_drop hv))
 subst l;have Qy:∀x,((w.alloc (.cells d (ρ.t 9))).drew).cell? x=(w.drew.alloc (.cells d (ρ.t 9))).cell? x:=λx=>rfl
 have Qz:∀x,((w.alloc (.cells d (ρ.t 9))).drew).frozen? x=(w.drew.alloc (.cells d (ρ.t 9))).frozen? x:=λx=>rfl
 have Q0:∀x,(((w.alloc (.cells d (ρ.t 9))).drew.setCells w.heap.size (i*a.size) vs).drew).cell? x=((w.drew.alloc (.cells d (ρ.t 9))).setCells w.heap.size (i*a.size) vs).cell? x:=λx=>rfl
 have Q1:∀x,(((w.alloc (.cells d (ρ.t 9))).drew.setCells w.heap.size (i*a.size) vs).drew).frozen? x=((w.drew.alloc (.cells d (ρ.t 9))).setCells w.heap.size (i*a.size) vs).frozen? x:=λx=>rfl
 have Rh:IntKind.i64.wrap ((i:Int)+(m:Int))=(i:Int)+(m:Int):=by rw[IntKind.wrap_i64];omega
 have Ri:(0:Int)<=(i:Int)+(m:Int):=by omega
 have Rj:i<=n:=by omega
 have Rk:((i:Int)+(m:Int)).toNat=i+m:=by omega
 have Rl:(i:Int)<=(n:Int):=by omega
 clear Q F y o T Qt O M N E Qo Qp
 go_enter FG,Body2.n22_ntmps ρ
 go_wp2_with (first
  |(at_builtin;refine Lib.wpList_append_run _ rfl _ _ _ _ rfl _ _ rfl rfl _ _ (s _) ?_)
  |(at_builtin;refine wpList_copy_runI _ rfl _ _ (ρ.t 24) (ρ.t 24) rfl _ _ rfl rfl (S _ Qy Qz _ _) ?_)
  |(at_builtin;refine wpList_copy_runI _ rfl _ _ (ρ.t 24) (ρ.t 24) rfl _ _ rfl rfl (A _ (λ_=>rfl) (λ_=>rfl) _ _ _) ?_))
 go_region_law_o (refine step_copy_runI rfl _ _ (ρ.t 24) (ρ.t 24) rfl (.slice (some ⟨w.heap.size,(i+m)*a.size,none⟩) (n+m-(i+m)) (G-(i+m))) (.slice (some ⟨b,off+i*a.size,none⟩) (n-i) (c-i)) (by simp[Act.eval,Act.put]) (by simp[Act.eval,Act.put]) (A _ Q0 Q1 (ρ.t 3) (G-(i+m)) (c-i)) ?_)
 go_wp2
 go_ret
 exact⟨rfl,rfl⟩
end
def iD.A (k:Kd):Sh:= .cons (.own k) (.cons (.pur (.int .i64)) (.cons (.own k) .nil))
def iD.R (k:Kd):Sh:= .cons (.own k) .nil
def iD (k:Kd) (a:Nat):(List k.T×Int×List k.T×Unit)->Option ((List k.T×Unit)×(Unit×Unit×Unit×Unit)):=λx=>
 if 0<=x.2.1/\x.2.1<=x.1.length/\0<x.2.2.1.length/\(x.1.length+x.2.2.1.length)*a<=140737488355328 then some ((x.1.take x.2.1.toNat++x.2.2.1++x.1.drop x.2.1.toNat,()),((),(),(),()))else none
def D3 {w:World} {b o n:Nat} {r:Array Value} (h:ap w.heap b=some r) {j:Nat} {v:Value} (a:(bP r o n)[j]?=some v):w.cell? ⟨b,o+j,none⟩=some v:=by
 rw[bL h,<-a];by_cases c:j<n
 ·rw[aM c]
 ·rw[kn (by omega)]at a;cases a
def Mo {r:Array Value} {o n p:Nat} (h:p<=n):(bP r o n).drop p=bP r (o+p) (n-p):=by
 apply a2g;intro i;rw[a2v];by_cases a:i<n-p
 ·rw[aM (by omega),aM a,a2o]
 ·rw[kn (by omega),kn (by omega)]
def Mp {r:Array Value} {o n p:Nat} (h:p<=n):(bP r o n).take p=bP r o p:=by
 apply a2g;intro i;by_cases a:i<p
 ·rw[a5f a,aM (by omega),aM a]
 ·rw[List.getElem?_take_eq_none (by omega),kn (by omega)]
def Gx {α:Type} {R:α->List Value->Prop} {n:Nat} {l:List α} {r:Array Value} {o i:Nat} (h:bA R n l r o) (a:i<=l.length):bA R n (l.take i) r o:=by
 have:=h.part (off:=0) (len:=i) (by omega);simpa [aQ]using this
def Gy {α:Type} {R:α->List Value->Prop} {n:Nat} {l:List α} {r:Array Value} {o i:Nat} (h:bA R n l r o) (a:i<=l.length):bA R n (l.drop i) r (o+i*n):=by
 have:=h.part (off:=i) (len:=l.length-i) (by omega);have e:aQ l i (l.length-i)=l.drop i:=by
  unfold aQ;rw[a4b (by simp)]
 rwa [e]at this
def lg {α:Type} {R:α->List Value->Prop} {n:Nat} {l y:List α} {r d Z:Array Value} {o e O i:Nat} (h:bA R n l r o) (g:bA R n y d e) (b:i<=l.length) (c:O+(l.length+y.length)*n<=Z.size) (j:bP Z O (i*n)=bP r o (i*n)) (k:bP Z (O+i*n) (y.length*n)=bP d e (y.length*n)) (f:bP Z (O+(i+y.length)*n) ((l.length-i)*n)=bP r (o+i*n) ((l.length-i)*n)):bA R n (l.take i++y++l.drop i) Z O:=by
 have m:i*n<=l.length*n:=a0p _ b;have p:(l.length-i)*n+i*n=l.length*n:=by rw[<-a1d];congr 1;omega
 rw[a1d]at c;rw[a1d]at f;have a:(l.take i).length=i:=by rw[a1m];omega
 refine bA.append (bA.append ((Gx h b).congr ?_ ?_) (g.congr ?_ ?_)) ((Gy h b).congr ?_ ?_)
 ·rw[a];omega
 ·rw[a];exact j
 ·rw[a];omega
 ·rw[a];exact k
 ·rw[a0m,a,a2u,a1d];omega
 ·rw[a0m,a,a2u,a1d];exact f
def Oc {F:Nat->Prop} {e:List Nat} {k:Kd} (m:k.good=true) {f:List k.T} {w g:World} {B O c:Nat} {Z:Array Value} {et:TypeId} (o:B∈e\/w.heap.size<=B) (p:g.heap[B]?=some (.cells Z et (0,0)))
 (i:bA (λx cs=>cz w.heap (λb=>¬FP F e b) k x cs) k.n f Z O) (q:f.length<=c) (a:O+c*k.n<=Z.size) (d:∀b r,b∉e->ap w.heap b=some r->ap g.heap b=some r) (s:∀b∈e,¬F b) (u:∀b,F b->b<w.heap.size):
 cq g.heap (λb=>¬FP F [B] b) (iD.R k) (f,()) [.slice (some ⟨B,O,none⟩) f.length c] [B]:=by
 refine⟨_,[],[B],[],rfl,rfl,⟨_,rfl,m,_,_,rfl,q,.inr ⟨B,O,Z,et,rfl,rfl,p,i.mono λx cs t=>cz.mono (λb r j l=>⟨λh3=> ?_,d b r (λh=>j (.inr h)) l⟩) _ t,a⟩⟩,rfl,rfl⟩;rcases h3 with h3|h3
 ·exact j (.inl h3)
 ·simp only[a1c]at h3
  subst h3;rcases o with h4|h4
  ·exact j (.inr h4)
  ·have:=cE l;omega
def Mq {A B:List Value} {Z:Array Value}:bP ((A++B).toArray++Z) A.length B.length=B:=by
 simp[bP]
def Od {A:List Value} {Y Z:Array Value}:bP (A.toArray++Y++Z) 0 A.length=A:=by
 simp[bP]
def Oe {A B:List Value} {Z:Array Value}:bP ((A++B).toArray++Z) 0 A.length=A:=by
 simp[bP]
def oe {F:Nat->Prop} {e:List Nat} {k:Kd} (s:k.good=true) {i:List k.T} {w f:World} {B O c n:Nat} {Z:Array Value} {et:TypeId} {t u v:Value} {m:Ending} (y:i.length=n) (z:m= .returned (.slice (some ⟨B,O,none⟩) n c)) (o:B∈e\/w.heap.size<=B) (h:f.heap[B]?=some (.cells Z et (0,0)))
 (j:bA (λx cs=>cz w.heap (λb=>¬FP F e b) k x cs) k.n i Z O) (C:n<=c) (g:O+c*k.n<=Z.size) (d:fh (·∈e) w f) (l:∀b∈e,¬F b) (D:∀b,F b->b<w.heap.size):
 ∃p fp1 a,m= .returned (Gi p)/\cq f.heap (λb=>¬FP F (fp1++a) b) (iD.R k) (i,()) p fp1/\gJ f.heap (λb=>¬FP F (fp1++a) b) (iD.A k) ((),(),(),()) [t,u,v] a/\(fp1++a).Nodup/\(∀b∈fp1++a,b∈e\/w.heap.size<=b)/\fh (·∈e) w f:=by
 subst y;subst z;refine⟨[_],[B],[],rfl,Oc s o h j C g (λb r E q=> ?_) l D,⟨_,_,[],[],rfl,rfl,.inl ⟨rfl,rfl⟩,_,_,[],[],rfl,rfl,.inl ⟨rfl,rfl⟩,_,_,[],[],rfl,rfl,.inl ⟨rfl,rfl⟩,rfl,rfl⟩,by simp,λb h=> ?_,d⟩
 ·unfold ap at*
  rw[d.heap b (cE (r:=r) q) E];exact q
 ·simp only[a2b,a1c]at h
  subst h;exact o
def oT {a:List Nat} {w w1:World} {B:Nat} (c:fh (·∈a) w w1) (d:B∈a\/w.heap.size<=B) (o:Nat) (vs:List Value):fh (·∈a) w (w1.setCells B o vs):=c.trans (gQ (I:=λb=>b=B) rfl w1 o vs) λb e=>e▸d
def I9 {P:Program} {ρ:Ren} {L:List (Nat×Obj)} (hL:oS P ρ) {k:Kd} {e:TypeId} (T:ρ.t 9=e) (Ri:kc P e k=true) {f:FuncId} (hf:ρ.f 22=f) {fn:Func} (Rj:P.funcs[f]?=some fn) (Q3:(fn.name== "runtime.NumGoroutine")=false) (Q4:fn.body.isNone=false):aA P L f ⟨iD.A k,iD.R k,iD k (c7 P e),[]⟩:=by
 refine⟨⟨fn,Rj,Q3,Q4⟩,λw F x vs fp y hF R3 Rk Ql Rl hy _=> ?_⟩;obtain⟨l,(i:Int),c,⟨⟩⟩:=x;obtain⟨v1,r1,f1,f2,rfl,rfl,⟨R4,Rm,s,a1,c1,rfl,Q9,e1⟩,h2⟩:=Rl
 cases Rm
 obtain⟨v2,r2,rfl,p2,h3⟩:=lQ h2;obtain⟨v3,r3,f3,f4,rfl,rfl,⟨R5,Rn,_,a3,c3,rfl,R1,e3⟩,h4⟩:=h3
 cases Rn
 obtain⟨rfl,rfl⟩:=oR h4;obtain rfl:=qO p2;simp only[iD]at hy;split at hy
 ·rename_i hc
  obtain⟨R6,Ro,N,Q0⟩:=hc
  cases hy
  obtain⟨_,Qm,_,Qn,i9,z,Qo,Q5,H,Rp,Qv⟩:=fk Ri;subst T;subst hf;rw[Rp]at Q0 Qn;obtain⟨m,rfl⟩:∃n:Nat,i=(n:Int):=⟨i.toNat,by omega⟩;have E:m<=l.length:=by exact_mod_cast Ro
  have Q:(l.length+c.length)*i9.bytes<=140737488355328:=by exact_mod_cast Q0
  have Qw:l.length+c.length<=4611686018427387904:=by
   have:(l.length+c.length)*1<=(l.length+c.length)*i9.bytes:=Nat.mul_le_mul_left _ Qn;omega
  simp only[a0g];rcases e3 with⟨_,rfl,_⟩|⟨W,u,G,Ra,rfl,rfl,Qy,C,Rq⟩
  ·simp at N
  have Rr:=aO Qy;have p:(bP G u (c.length*k.n)).length=c.length*k.n:=aY C.1;have J:(bP G u (c.length*k.n)).length=c.length*i9.size:=by rw[p,H]
  have Qp:∀j v,(bP G u (c.length*k.n))[j]?=some v->w.cell? ⟨W,u+j,none⟩=some v:=λj v hj=>D3 Rr hj
  have Qq:=rQ Qm C;have U:(l.take m++c++l.drop m).length=l.length+c.length:=by simp;omega
  have Q6:∀K,(K-(l.length+c.length))*k.n+(l.length+c.length)*k.n=max K (l.length+c.length)*k.n:=λK=>by rw[<-a1d];congr 1;omega
  have Rs:(l.length+c.length)*k.n=l.length*k.n+c.length*k.n:=a1d _ _ _;rcases e1 with⟨rfl,rfl,rfl,rfl⟩|⟨b,o,r,et,rfl,rfl,hb,X,Q1⟩
  ·
   obtain rfl:m=0:=by simpa using E
   refine(qR hL i9 z Qo Q5 none 0 0 W u c.length c3 [] (bP G u (c.length*k.n)) w N (by omega) (by omega) (by simpa using Q) (by omega) (by simp) J (λ_=>rfl) (λa ha=>by cases ha) Qp Qq).mono λe' w' ⟨T,V⟩=> ?_
   have hg:=grownCap_ge w (0+c.length) 0 (ρ.t 9)
   generalize grownCap w (0+c.length) 0 (ρ.t 9)=K at hg T V
   subst V;refine oe s (n:=0+c.length) (by simp) T (.inr (a1l _)) (cI w.drew _) ?_ hg ?_ ((jW _ _).trans (km (λ_=>False) _ _) (λ_ h=>h.elim)) Ql hF
   ·have Rb:bA (λx cs=>cz w.heap (λb=>¬FP F ([]++([]++(W::[]++[]))) b) k x cs) k.n c (([]++bP G u (c.length*k.n)).toArray++Builtin.zeroCells z.cells (K-(0+c.length))) 0:=by
     refine C.congr ?_ ?_
     ·simp only[a2m,a3e,a2t,p];omega
     ·have:=Mq (A:=[]) (B:=bP G u (c.length*k.n)) (Z:=Builtin.zeroCells z.cells (K-(0+c.length)))
      rwa [p]at this
    simpa using Rb
   ·have:=Q6 K
    simp only[a0q,a1o]at this Rs hg⊢;simp only[a2m,a3e,a2t,p,dV,Qv];rw[a8i hg]at this;omega
  ·have hr:=aO hb
   have S:(bP r o (l.length*k.n)).length=l.length*k.n:=aY X.1;have Qr:(bP r o (l.length*k.n)).length=l.length*i9.size:=by rw[S,H]
   have Q7:∀j v,(bP r o (l.length*k.n))[j]?=some v->w.cell? ⟨b,o+j,none⟩=some v:=λj v hj=>D3 hr hj
   have Rc:=rQ Qm X;have Qt:b∈(b::[]++([]++(W::[]++[]))):=by simp
   have R2:W∈(b::[]++([]++(W::[]++[]))):=by simp
   have Rt:W≠b:=by
    intro h;subst h;simp at Rk
   by_cases Rd:m=l.length
   ·subst Rd
    by_cases q:l.length+c.length<=c1
    ·have Re:(l.length+c.length)*k.n<=c1*k.n:=a0p _ q
     refine(Ch hL i9 Qo b o l.length c1 W u c.length c3 (bP G u (c.length*k.n)) w N q Qw J (λj hj=> ?_) (λj hj=> ?_) Qp Qq).mono λe' w' ⟨T,V⟩=> ?_
     ·rw[H,bL hr];rw[p]at hj;simp;omega
     ·unfold World.frozen?;rw[hb];simp
     ·subst V
      rw[H];have M:o+l.length*k.n+(bP G u (c.length*k.n)).length<=r.size:=by rw[p];omega
      refine oe s (n:=l.length+c.length) U T (.inl Qt) (cS _ _ w hb M) ?_ q (by rw[bN M];exact Q1) (gQ (I:=(·∈_)) Qt w _ _) Ql hF
      refine lg X C E (by rw[bN M];omega) (b8 M (by omega)) ?_ (by simp[bP])
      have:=eL M
      rwa [p]at this
    ·refine(qR hL i9 z Qo Q5 (some ⟨b,o,none⟩) l.length c1 W u c.length c3 (bP r o (l.length*k.n)) (bP G u (c.length*k.n)) w N Q9 (by omega) Q Qw Qr J (λh=>by cases h) (λa ha j v hj=>by cases ha;rw[Addr.add_lit];exact Q7 j v hj) Qp Qq).mono λe' w' ⟨T,V⟩=> ?_
     have hg:=grownCap_ge w (l.length+c.length) c1 (ρ.t 9)
     generalize grownCap w (l.length+c.length) c1 (ρ.t 9)=K at hg T V
     subst V;refine oe s (n:=l.length+c.length) U T (.inr (a1l _)) (cI w.drew _) ?_ hg ?_ ((jW _ _).trans (km (λ_=>False) _ _) (λ_ h=>h.elim)) Ql hF
     ·refine lg X C E ?_ ?_ ?_ (by simp[bP])
      ·simp only[a3e,a2t,a0m,S,p];omega
      ·have:=Oe (A:=bP r o (l.length*k.n)) (B:=bP G u (c.length*k.n)) (Z:=Builtin.zeroCells z.cells (K-(l.length+c.length)))
       rwa [S]at this
      ·have:=Mq (A:=bP r o (l.length*k.n)) (B:=bP G u (c.length*k.n)) (Z:=Builtin.zeroCells z.cells (K-(l.length+c.length)))
       rw[S,p]at this
       rwa [a1o]
     ·have:=Q6 K
      rw[a8i hg]at this;simp only[a3e,a2t,a0m,S,p,dV,Qv];omega
   ·have Rf:m<l.length:=by omega
    have Q2:m*k.n<=l.length*k.n:=a0p _ E;have Ru:(m+c.length)*k.n=m*k.n+c.length*k.n:=a1d _ _ _;have hd:(l.length-m)*k.n+m*k.n=l.length*k.n:=by rw[<-a1d];congr 1;omega
    have Qz:((bP r o (l.length*k.n)).drop (m*k.n)).length=(l.length-m)*k.n:=by rw[a2u,S];omega
    have Rg:(bP r o (l.length*k.n)).drop (m*k.n)=bP r (o+m*k.n) ((l.length-m)*k.n):=by rw[Mo Q2];congr 1;omega
    by_cases q:l.length+c.length<=c1
    ·have Re:(l.length+c.length)*k.n<=c1*k.n:=a0p _ q
     have Rv:w.shape? b=some (et,r.size):=by simp[World.shape?,hb]
     have Rw:w.shape? W=some (Ra,G.size):=by simp[World.shape?,Qy]
     have Rx:r.size≠0:=by
      have:1*1<=c.length*k.n:=a8p N Qm;omega
     refine(I8 hL i9 Qo b o l.length c1 m W u c.length c3 (bP r o (l.length*k.n)) (bP G u (c.length*k.n)) w Rf N q Qw Rt Qr J Q7 (λj hj=> ?_) (λj hj=> ?_) Qp Rc Qq Ra et G.size r.size Rw Rv Rx ?_ ?_).mono λe' w' ⟨T,V⟩=> ?_
     ·rw[bL hr];rw[H]at hj;simp;omega
     ·unfold World.frozen?;rw[hb];simp
     ·unfold World.frozen?;rw[Qy];simp
     ·unfold World.frozen?;rw[Qy];simp
     ·subst V
      rw[H];have d:o+(m+c.length)*k.n+((bP r o (l.length*k.n)).drop (m*k.n)).length<=r.size:=by rw[Qz];omega
      have Q8:=cS _ _ w.drew (r:=r) (et:=et) (f:=(0,0)) hb d;have g:o+m*k.n+(bP G u (c.length*k.n)).length<=(nh r (o+(m+c.length)*k.n) ((bP r o (l.length*k.n)).drop (m*k.n))).size:=by rw[bN d,p];omega
      refine oe s (n:=l.length+c.length) U T (.inl Qt) (cS _ _ _ Q8 g) ?_ q (by rw[bN g,bN d];exact Q1) (oT (oT (jW _ _) (.inl Qt) _ _) (.inl Qt) _ _) Ql hF
      refine lg X C E (by rw[bN g,bN d];omega) ?_ ?_ ?_
      ·rw[b8 g (by omega),b8 d (by omega)]
      ·have:=eL g
       rwa [p]at this
      ·rw[iz g (by rw[p];omega)]
       have:=eL d;rw[Qz]at this;rw[this,Rg]
    ·have Rh:((bP r o (l.length*k.n)).take (m*k.n)).length=m*k.n:=by rw[a1m,S];omega
     refine(Mn hL i9 z Qo Q5 (by rw[Qv,H]) (by omega) b o l.length c1 m W u c.length c3 (bP r o (l.length*k.n)) (bP G u (c.length*k.n)) w Rf N Q9 (by omega) Q Qw Qr J Q7 Qp Rc Qq).mono λe' w' ⟨T,V⟩=> ?_
     have hg:=grownCap_ge w (l.length+c.length) c1 (ρ.t 9)
     generalize grownCap w (l.length+c.length) c1 (ρ.t 9)=K at hg T V
     rw[H]at V;obtain⟨D,Qu⟩:∃D:Array Value,D=((bP r o (l.length*k.n)).take (m*k.n)).toArray++Builtin.zeroCells z.cells (l.length+c.length-m)++Builtin.zeroCells z.cells (K-(l.length+c.length)):=⟨_,rfl⟩;have Ry:D.size=max K (l.length+c.length)*k.n:=by
      have h1:(l.length+c.length-m)*k.n+m*k.n=(l.length+c.length)*k.n:=by rw[<-a1d];congr 1;omega
      rw[Qu,<-Q6 K];simp only[a3e,a2t,Rh,dV,Qv];omega
     rw[a8i hg]at Ry;have R7:(l.length+c.length)*k.n<=K*k.n:=a0p _ hg;have Rz:bP D 0 (m*k.n)=bP r o (m*k.n):=by
      rw[Qu];have:=Od (A:=(bP r o (l.length*k.n)).take (m*k.n)) (Y:=Builtin.zeroCells z.cells (l.length+c.length-m)) (Z:=Builtin.zeroCells z.cells (K-(l.length+c.length)));rw[Rh]at this;rw[this];exact Mp Q2
     rw[<-Qu]at V;subst V;have k2:fh (·∈(b::[]++([]++(W::[]++[])))) w (w.alloc (.cells D (ρ.t 9))).drew:=fh.trans (km _ w _) (jW (λ_=>False) _) (λ_ h=>h.elim);have k3:=oT k2 (.inr (a1l _)) (m*k.n) (bP G u (c.length*k.n));have R0:(w.alloc (.cells D (ρ.t 9))).drew.heap[w.heap.size]?=some (.cells D (ρ.t 9) (0,0)):=cI w _;have d:m*k.n+(bP G u (c.length*k.n)).length<=D.size:=by rw[p];omega
     have Q8:=cS _ _ (w.alloc (.cells D (ρ.t 9))).drew R0 d;have g:(m+c.length)*k.n+((bP r o (l.length*k.n)).drop (m*k.n)).length<=(nh D (m*k.n) (bP G u (c.length*k.n))).size:=by rw[bN d,Qz];omega
     refine oe s (n:=l.length+c.length) (O:=0) U T (.inr (a1l _)) (cS _ _ _ Q8 g) ?_ hg (by rw[bN g,bN d];omega) (oT (fh.trans k3 (jW (λ_=>False) _) (λ_ h=>h.elim)) (.inr (a1l _)) _ _) Ql hF
     refine lg X C E (by rw[bN g,bN d];omega) ?_ ?_ ?_
     ·rw[b8 g (by omega),b8 d (by omega)]
      exact Rz
     ·rw[b8 g (by omega),a1o]
      have:=eL d
      rwa [p]at this
     ·have:=eL g
      rw[Qz]at this;rw[a1o,this,Rg]
 ·cases hy
end Go.Pev
section
open Go Go.Proofs Go.Pev Go.Shelf Go.Lib
namespace Go.Pev.F.Lb
set_option maxRecDepth 100000
def slices_Insert_impl_Part_impl_Part.ren:Ren:=⟨λ|22=>307|29=>355|30=>356|n=>n,λ|0=>0|3=>3|4=>4|9=>51|24=>53|n=>n,λn=>n⟩
def slices_Insert_impl_Part_impl_Part.lays:oS Tryz.prog slices_Insert_impl_Part_impl_Part.ren:= {
 mixed:=by kernel_rfl
 f22:=⟨"slices.Insert[[]loop.example/g00719/impl.Part,loop.example/g00719/impl.Part]",by kernel_rfl,Tryz.func307.trans (a1v some (by kernel_rfl))⟩
 ov:=λw c a m d b off f g h i j k l n o p q r=>by
  show(callFunc 355 _).run Tryz.prog w=_
  rw[run_callFunc_extern Tryz.func355 (by kernel_rfl) (by kernel_rfl) (by kernel_rfl) (e:=Extern.SlicesOverlaps.overlaps #[53,53] #[4]) (by kernel_rfl),Lib.run_overlaps_apart w 53 4 51 Tryz.underlying53 2 Tryz.sizeOf51 ⟨c,a,none⟩ ⟨b,off,none⟩ m d f g l h i j k n o p q r]
  rfl
 t0:=Tryz.underlying0
 a0:=Tryz.isAgg0
 z0:=Tryz.sizeOf0
 v0:=Tryz.zeroValue0
 t3:=Tryz.underlying3
 a3:=Tryz.isAgg3
 z3:=Tryz.sizeOf3
 v3:=Tryz.zeroValue3
 t4:=Tryz.underlying4
 a4:=Tryz.isAgg4
 z4:=Tryz.sizeOf4
 v4:=Tryz.zeroValue4
 t24:=Tryz.underlying53
 a24:=Tryz.isAgg53
 z24:=Tryz.sizeOf53
 v24:=Tryz.zeroValue53}
def slices_Insert_impl_Part_impl_Part.A:Sh:=iD.A (.cons (.sl false (.cons (.int .i64) (.cons (.int .i64) .nil))) (.cons (.sl false (.cons .bool (.cons (.sl false (.cons (.int .i64) (.cons (.int .i64) .nil))) (.cons (.sl false (.cons (.int .i64) (.cons (.int .i64) .nil))) .nil)))) .nil))
def slices_Insert_impl_Part_impl_Part.R:Sh:=iD.R (.cons (.sl false (.cons (.int .i64) (.cons (.int .i64) .nil))) (.cons (.sl false (.cons .bool (.cons (.sl false (.cons (.int .i64) (.cons (.int .i64) .nil))) (.cons (.sl false (.cons (.int .i64) (.cons (.int .i64) .nil))) .nil)))) .nil))
def slices_Insert_impl_Part_impl_Part (_:Nat):((List ((List (Int×Int×Unit))×(List (Bool×(List (Int×Int×Unit))×(List (Int×Int×Unit))×Unit))×Unit))×Int×(List ((List (Int×Int×Unit))×(List (Bool×(List (Int×Int×Unit))×(List (Int×Int×Unit))×Unit))×Unit))×Unit)->Option (((List ((List (Int×Int×Unit))×(List (Bool×(List (Int×Int×Unit))×(List (Int×Int×Unit))×Unit))×Unit))×Unit)×(Unit×Unit×Unit×Unit)):=iD (.cons (.sl false (.cons (.int .i64) (.cons (.int .i64) .nil))) (.cons (.sl false (.cons .bool (.cons (.sl false (.cons (.int .i64) (.cons (.int .i64) .nil))) (.cons (.sl false (.cons (.int .i64) (.cons (.int .i64) .nil))) .nil)))) .nil)) 48
def slices_Insert_impl_Part_impl_Part.sg (k:Nat):jV:=⟨slices_Insert_impl_Part_impl_Part.A,slices_Insert_impl_Part_impl_Part.R,slices_Insert_impl_Part_impl_Part k,[]⟩
def slices_Insert_impl_Part_impl_Part.ok {L:List (Nat×Obj)} (k:Nat):aA Tryz.prog L 307 (slices_Insert_impl_Part_impl_Part.sg k):=
 have h:=I9 (L:=L) slices_Insert_impl_Part_impl_Part.lays (k:=(.cons (.sl false (.cons (.int .i64) (.cons (.int .i64) .nil))) (.cons (.sl false (.cons .bool (.cons (.sl false (.cons (.int .i64) (.cons (.int .i64) .nil))) (.cons (.sl false (.cons (.int .i64) (.cons (.int .i64) .nil))) .nil)))) .nil))) (e:=51) rfl (by kernel_rfl) (f:=307) rfl Tryz.func307 (by kernel_rfl) (by kernel_rfl);have a:c7 Tryz.prog 51=48:=by kernel_rfl
 by rw[a]at h;exact h
end Go.Pev.F.Lb
end
namespace Go.Proofs
open Go.Shelf
def Tryz.lays264_ren:Go.Shelf.Ren:=⟨λ|264=>387|n=>n,λ|53=>256|46=>94|n=>n,λ|n=>n⟩
def Tryz.lays264:Go.Proofs.Lays.n264 Tryz.prog Tryz.lays264_ren:= {
 mixed:=by kernel_rfl
 f264:=Tryz.func387.trans (a1v some (by kernel_rfl))
 t46:=Tryz.underlying94
 a46:=Tryz.isAgg94
 z46:=Tryz.sizeOf94
 v46:=Tryz.zeroValue94
 t53:=Tryz.underlying256
 a53:=Tryz.isAgg256
 z53:=Tryz.sizeOf256
 v53:=Tryz.zeroValue256}
open Go.RowKit Go.Lib in
def Tryz.bits_Mul64 (x y:Nat) (a:x<18446744073709551616) (b:y<18446744073709551616) (w:World):Calls Tryz.prog 387 #[.int .u64 x,.int .u64 y] w λe c=>e= .returned (.tuple #[.int .u64 ((x*y/18446744073709551616:Nat):Int),.int .u64 ((x*y % 18446744073709551616:Nat):Int)])/\c=w:=Any.bits_Mul64 Tryz.lays264 x y a b w
end Go.Proofs
section
open Go.Proofs
namespace Go.Pev.F.Lb
def Mul64.A:Sh:= .cons (.pur (.int .u64)) (.cons (.pur (.int .u64)) .nil)
def Mul64.R:Sh:= .cons (.pur (.int .u64)) (.cons (.pur (.int .u64)) .nil)
def Mul64 (_:Nat):(Int×Int×Unit)->Option ((Int×Int×Unit)×(Unit×Unit×Unit)):=λx=>if(0<=x.1/\x.1<18446744073709551616)/\0<=x.2.1/\x.2.1<18446744073709551616 then some ((x.1*x.2.1/18446744073709551616,x.1*x.2.1 % 18446744073709551616,()),((),(),()))else none
def Mul64.sg (k:Nat):jV:=⟨Mul64.A,Mul64.R,Mul64 k,[]⟩
def Mul64.ok {L:List (Nat×Obj)} (k:Nat):aA Tryz.prog L 387 (Mul64.sg k):=Im Tryz.func387 (by kernel_rfl) (by kernel_rfl) rfl λw x vs y F s f c d=>by
 obtain⟨a,b,⟨⟩⟩:=x;obtain⟨t,r,rfl,g,c⟩:=lQ c;obtain⟨u,r,rfl,h,c⟩:=lQ c;obtain⟨rfl,_⟩:=oR c;obtain rfl:=qO g;obtain rfl:=qO h;simp only[Mul64]at d;split at d
 ·rename_i i
  obtain⟨⟨j,a1⟩,l,v⟩:=i
  cases d
  obtain⟨x,rfl⟩:=a7r j;obtain⟨y,rfl⟩:=a7r l;refine(Tryz.bits_Mul64 x y (by omega) (by omega) w).mono λe z ⟨m,n⟩=> ?_
  subst n;refine⟨[_,_],[],m,?_,a2j,λb o=>by simp at o,I5 _⟩;have p:((x:Int)*(y:Int)/18446744073709551616)=((x*y/18446744073709551616:Nat):Int):=by
   rw[<-a6g];omega
  have q:((x:Int)*(y:Int) % 18446744073709551616)=((x*y % 18446744073709551616:Nat):Int):=by
   rw[<-a6g];omega
  simp only[p,q];exact oc tP (oc tP ⟨rfl,rfl⟩)
 ·cases d
end Go.Pev.F.Lb
end
namespace Go.Pev
open Go Go.Proofs Go.Shelf Go.RowKit
def tR.A:Sh:= .cons (.row (.int .i64)) .nil
def tR (_:Nat):(List Int×Unit)->Option (Unit×(List Int×Unit)):=λx=>if 0<x.1.length/\x.1.length<4611686018427387904 then some ((),(x.1.mergeSort (λa b=>decide (a<=b)),()))else none
def tS {w:World} {b o n:Nat} {d:Array Int} {os:Array Obj} {r:Array Value} {et:TypeId} {f:Nat×Nat} (c:w.heap[b]?=some (.cells r et f)):(Go.Sort.grow (Go.Sort.putRow (Value.int .i64) (Go.Sort.ahead w n) b o d) os).heap[b]?=some (.cells (Go.Sort.putCells (Value.int .i64) o d r) et f):=by
 have a:=(a1b.1 c).1;show((w.heap.modify b _)++os)[b]?=_;rw[a4v (by simpa using a),a4f,a0e rfl,c];rfl
def D4 {w:World} {b o n:Nat} {d:Array Int} {os:Array Obj} {I:Nat->Prop} (h:I b):fh I w (Go.Sort.grow (Go.Sort.putRow (Value.int .i64) (Go.Sort.ahead w n) b o d) os):=by
 refine⟨?_,λa i j=> ?_,λa r et f c=> ?_,rfl,rfl,rfl⟩
 ·show w.heap.size<=((w.heap.modify b _)++os).size
  simp
 ·show((w.heap.modify b _)++os)[a]?=_
  rw[a4v (by simpa using i),a4f,a0c (show¬b=a fromλe=>j (e▸h))]
 ·by_cases e:b=a
  ·subst e
   exact⟨_,tS c,by simp[Go.Sort.putCells]⟩
  ·have g:=(a1b.1 c).1
   refine⟨r,?_,rfl⟩;show((w.heap.modify b _)++os)[a]?=_;rw[a4v (by simpa using g),a4f,a0c e,c]
def Of {P:Program} {ρ:Ren} {L:List (Nat×Obj)} (M:SlLaysN.n53 P ρ) (k:Nat) {f:FuncId} (N:ρ.f 53=f) {fn:Func} (D:P.funcs[f]?=some fn) (d:(fn.name== "runtime.NumGoroutine")=false) (g:fn.body.isNone=false):aA P L f ⟨tR.A,.nil,tR k,[]⟩:=by
 refine⟨⟨fn,D,d,g⟩,λw F x vs fp y hF O Q R E v _=> ?_⟩;obtain⟨(l:List Int),⟨⟩⟩:=x;obtain⟨v1,r1,f1,f2,rfl,rfl,⟨T,G,h,a1,c1,rfl,H,U⟩,z⟩:=E
 cases G
 obtain⟨rfl,rfl⟩:=oR z;simp only[tR]at v;split at v
 ·rename_i V
  obtain⟨W,s⟩:=V
  cases v
  subst N;rcases U with⟨_,e,_⟩|⟨b,o,r,et,rfl,rfl,B,m,t⟩
  ·simp only at e;subst e;simp at W
  have X:=aO B;have p:∀j (C:j<l.length),r[o+j]?=some (.int .i64 l[j]):=λj C=>by
   have Y:bP r (o+j*1) 1=[.int .i64 l[j]]:=m.2 j C;have z:(bP r (o+j*1) 1)[0]?=r[o+j*1+0]?:=aM (by omega);rw[Y,a6a,a4d]at z;exact z.symm
  have Z:Go.Sort.Holds (Value.int .i64) w b o l.toArray:=λj C=>by
   have u:j<l.length:=by simpa using C
   refine⟨?_,by unfold World.frozen?;rw[B];simp⟩;rw[bL X,p j u];simp[u]
  have c:(l.mergeSort λa b=>decide (a<=b)).length=l.length:=List.length_mergeSort l;refine(AnyG.slices_Sort_int M b o c1 l w Z (a1b.1 B).1 s).mono λe' w' ⟨he,n,os,hw⟩=> ?_
  subst hw
  generalize hS:(l.mergeSort λa b=>decide (a<=b))=S at c⊢
  have I:o+l.length*1<=r.size:=m.1;rw[a6a]at I;refine⟨[],[],[b],he,⟨rfl,rfl⟩,⟨_,[],[b],[],rfl,rfl,.inr ⟨rfl,_,rfl,h,some ⟨b,o,none⟩,c1,by rw[c],by rw[c];exact H,.inr ⟨b,o,_,et,rfl,rfl,tS B,⟨?_,λi K=> ?_⟩,?_⟩⟩,rfl,rfl⟩,by simp,λb' J=> .inl (by simpa using J),D4 (by simp)⟩
  ·rw[c]
   simpa [Go.Sort.putCells]using m.1
  ·show bP _ (o+i*1) 1=[.int .i64 S[i]]
   have Ql:i<l.length:=by rw[<-c];exact K
   apply a2g;intro q
   cases q with
   |zero=>
    rw[aM (by omega)];have h3:r[o+i]?=some r[o+i]:=a1n (by omega);simp only[Go.Sort.putCells,a6a,a4d,Array.getElem?_mapIdx,h3,a1w,a2t,a1t];rw[a0e (by omega),show o+i-o=i by omega];simp[K]
   |succ q=>rw[kn (by omega)];rfl
  ·simpa [Go.Sort.putCells]using t
 ·cases v
end Go.Pev
section
open Go.Proofs Go.Pev Go.Shelf
namespace Go.Pev.F.Lb
set_option maxRecDepth 100000
def slices_Sort_int64_int64.ren:Ren:=⟨λ|53=>285|59=>380|63=>333|64=>334|68=>231|70=>374|71=>375|72=>376|73=>377|74=>378|75=>379|76=>381|77=>382|78=>383|79=>384|88=>408|89=>409|90=>410|91=>411|92=>412|96=>422|n=>n,λ|0=>0|3=>3|4=>4|5=>5|9=>9|22=>32|23=>2|44=>206|51=>94|60=>410|61=>411|67=>404|69=>256|75=>448|79=>451|83=>459|84=>460|n=>n,λn=>n⟩
def slices_Sort_int64_int64.lays:Go.Proofs.SlLaysN.n53 Tryz.prog slices_Sort_int64_int64.ren:= {
 mixed:=by kernel_rfl
 f53:=⟨"slices.Sort[[]int64,int64]",by kernel_rfl,Tryz.func285.trans (a1v some (by kernel_rfl))⟩
 f59:=⟨"cmp.Less[int64]",by kernel_rfl,Tryz.func380.trans (a1v some (by kernel_rfl))⟩
 f63:=⟨"slices.pdqsortOrdered[int64]",by kernel_rfl,Tryz.func333.trans (a1v some (by kernel_rfl))⟩
 f64:=Tryz.func334.trans (a1v some (by kernel_rfl))
 f68:=⟨"cmp.isNaN[int64]",by kernel_rfl,Tryz.func231.trans (a1v some (by kernel_rfl))⟩
 f70:=⟨"slices.insertionSortOrdered[int64]",by kernel_rfl,Tryz.func374.trans (a1v some (by kernel_rfl))⟩
 f71:=⟨"slices.heapSortOrdered[int64]",by kernel_rfl,Tryz.func375.trans (a1v some (by kernel_rfl))⟩
 f72:=⟨"slices.breakPatternsOrdered[int64]",by kernel_rfl,Tryz.func376.trans (a1v some (by kernel_rfl))⟩
 f73:=⟨"slices.choosePivotOrdered[int64]",by kernel_rfl,Tryz.func377.trans (a1v some (by kernel_rfl))⟩
 f74:=⟨"slices.reverseRangeOrdered[int64]",by kernel_rfl,Tryz.func378.trans (a1v some (by kernel_rfl))⟩
 f75:=⟨"slices.partialInsertionSortOrdered[int64]",by kernel_rfl,Tryz.func379.trans (a1v some (by kernel_rfl))⟩
 f76:=⟨"slices.partitionEqualOrdered[int64]",by kernel_rfl,Tryz.func381.trans (a1v some (by kernel_rfl))⟩
 f77:=⟨"slices.partitionOrdered[int64]",by kernel_rfl,Tryz.func382.trans (a1v some (by kernel_rfl))⟩
 f78:=Tryz.func383.trans (a1v some (by kernel_rfl))
 f79:=Tryz.func384.trans (a1v some (by kernel_rfl))
 f88:=⟨"slices.siftDownOrdered[int64]",by kernel_rfl,Tryz.func408.trans (a1v some (by kernel_rfl))⟩
 f89:=Tryz.func409.trans (a1v some (by kernel_rfl))
 f90:=Tryz.func410.trans (a1v some (by kernel_rfl))
 f91:=⟨"slices.medianAdjacentOrdered[int64]",by kernel_rfl,Tryz.func411.trans (a1v some (by kernel_rfl))⟩
 f92:=⟨"slices.medianOrdered[int64]",by kernel_rfl,Tryz.func412.trans (a1v some (by kernel_rfl))⟩
 f96:=⟨"slices.order2Ordered[int64]",by kernel_rfl,Tryz.func422.trans (a1v some (by kernel_rfl))⟩
 t0:=Tryz.underlying0
 a0:=Tryz.isAgg0
 z0:=Tryz.sizeOf0
 v0:=Tryz.zeroValue0
 t3:=Tryz.underlying3
 a3:=Tryz.isAgg3
 z3:=Tryz.sizeOf3
 v3:=Tryz.zeroValue3
 t4:=Tryz.underlying4
 a4:=Tryz.isAgg4
 z4:=Tryz.sizeOf4
 v4:=Tryz.zeroValue4
 t5:=Tryz.underlying5
 a5:=Tryz.isAgg5
 z5:=Tryz.sizeOf5
 v5:=Tryz.zeroValue5
 t9:=Tryz.underlying9
 a9:=Tryz.isAgg9
 z9:=Tryz.sizeOf9
 v9:=Tryz.zeroValue9
 t22:=Tryz.underlying32
 a22:=Tryz.isAgg32
 z22:=Tryz.sizeOf32
 v22:=Tryz.zeroValue32
 t23:=Tryz.underlying2
 a23:=Tryz.isAgg2
 z23:=Tryz.sizeOf2
 v23:=Tryz.zeroValue2
 t44:=Tryz.underlying206
 a44:=Tryz.isAgg206
 z44:=Tryz.sizeOf206
 v44:=Tryz.zeroValue206
 t51:=Tryz.underlying94
 a51:=Tryz.isAgg94
 z51:=Tryz.sizeOf94
 v51:=Tryz.zeroValue94
 t60:=Tryz.underlying410
 a60:=Tryz.isAgg410
 z60:=Tryz.sizeOf410
 v60:=Tryz.zeroValue410
 t61:=Tryz.underlying411
 a61:=Tryz.isAgg411
 z61:=Tryz.sizeOf411
 v61:=Tryz.zeroValue411
 t67:=Tryz.underlying404
 a67:=Tryz.isAgg404
 z67:=Tryz.sizeOf404
 v67:=Tryz.zeroValue404
 t69:=Tryz.underlying256
 a69:=Tryz.isAgg256
 z69:=Tryz.sizeOf256
 v69:=Tryz.zeroValue256
 t75:=Tryz.underlying448
 a75:=Tryz.isAgg448
 z75:=Tryz.sizeOf448
 v75:=Tryz.zeroValue448
 t79:=Tryz.underlying451
 a79:=Tryz.isAgg451
 z79:=Tryz.sizeOf451
 v79:=Tryz.zeroValue451
 t83:=Tryz.underlying459
 a83:=Tryz.isAgg459
 z83:=Tryz.sizeOf459
 v83:=Tryz.zeroValue459
 t84:=Tryz.underlying460
 a84:=Tryz.isAgg460
 z84:=Tryz.sizeOf460
 v84:=Tryz.zeroValue460}
def slices_Sort_int64_int64.A:Sh:=tR.A
def slices_Sort_int64_int64.R:Sh:= .nil
def slices_Sort_int64_int64 (k:Nat):(List Int×Unit)->Option (Unit×(List Int×Unit)):=tR k
def slices_Sort_int64_int64.sg (k:Nat):jV:=⟨slices_Sort_int64_int64.A,slices_Sort_int64_int64.R,slices_Sort_int64_int64 k,[]⟩
def slices_Sort_int64_int64.ok {L:List (Nat×Obj)} (k:Nat):aA Tryz.prog L 285 (slices_Sort_int64_int64.sg k):=Of slices_Sort_int64_int64.lays k (f:=285) rfl Tryz.func285 (by kernel_rfl) (by kernel_rfl)
