/-
  PEV, part 15: packing and unpacking.
-/
import Derived.Test.YtjjmipjhddlncaaGreatDoorR00
import Derived.LoopN
import Derived.Orders
set_option linter.all false
namespace Go.Pev
variable {b j d:Nat} {v:Value} {s:SV} {vs:List Value} {k:Kd} {l:List SV}
section
variable {F:Nat->Prop} {G:Gh} {ow ow1 ow2:OW} {w:World}
def Gy:FP F [] b↔F b:=by simp[FP]
def IA (h:cU F G ow b):cU (FP F []) G ow b:=⟨λa=>h.1 (Gy.1 a),h.2⟩
def mB {f1 f2:List Nat}:FP (FP F f1) f2 b↔FP F (f1++f2) b:=by simp[FP,or_assoc]
def Ou {c:Nat} {f2:List Nat}:FP (FP F [c]) f2 b↔FP F (c::f2) b:=by simp[FP,or_assoc]
def fS {a:Nat->Prop} (c:∀b,a b->F b) (h:cU F G ow b):cU a G ow b:=⟨λd=>h.1 (c b d),h.2⟩
def Sv.fn_inv {f:Fn} {a b:List SV} (h:Sv F G ow w.heap (.fn f a b) v):∃xs ys,v= .func f xs.toArray ys.toArray/\dq F G ow w.heap a xs/\dq F G ow w.heap b ys:=by
 cases h with
 |fn h1 h2 h3 h4=>exact⟨_,_,rfl,⟨h1,h3⟩,⟨h2,h4⟩⟩
def dq.single (h:dq F G ow w.heap l [v]):∃s,l=[s]/\Sv F G ow w.heap s v:=by
 obtain⟨a,h⟩:=h
 match l,a,h with
 |[s],_,h=>exact⟨s,rfl,h 0 (by simp) (by simp)⟩
def dq.single' (h:dq F G ow w.heap [s] vs):∃v,vs=[v]/\Sv F G ow w.heap s v:=by
 obtain⟨v,a,rfl,b,c⟩:=h.uncons;have:a=[]:=a0s c.1.symm;subst this;exact⟨v,rfl,b⟩
def Ck {l:List k.T} (e:qH k s ow=some (l,ow1)):∃d j r,jP s=some (d,j)/\k6 ow s=some r/\nN ow d j=true/\r=⟨k,l⟩/\ow1=bw ow d j none:=by
 unfold qH at e;split at e
 ·rename_i d j r c f
  split at e
  ·rename_i g
   split at e
   ·rename_i b
    obtain⟨i,h⟩:=r;dsimp only at b e;subst b;simp only[a0l,a0z]at e;obtain⟨a,rfl⟩:=e;have a:h=l:=a;subst a;exact⟨d,j,_,c,f,g,rfl,rfl⟩
   ·cases e
  ·cases e
 ·cases e
def pK (K:bx F G ow w.heap) (O:Sv F G ow w.heap s v) {l:List k.T} (e:qH k s ow=some (l,ow1)):∃z,du ow ow1/\jA G ow ow1 z/\z.Nodup/\sq w.heap (cU (FP F z) G ow1) k l v z:=by
 obtain⟨d,j,r,P,B,n,rfl,rfl⟩:=Ck e;obtain⟨g,⟨ver,l0,A⟩,a,c,rfl,q,p⟩:=qX K O P B n;have C:ak ow d j≠none:=by rw[A];simp
 have D:=sy (ow:=ow) (d:=d) (j:=j) (by rw[A];trivial);have i:=λd' j'=>aU (o:=none) (d':=d') (j':=j') C
 have t:=(K.obs d j _ A).1;rcases p with⟨Q,R,S,U⟩|⟨b,o,L,E,et,M,V,H,I,u⟩
 ·refine⟨[],D,λb=> ?_,a2i,g,a,c,rfl,q,.inl ⟨R,S,U,rfl⟩⟩
  constructor
  ·intro h;simp at h
  ·rintro⟨d',j',y,L,n,m,f⟩
   rw[i]at f;split at f
   ·rename_i e
    rw[e.1,e.2]at m
    cases y with
    |zero=>rw[Q]at m;cases m
    |succ y=>rw[t]at m;cases m
   ·rw[f]at n;exact n.elim
 ·have N:jA G ow (bw ow d j none) [b]:=by
   intro W;constructor
   ·intro J
    have:W=b:=by simpa using J
    subst this;exact⟨d,j,0,L,by rw[A];trivial,M,by rw[i];simp⟩
   ·rintro⟨d',j',y,Y,n,m,f⟩
    rw[i]at f;split at f
    ·rename_i e
     rw[e.1,e.2]at m
     cases y with
     |zero=>rw[M]at m;cases m;simp
     |succ y=>rw[t]at m;cases m
    ·rw[f]at n;exact n.elim
  refine⟨[b],D,N,by simp,g,a,c,rfl,q,.inr ⟨b,o,E,et,V,rfl,H,I.mono λx cs X=>ct.mono (λb r H B=>⟨en D N H,B⟩) _ X,u⟩⟩
def cA:(s:Sh)-> {F:Nat->Prop}-> {ow ow1:OW}->(∀b,F b->b<w.heap.size)->bx F G ow w.heap-> {h:List SV}-> {vs:List Value}->dq F G ow w.heap h vs-> {x:s.T}->pk s h ow=some (x,ow1)->∃A,du ow ow1/\jA G ow ow1 A/\A.Nodup/\ck w.heap (cU (FP F A) G ow1) s x vs A
 | .pur kd,F,ow,ow1,hF,hh,h,vs,m,x,e=>by
  match h,m,e with
  |[],_,e=>simp[pk]at e
  |[s],m,e=>
   simp only[pk]at e;obtain⟨v,rfl,p⟩:=m.single';exact⟨[],(tY e).taken,(tY e).fpOk,a2i,v,rfl,rfl,(Js hh hF p e).mono λb r Y hr=>⟨IA Y,hr⟩⟩
  |_::_::_,_,e=>simp[pk]at e
 | .own k,F,ow,ow1,hF,hh,h,vs,m,x,e=>by
  match h,m,e with
  |[],_,e=>simp[pk]at e
  |[s],m,e=>
   simp only[pk]at e;obtain⟨v,rfl,p⟩:=m.single';split at e
   ·split at e
    ·rename_i R
     simp only[a0l,a0z]at e;obtain⟨rfl,rfl⟩:=e
     cases p
     exact⟨[],.refl _,.refl _ _,a2i,_,rfl,R,none,0,rfl,a1m _,.inl ⟨rfl,rfl,rfl,rfl⟩⟩
    ·cases e
   ·obtain⟨A,u,t,E,H⟩:=pK hh p e
    exact⟨A,u,t,E,v,rfl,H⟩
  |_::_::_,_,e=>simp[pk]at e
 | .row k,F,ow,ow1,hF,hh,h,vs,m,x,e=>by
  match h,m,e with
  |[],_,e=>simp[pk]at e
  |[s],m,e=>
   simp only[pk]at e;obtain⟨v,rfl,p⟩:=m.single';split at e
   ·obtain⟨A,u,t,E,H⟩:=pK hh p e
    exact⟨A,u,t,E,v,rfl,H⟩
   ·cases e
  |_::_::_,_,e=>simp[pk]at e
 | .rows s,F,ow,ow1,hF,hh,h,vs,m,x,e=>by
  match h,m,e with
  |[],_,e=>simp[pk]at e
  |[s0],m,e=>
   simp only[pk]at e;obtain⟨v,rfl,p⟩:=m.single';split at e
   ·split at e
    ·rename_i R
     simp only[a0l,a0z]at e;obtain⟨rfl,rfl⟩:=e
     cases p
     exact⟨[],.refl _,.refl _ _,a2i,_,rfl,R,none,0,rfl,a1m _,.inl ⟨rfl,rfl,rfl,rfl⟩⟩
    ·cases e
   ·split at e
    ·rename_i d j R
     split at e
     ·rename_i R0 h0
      exact AK hh p R h0 e λh vs m x ow1 e=>cA s hF hh m e
     ·cases e
    ·cases e
  |_::_::_,_,e=>simp[pk]at e
 | .nrw s,F,ow,ow1,hF,hh,h,vs,m,x,e=>by
  match h,m,e with
  |[],_,e=>simp[pk]at e
  |[s0],m,e=>
   simp only[pk]at e;obtain⟨v,rfl,p⟩:=m.single';split at e
   ·rename_i d j ver R8
    split at e
    ·rename_i R0 h0
     exact AK hh p (d:=d) (j:=j) rfl h0 e λh vs m x ow1 e=>cA s hF hh m e
    ·cases e
   ·cases e
  |_::_::_,_,e=>simp[pk]at e
 | .box l,F,ow,ow1,hF,hh,h,vs,m,x,e=>by
  match h,m,e with
  |[],_,e=>simp[pk]at e
  |[s],m,e=>
   obtain⟨v,rfl,p⟩:=m.single'
   cases s with
   |bp d j c=>
    simp only[pk]at e;split at e
    ·rename_i K L
     split at e
     ·rename_i S
      have M:=aG L;have R1:ak ow d j≠none:=by rw[M];simp
      obtain⟨R2,b,o,r,et,hG,Y,R9,hc⟩:=hh.obs d j _ M
      cases p with
      |bp p=>
      simp only[M]at p;obtain⟨q,o',U,rfl⟩:=p;rw[hG]at U;cases U
      obtain⟨rfl,S⟩:=S;have Z:=sy (ow:=ow) (d:=d) (j:=j) (by rw[M];trivial);have J:=λd' j'=>aU (o:=none) (d':=d') (j':=j') R1
      have hf:jA G ow (bw ow d j none) [b]:=by
       intro q;constructor
       ·intro hb'
        have:q=b:=by simpa using hb'
        subst this;exact⟨d,j,0,o,by rw[M];trivial,hG,by rw[J];simp⟩
       ·rintro⟨d',j',i',o2,hi,L,N⟩
        rw[J]at N;split at N
        ·rename_i e
         rw[e.1,e.2]at L
         cases i' with
         |zero=>rw[hG]at L;cases L;simp
         |succ i'=>rw[R2]at L;cases L
        ·rw[N]at hi;exact hi.elim
      obtain⟨O,C⟩:=cM hh Z hf;have R3:b<w.heap.size:=(a1b.1 Y).1;have P:∀q,FP F [b] q->q<w.heap.size:=by
       intro q hb';rcases hb' with hb'|hb'
       ·exact hF q hb'
       ·have:q=b:=by simpa using hb'
        subst this;exact R3
      have I:dq (FP F [b]) G (bw ow d j none) w.heap K (bT r o l.len):=by
       refine⟨by rw[aW];omega,λi u t=> ?_⟩;have e1:(bT r o l.len)[i]=r[o+i]'(by omega):=by
        have:=aN (r:=r) (o:=o) (n:=l.len) (i:=i) (by omega);rw[a0a t,a1o (by omega)]at this;exact a1e this
       rw[e1];exact C _ _ (hc i (by omega) (by omega))
      obtain⟨Q,u,t,E,H⟩:=cA l P O I e;have R4:b∉Q:=λB=>(hf.notOwn hh Z (by simp:b∈[b])) (t.own B)
      refine⟨b::Q,Z.trans u,λx=> ?_,a4u.2 ⟨R4,E⟩,b,o,r,et,Q,rfl,rfl,Y,by omega,?_⟩
      ·rw[Gw.trans Z u,<-hf x,<-t x]
       simp
      ·exact ck.mono (λq r' hb' D=>⟨fS (λV B=>Ou.2 B) hb',D⟩) l (λ_ _=>rfl) H
     ·cases e
    ·cases e
   |_=>simp[pk]at e
  |_::_::_,_,e=>simp[pk]at e
 | .agg l,F,ow,ow1,hF,hh,h,vs,m,x,e=>by
  match h,m,e with
  |[],_,e=>simp[pk]at e
  |[s],m,e=>
   obtain⟨v,rfl,p⟩:=m.single'
   cases s with
   |agg cs=>
    simp only[pk]at e;obtain⟨us,rfl,R5⟩:=p.agg_inv;obtain⟨A,u,t,E,H⟩:=cA l hF hh R5 e;exact⟨A,u,t,E,us,rfl,H⟩
   |_=>simp[pk]at e
  |_::_::_,_,e=>simp[pk]at e
 | .fn f n l,F,ow,ow1,hF,hh,h,vs,m,x,e=>by
  match h,m,e with
  |[],_,e=>simp[pk]at e
  |[s],m,e=>
   obtain⟨v,rfl,p⟩:=m.single'
   cases s with
   |fn g a b=>
    simp only[pk]at e;split at e
    ·rename_i hc
     obtain⟨rfl,M⟩:=hc;obtain⟨xs,ys,rfl,B,W⟩:=p.fn_inv;obtain⟨A,u,t,E,H⟩:=cA l hF hh (B.append W) e;exact⟨A,u,t,E,xs,ys,rfl,by rw[<-B.1,M],H⟩
    ·cases e
   |_=>simp[pk]at e
  |_::_::_,_,e=>simp[pk]at e
 | .ign,F,ow,ow1,hF,hh,h,vs,m,x,e=>by
  match h,m,e with
  |[],_,e=>simp[pk]at e
  |[s],m,e=>
   simp only[pk,a0l,a0z]at e;obtain⟨v,rfl,p⟩:=m.single';rw[<-e.2];exact⟨[],.refl _,.refl _ _,a2i,v,rfl,rfl⟩
  |_::_::_,_,e=>simp[pk]at e
 | .nl,F,ow,ow1,hF,hh,h,vs,m,x,e=>by
  match h,m,e with
  |[],_,e=>simp[pk]at e
  |[s],m,e=>
   obtain⟨v,rfl,p⟩:=m.single'
   cases s with
   |nils=>
    simp only[pk,a0l,a0z]at e
    cases p
    rw[<-e.2];exact⟨[],.refl _,.refl _ _,a2i,rfl,rfl⟩
   |_=>simp[pk]at e
  |_::_::_,_,e=>simp[pk]at e
 | .nil,F,ow,ow1,hF,hh,h,vs,m,x,e=>by
  match h,m,e with
  |[],m,e=>
   simp only[pk,a0l,a0z]at e;have:vs=[]:=a0s m.1.symm;subst this;rw[<-e.2];exact⟨[],.refl _,.refl _ _,a2i,rfl,rfl⟩
  |_::_,_,e=>simp[pk]at e
 | .cons a b,F,ow,ow1,hF,hh,h,vs,m,x,e=>by
  match h,m,e with
  |[],_,e=>simp[pk]at e
  |s::r,m,e=>
   simp only[pk]at e;split at e
   ·rename_i y W
    split at e
    ·rename_i z hz
     cases e
     obtain⟨v,R6,rfl,p,X⟩:=m.uncons;obtain⟨f1,t1,o1,n1,r1⟩:=cA a (x:=y.1) (ow1:=y.2) hF hh (.cons p .nil) W;obtain⟨O,C⟩:=cM hh t1 o1;have P:∀q,FP F f1 q->q<w.heap.size:=by
      intro q hb';rcases hb' with hb'|hb'
      ·exact hF q hb'
      ·exact ci.lt hh (o1.own hb')
     obtain⟨f2,t2,o2,n2,r2⟩:=cA b (x:=z.1) (ow1:=z.2) P O ⟨X.1,λi u t=>C _ _ (X.2 i u t)⟩ hz;refine⟨f1++f2,t1.trans t2,λx=> ?_,a2d.2 ⟨n1,n2,λx B y W R7=> ?_⟩,v,R6,f1,f2,rfl,rfl,?_,?_⟩
     ·rw[Gw.trans t1 t2,<-o1 x,<-o2 x,a0k]
     ·subst R7
      exact o1.notOwn hh t1 B (o2.own W)
     ·exact ck.mono (λq r' hb' D=>⟨fS (λV B=>mB.2 B) (en t2 o2 hb'),D⟩) a (λ_ _=>rfl) r1
     ·exact ck.mono (λq r' hb' D=>⟨fS (λV B=>mB.2 B) hb',D⟩) b (λ_ _=>rfl) r2
    ·cases e
   ·cases e
def mC (h:Array Obj) (ok:Nat->Prop) (G:Gh) (ow:OW) (l:List SV) (vs:List Value):Prop:=l.length=vs.length/\∀i (a:i<l.length) (b:i<vs.length),cn h ok G ow l[i] vs[i]
section
variable {h:Array Obj} {ok:Nat->Prop}
def mC.nil:mC h ok G ow [] []:=⟨rfl,λi h=>by simp at h⟩
def mC.cons (c:cn h ok G ow s v) (b:mC h ok G ow l vs):mC h ok G ow (s::l) (v::vs):=⟨by simp[b.1],λi a d=>by
 cases i with
 |zero=>exact c
 |succ i=>exact b.2 i (by simpa using a) (by simpa using d)⟩
def mC.append {d:List SV} {a:List Value} (b:mC h ok G ow l vs) (c:mC h ok G ow d a):mC h ok G ow (l++d) (vs++a):=by
 refine⟨by simp[b.1,c.1],λi e f=> ?_⟩;rcases a3y i l.length with h|h
 ·rw[a1k h,a1k (b.1▸h)]
  exact b.2 _ _ _
 ·rw[a1x h,a1x (b.1▸h)]
  simp only[b.1];exact c.2 _ _ _
def mC.take {l:List SV} {vs:List Value} (a:mC h ok G ow l vs) (n:Nat):mC h ok G ow (l.take n) (vs.take n):=⟨by simp[a.1],λi b c=>by simp only[a5c];exact a.2 _ _ _⟩
def mC.drop {l:List SV} {vs:List Value} (a:mC h ok G ow l vs) (n:Nat):mC h ok G ow (l.drop n) (vs.drop n):=⟨by simp[a.1],λi b c=>by simp only[a6m];exact a.2 _ _ _⟩
def ua:(k:Kd)-> {x:k.T}-> {cs:List Value}->(k.leafy=true)->ct h ok k x cs->mC h ok G ow (mj k x) cs
 | .nil,_,_,_,e=>by cases e;exact .nil
 | .cons a b,x,cs,hk,e=>by
  simp only[Kd.leafy,a0e,a2o]at hk;obtain⟨v,r,rfl,c,d⟩:=qZ hk.1 e;exact .cons (.v hk.1 c) (ua b hk.2 d)
 | .int _,_,_,hk,_=>by cases hk
 | .bool,_,_,hk,_=>by cases hk
 | .str,_,_,hk,_=>by cases hk
 | .err,_,_,hk,_=>by cases hk
 | .any,_,_,hk,_=>by cases hk
 | .sl _ _,_,_,hk,_=>by cases hk
 | .tree _,_,_,hk,_=>by cases hk
def Mv {x:k.T} (e:nY h ok k x v):cn h ok G ow (PM k x) v:=by
 obtain⟨b,c,d⟩:=e;unfold PM;split
 ·rename_i a
  obtain⟨⟨cs,rfl⟩,f⟩:=c a;have:=ua (G:=G) (ow:=ow) k f b;have:=cn.agg this.1 this.2;simpa [Value.cells]using this
 ·rename_i a
  have a:k.isSt=false:=by simpa using a
  have:=iC (d a);rw[this]at b;exact .v a b
abbrev Pl:=Option (Nat×Nat)×List Nat
def Pl.pos (p:Pl):Nat->Option (Nat×Nat)
 |0=>p.1
 |i+1=>(p.2[i]?).map λb=>(b,0)
def Pl.fp (p:Pl):List Nat:=(p.1.map (·.1)).toList++p.2
def Pl.mem {p:Pl}:b∈p.fp↔∃i o,p.pos i=some (b,o):=by
 obtain⟨q,l⟩:=p;simp only[Pl.fp,a0k,Option.mem_toList,a2j];constructor
 ·rintro(⟨⟨a,o⟩,rfl,rfl⟩|h)
  ·exact⟨0,o,rfl⟩
  ·obtain⟨i,c,rfl⟩:=a2h.1 h
   exact⟨i+1,0,by simp[Pl.pos,c]⟩
 ·rintro⟨i,o,h⟩
  cases i with
  |zero=>exact .inl ⟨(b,o),h,rfl⟩
  |succ i=>
   simp only[Pl.pos,a2j,a0z]at h;obtain⟨a,h,rfl,_⟩:=h;exact .inr (a3n h)
def Pl.inj {p:Pl} (f:p.fp.Nodup) {i o s:Nat} (g:p.pos i=some (b,o)) (d:p.pos j=some (b,s)):i=j:=by
 obtain⟨q,l⟩:=p;simp only[Pl.fp,a2d]at f;obtain⟨_,t,m⟩:=f;have a:∀ {k o},(Pl.pos (q,l) (k+1))=some (b,o)->∃w:k<l.length,l[k]=b:=by
  intro k o h;simp only[Pl.pos,a2j,a0z]at h;obtain⟨x,h,rfl,_⟩:=h;exact a0r.1 h
 have c:∀ {o},(Pl.pos (q,l) 0)=some (b,o)->b∈(q.map (·.1)).toList:=by
  intro o h;have h:q=some (b,o):=h;subst h;simp
 cases i with
 |zero=>
  cases j with
  |zero=>rfl
  |succ j=>
   obtain⟨n,e⟩:=a d;exact absurd rfl (m b (c g) b (by rw[<-e];exact a0n n))
 |succ i=>
  obtain⟨u,r⟩:=a g
  cases j with
  |zero=>exact absurd rfl (m b (c d) b (by rw[<-r];exact a0n u))
  |succ j=>
   obtain⟨n,v⟩:=a d;rw[(List.getElem_inj t).1 (r.trans v.symm)]
def oh:(l:List Pl)->(l.flatMap Pl.fp).Nodup->∀i j (a:i<l.length) (d:j<l.length) (b:Nat),b∈l[i].fp->b∈l[j].fp->i=j/\l[i].fp.Nodup
 |[],_,i,_,a,_,_,_,_=>by simp at a
 |p::l,hn,i,j,a,d,b,h1,h2=>by
  rw[a6o,a2d]at hn;obtain⟨k,m,f⟩:=hn;have c:∀q (g:q<l.length),b∈l[q].fp->b∈l.flatMap Pl.fp:=λq g h=>a3s.2 ⟨l[q],a0n g,h⟩
  cases i with
  |zero=>
   cases j with
   |zero=>exact⟨rfl,k⟩
   |succ j=>exact absurd rfl (f b h1 b (c j (by simpa using d) h2))
  |succ i=>
   cases j with
   |zero=>exact absurd rfl (f b h2 b (c i (by simpa using a) h1))
   |succ j=>
    obtain⟨e,h⟩:=oh l m i j (by simpa using a) (by simpa using d) b h1 h2;exact⟨by rw[e],h⟩
def lg (G:Gh) (ow:OW) (d j:Nat) (a:List OB) (ps:List Pl):Prop:=∀i o,a[i]?=some o->ak ow d (j+i)=some (some o)/\∃p,ps[i]?=some p/\G d (j+i)=p.pos
def lg.left {a f:List OB} {b g:List Pl} (k:b.length=a.length) (h:lg G ow d j (a++f) (b++g)):lg G ow d j a b:=by
 intro i o e;have c:i<a.length:=(a0r.1 e).1;have:=h i o (by rw[a1l c];exact e);rw[a1l (by omega)]at this;exact this
def lg.right {a c:List OB} {b e:List Pl} (h:b.length=a.length) (f:lg G ow d j (a++c) (b++e)):lg G ow d (j+a.length) c e:=by
 intro i o g;have:=f (a.length+i) o (by rw[a0y (by omega)];simpa using g);rw[a0y (by omega),show a.length+i-b.length=i by omega,<-a2n]at this;exact this
def AL {l:List k.T} {q:List Nat} (e:sq h ok k l v q) (d j:Nat):∃p:Pl,p.fp=q/\∀(G:Gh) (ow:OW),ak ow d j=some (some (.row k 0 l))->G d j=p.pos->cn h ok G ow (.wh d j 0 []) v/\df h ok G ow d j (.row k 0 l):=by
 obtain⟨s,a,c,rfl,g,e⟩:=e;rcases e with⟨rfl,rfl,rfl,rfl⟩|⟨b,o,r,et,rfl,rfl,t,m,u⟩
 ·refine⟨(none,[]),rfl,λG ow n f=>⟨.wh ?_,by rw[f];exactλi=>rfl,s,by rw[f];rfl⟩⟩
  simp only[cX,n,a2q];exact⟨by simp,_,_,rfl,g,.inl ⟨by rw[f];rfl,rfl,rfl⟩⟩
 ·refine⟨(some (b,o),[]),rfl,λG ow n f=>⟨.wh ?_,by rw[f];exactλi=>rfl,s,by rw[f];exact⟨r,et,t,m⟩⟩⟩
  simp only[cX,n,a2q];exact⟨by omega,_,_,rfl,g,.inr ⟨b,o,o,r,by rw[f];rfl,rfl,aP t,λ_=>by simp,u⟩⟩
def gT:(s:Sh)-> {x:s.T}-> {vs:List Value}-> {w:List Nat}->ck h ok s x vs w->(d j:Nat)->∃ps:List Pl,ps.length=(bK d s x j).2.length/\ps.flatMap Pl.fp=w/\∀(G:Gh) (ow:OW),lg G ow d j (bK d s x j).2 ps->mC h ok G ow (bK d s x j).1 vs/\∀i o,(bK d s x j).2[i]?=some o->df h ok G ow d (j+i) o/\bB (some (some o))
 | .pur kd,x,vs,w,e,d,j=>by
  obtain⟨v,rfl,rfl,e⟩:=e;exact⟨[],rfl,rfl,λG ow _=>⟨.cons (Mv e) .nil,λi o c=>by simp[bK]at c⟩⟩
 | .own k,x,vs,w,e,d,j=>by
  obtain⟨v,rfl,e⟩:=e;obtain⟨p,D,z⟩:=AL e d j;refine⟨[p],rfl,by simpa using D,λG ow g=> ?_⟩;obtain⟨A,C,t,u⟩:=g 0 _ (by simp[bK];rfl);obtain rfl:p=C:=by simpa using t
  obtain⟨m,y⟩:=z G ow A u;refine⟨.cons m .nil,λi o c=> ?_⟩
  cases i with
  |zero=>simp[bK]at c;subst c;exact⟨y,trivial⟩
  |succ i=>simp[bK]at c
 | .row k,x,vs,w,e,d,j=>by
  obtain⟨v,rfl,e⟩:=e;obtain⟨p,D,z⟩:=AL e d j;refine⟨[p],rfl,by simpa using D,λG ow g=> ?_⟩;obtain⟨A,C,t,u⟩:=g 0 _ (by simp[bK];rfl);obtain rfl:p=C:=by simpa using t
  obtain⟨m,y⟩:=z G ow A u;refine⟨.cons m .nil,λi o c=> ?_⟩
  cases i with
  |zero=>simp[bK]at c;subst c;exact⟨y,trivial⟩
  |succ i=>simp[bK]at c
 | .rows s,x,vs,w,e,d,j| .nrw s,x,vs,w,e,d,j=>by
  obtain⟨v,rfl,e⟩:=e;obtain⟨q,J,D,z⟩:=Jt (s:=s) (v:=v) ⟨v,rfl,e⟩ d j;refine⟨[(q,J)],rfl,by simpa [Pl.fp]using D,λG ow g=> ?_⟩;obtain⟨A,C,t,u⟩:=g 0 _ (by simp[bK];rfl);obtain rfl:(q,J)=C:=by simpa using t
  have u:G d j=Pl.pos (q,J):=u;obtain⟨m,y⟩:=z G ow A (by rw[u];rfl) (λi=>by rw[u];rfl);refine⟨.cons m .nil,λi o c=> ?_⟩
  cases i with
  |zero=>simp[bK]at c;subst c;exact⟨y,trivial⟩
  |succ i=>simp[bK]at c
 | .box l,x,vs,w,e,d,j=>by
  obtain⟨b,o,r,et,S,rfl,rfl,U,O,e⟩:=e;obtain⟨ps,E,F,z⟩:=gT l e d (j+1);refine⟨(some (b,o),[])::ps,by simp[bK,E],by simp[F,Pl.fp],λG ow g=> ?_⟩;obtain⟨A,C,t,u⟩:=g 0 _ (by simp[bK];rfl);obtain rfl:(some (b,o),[])=C:=by simpa using t
  have B:lg G ow d (j+1) (bK d l x (j+1)).2 ps:=by
   intro i K c;have:=g (i+1) K (by simpa [bK]using c);rw[a5f,show j+(i+1)=j+1+i by omega]at this;exact this
  obtain⟨m,y⟩:=z G ow B;have H:G d j 0=some (b,o):=by rw[show G d j=_ from u];rfl
  have L:∀i,G d j (i+1)=none:=by rw[show G d j=_ from u];exactλi=>rfl
  refine⟨.cons (.bp (by rw[show ak ow d j=_ from A];exact⟨b,o,H,rfl⟩)) .nil,λi K c=> ?_⟩
  cases i with
  |zero=>
   simp[bK]at c;subst c;have P:(bK d l x (j+1)).1.length=l.len:=by rw[m.1,aW O]
   refine⟨⟨L,b,o,r,et,H,U,by omega,λi c V=> ?_⟩,trivial⟩;have I:i<(bT r o l.len).length:=by rw[aW O];omega
   have M:(bT r o l.len)[i]=r[o+i]:=by
    have:=aN (r:=r) (o:=o) (n:=l.len) (i:=i) (by omega);rw[a0a I,a1o (by omega)]at this;exact a1e this
   rw[<-M];exact m.2 i c I
  |succ i=>
   have:=y i K (by simpa [bK]using c);rw[show j+(i+1)=j+1+i by omega];exact this
 | .agg l,x,vs,w,e,d,j=>by
  obtain⟨cs,rfl,e⟩:=e;obtain⟨ps,E,F,z⟩:=gT l e d j;refine⟨ps,E,F,λG ow g=> ?_⟩;obtain⟨m,y⟩:=z G ow g;exact⟨.cons (.agg m.1 m.2) .nil,y⟩
 | .fn f n l,x,vs,w,e,d,j=>by
  obtain⟨xs,ys,rfl,B,e⟩:=e;obtain⟨ps,E,F,z⟩:=gT l e d j;refine⟨ps,E,F,λG ow g=> ?_⟩;obtain⟨m,y⟩:=z G ow g;have A:=m.take n;have u:=m.drop n;rw[List.take_left' B]at A;rw[List.drop_left' B]at u;exact⟨.cons (.fn A.1 u.1 A.2 u.2) .nil,y⟩
 | .ign,x,vs,w,e,d,j=>by
  obtain⟨v,rfl,rfl⟩:=e;exact⟨[],rfl,rfl,λG ow _=>⟨.cons (.dead v) .nil,λi o c=>by simp[bK]at c⟩⟩
 | .nl,x,vs,w,e,d,j=>by
  obtain⟨rfl,rfl⟩:=e;exact⟨[],rfl,rfl,λG ow _=>⟨.cons .nils .nil,λi o c=>by simp[bK]at c⟩⟩
 | .nil,x,vs,w,e,d,j=>by
  obtain⟨rfl,rfl⟩:=e;exact⟨[],rfl,rfl,λG ow _=>⟨.nil,λi o c=>by simp[bK]at c⟩⟩
 | .cons a b,x,vs,w,e,d,j=>by
  obtain⟨v,r,f1,f2,rfl,rfl,M,W⟩:=e;obtain⟨Q,l1,X,m⟩:=gT a M d j;obtain⟨R,l2,Y,y⟩:=gT b W d (j+(bK d a x.1 j).2.length);refine⟨Q++R,by simp[bK,l1,l2],by simp[X,Y],λG ow g=> ?_⟩;have g:lg G ow d j ((bK d a x.1 j).2++(bK d b x.2 (j+(bK d a x.1 j).2.length)).2) (Q++R):=g;obtain⟨Z,o1⟩:=m G ow (g.left l1);obtain⟨s2,o2⟩:=y G ow (g.right l1);refine⟨Z.append s2,λi o c=> ?_⟩;have c:((bK d a x.1 j).2++(bK d b x.2 (j+(bK d a x.1 j).2.length)).2)[i]?=some o:=c;by_cases N:i<(bK d a x.1 j).2.length
  ·rw[a1l N]at c
   exact o1 i o c
  ·rw[a0y (by omega)]at c
   have:=o2 _ o c;rw[a2n,show(bK d a x.1 j).2.length+(i-(bK d a x.1 j).2.length)=i by omega]at this;exact this
end
def sz {m:List Nat} (A:bx (FP F m) G ow w.heap) {s:Sh} {x:s.T} (e:ck w.heap (cU (FP F m) G ow) s x vs m) (X:m.Nodup) (Y:∀b∈m,¬F b) (J:bX ow d (bK d s x 0).2=some ow2):∃c,bx F c ow2 w.heap/\dq F c ow2 w.heap (bK d s x 0).1 vs/\(∀s v,Sv (FP F m) G ow w.heap s v->Sv F c ow2 w.heap s v)/\(∀b,ci c ow2 b↔ci G ow b\/b∈m)/\(∀d' j,d'≠d->c d' j=G d' j):=by
 obtain⟨ps,hl,Z,g⟩:=gT s e d 0;obtain⟨R8,t,R0⟩:=fj J;by_cases N:(bK d s x 0).2=[]
 ·
  have R1:ps=[]:=a0s (by rw[hl,N];rfl);subst R1;have R2:m=[]:=by simpa using Z.symm
  subst R2;have R3:ow2=ow:=by rw[N]at J;simp[bX]at J;exact J.symm
  subst R3;have R4:∀b,cU (FP F []) G ow2 b->cU F G ow2 b:=λb hb=>fS (λb' hx=>Gy.2 hx) hb
  have K:∀b r,cU (FP F []) G ow2 b->am w.heap b=some r->cU F G ow2 b/\am w.heap b=some r:=λb r hb g=>⟨R4 b hb,g⟩
  have y:∀s v,Sv (FP F []) G ow2 w.heap s v->Sv F G ow2 w.heap s v:=λs v h=>cn.mono (λ_ _ _=>rfl) (λ_ _=> .refl _) K (λb r g=>⟨r,g,rfl⟩) h
  obtain⟨O,_⟩:=g G ow2 (λi o k=>by rw[N]at k;simp at k);refine⟨G,⟨λd j o J=> ?_,A.apart,λb hb hx=>A.notF b hb (Gy.2 hx)⟩,⟨O.1,λi B C=>y _ _ (O.2 i B C)⟩,y,λb=>by simp,λ_ _ _=>rfl⟩;exact df.mono (λ_ _ _=>rfl) (λ_ _=> .refl _) K (λb r g=>⟨r,g,rfl⟩) rfl (λ_ _ _ _ _=>rfl) (A.obs d j o J)
 ·have t:ow[d]?=some []:=by
   rcases t with h|h
   ·exact absurd h N
   ·exact h
  have a:∀d' j,ak ow2 d' j=if d'=d then(bK d s x 0).2[j]?.map some else ak ow d' j:=λd' j=>by rw[R0];simp[N]
  let c:Gh:=G.new d λj=>(match ps[j]? with|some p=>p.pos|none=>λ_=>none)
  have D:∀d' j,d'≠d->c d' j=G d' j:=λd' j f=>by simp[c,Gh.new,f]
  have gd:∀j,c d j=(match ps[j]? with|some p=>p.pos|none=>λ_=>none):=λj=>by simp[c,Gh.new]
  have H:∀ {j i b o},c d j i=some (b,o)->∃L:j<ps.length,ps[j].pos i=some (b,o):=by
   intro j i b o l;rw[gd]at l
   cases E:ps[j]? with
   |none=>rw[E]at l;cases l
   |some p=>
    rw[E]at l;obtain⟨L,rfl⟩:=a0r.1 E;exact⟨L,l⟩
  have z:lg c ow2 d 0 (bK d s x 0).2 ps:=by
   intro i o k;have R9:i<(bK d s x 0).2.length:=(a0r.1 k).1;rw[a1p,a,a0f rfl,k,gd];refine⟨rfl,ps[i]'(by omega),a0a (by omega),?_⟩;rw[a0a (by omega)]
  obtain⟨O,r2⟩:=g c ow2 z;have n:∀b,(∃j i o,bB (ak ow2 d j)/\c d j i=some (b,o))↔b∈m:=by
   intro b;rw[<-Z];simp only[a3s];constructor
   ·rintro⟨j,i,o,_,l⟩
    obtain⟨L,hp⟩:=H l;exact⟨ps[j],a0n L,Pl.mem.2 ⟨i,o,hp⟩⟩
   ·rintro⟨p,hp,R5⟩
    obtain⟨j,L,rfl⟩:=a4b hp;obtain⟨i,o,E⟩:=Pl.mem.1 R5;have P:j<(bK d s x 0).2.length:=by omega
    refine⟨j,i,o,?_,?_⟩
    ·rw[a,a0f rfl,a0a P]
     exact(r2 j _ (a0a P)).2
    ·rw[gd,a0a L];exact E
  have u:∀b,ci c ow2 b↔ci G ow b\/b∈m:=by
   intro b;rw[aK,aK];constructor
   ·rintro⟨d',j,i,o,k,l⟩
    by_cases f:d'=d
    ·subst f
     exact .inr ((n b).1 ⟨j,i,o,k,l⟩)
    ·rw[a,a0d f]at k
     rw[D _ _ f]at l;exact .inl ⟨d',j,i,o,k,l⟩
   ·rintro(⟨d',j,i,o,k,l⟩|hb)
    ·have f:d'≠d:=by
      intro f;subst f;rw[cZ t]at k;exact k
     exact⟨d',j,i,o,by rw[a,a0d f];exact k,by rw[D _ _ f];exact l⟩
    ·obtain⟨j,i,o,k,l⟩:=(n b).2 hb
     exact⟨d,j,i,o,k,l⟩
  have R6:∀b,cU (FP F m) G ow b->cU F c ow2 b:=λb hb=>⟨λhx=>hb.1 (.inl hx),λhx=>by
   rcases(u b).1 hx with hx|hx
   ·exact hb.2 hx
   ·exact hb.1 (.inr hx)⟩
  have K:∀b r,cU (FP F m) G ow b->am w.heap b=some r->cU F c ow2 b/\am w.heap b=some r:=λb r hb g=>⟨R6 b hb,g⟩
  have Q:∀d' j,ak ow d' j≠none->c d' j=G d' j:=by
   intro d' j hx;refine D _ _ λf=> ?_
   subst f;exact hx (cZ t j)
  have hE:∀d' j,EC (ak ow d' j) (ak ow2 d' j):=by
   intro d' j;by_cases f:d'=d
   ·subst f;rw[cZ t];trivial
   ·rw[a,a0d f];exact .refl _
  have y:∀s v,Sv (FP F m) G ow w.heap s v->Sv F c ow2 w.heap s v:=λs v h=>cn.mono (λd' j hx=>a8w (Q d' j hx) 0) hE K (λb r g=>⟨r,g,rfl⟩) h
  have R:∀b r,cU (FP F m) G ow b->am w.heap b=some r->cU F c ow2 b/\am w.heap b=some r:=K;refine⟨c,⟨λd' j o hx=> ?_,λd1 j1 i1 d2 j2 i2 b o1 o2 B C S U=> ?_,λb hb=> ?_⟩,⟨O.1,λi B C=>cn.mono (λ_ _ _=>rfl) (λ_ _=> .refl _) R (λb r g=>⟨r,g,rfl⟩) (O.2 i B C)⟩,y,u,D⟩
  ·by_cases f:d'=d
   ·subst f
    have I:(bK d' s x 0).2[j]?=some o:=by
     rw[a,a0f rfl]at hx
     cases E:(bK d' s x 0).2[j]? with
     |none=>simp[E]at hx
     |some q=>simp[E]at hx;rw[hx]
    have:=(r2 j o I).1;rw[a1p]at this;exact df.mono (λ_ _ _=>rfl) (λ_ _=> .refl _) R (λb r g=>⟨r,g,rfl⟩) rfl (λ_ _ _ _ _=>rfl) this
   ·have I:ak ow d' j=some (some o):=by rw[a,a0d f]at hx;exact hx
    exact df.mono (λd' j hx=>a8w (Q d' j hx) 0) hE K (λb r g=>⟨r,g,rfl⟩) (D _ _ f) (λ_ _ _ _ _=>rfl) (A.obs d' j o I)
  ·have V:∀ {d' j' i' o'},d'≠d->bB (ak ow2 d' j')->c d' j' i'=some (b,o')->ci G ow b:=by
    intro d' j' i' o' f k l;rw[a,a0d f]at k;rw[D _ _ f]at l;exact aK.2 ⟨d',j',i',o',k,l⟩
   by_cases W:d1=d
   ·by_cases M:d2=d
    ·subst W;subst M
     obtain⟨k1,p1⟩:=H S;obtain⟨k2,p2⟩:=H U;obtain⟨e,R7⟩:=oh ps (by rw[Z];exact X) j1 j2 k1 k2 b (Pl.mem.2 ⟨_,_,p1⟩) (Pl.mem.2 ⟨_,_,p2⟩);subst e;exact⟨rfl,rfl,Pl.inj R7 p1 p2⟩
    ·subst W
     have hb:=(n b).1 ⟨j1,i1,o1,B,S⟩;exact absurd (.inr hb) (A.notF b (V M C U))
   ·by_cases M:d2=d
    ·subst M
     have hb:=(n b).1 ⟨j2,i2,o2,C,U⟩;exact absurd (.inr hb) (A.notF b (V W B S))
    ·rw[a,a0d W]at B
     rw[a,a0d M]at C;rw[D _ _ W]at S;rw[D _ _ M]at U;exact A.apart d1 j1 i1 d2 j2 i2 b o1 o2 B C S U
  ·rcases(u b).1 hb with hb|hb
   ·exactλhx=>A.notF b hb (.inl hx)
   ·exact Y b hb
end
end Go.Pev
namespace Go.Pev
variable {d j:Nat}
def Gh.put (G:Gh) (d j:Nat) (p:Nat->Option (Nat×Nat)):Gh:=λd' j'=>if d'=d/\j'=j then p else G d' j'
def fm (G:Gh) (d j:Nat) (a:List Nat):Nat->Option (Nat×Nat)
 |0=>G d j 0
 |i+1=>(a[i]?).map λb=>(b,0)
section
variable {F F1 F2:Nat->Prop} {G:Gh} {ow ow1:OW} {h:Array Obj}
def b8 {a:List Nat} (g:∀i,G d j (i+1)=(a[i]?).map λb=>(b,0)) {b:Nat}:(∃i o,G d j (i+1)=some (b,o))↔b∈a:=by
 constructor
 ·rintro⟨i,o,c⟩
  rw[g]at c;simp only[a2j,a0z]at c;obtain⟨k,f,rfl,_⟩:=c;exact a3n f
 ·intro f
  obtain⟨i,h,e⟩:=a2h.1 f;exact⟨i,0,by rw[g,a0a h,e];rfl⟩
def Cl (w:bx F1 G ow h) {Q ob':OB} (Z:ak ow d j=some (some Q)) (hi:bB (some (some Q))) (R:bB (some (some ob'))) (S:EC (some (some Q)) (some (some ob')))
 {c nest':List Nat} (H:∀i,G d j (i+1)=(c[i]?).map λb=>(b,0)) (u:∀d' j',ak ow1 d' j'=if d'=d/\j'=j then some (some ob')else ak ow d' j')
 (h1:∀b∈nest',b∈c\/F1 b) (T:nest'.Nodup) (h0:∀b o,G d j 0=some (b,o)->b∉nest') (h3:∀b,F2 b->b∉nest'/\(F1 b\/b∈c))
 (U:(∀b r,cU F1 G ow b->am h b=some r->cU F2 (G.put d j (fm G d j nest')) ow1 b/\am h b=some r)->(∀s v,Sv F1 G ow h s v->Sv F2 (G.put d j (fm G d j nest')) ow1 h s v)->df h (cU F2 (G.put d j (fm G d j nest')) ow1) (G.put d j (fm G d j nest')) ow1 d j ob'):
 bx F2 (G.put d j (fm G d j nest')) ow1 h/\(∀s v,Sv F1 G ow h s v->Sv F2 (G.put d j (fm G d j nest')) ow1 h s v)/\(∀b,ci (G.put d j (fm G d j nest')) ow1 b↔(ci G ow b/\b∉c)\/b∈nest')/\∀d' j',G.put d j (fm G d j nest') d' j' 0=G d' j' 0:=by
 have k:bB (ak ow d j):=by rw[Z];exact hi
 generalize I:G.put d j (fm G d j nest')=G1 at*
 have gd:G1 d j=fm G d j nest':=by rw[<-I];simp[Gh.put]
 have z:∀d' j',¬(d'=d/\j'=j)->G1 d' j'=G d' j':=λd' j' hx=>by rw[<-I];simp[Gh.put,hx]
 have x:∀d' j',G1 d' j' 0=G d' j' 0:=λd' j'=>by
  by_cases hx:d'=d/\j'=j
  ·rw[hx.1,hx.2,gd];rfl
  ·rw[z _ _ hx]
 have F:∀i,G1 d j (i+1)=(nest'[i]?).map λb=>(b,0):=λi=>by rw[gd];rfl
 have J:bB (ak ow1 d j):=by rw[u];simpa using R
 have a:∀d' j',¬(d'=d/\j'=j)->ak ow1 d' j'=ak ow d' j':=λd' j' hx=>by rw[u,a0d hx]
 have f:∀b∈c,ci G ow b:=λb hb=>by
  obtain⟨i,o,l⟩:=(b8 H).2 hb;exact aK.2 ⟨d,j,i+1,o,k,l⟩
 have p:∀b,ci G1 ow1 b↔(ci G ow b/\b∉c)\/b∈nest':=by
  intro b;rw[aK];constructor
  ·rintro⟨d',j',i,o,g,l⟩
   by_cases hx:d'=d/\j'=j
   ·obtain⟨rfl,rfl⟩:=hx
    cases i with
    |zero=>
     rw[x]at l;refine .inl ⟨aK.2 ⟨d',j',0,o,k,l⟩,λhb=> ?_⟩;obtain⟨i,K,A⟩:=(b8 H).2 hb;obtain⟨_,_,e⟩:=w.apart _ _ _ _ _ _ _ _ _ k k l A
     cases e
    |succ i=>exact .inr ((b8 F).1 ⟨i,o,l⟩)
   ·rw[a _ _ hx]at g
    rw[z _ _ hx]at l;refine .inl ⟨aK.2 ⟨d',j',i,o,g,l⟩,λhb=> ?_⟩;obtain⟨O,K,A⟩:=(b8 H).2 hb;obtain⟨B,C,_⟩:=w.apart _ _ _ _ _ _ _ _ _ g k l A;exact hx ⟨B,C⟩
  ·rintro(⟨hb,D⟩|hb)
   ·obtain⟨d',j',i,o,g,l⟩:=aK.1 hb
    by_cases hx:d'=d/\j'=j
    ·obtain⟨rfl,rfl⟩:=hx
     cases i with
     |zero=>exact⟨d',j',0,o,J,by rw[x];exact l⟩
     |succ i=>exact absurd ((b8 H).1 ⟨i,o,l⟩) D
    ·exact⟨d',j',i,o,by rw[a _ _ hx];exact g,by rw[z _ _ hx];exact l⟩
   ·obtain⟨i,o,l⟩:=(b8 F).2 hb
    exact⟨d,j,i+1,o,J,l⟩
 have E:∀b r,cU F1 G ow b->am h b=some r->cU F2 G1 ow1 b/\am h b=some r:=by
  intro b r hb L;refine⟨⟨λhx=> ?_,λhx=> ?_⟩,L⟩
  ·rcases(h3 b hx).2 with hx|hx
   ·exact hb.1 hx
   ·exact hb.2 (f b hx)
  ·rcases(p b).1 hx with⟨hx,_⟩|hx
   ·exact hb.2 hx
   ·rcases h1 b hx with hx|hx
    ·exact hb.2 (f b hx)
    ·exact hb.1 hx
 have hE:∀d' j',EC (ak ow d' j') (ak ow1 d' j'):=by
  intro d' j';rw[u];split
  ·rename_i e
   rw[e.1,e.2,Z];exact S
  ·exact .refl _
 have M:∀s v,Sv F1 G ow h s v->Sv F2 G1 ow1 h s v:=λs v e=>cn.mono (λd' j' _=>x d' j') hE E (λb r L=>⟨r,L,rfl⟩) e
 refine⟨⟨λd' j' o hx=> ?_,λd1 j1 V d2 j2 N b o1 o2 W X m n=> ?_,λb hb hx=> ?_⟩,M,p,x⟩
 ·by_cases y:d'=d/\j'=j
  ·obtain⟨rfl,rfl⟩:=y
   rw[u]at hx;simp at hx;subst hx;exact U E M
  ·rw[a _ _ y]at hx
   exact df.mono (λd' j' _=>x d' j') hE E (λb r L=>⟨r,L,rfl⟩) (z _ _ y) (λ_ _ _ _ _=>rfl) (w.obs d' j' o hx)
 ·
  have t:∀ {d' j' O K i o},¬(d'=d/\j'=j)->bB (ak ow1 d' j')->G1 d' j' O=some (b,K)->G1 d j i=some (b,o)->False:=by
   intro d' j' O K i o y P q Y;rw[a _ _ y]at P;rw[z _ _ y]at q
   cases i with
   |zero=>
    rw[x]at Y;obtain⟨B,C,_⟩:=w.apart _ _ _ _ _ _ _ _ _ P k q Y;exact y ⟨B,C⟩
   |succ i=>
    rcases h1 b ((b8 F).1 ⟨i,o,Y⟩)with hb|hb
    ·obtain⟨i3,o3,q3⟩:=(b8 H).2 hb
     obtain⟨B,C,_⟩:=w.apart _ _ _ _ _ _ _ _ _ P k q q3;exact y ⟨B,C⟩
    ·exact w.notF b (aK.2 ⟨d',j',O,K,P,q⟩) hb
  by_cases c1:d1=d/\j1=j
  ·by_cases c2:d2=d/\j2=j
   ·obtain⟨rfl,rfl⟩:=c1
    obtain⟨rfl,rfl⟩:=c2;refine⟨rfl,rfl,?_⟩
    cases V with
    |zero=>
     cases N with
     |zero=>rfl
     |succ N=>rw[x]at m;exact absurd ((b8 F).1 ⟨N,o2,n⟩) (h0 b o1 m)
    |succ V=>
     cases N with
     |zero=>rw[x]at n;exact absurd ((b8 F).1 ⟨V,o1,m⟩) (h0 b o2 n)
     |succ N=>
      rw[F]at m n;simp only[a2j,a0z]at m n;obtain⟨b1,m,rfl,_⟩:=m;obtain⟨b2,n,rfl,_⟩:=n;obtain⟨l1,B⟩:=a0r.1 m;obtain⟨l2,C⟩:=a0r.1 n;rw[(List.getElem_inj T).1 (B.trans C.symm)]
   ·obtain⟨rfl,rfl⟩:=c1
    exact(t c2 X n m).elim
  ·by_cases c2:d2=d/\j2=j
   ·obtain⟨rfl,rfl⟩:=c2
    exact(t c1 W m n).elim
   ·rw[a _ _ c1]at W
    rw[a _ _ c2]at X;rw[z _ _ c1]at m;rw[z _ _ c2]at n;exact w.apart _ _ _ _ _ _ _ _ _ W X m n
 ·obtain⟨h4,h5⟩:=h3 b hx
  rcases(p b).1 hb with⟨hb,D⟩|hb
  ·rcases h5 with h5|h5
   ·exact w.notF b hb h5
   ·exact D h5
  ·exact h4 hb
end
section
variable {F:Nat->Prop} {G:Gh} {ow ow1:OW} {w:World}
def jV (hF:∀b,F b->b<w.heap.size) (C:bx F G ow w.heap) {s:Sh} (e0:gi s (pk s) ow d j=some ow1):∃W,bx F W ow1 w.heap/\(∀s v,Sv F G ow w.heap s v->Sv F W ow1 w.heap s v)/\(∀b,ci W ow1 b->ci G ow b)/\ow1.length=ow.length/\∃l,ak ow1 d j=some (some (.nrow s l none)):=by
 rcases tZ e0 with⟨l,K,rfl⟩|⟨l,p,y,l2,R9,K,X,t,rfl⟩
 ·exact⟨G,C,λ_ _ h=>h,λ_ h=>h,rfl,l,K⟩
 ·obtain⟨e,a⟩:=p
  obtain⟨Y,fps,U,B⟩:=C.obs d j _ K
  cases hg:G d j 0 with
  |none=>simp only[hg]at B;cases B.2.1
  |some q=>
   obtain⟨b,o⟩:=q;simp only[hg]at B;obtain⟨r,et,hb,Z,R0,hj,L,M⟩:=B;obtain⟨q1,q2,q4⟩:=M e a rfl;have R1:e<fps.length:=by omega
   have Sa:e*s.w+s.w<=l.length*s.w:=by
    have:(e+1)*s.w<=l.length*s.w:=a0q _ q1;rw[a6s]at this;exact this
   have R2:dq F G ow w.heap a (bT r (o+e*s.w) s.w):=by
    refine⟨by rw[aW,q2],λc h1 h2=> ?_⟩;have e1:(bT r (o+e*s.w) s.w)[c]=r[o+e*s.w+c]'(by omega):=by
     have:=aN (r:=r) (o:=o+e*s.w) (n:=s.w) (i:=c) (by omega);rw[a0a h2,a1o (by omega)]at this;exact a1e this
    rw[e1];exact q4 c h1 (by omega)
   obtain⟨f,E,u,R3,hS⟩:=cA s (x:=y.1) (ow1:=y.2) hF C R2 X;have N:ak y.2 d j=ak ow d j:=by
    rcases E.names d j with e|⟨_,e⟩|hz
    ·exact e
    ·rw[t]at e;cases e
    ·have:=hz.not.1;rw[t]at this;exact absurd trivial this
   rw[K,t]at N
   cases N
   have O:ak y.2 d j≠none:=by rw[t];simp
   obtain⟨R4,P⟩:=cM C E u;have Q:bB (ak ow d j):=by rw[K];trivial
   obtain⟨n1,n2⟩:=iW C Q U;have z:=wB fps f R1;have D:∀x∈f,(∀i o,G d j i≠some (x,o)):=by
    intro x hx i2 o2 R5;obtain⟨d',j',i',J,H,g,R⟩:=(u x).1 hx;obtain⟨rfl,rfl,_⟩:=C.apart _ _ _ _ _ _ _ _ _ H Q g R5;rw[t]at R
    cases R
   have k:∀x,x∈(fps.set e f++[fps[e]]).flatten↔x∈f\/x∈fps.flatten:=λx=>by rw[z.mem_iff,a0k]
   have A:∀x∈fps.flatten,ci G y.2 x:=by
    intro x hx;obtain⟨i,J,g⟩:=(b8 U).2 hx;exact aK.2 ⟨d,j,i+1,J,by rw[t];trivial,g⟩
   obtain⟨r1,r2,r3,_⟩:=Cl (F1:=FP F f) (F2:=F) (ob':= .nrow s (l.set e y.1) none) (ow1:=bw y.2 d j (some (.nrow s (l.set e y.1) none))) (nest':=(fps.set e f++[fps[e]]).flatten) R4 t trivial trivial (show EC (some (some (OB.nrow s l (some (e,a))))) (some (some (.nrow s (l.set e y.1) none)))from⟨rfl,by simp⟩) U (λd' j'=>aU O)
    (λx hx=>by
     rcases(k x).1 hx with hx|hx
     ·exact .inr (.inr hx)
     ·exact .inl hx)
    (z.nodup_iff.2 (a2d.2 ⟨R3,n1,λx hx y X R6=>by
     subst R6;obtain⟨i,J,g⟩:=(b8 U).2 X;exact D x hx _ _ g⟩))
    (λm J g hx=>by
     rcases(k m).1 hx with hx|hx
     ·exact D m hx 0 J g
     ·exact n2 m J g hx)
    (λm hb'=>⟨λhx=>by
     rcases(k m).1 hx with hx|hx
     ·exact C.notF m (u.own hx) hb'
     ·exact C.notF m (E.own (A m hx)) hb',.inl (.inl hb')⟩)
    (λS Sb=>by
     refine⟨Y,fps.set e f++[fps[e]],λi=>by simp[Gh.put,fm],?_⟩;have:(G.put d j (fm G d j (fps.set e f++[fps[e]]).flatten)) d j 0=some (b,o):=by simp[Gh.put,fm,hg]
     rw[this];refine⟨r,et,hb,by simpa using Z,by simp at R0⊢;omega,λm hb'=> ?_,λi hi hf _=> ?_,λe a hc=>by cases hc⟩
     ·rcases(k m).1 hb' with hb'|hb'
      ·exact ck.cells s hS m hb'
      ·exact hj m hb'
     ·have T:i<(fps.set e f).length:=by simp at hi⊢;omega
      rw[a1k T];by_cases I:i=e
      ·subst I
       simp only[a3j];exact ck.mono S s (λ_ _=>rfl) hS
      ·simp only[a3c (Ne.symm I)]
       have H:i<l.length:=by simpa using hi
       have R7:i<fps.length:=by simpa using T
       refine ck.mono (λm r' hb' R8=>S m r' (en E u hb') R8) s (λ_ _=>rfl) (L i H R7 (λV hc=>by cases hc;exact I rfl)))
   refine⟨_,r1,λs v h=>r2 s v (P s v h),λm=> ?_,by rw[bG,E.len],l.set e y.1,by rw[aU O];simp⟩;rw[r3]
   rintro(⟨hx,_⟩|hx)
   ·exact E.own hx
   ·rcases(k m).1 hx with hx|hx
    ·exact u.own hx
    ·exact E.own (A m hx)
def DX (hh:bx F G ow w.heap) {s:Sh} {l:List s.T} (hn:ak ow d j=some (some (.nrow s l none))) {e:Nat} {x:s.T} (hx:l[e]?=some x) {dk:Nat} {ow2:OW}
 (D:bX (bw ow d j (some (.nrow s l (some (e,List.replicate s.w .dead))))) dk (bK dk s x 0).2=some ow2):
 ∃G3 b o r,bx F G3 (bw ow2 d j (some (.nrow s l (some (e,(bK dk s x 0).1))))) w.heap/\(∀s' v,Sv F G ow w.heap s' v->Sv F G3 (bw ow2 d j (some (.nrow s l (some (e,(bK dk s x 0).1))))) w.heap s' v)/\
  (∀b,ci G3 (bw ow2 d j (some (.nrow s l (some (e,(bK dk s x 0).1))))) b->ci G ow b)/\(bw ow2 d j (some (.nrow s l (some (e,(bK dk s x 0).1))))).length=ow.length/\
  G d j 0=some (b,o)/\am w.heap b=some r/\o+l.length*s.w<=r.size/\dq F G3 (bw ow2 d j (some (.nrow s l (some (e,(bK dk s x 0).1))))) w.heap (bK dk s x 0).1 (bT r (o+e*s.w) s.w):=by
 obtain⟨t,rfl⟩:=a0r.1 hx;obtain⟨Sa,fps,hG,J⟩:=hh.obs d j _ hn
 cases hg:G d j 0 with
 |none=>simp only[hg]at J;rw[J.1]at t;simp at t
 |some q=>
  obtain⟨b,o⟩:=q;simp only[hg]at J;obtain⟨r,et,hb,P,Sb,hj,M,_⟩:=J;have R0:e<fps.length:=by omega
  have Si:e*s.w+s.w<=l.length*s.w:=by
   have:(e+1)*s.w<=l.length*s.w:=a0q _ t;rw[a6s]at this;exact this
  have R1:ak ow d j≠none:=by rw[hn];simp
  have R2:bB (ak ow d j):=by rw[hn];trivial
  obtain⟨n1,n2⟩:=iW hh R2 hG;have u:fps.flatten.Perm (fps[e]++(fps.set e []).flatten):=by
   have:=o6 (fps.set e []) e fps[e] (by simp[R0]);rw[List.set_set,a5o]at this;exact this
  obtain⟨m1,m2,m3⟩:=a2d.1 (u.nodup_iff.1 n1);have g:∀z∈(fps.set e []).flatten,z∈fps.flatten:=λz hz=>u.mem_iff.2 (a0k.2 (.inr hz))
  have m:∀z∈fps[e],z∈fps.flatten:=λz hz=>u.mem_iff.2 (a0k.2 (.inl hz))
  have a:∀z∈fps.flatten,ci G ow z:=by
   intro z hz;obtain⟨i,K,f⟩:=(b8 hG).2 hz;exact aK.2 ⟨d,j,i+1,K,R2,f⟩
  obtain⟨a1,a2,a3,a4⟩:=Cl (F1:=F) (F2:=FP F fps[e]) (ob':= .nrow s l (some (e,List.replicate s.w .dead))) (ow1:=bw ow d j (some (.nrow s l (some (e,List.replicate s.w .dead))))) (nest':=(fps.set e []).flatten) hh hn trivial trivial
   (show EC (some (some (OB.nrow s l none))) (some (some (.nrow s l (some (e,List.replicate s.w .dead)))))from⟨rfl,rfl⟩) hG (λd' j'=>aU R1)
   (λz hz=> .inl (g z hz)) m2 (λC K f hz=>n2 C K f (g C hz))
   (λz hz=>by
    rcases hz with hz|hz
    ·exact⟨λh=>hh.notF z (a z (g z h)) hz,.inl hz⟩
    ·exact⟨λh=>m3 z hz z h rfl,.inr (m z hz)⟩)
   (λQ y=>by
    refine⟨Sa,fps.set e [],λi=>by simp[Gh.put,fm],?_⟩;have:(G.put d j (fm G d j (fps.set e []).flatten)) d j 0=some (b,o):=by simp[Gh.put,fm,hg]
    rw[this];refine⟨r,et,hb,P,by simpa using Sb,λC B=>hj C (g C B),λi hi hf R=> ?_,λe' p k=> ?_⟩
    ·have S:i≠e:=λh=>R _ (by rw[h])
     simp only[a3c (Ne.symm S)];exact ck.mono Q s (λ_ _=>rfl) (M i hi (by simpa using hf) (λp k=>by cases k))
    ·cases k
     exact⟨t,by simp,λc k hr=>by simp only[a4x];exact .dead _⟩)
  generalize Sk:G.put d j (fm G d j (fps.set e []).flatten)=Ga at a1 a2 a3 a4
  generalize N:bw ow d j (some (.nrow s l (some (e,List.replicate s.w .dead))))=owA at a1 a2 a3 a4 D
  have Sc:∀d' j',ak owA d' j'=if d'=d/\j'=j then some (some (.nrow s l (some (e,List.replicate s.w .dead))))else ak ow d' j':=λd' j'=>by rw[<-N,aU R1]
  have A:ak owA d j=some (some (.nrow s l (some (e,List.replicate s.w .dead)))):=by rw[Sc];simp
  have hS:ck w.heap (cU (FP F fps[e]) Ga owA) s l[e] (bT r (o+e*s.w) s.w) fps[e]:=by
   refine ck.mono (λC r' B Sd=>⟨⟨λhx=> ?_,λhx=> ?_⟩,Sd⟩) s (λ_ _=>rfl) (M e t R0 (λp k=>by cases k))
   ·rcases hx with hx|hx
    ·exact B.1 hx
    ·exact B.2 (a C (m C hx))
   ·rcases(a3 C).1 hx with⟨hx,_⟩|hx
    ·exact B.2 hx
    ·exact B.2 (a C (g C hx))
  obtain⟨G2,c1,c2,c3,c4,c5⟩:=sz a1 hS m1 (λz hz hF=>hh.notF z (a z (m z hz)) hF) D;obtain⟨U,R3,R4⟩:=fj D;have E:ak ow2 d j=some (some (.nrow s l (some (e,List.replicate s.w .dead)))):=by
   rw[R4];split
   ·rename_i k
    rcases R3 with h|h
    ·exact absurd h k.2
    ·rw[<-k.1]at h;rw[cZ h]at A;cases A
   ·exact A
  have Sl:G2 d j=Ga d j\/(bK dk s l[e] 0).2=[]:=by
   by_cases k:d=dk
   ·right
    rcases R3 with h|h
    ·exact h
    ·rw[<-k]at h;rw[cZ h]at A;cases A
   ·exact .inl (c5 d j k)
  have R5:ak ow2 d j≠none:=by rw[E];simp
  obtain⟨R6,H,L,O⟩:=c1.obs d j _ E;have I:bB (ak ow2 d j):=by rw[E];trivial
  obtain⟨k1,k2⟩:=iW c1 I L;have R7:G2 d j 0=some (b,o):=by
   by_cases k:d=dk
   ·
    have y:=c3 (.rp d j 0 [] e 0) (.pointer (some ⟨b,o+e*s.w+0,none⟩)) (by
     refine .rp ?_
     rw[A];exact⟨t,b,o,by rw[a4,hg],rfl⟩)
    have Sj:=c3 (.wh d j 0 []) (.slice (some ⟨b,o,none⟩) l.length l.length) (by
     refine .wh ?_
     simp only[cX,A,a2q];exact⟨by omega,_,_,rfl,a1m _,.inr ⟨b,o,o,r,by rw[a4,hg],rfl,aP hb,λ_=>by simp,P⟩⟩)
    cases y with
    |rp y=>
    rw[E]at y;obtain⟨_,C,K,f,hv⟩:=y;simp only[a4p,Value.pointer.injEq,a0l,Addr.mk.injEq]at hv;obtain⟨rfl,hv,_⟩:=hv;have:K=o:=by omega
    rw[this]at f;exact f
   ·rw[c5 d j k,a4,hg]
  simp only[R7]at O;obtain⟨V,Se,W,R8,R9,Sf,X,Y⟩:=O;have:V=r:=by
   rw[hb]at W
   cases W
   rfl
  subst this;obtain⟨q1,q2,q4⟩:=Y e _ rfl;have Z:(bK dk s l[e] 0).1.length=s.w:=by rw[c2.1,aW]
  obtain⟨f1,f2,f3,f4⟩:=Cl (F1:=F) (F2:=F) (ob':= .nrow s l (some (e,(bK dk s l[e] 0).1))) (ow1:=bw ow2 d j (some (.nrow s l (some (e,(bK dk s l[e] 0).1))))) (nest':=H.flatten) c1 E trivial trivial
   (show EC (some (some (OB.nrow s l (some (e,List.replicate s.w .dead))))) (some (some (.nrow s l (some (e,(bK dk s l[e] 0).1)))))from⟨rfl,rfl⟩) L (λd' j'=>aU R5)
   (λz hz=> .inl hz) k1 k2
   (λz hz=>⟨λh=>by
    obtain⟨i,K,f⟩:=(b8 L).2 h;exact c1.notF z (aK.2 ⟨d,j,i+1,K,I,f⟩) hz,.inl hz⟩)
   (λQ y=>by
    refine⟨R6,H,λi=>by simp[Gh.put,fm],?_⟩;have:(G2.put d j (fm G2 d j H.flatten)) d j 0=some (b,o):=by simp[Gh.put,fm,R7]
    rw[this];refine⟨V,Se,W,R8,R9,Sf,λi hi hf R=> ?_,λe' p k=> ?_⟩
    ·have S:i≠e:=λh=>R _ (by rw[h])
     exact ck.mono Q s (λ_ _=>rfl) (X i hi hf (λp k=>by cases k;exact S rfl))
    ·cases k
     refine⟨t,Z,λc k hr=> ?_⟩;have h2:c<(bT V (o+e*s.w) s.w).length:=by rw[aW];omega
     have:=y _ _ (c2.2 c k h2);have e1:(bT V (o+e*s.w) s.w)[c]=V[o+e*s.w+c]'hr:=by
      have:=aN (r:=V) (o:=o+e*s.w) (n:=s.w) (i:=c) (by omega);rw[a0a h2,a1o hr]at this;exact a1e this
     rw[e1]at this;exact this)
  refine⟨_,b,o,V,f1,λs' v h=>f2 s' v (c3 s' v (a2 s' v h)),λz hz=> ?_,by rw[bG,U,<-N,bG],rfl,aP hb,P,⟨c2.1,λi h1 h2=>f2 _ _ (c2.2 i h1 h2)⟩⟩;have Sg:ci G2 ow2 z:=by
   rcases(f3 z).1 hz with⟨hz,_⟩|hz
   ·exact hz
   ·obtain⟨i,K,f⟩:=(b8 L).2 hz
    exact aK.2 ⟨d,j,i+1,K,I,f⟩
  rcases(c4 z).1 Sg with hz|hz
  ·rcases(a3 z).1 hz with⟨hz,_⟩|hz
   ·exact hz
   ·exact a z (g z hz)
  ·exact a z (m z hz)
def Gz (e:∀b,F b->b<w.heap.size) (a:bx F G ow w.heap) (v:SV):∃c,Tr F G ow w c (vA ow v) w/\∀b,ci c (vA ow v) b->ci G ow b:=by
 unfold vA;split
 ·split
  ·split
   ·rename_i f
    obtain⟨c,g,i,d,j,_⟩:=jV e a f;exact⟨c,⟨g,i,.refl _ _,λb k=> .inl (d b k),j⟩,d⟩
   ·exact⟨G,.refl a,λ_ h=>h⟩
  ·exact⟨G,.refl a,λ_ h=>h⟩
 ·exact⟨G,.refl a,λ_ h=>h⟩
def ub (e:∀b,F b->b<w.heap.size) (c:bx F G ow w.heap) (l:List SV):∃a,Tr F G ow w a (kn l ow) w/\∀b,ci a (kn l ow) b->ci G ow b:=by
 unfold kn
 generalize l.flatMap DF=vs
 induction vs generalizing G ow with
 |nil=>exact⟨G,.refl c,λ_ h=>h⟩
 |cons v r ih=>
  obtain⟨a,d,f⟩:=Gz e c v;obtain⟨g,i,j⟩:=ih d.hrep;exact⟨g,d.trans i,λb k=>f b (j b k)⟩
end
end Go.Pev
namespace Go.Pev
variable {d j c e:Nat} {s:Sh} {p:SV}
section
variable {F:Nat->Prop} {G:Gh} {ow ow1:OW} {w:World} {P:Program}
def oi {a:Gh} (c:bx F a ow1 w.heap) (d:∀s v,Sv F G ow w.heap s v->Sv F a ow1 w.heap s v) (e:∀b,ci a ow1 b->ci G ow b) (f:ow1.length=ow.length):Tr F G ow w a ow1 w:=⟨c,d,.refl _ _,λb g=> .inl (e b g),f⟩
def zI {t:TypeId} (M:bx F G ow w.heap) (N:∀b,F b->b<w.heap.size) {E:Value} (O:Sv F G ow w.heap p E) (f:PS ow p=some (d,j,e,c,s)) {dk:Nat} {Q:SV×OW->Prop} (h:(B1 P t p d j e c s ow dk).can Q):∃x ow' v H,Q (x,ow')/\(Instr.loadAt t E).run P w= .ok v w/\Tr F G ow w H ow' w/\Sv F H ow' w.heap x v:=by
 have q:∃ver,p= .rp d j ver [] e c:=by
  unfold PS at f;split at f
  ·split at f
   ·cases f;exact⟨_,rfl⟩
   ·cases f
  ·cases f
 obtain⟨ver,rfl⟩:=q;unfold B1 at h;split at h
 ·exact h.elim
 ·rename_i ow1 R
  obtain⟨I,u,J,S,T,_⟩:=jV N M R;have g:Tr F G ow w I ow1 w:=oi u J S T;have a:=J _ _ O;split at h
  ·exact h.elim
  ·rename_i r U
   obtain⟨_,K⟩:=ij U;split at h
   ·have h:=ba.can_bind _ h
    obtain⟨x,v,V,i,y⟩:=mu u a h;exact⟨x,ow1,v,I,V,i,g,y⟩
   ·obtain⟨x,y,h⟩:=h
    dsimp only at h;split at h
    ·rename_i ow2 k
     split at h
     ·rename_i v W
      obtain⟨X,b,o,rr,f1,f2,Y,Z,hg,z,R0,l⟩:=DX u K y k
      cases a with
      |rp a=>
      simp only[K]at a;obtain⟨A,b',o',m,rfl⟩:=a;rw[hg]at m
      cases m
      have B:(e+1)*r.1.w<=r.2.length*r.1.w:=a0q _ A;rw[a1a,a2w]at B;have R1:(bK dk r.1 x 0).1.length=r.1.w:=by rw[l.1,aW]
      obtain⟨⟨d',hu⟩,L,C,D⟩:=eG (l.drop c) W;simp only[a2p]at C;refine⟨_,_,_,X,h,eV hu z rfl,g.trans (oi f1 f2 Y Z),?_⟩;rw[gz (n:=r.1.w)];exact D
     ·exact h.elim
    ·exact h.elim
def GA (E:bx F G ow w.heap) (hF:∀b,F b->b<w.heap.size) {l:List s.T} {a:List SV} (J:ak ow d j=some (some (.nrow s l (some (e,a))))) {f:List SV} {vs:List Value} (t:dq F G ow w.heap f vs)
 {b o:Nat} (H:G d j 0=some (b,o)) {r:Array Value} {et:TypeId} (S:w.heap[b]?=some (.cells r et (0,0))) (U:c+f.length<=a.length):
 o+e*s.w+c+vs.length<=r.size/\Tr F G ow w G (bw ow d j (some (.nrow s l (some (e,a.take c++f++a.drop (c+f.length)))))) (w.setCells b (o+e*s.w+c) vs):=by
 obtain⟨K,fps,x,y⟩:=E.obs d j _ J;simp only[H]at y;obtain⟨r',R0,g,L,M,hj,z,A⟩:=y;rw[S]at g
 cases g
 obtain⟨V,q2,W⟩:=A e a rfl;have X:e*s.w+s.w<=l.length*s.w:=by
  have:(e+1)*s.w<=l.length*s.w:=a0q _ V;rw[a6s]at this;exact this
 have Y:f.length=vs.length:=t.1;have k:o+e*s.w+c+vs.length<=r.size:=by omega
 refine⟨k,qY (ob':= .nrow s l (some (e,a.take c++f++a.drop (c+f.length)))) E hF J trivial ⟨rfl,rfl⟩ trivial H S k λN m B=> ?_⟩;have v:bB (ak ow d j):=by rw[J];trivial
 have n:∀u∈fps.flatten,(w.setCells b (o+e*s.w+c) vs).heap[u]?=w.heap[u]?:=by
  intro u g;obtain⟨i,o',C⟩:=(b8 x).2 g;refine World.heap_setCells_other w b _ _ (ci.lt E (aK.2 ⟨d,j,i+1,o',v,C⟩)) λO=> ?_
  subst O;obtain⟨_,_,e⟩:=E.apart _ _ _ _ _ _ _ _ _ v v C H
  cases e
 refine⟨K,fps,x,?_⟩;simp only[H];refine⟨_,et,N,by rw[bR k];exact L,M,λu g=>by rw[n u g];exact hj u g,λi hi Z P=> ?_,λe' I Q=> ?_⟩
 ·have R:i≠e:=λh=>P _ (by rw[h])
  have h1:=z i hi Z (λa U=>by cases U;exact R rfl);have p:bT (nF r (o+e*s.w+c) vs) (o+i*s.w) s.w=bT r (o+i*s.w) s.w:=by
   rcases a3y i e with hlt|hge
   ·have:(i+1)*s.w<=e*s.w:=a0q _ hlt
    rw[a1a,a2w]at this;exact ca k
   ·have:(e+1)*s.w<=i*s.w:=a0q _ (by omega)
    rw[a1a,a2w]at this;exact iE k
  rw[p];exact ck.mono B s (λu g=>n u (iB Z g)) h1
 ·cases Q
  refine⟨V,by simp;omega,λq hq hr=> ?_⟩;have p:=iD k (o+e*s.w+q);rw[a1o hr]at p;simp only[a0j,a1h,a2p]at hq;by_cases h2:q<c
  ·rw[ifNegQ,a1o (by omega)]at p
   have D:(a.take c++f++a.drop (c+f.length))[q]=a[q]'(by omega):=by
    simp only[a1u];rw[a1k (by simp;omega),a5c]
   rw[a1e p,D];exact m _ _ (W q (by omega) (by omega))
  ·by_cases h3:q<c+vs.length
   ·rw[ifPosQ,a0a (by omega)]at p
    have D:(a.take c++f++a.drop (c+f.length))[q]=f[q-c]'(by omega):=by
     rw[a1k (by simp;omega),a1x (by simp;omega)]
     congr 1
     simp;omega
    have e3:o+e*s.w+q-(o+e*s.w+c)=q-c:=by omega
    simp only[e3]at p;rw[a1e p,D];exact m _ _ (t.2 (q-c) (by omega) (by omega))
   ·rw[ifNegQ,a1o (by omega)]at p
    have D:(a.take c++f++a.drop (c+f.length))[q]=a[q]'(by omega):=by
     rw[a1x (by simp;omega),a6m]
     congr 1
     simp;omega
    rw[a1e p,D];exact m _ _ (W q (by omega) (by omega))
def Mw {f1 a b c d e:List Nat} (h:(a++c).Perm (d++e)):((f1++a)++(b++c)).Perm ((b++d)++(f1++e)):=by
 refine a3k.2 λx=> ?_
 have:=a3k.1 h x;simp only[a6n]at this⊢;omega
def qf:(s:Sh)-> {F:Nat->Prop}-> {ow ow1:OW}->(∀b,F b->b<w.heap.size)->bx F G ow w.heap-> {y:s.T}-> {vs:List Value}-> {n:List Nat}->ck w.heap (cU F G ow) s y vs n->(c:Nat)-> {d:List SV}-> {g:List Value}->dq F G ow w.heap d g->
 {y':s.T}->jS s y c d ow=some (y',ow1)->
 ∃o B C,du ow ow1/\jA G ow ow1 o/\o.Nodup/\c+g.length<=vs.length/\ck w.heap (cU (FP F o) G ow1) s y' (vs.take c++g++vs.drop (c+g.length)) B/\(B++C).Perm (n++o)
 | .cons a b,F,ow,ow1,hF,hh,y,vs,n,e,0,d,g,hn,y',h=>by
  obtain⟨D,E,f1,f2,rfl,rfl,Q,O⟩:=e
  match d,hn,h with
  |[],hn,h=>
   simp only[jS,a0l,a0z]at h;obtain⟨rfl,rfl⟩:=h;have:g=[]:=a0s hn.1.symm;subst this;exact⟨[],f1++f2,[],.refl _,.refl _ _,a2i,by simp,ck.mono (λp P hb' f=>⟨IA hb',f⟩) (.cons a b) (λ_ _=>rfl) (by simpa using⟨D,E,f1,f2,rfl,rfl,Q,O⟩),by simp⟩
  |s0::sr,hn,h=>
   simp only[jS]at h;obtain⟨u,H,rfl,I,J⟩:=hn.uncons;split at h
   ·rename_i x t
    split at h
    ·rename_i z R
     simp only[a0l,a0z]at h;obtain⟨rfl,rfl⟩:=h;obtain⟨m,q,r,K,L⟩:=cA a (x:=x.1) (ow1:=x.2) hF hh (.cons I .nil) t;obtain⟨S,M⟩:=cM hh q r;have U:∀p,FP F m p->p<w.heap.size:=by
      intro p hb';rcases hb' with hb'|hb'
      ·exact hF p hb'
      ·exact ci.lt hh (r.own hb')
     obtain⟨V,l,C,v,A,n2,Y,N,j⟩:=qf b U S (ck.mono (λp P hb' f=>⟨en q r hb',f⟩) b (λ_ _=>rfl) O) 0 (y':=z.1) (ow1:=z.2) ⟨J.1,λi Z h2=>M _ _ (J.2 i Z h2)⟩ R;refine⟨m++V,m++l,f1++C,q.trans v,λx=> ?_,a2d.2 ⟨K,n2,λx t y hy W=> ?_⟩,by simp at Y⊢;omega,⟨u,H++E.drop H.length,m,l,by simp,rfl,?_,?_⟩,Mw j⟩
     ·rw[Gw.trans q v,<-r x,<-A x,a0k]
     ·subst W
      exact r.notOwn hh q t (A.own hy)
     ·exact ck.mono (λp P hb' f=>⟨fS (λX t=>mB.2 t) (en v A hb'),f⟩) a (λ_ _=>rfl) L
     ·have N:=ck.mono (λp P hb' f=>⟨fS (λX t=>mB.2 t) hb',f⟩) b (λ_ _=>rfl) N
      simpa using N
    ·cases h
   ·cases h
 | .cons a b,F,ow,ow1,hF,hh,y,vs,n,e,c+1,d,g,hn,y',h=>by
  obtain⟨D,E,f1,f2,rfl,rfl,Q,O⟩:=e;simp only[jS]at h;split at h
  ·rename_i z R
   simp only[a0l,a0z]at h;obtain⟨rfl,rfl⟩:=h;obtain⟨V,l,C,v,A,n2,Y,N,j⟩:=qf b hF hh O c (y':=z.1) (ow1:=z.2) hn R;refine⟨V,f1++l,C,v,A,n2,by simp;omega,⟨D,E.take c++g++E.drop (c+g.length),f1,l,by simp[show c+1+g.length=c+g.length+1 by omega],rfl,?_,N⟩,?_⟩
   ·exact ck.mono (λp P hb' f=>⟨en v A hb',f⟩) a (λ_ _=>rfl) Q
   ·simp only[a1u]
    exact j.append_left f1
  ·cases h
 | .nil,F,ow,ow1,hF,hh,y,vs,n,e,c,d,g,hn,y',h=>by
  obtain⟨rfl,rfl⟩:=e
  match c,d,hn,h with
  |0,[],hn,h=>
   simp only[jS,a0l,a0z]at h;obtain⟨_,rfl⟩:=h;have:g=[]:=a0s hn.1.symm;subst this;exact⟨[],[],[],.refl _,.refl _ _,a2i,by simp,⟨rfl,rfl⟩,by simp⟩
  |0,_::_,_,h=>simp[jS]at h
  |_+1,_,_,h=>simp[jS]at h
 | .own k,F,ow,ow1,hF,hh,y,vs,n,e,c,d,g,hn,y',h=>by
  obtain⟨D,rfl,e⟩:=e
  match c,d,hn,h with
  |0,[s0],hn,h=>
   obtain⟨u,rfl,I⟩:=hn.single';obtain⟨m,q,r,K,L⟩:=cA (.own k) (x:=y') (ow1:=ow1) hF hh (.cons I .nil) h;exact⟨m,m,n,q,r,K,by simp,by simpa using L,a6t⟩
  |0,[],_,h=>simp[jS]at h
  |0,_::_::_,_,h=>simp[jS]at h
  |_+1,_,_,h=>simp[jS]at h
 | .rows s,F,ow,ow1,hF,hh,y,vs,n,e,c,d,g,hn,y',h=>by
  obtain⟨D,rfl,e⟩:=e
  match c,d,hn,h with
  |0,[s0],hn,h=>
   obtain⟨u,rfl,I⟩:=hn.single';obtain⟨m,q,r,K,L⟩:=cA (.rows s) (x:=y') (ow1:=ow1) hF hh (.cons I .nil) h;exact⟨m,m,n,q,r,K,by simp,by simpa using L,a6t⟩
  |0,[],_,h=>simp[jS]at h
  |0,_::_::_,_,h=>simp[jS]at h
  |_+1,_,_,h=>simp[jS]at h
 | .pur _,_,_,_,_,_,_,_,_,_,_,_,_,_,_,h=>by simp[jS]at h
 | .row _,_,_,_,_,_,_,_,_,_,_,_,_,_,_,h=>by simp[jS]at h
 | .nrw _,_,_,_,_,_,_,_,_,_,_,_,_,_,_,h=>by simp[jS]at h
 | .box _,_,_,_,_,_,_,_,_,_,_,_,_,_,_,h=>by simp[jS]at h
 | .agg _,_,_,_,_,_,_,_,_,_,_,_,_,_,_,h=>by simp[jS]at h
 | .fn _ _ _,_,_,_,_,_,_,_,_,_,_,_,_,_,_,h=>by simp[jS]at h
 | .ign,_,_,_,_,_,_,_,_,_,_,_,_,_,_,h=>by simp[jS]at h
 | .nl,_,_,_,_,_,_,_,_,_,_,_,_,_,_,h=>by simp[jS]at h
def lh {h:Array Obj} (q:bx F G ow h) {i b o:Nat} (a:bB (ak ow d j)) (c:G d j i=some (b,o)):∃r et,h[b]?=some (Obj.cells r et (0,0)):=by
 have g:∀e,ak ow d j=some (some e)->bB (some (some e))->∃r et,h[b]?=some (Obj.cells r et (0,0)):=by
  intro e m a;have:=q.obs d j e m
  cases e with
  |box cells=>
   obtain⟨n,t,u,r,et,f,p,_⟩:=this
   cases i with
   |zero=>rw[c]at f;cases f;exact⟨r,et,p⟩
   |succ i=>rw[n]at c;cases c
  |row k ver l=>
   obtain⟨n,_,this⟩:=this
   cases i with
   |zero=>
    simp only[c]at this;obtain⟨r,et,p,_⟩:=this;exact⟨r,et,p⟩
   |succ i=>rw[n]at c;cases c
  |nrow k l foc=>exact wx this c
  |frow _ _ _=>exact a.elim
  |lrow _=>exact a.elim
 generalize s:ak ow d j=x at a
 match x,a with
 |some (some e),a=>exact g e s a
def DY {a b:Option OB}:bw (bw ow d j a) d j b=bw ow d j b:=by
 unfold bw
 cases h:ow[d]? with
 |none=>simp[h]
 |some l=>
  obtain⟨c,_⟩:=a0r.1 h;simp[c]
def Mx (a:PS ow p=some (d,j,e,c,s)):(∃ver,p= .rp d j ver [] e c)/\∃l b,ak ow d j=some (some (.nrow s l b)):=by
 unfold PS at a;split at a
 ·split at a
  ·rename_i f
   cases a
   exact⟨⟨_,rfl⟩,_,_,aG f⟩
  ·cases a
 ·cases a
def zJ {a d b:List SV} (h:jy a c d=some b):c+d.length<=a.length/\b=a.take c++d++a.drop (c+d.length):=by
 unfold jy at h;split at h
 ·rename_i e
  cases h
  exact⟨e,rfl⟩
 ·cases h
def wE {t:TypeId} (hh:bx F G ow w.heap) (hF:∀b,F b->b<w.heap.size) {x:SV} {pv xv:Value} (hp:Sv F G ow w.heap p pv) (hx:Sv F G ow w.heap x xv) (ht:PS ow p=some (d,j,e,c,s)) {Q:OW->Prop} (h:(wb P t x d j e c s ow).can Q):∃ow' w' G',Q ow'/\(Instr.storeAt t pv xv).run P w= .ok () w'/\Tr F G ow w G' ow' w':=by
 obtain⟨⟨ver,rfl⟩,_⟩:=Mx ht;unfold wb at h;split at h
 ·exact h.elim
 rename_i Sf R8;obtain⟨i,hi⟩:=oe R8;obtain⟨vs,Sg,N,h1,hl⟩:=fH hx R8;have Te:Sf.length=vs.length:=N.1;split at h
 ·rename_i ow1 h0
  have h0:=B3 h0;obtain⟨M,g1,g2,g3,g4,_⟩:=jV hF hh h0;have Sy:Tr F G ow w M ow1 w:=oi g1 g2 g3 g4;have R1:=g2 _ _ hp;have Si:dq F M ow1 w.heap Sf vs:=⟨N.1,λi h1 h2=>g2 _ _ (N.2 i h1 h2)⟩;split at h
  ·exact h.elim
  ·rename_i r hr
   obtain⟨_,hn⟩:=ij hr;obtain⟨rs,l⟩:=r;obtain⟨y,hy,h⟩:=h;dsimp only at h hn hy;split at h
   ·rename_i z hz
    split at h
    ·rename_i r2 Sz
     split at h
     ·rename_i Sj
      obtain⟨_,C⟩:=ij Sz;obtain⟨a,l2⟩:=r2;dsimp only at Sj C;subst Sj;obtain⟨O,rfl⟩:=a0r.1 hy
      cases R1 with
      |rp R1=>
      simp only[hn]at R1;obtain⟨_,b,o,hG,rfl⟩:=R1;obtain⟨Sk,fps,R2,I⟩:=g1.obs d j _ hn;simp only[hG]at I;obtain⟨r,et,hb,Sl,Th,hj,R,_⟩:=I;have Sm:e<fps.length:=by omega
      have Tf:e*a.w+a.w<=l.length*a.w:=by
       have:(e+1)*a.w<=l.length*a.w:=a0q _ O;rw[a6s]at this;exact this
      have Sn:bB (ak ow1 d j):=by rw[hn];trivial
      obtain⟨n1,n2⟩:=iW g1 Sn R2;obtain⟨S,g,H,hT,hf,S0,S3,hS,T⟩:=qf a hF g1 (R e O Sm (λu B=>by cases B)) c Si (y':=z.1) (ow1:=z.2) hz;rw[aW]at S3;have So:ak z.2 d j=ak ow1 d j:=by
       rcases hT.names d j with e|⟨_,e⟩|hz
       ·exact e
       ·rw[C]at e;cases e
       ·have:=hz.not.1;rw[C]at this;exact absurd trivial this
      rw[hn,C]at So;obtain rfl:l=l2:=by simpa using So.symm
      obtain⟨S4,Sp⟩:=cM g1 hT hf;have R9:∀x∈S,(∀i o,M d j i≠some (x,o)):=by
       intro x hx i2 o2 S5;obtain⟨d',j',i',o',L,m,Sq⟩:=(hf x).1 hx;obtain⟨rfl,rfl,_⟩:=g1.apart _ _ _ _ _ _ _ _ _ L Sn m S5;rw[C]at Sq
       cases Sq
      have J:∀x∈fps.flatten,ci M z.2 x:=by
       intro x hx;obtain⟨i,o',m⟩:=(b8 R2).2 hx;exact aK.2 ⟨d,j,i+1,o',by rw[C];trivial,m⟩
      have Sr:(fps.set e g++[H]).flatten.Perm (S++fps.flatten):=by
       have h1:=wB fps g Sm;refine a3k.2 λx=> ?_
       have h1:=a3k.1 h1 x;have h2:=a3k.1 T x;simp only[a4t,a3f,a7t,a2b,a6n]at h1 h2⊢;omega
      have A:∀x,x∈(fps.set e g++[H]).flatten↔x∈S\/x∈fps.flatten:=λx=>by rw[Sr.mem_iff,a0k]
      have D:∀x∈(fps.set e g++[H]).flatten,∃r et,w.heap[x]?=some (Obj.cells r et (0,0)):=by
       intro x hx;rcases(A x).1 hx with hx|hx
       ·have S6:x∈g++H:=T.mem_iff.2 (a0k.2 (.inr hx))
        rcases a0k.1 S6 with hx'|hx'
        ·exact ck.cells a hS x hx'
        ·
         obtain⟨d',j',i',o',L,m,_⟩:=(hf x).1 hx;exact lh g1 L m
       ·exact hj x hx
      have Ss:ak z.2 d j≠none:=by rw[C];simp
      let ob1:OB:= .nrow a l (some (e,List.replicate a.w .dead))
      have Sc:∀(ok:Nat->Prop) (GG:Gh) (Su:OW) (c:Nat) (B:c<(List.replicate a.w SV.dead).length) (hr:o+e*a.w+c<r.size),cn w.heap ok GG Su (List.replicate a.w SV.dead)[c] r[o+e*a.w+c]:=λok GG Su c B hr=>by
       simp only[a4x];exact .dead _
      have U:∀(i:Nat) (hi:i<l.length) (hf:i<(fps.set e g++[H]).length) (R3:i≠e),∃R4:i<fps.length,(fps.set e g++[H])[i]=fps[i]:=λi hi hf R3=>by
       have Sd:i<(fps.set e g).length:=by simp;omega
       refine⟨by omega,?_⟩;rw[a1k Sd,a3c (Ne.symm R3)]
      obtain⟨a1,a2,a3,a4⟩:=Cl (F1:=FP F S) (F2:=F) (ob':=ob1) (ow1:=bw z.2 d j (some ob1)) (nest':=(fps.set e g++[H]).flatten) S4 C trivial trivial
       (show EC (some (some (OB.nrow a l none))) (some (some ob1))from⟨rfl,rfl⟩) R2 (λd' j'=>aU Ss)
       (λx hx=>by
        rcases(A x).1 hx with hx|hx
        ·exact .inr (.inr hx)
        ·exact .inl hx)
       (Sr.nodup_iff.2 (a2d.2 ⟨S0,n1,λx hx y hy S7=>by
        subst S7;obtain⟨i,o',m⟩:=(b8 R2).2 hy;exact R9 x hx _ _ m⟩))
       (λk o' m hx=>by
        rcases(A k).1 hx with hx|hx
        ·exact R9 k hx 0 o' m
        ·exact n2 k o' m hx)
       (λk f=>⟨λhx=>by
        rcases(A k).1 hx with hx|hx
        ·exact g1.notF k (hf.own hx) f
        ·exact g1.notF k (hT.own (J k hx)) f,.inl (.inl f)⟩)
       (λS8 N=>by
        refine⟨Sk,fps.set e g++[H],λi=>by simp[Gh.put,fm],?_⟩;have:(M.put d j (fm M d j (fps.set e g++[H]).flatten)) d j 0=some (b,o):=by simp[Gh.put,fm,hG]
        rw[this];refine⟨r,et,hb,Sl,by simp;omega,D,λi hi R5 R3=> ?_,λe' u B=> ?_⟩
        ·have V:i≠e:=λh=>R3 _ (by rw[h])
         obtain⟨R4,e1⟩:=U i hi R5 V;rw[e1];exact ck.mono (λk W f K=>S8 k W (en hT hf f) K) a (λ_ _=>rfl) (R i hi R4 (λu B=>by cases B))
        ·cases B
         exact⟨O,by simp,λc B hr=>Sc _ _ _ c B hr⟩)
      have X:∀i,(M.put d j (fm M d j (fps.set e g++[H]).flatten)) d j (i+1)=((fps.set e g++[H]).flatten[i]?).map λb=>(b,0):=λi=>by simp[Gh.put,fm]
      generalize Ti:M.put d j (fm M d j (fps.set e g++[H]).flatten)=G2 at a1 a2 a3 a4 X
      generalize Y:bw z.2 d j (some ob1)=owA at a1 a2 a3 a4
      have Sw:ak owA d j=some (some ob1):=by rw[<-Y,aU Ss];simp
      have Z:bB (ak owA d j):=by rw[Sw];trivial
      have S9:Tr F M ow1 w G2 owA w:=oi a1 (λs' v h=>a2 s' v (Sp s' v h)) (λk f=>by
       rcases(a3 k).1 f with⟨hx,_⟩|hx
       ·exact hT.own hx
       ·rcases(A k).1 hx with hx|hx
        ·exact hf.own hx
        ·exact hT.own (J k hx)) (by rw[<-Y,bG,hT.len])
      have Sa:∀k W,cU (FP F S) M z.2 k->am w.heap k=some W->cU F G2 owA k/\am w.heap k=some W:=λk W f K=>⟨⟨λhx=>f.1 (.inl hx),λhx=>by
       rcases(a3 k).1 hx with⟨hx,_⟩|hx
       ·exact f.2 hx
       ·rcases(A k).1 hx with hx|hx
        ·exact f.1 (.inr hx)
        ·exact f.2 (J k hx)⟩,K⟩
      have Se:G2 d j 0=some (b,o):=by rw[a4,hG]
      have E:o+e*a.w+c+vs.length<=r.size:=by omega
      have R0:∀k∈(fps.set e g++[H]).flatten,(w.setCells b (o+e*a.w+c) vs).heap[k]?=w.heap[k]?:=by
       intro k f;obtain⟨i,o',m⟩:=(b8 X).2 f;refine World.heap_setCells_other w b _ _ (ci.lt a1 (aK.2 ⟨d,j,i+1,o',Z,m⟩)) λTa=> ?_
       subst Ta;obtain⟨_,_,e⟩:=a1.apart _ _ _ _ _ _ _ _ _ Z Z m Se
       cases e
      have hW:Tr F G2 owA w G2 (bw owA d j (some (.nrow a (l.set e z.1) none))) (w.setCells b (o+e*a.w+c) vs):=qY (ob':= .nrow a (l.set e z.1) none) a1 hF Sw trivial ⟨rfl,by simp⟩ trivial Se hb E λTb Tg Sb=>by
       refine⟨Sk,fps.set e g++[H],X,?_⟩;simp only[Se];refine⟨_,et,Tb,by rw[bR E];simpa using Sl,by simp;omega,λk f=>by rw[R0 k f];exact D k f,λi hi R5 _=> ?_,λe' u B=>by cases B⟩;have L:i<l.length:=by simpa using hi
       have R6:∀k∈(fps.set e g++[H])[i],(w.setCells b (o+e*a.w+c) vs).heap[k]?=w.heap[k]?:=λk f=>R0 k (iB R5 f)
       by_cases V:i=e
       ·subst V
        have Sd:i<(fps.set i g).length:=by simp;omega
        have e1:(fps.set i g++[H])[i]=g:=by rw[a1k Sd];simp
        rw[e1]at R6⊢;simp only[a3j];have e2:bT (nF r (o+i*a.w+c) vs) (o+i*a.w) a.w=(bT r (o+i*a.w) a.w).take c++vs++(bT r (o+i*a.w) a.w).drop (c+vs.length):=by
         refine a2e λq=> ?_
         by_cases hq:q<a.w
         ·rw[aN hq,iD E]
          have hs:=aN (r:=r) (o:=o+i*a.w) (n:=a.w) (i:=q) hq;have Tc:(bT r (o+i*a.w) a.w).length=a.w:=aW;by_cases h2:q<c
          ·rw[ifNegQ,a1u,a1l (by simp;omega),a4h,a0f h2,hs]
          ·by_cases h3:q<c+vs.length
           ·rw[ifPosQ,a1l (by simp;omega),a0y (by simp;omega)]
            congr 1
            simp;omega
           ·rw[ifNegQ,a0y (by simp;omega),a2y]
            have:c+vs.length+(q-((bT r (o+i*a.w) a.w).take c++vs).length)=q:=by simp;omega
            rw[this,hs]
         ·rw[kw,a1f]
          have Tc:(bT r (o+i*a.w) a.w).length=a.w:=aW;simp;omega
        rw[e2];exact ck.mono (λk W f K=>by
         obtain⟨k1,k2⟩:=Sa k W f K;exact Sb k W k1 k2) a R6 hS
       ·simp only[a3c (Ne.symm V)]
        obtain⟨R4,e1⟩:=U i L R5 V;rw[e1]at R6⊢;have e2:bT (nF r (o+e*a.w+c) vs) (o+i*a.w) a.w=bT r (o+i*a.w) a.w:=by
         rcases a3y i e with O|hge
         ·have:(i+1)*a.w<=e*a.w:=a0q _ O
          rw[a1a,a2w]at this;exact ca E
         ·have:(e+1)*a.w<=i*a.w:=a0q _ (by omega)
          rw[a1a,a2w]at this;exact iE E
        rw[e2];exact ck.mono (λk W f K=>by
         obtain⟨k1,k2⟩:=Sa k W (en hT hf f) K;exact Sb k W k1 k2) a R6 (R i L R4 (λu B=>by cases B))
      have Td:bw owA d j (some (.nrow a (l.set e z.1) none))=bw z.2 d j (some (.nrow a (l.set e z.1) none)):=by
       rw[<-Y,DY]
      rw[Td]at hW;exact⟨_,_,G2,h,f9 hi hb Sg h1 hl E,(Sy.trans S9).trans hW⟩
     ·exact h.elim
    ·exact h.elim
   ·exact h.elim
 ·split at h
  ·rename_i s' l p' hg
   obtain⟨B,h⟩:=h;have B:e=p'.1:=by simpa using B
   obtain⟨e0,u⟩:=p';have B:e=e0:=B;subst B;split at h
   ·rename_i Sx R7
    obtain⟨E,rfl⟩:=zJ R7;have hn:=aG hg
    cases hp with
    |rp hp=>
    simp only[hn]at hp;obtain⟨_,b,o,hG,rfl⟩:=hp;have I:=hh.obs d j _ hn;obtain⟨_,fps,_,I⟩:=I;simp only[hG]at I;obtain⟨r,et,hb,_⟩:=I;obtain⟨k1,k2⟩:=GA hh hF hn N hG hb E;exact⟨_,_,G,h,f9 hi hb Sg h1 hl k1,k2⟩
   ·exact h.elim
  ·exact h.elim
end
end Go.Pev
namespace Go.Pev
variable {s sh:Sh} {d b:Nat} {t e tx ty:TypeId} {Q:SV×OW->Prop} {h:Array Obj} {ok:Nat->Prop} {r:Array Value} {xv:Value}
section
variable {F:Nat->Prop} {G:Gh} {ow ow1 ow2:OW} {w:World} {P:Program}
def qg (k:bx F G ow w.heap) {w1:World} (n:w1.heap=w.heap) (c:Obj):bx (FP F [w.heap.size]) G ow (w1.alloc c).heap/\(∀s v,Sv F G ow w.heap s v->Sv (FP F [w.heap.size]) G ow (w1.alloc c).heap s v)/\∀b r,cU F G ow b->am w.heap b=some r->cU (FP F [w.heap.size]) G ow b/\am (w1.alloc c).heap b=some r:=by
 have l:∀b,b<w.heap.size->(w1.alloc c).heap[b]?=w.heap[b]?:=λb g=>by rw[co w1 c (by rw[n];exact g),n]
 have a:∀b r,am w.heap b=some r->am (w1.alloc c).heap b=some r:=λb r f=>by
  unfold am at f⊢;rw[l b (cB f)];exact f
 have h:∀b r,cU F G ow b->am w.heap b=some r->cU (FP F [w.heap.size]) G ow b/\am (w1.alloc c).heap b=some r:=λb r g f=>⟨⟨λhx=>by
  rcases hx with hx|hx
  ·exact g.1 hx
  ·have:=cB f
   have:b=w.heap.size:=by simpa using hx
   omega,g.2⟩,a b r f⟩
 have m:∀b r,am w.heap b=some r->∃p,am (w1.alloc c).heap b=some p/\p.size=r.size:=λb r f=>⟨r,a b r f,rfl⟩
 refine⟨⟨λd j o q=> ?_,k.apart,λb g hx=> ?_⟩,λs v e=>cn.mono (λ_ _ _=>rfl) (λ_ _=> .refl _) h m e,h⟩
 ·exact df.mono (λ_ _ _=>rfl) (λ_ _=> .refl _) h m rfl (λt i b u x=>l b (ci.lt k (aK.2 ⟨d,j,i,u,by rw[q];exact t,x⟩))) (k.obs d j o q)
 ·rcases hx with hx|hx
  ·exact k.notF b g hx
  ·have:=ci.lt k g
   have:b=w.heap.size:=by simpa using hx
   omega
def GB (l:bx F G ow w.heap) {p:Nat} {vs:List Value} {et:TypeId} (m:F b) (x:w.heap[b]?=some (.cells r et (0,0))) (y:p+vs.length<=r.size):bx F G ow (w.setCells b p vs).heap/\(∀s v,Sv F G ow w.heap s v->Sv F G ow (w.setCells b p vs).heap s v)/\∀a c,cU F G ow a->am w.heap a=some c->cU F G ow a/\am (w.setCells b p vs).heap a=some c:=by
 have u:=cV vs p w x y;have f:∀a c,cU F G ow a->am w.heap a=some c->cU F G ow a/\am (w.setCells b p vs).heap a=some c:=λa c h g=>⟨h,by
  unfold am;rw[World.heap_setCells_other w b _ _ (cB g) λe=>h.1 (e▸m)];exact g⟩
 have n:∀k t,am w.heap k=some t->∃c,am (w.setCells b p vs).heap k=some c/\c.size=t.size:=λk t g=>by
  by_cases e:k=b
  ·subst e
   rw[aP x]at g
   cases g
   exact⟨_,aP u,bR y⟩
  ·refine⟨t,?_,rfl⟩
   unfold am;rw[World.heap_setCells_other w b _ _ (cB g) e];exact g
 refine⟨⟨λd j o z=> ?_,l.apart,l.notF⟩,λs v e=>cn.mono (λ_ _ _=>rfl) (λ_ _=> .refl _) f n e,f⟩;exact df.mono (λ_ _ _=>rfl) (λ_ _=> .refl _) f n rfl (λA i k B C=>by
  have q:ci G ow k:=aK.2 ⟨d,j,i,B,by rw[z];exact A,C⟩;exact World.heap_setCells_other w b _ _ (ci.lt l q) λe=>l.notF k q (e▸m)) (l.obs d j o z)
def sA {F1 F2:Nat->Prop} (k:∀b,F2 b->F1 b) (g:bx F1 G ow h):bx F2 G ow h/\(∀s v,Sv F1 G ow h s v->Sv F2 G ow h s v)/\∀b r,cU F1 G ow b->am h b=some r->cU F2 G ow b/\am h b=some r:=by
 have a:∀b r,cU F1 G ow b->am h b=some r->cU F2 G ow b/\am h b=some r:=λb r f c=>⟨⟨λi=>f.1 (k b i),f.2⟩,c⟩
 refine⟨⟨λd j o l=> ?_,g.apart,λb f i=>g.notF b f (k b i)⟩,λs v e=>cn.mono (λ_ _ _=>rfl) (λ_ _=> .refl _) a (λb r c=>⟨r,c,rfl⟩) e,a⟩;exact df.mono (λ_ _ _=>rfl) (λ_ _=> .refl _) a (λb r c=>⟨r,c,rfl⟩) rfl (λ_ _ _ _ _=>rfl) (g.obs d j o l)
def oj (m:du ow ow1) {a:World} {c:List Nat} (o:bx (FP F c) G ow1 a.heap) (e:∀s v,Sv F G ow w.heap s v->Sv (FP F c) G ow1 a.heap s v) (p:fh (ci G ow) w a)
 (f:∀b∈c,¬F b/\(ci G ow b\/w.heap.size<=b)) (j:c.Nodup) {l:List s.T} {v:Value} (q:ck a.heap (cU (FP F c) G ow1) (.rows s) l [v] c) (n:bX ow1 d [.nrow s l none]=some ow2):
 ∃i,Tr F G ow w i ow2 a/\Sv F i ow2 a.heap (.wh d 0 0 []) v:=by
 obtain⟨i,c1,c2,r,t,y⟩:=sz (s:= .rows s) (x:=l) o q j (λb hb=>(f b hb).1) (d:=d) n;obtain⟨g,_,_⟩:=fj n;refine⟨i,⟨c1,λs v h=>r s v (e s v h),p,λb hb=> ?_,by rw[g,m.len]⟩,?_⟩
 ·rcases(t b).1 hb with hb|hb
  ·exact .inl (m.own hb)
  ·exact(f b hb).2
 ·obtain⟨u,k,h⟩:=c2.single'
  have k:v=u:=by simpa using k
  rw[k];exact h
def iF (h:k9 P e s=true):s.elem=true/\0<s.w/\s.w=cR P e/\0<c8 P e/\∃i z,P.info? e=some i/\i.zero=some z/\i.size=s.w/\c8 P e=i.bytes/\z.cells.size=s.w:=by
 unfold k9 at h;simp only[a0e,a0v]at h;obtain⟨⟨⟨⟨d,f⟩,c⟩,g⟩,a⟩:=h;refine⟨d,f,c,g,?_⟩;split at a
 ·rename_i z b
  cases hi:P.info? e with
  |none=>simp[hi]at b
  |some i=>
   simp[hi]at b;exact⟨i,z,rfl,b,by rw[c];simp[cR,Program.cellsOf,hi],by simp[c8,Program.bytesOf,hi],by simpa using a⟩
 ·cases a
def AM {e:TypeId} {s:Sh}:(g:List SV)-> {F:Nat->Prop}-> {ow ow1:OW}->(∀b,F b->b<w.heap.size)->bx F G ow w.heap-> {vs:List Value}->dq F G ow w.heap g vs-> {l:List s.T}->Qv P e s g ow=some (l,ow1)->∃fps:List (List Nat),du ow ow1/\jA G ow ow1 fps.flatten/\fps.flatten.Nodup/\l.length=vs.length/\fps.length=l.length/\∀i (d:i<l.length) (m:i<vs.length) (J:i<fps.length),ck w.heap (cU (FP F fps.flatten) G ow1) s l[i] vs[i].cells.toList fps[i]
 |[],F,ow,ow1,hF,hh,vs,hs,l,h=>by
  simp only[Qv,a0l,a0z]at h;obtain⟨rfl,rfl⟩:=h;have:vs=[]:=a0s hs.1.symm;subst this;exact⟨[],.refl _,.refl _ _,a2i,rfl,rfl,λi d=>by simp at d⟩
 |v::r,F,ow,ow1,hF,hh,vs,hs,l,h=>by
  simp only[Qv]at h;obtain⟨u,R,rfl,K,j⟩:=hs.uncons;split at h
  ·rename_i cs p
   split at h
   ·rename_i x a
    split at h
    ·rename_i y q
     simp only[a0l,a0z]at h;obtain⟨rfl,rfl⟩:=h;obtain⟨S,t,A,_,_⟩:=fH K p;obtain⟨f1,n,o,L,M⟩:=cA s (x:=x.1) (ow1:=x.2) hF hh A a;obtain⟨B,k⟩:=cM hh n o;have C:∀f,FP F f1 f->f<w.heap.size:=by
      intro f hb';rcases hb' with hb'|hb'
      ·exact hF f hb'
      ·exact ci.lt hh (o.own hb')
     obtain⟨fps,D,E,n2,l2,N,O⟩:=AM r (l:=y.1) (ow1:=y.2) C B ⟨j.1,λi d m=>k _ _ (j.2 i d m)⟩ q;refine⟨f1::fps,n.trans D,λz=> ?_,?_,by simp[l2],by simp[N],λi d m J=> ?_⟩
     ·rw[Gw.trans n D,<-o z,<-E z,a3f,a0k]
     ·rw[a3f]
      refine a2d.2 ⟨L,n2,λx a y q H=> ?_⟩;subst H;exact o.notOwn hh n a (E.own q)
     ·cases i with
      |zero=>
       simp only[a7w,t];exact ck.mono (λf Q hb' c=>⟨fS (λI a=>by rw[a3f]at a;exact mB.2 a) (en D E hb'),c⟩) s (λ_ _=>rfl) M
      |succ i=>
       simp only[a7x];exact ck.mono (λf Q hb' c=>⟨fS (λI a=>by rw[a3f]at a;exact mB.2 a) hb',c⟩) s (λ_ _=>rfl) (O i (by simpa using d) (by simpa using m) (by simpa using J))
    ·cases h
   ·cases h
  ·cases h
def wF {i:TypeInfo} {z:Value} {n:Nat} {vps:List (Nat×Value)} (F:P.underlying t=some (.slice e)) (u:P.info? e=some i) (H:i.zero=some z) (c:0<i.size) (b:vps.map (·.1)=List.range n) (G:n*i.size<=16777216) (m:∀v∈vps.map (·.2),v.cells.size=i.size):∃r,(Instr.buildSlice t n vps.toArray).run P w= .ok (.slice (some ⟨w.heap.size,0,none⟩) n n) (w.alloc (.cells r e))/\r.size=n*i.size/\∀j (y:j<(vps.map (·.2)).length),bT r (j*i.size) i.size=((vps.map (λx:Nat×Value=>x.2))[j]'y).cells.toList:=by
 have g:vps.length=n:=by
  have:=a1v List.length b;simpa using this
 have A:vps=((vps.map (·.2)).zipIdx 0).map λx=>(x.2,x.1):=sw vps 0 (by rw[b,g,a3x])
 have o:∀p:Array Value,∃r,Instr.fill (λj=>some (j*i.size,i.size)) ((Array.range (n*i.size)).map (p[· % p.size]!)) vps=some r/\r.size=n*i.size/\∀j (y:j<(vps.map (·.2)).length),bT r (j*i.size) i.size=((vps.map (λx:Nat×Value=>x.2))[j]'y).cells.toList:=by
  intro p;obtain⟨r,b,a,B⟩:=Great.fill_dense c (vps.map (·.2)) 0 ((Array.range (n*i.size)).map (p[· % p.size]!)) m (by simp[g]);rw[<-A]at b;simp only[Array.size_map,Array.size_range]at a;refine⟨r,b,a,λj h=> ?_⟩;have C:(j+1)*i.size<=n*i.size:=a0q _ (by simp at h;omega);rw[a1a,a2w]at C;apply a2e;intro q;have s:=m _ (a0n h);by_cases D:q<i.size
  ·rw[aN D,B]
   simp only[a7b,a4j,a1p,true_and,a4e,g];rw[ifPosQ];have I:(j*i.size+q)/i.size=j:=by rw[a6e,Nat.mul_add_div c,Nat.div_eq_of_lt D];rfl
   have J:(j*i.size+q) % i.size=q:=by rw[a6e,Nat.mul_add_mod,a7r D]
   rw[I,J,a8a,a0a h];simp
  ·rw[a1f (by rw[aW (by rw[a];omega)];omega),a1f (by simp only[a6a];rw[s];omega)]
 by_cases E:n*i.size=0
 ·obtain⟨r,b,a,k⟩:=o #[]
  refine⟨r,?_,a,k⟩;simp only[E]at b;have d:∀f:Nat->Value,(Array.range 0).map f= #[]:=λf=>by simp
  rw[d]at b;simp only[Instr.buildSlice,Sem.run_bind,run_underlying F,Result.andThen_ok,sizeOf,typeInfo,run_program,u,Sem.run_pure,E,a1z];simp only[d,b];simp[newRow]
 ·obtain⟨r,b,a,k⟩:=o z.cells
  refine⟨r,?_,a,k⟩;have l:¬(16777216<n*i.size):=by omega
  simp only[Instr.buildSlice,Sem.run_bind,run_underlying F,Result.andThen_ok,sizeOf,typeInfo,run_program,u,Sem.run_pure];simp[E,l,fR u H,b,newRow]
def My {f:List Nat}:FP (FP F f) [b]=FP F (b::f):=by
 funext x
 exact propext ⟨λh=>by
  rcases h with(h|h)|h
  ·exact .inl h
  ·exact .inr (a3a _ h)
  ·exact .inr (by simpa using Or.inl h),λh=>by
  rcases h with h|h
  ·exact .inl (.inl h)
  ·rcases a1j.1 h with h|h
   ·exact .inr (by simpa using h)
   ·exact .inl (.inr h)⟩
def wG (I:Nat->Prop) {w1:World} (d:w1.heap=w.heap) (g:w1.os=w.os) (e:w1.output=w.output) (a:w1.tape=w.tape) (c:Obj):fh I w (w1.alloc c):=⟨by simp[d],λb i _=>by rw[co w1 c (by rw[d];exact i),d],λb r et f h=>⟨r,by rw[co w1 c (by rw[d];exact(a1b.1 h).1),d];exact h,rfl⟩,g,e,a⟩
def wH {n:Nat} {ps:List (Nat×SV)} {vps:List (Nat×Value)} (o:bx F G ow w.heap) (X:∀b,F b->b<w.heap.size) (Y:ps.map (·.1)=vps.map (·.1)) (h2:dq F G ow w.heap (ps.map (·.2)) (vps.map (·.2))) (h:(wc P t n ps s ow d).can Q):DB P F G ow w Q (Instr.buildSlice t n vps.toArray):=by
 unfold wc at h;split at h
 ·exact h.elim
 rename_i e he;split at h
 ·rename_i hc
  obtain⟨Z,q,D⟩:=hc;obtain⟨E,R0,H,I,i,z,hi,hz,a,R1,_⟩:=iF D;split at h
  ·rename_i y hy
   split at h
   ·rename_i ow' hn
    have hu:=fz he;obtain⟨fps,hT,J,K,c,L,k⟩:=AM (P:=P) _ (l:=y.1) (ow1:=y.2) X o h2 hy;have M:vps.length=n:=by
     have:=a1v List.length Z;simp at this;have h3:=a1v List.length Y;simp at h3;omega
    have N:y.1.length=n:=by rw[c];simp[M]
    have O:∀v∈vps.map (·.2),v.cells.size=i.size:=by
     intro v hv;obtain⟨j,p,rfl⟩:=a4b hv;have:=ck.length s (k j (by rw[c];exact p) p (by rw[L,c];exact p));rw[a,<-this];simp
    obtain⟨r,u,R,f⟩:=wF (w:=w) hu hi hz (by omega) (by rw[<-Y];exact Z) (by rw[a,H];exact q) O;obtain⟨S,x⟩:=cM o hT J;obtain⟨a1,a2,a3⟩:=qg S (w1:=w) rfl (.cells r e);have A:(w.alloc (.cells r e)).heap[w.heap.size]?=some (.cells r e):=cH _ _;rw[My]at a1;have g:∀b∈fps.flatten,ci G ow b:=λb hb=>J.own hb
    have m:∀b∈fps.flatten,(w.alloc (.cells r e)).heap[b]?=w.heap[b]?:=λb hb=>co w _ (ci.lt o (g b hb))
    have hS:ck (w.alloc (.cells r e)).heap (cU (FP F (w.heap.size::fps.flatten)) G y.2) (.rows s) y.1 [.slice (some ⟨w.heap.size,0,none⟩) n n] (w.heap.size::fps.flatten):=by
     refine⟨_,rfl,E,_,n,by rw[N],by omega,.inr ⟨w.heap.size,0,r,e,fps,rfl,rfl,A,by rw[R,a];omega,by omega,λb hb=> ?_,λj p B=> ?_⟩⟩
     ·rw[m b hb]
      obtain⟨d',j',i',o',T,U,_⟩:=(J b).1 hb;exact lh o T U
     ·have C:j<(vps.map (·.2)).length:=by rw[<-c];exact p
      have e1:=f j C;rw[a]at e1;rw[a1p,e1];refine ck.mono (λb' r' V W=> ?_) s (λb hb=>m b (iB B hb)) (k j p C B);have:=a3 b' r' V W;rw[My]at this;exact this
    obtain⟨G2,k1,k2⟩:=oj (F:=F) hT a1 (λs v h=>by have:=a2 s v (x s v h);rw[My]at this;exact this) (wG _ rfl rfl rfl rfl _) (λb hb=>by
     rcases a1j.1 hb with rfl|hb
     ·exact⟨λhx=>a6w _ (X _ hx),.inr (a1m _)⟩
     ·exact⟨o.notF b (g b hb),.inl (g b hb)⟩) (a4u.2 ⟨λhb=>a6w _ (ci.lt o (g _ hb)),K⟩) hS hn
    exact⟨_,_,_,_,_,h,u,k1,k2⟩
   ·exact h.elim
  ·exact h.elim
 ·exact h.elim
def ck.one {h:Array Obj} {ok:Nat->Prop}:(s:Sh)->s.elem=true-> {x:s.T}-> {vs:List Value}-> {d:List Nat}->ck h ok s x vs d->∀u∈vs,u.oneCell'=true
 | .pur kd,hs,_,_,_,e=>by
  obtain⟨v,rfl,_,_,_,f⟩:=e;have g:kd.isSt=false:=by simpa using(a0e _ _▸hs:kd.noOwn=true/\(!kd.isSt)=true).2
  intro u hu;have:u=v:=by simpa using hu
  rw[this];exact f g
 | .own _,_,_,_,_,e=>by
  obtain⟨v,rfl,_,a,c,rfl,_⟩:=e;intro u hu;rw[a0x]at hu;subst hu;rfl
 | .rows _,_,_,_,_,e=>by
  obtain⟨v,rfl,_,a,c,rfl,_⟩:=e;intro u hu;rw[a0x]at hu;subst hu;rfl
 | .nil,_,_,_,_,e=>by rw[e.1];intro u hu;simp at hu
 | .cons a b,hs,_,_,_,e=>by
  simp only[Sh.elem,a0e]at hs;obtain⟨v,r,f1,f2,rfl,rfl,i,j⟩:=e;intro u hu;rcases a1j.1 hu with rfl|hu
  ·exact ck.one a hs.1.2 i _ (by simp)
  ·exact ck.one b hs.2 j u hu
 | .row _,hs,_,_,_,_=>by simp[Sh.elem]at hs
 | .nrw _,hs,_,_,_,_=>by simp[Sh.elem]at hs
 | .box _,hs,_,_,_,_=>by simp[Sh.elem]at hs
 | .agg _,hs,_,_,_,_=>by simp[Sh.elem]at hs
 | .fn _ _ _,hs,_,_,_,_=>by simp[Sh.elem]at hs
 | .ign,hs,_,_,_,_=>by simp[Sh.elem]at hs
 | .nl,hs,_,_,_,_=>by simp[Sh.elem]at hs
structure Q8 (h:Array Obj) (ok:Nat->Prop) (s:Sh) (l:List s.T) (v:Value) (fp:List Nat) (cs:List Value) (fps:List (List Nat)) (junk:List Nat):Prop where
 val:∃a c,v= .slice a l.length c/\l.length<=c/\((a=none/\l=[]/\c=0/\fp=[]/\fps=[]/\junk=[])\/∃b o r et,a=some ⟨b,o,none⟩/\h[b]?=some (.cells r et (0,0))/\o+c*s.w<=r.size/\cs=bT r o (l.length*s.w)/\fp.Perm (b::(fps.flatten++junk)))
 len:fps.length=l.length
 clen:cs.length=l.length*s.w
 el:∀i (hi:i<l.length) (hf:i<fps.length),ck h ok s l[i] ((cs.drop (i*s.w)).take s.w) fps[i]
def IB {l:List s.T} {v:Value} {q:List Nat} (e:ck h ok (.rows s) l [v] q):∃cs fps f,Q8 h ok s l v q cs fps f:=by
 obtain⟨t,k,u,a,c,g,d,e⟩:=e;have k:v=t:=by simpa using k
 subst k;rcases e with⟨rfl,rfl,rfl,rfl⟩|⟨b,o,r,et,fps,rfl,rfl,x,y,B,C,z⟩
 ·exact⟨[],[],[],⟨_,_,g,d,.inl ⟨rfl,rfl,rfl,rfl,rfl,rfl⟩⟩,rfl,by simp,λi j=>by simp at j⟩
 ·have A:l.length*s.w<=c*s.w:=a0q _ d
  have m:(bT r o (l.length*s.w)).length=l.length*s.w:=aW;refine⟨bT r o (l.length*s.w),fps.take l.length,(fps.drop l.length).flatten,⟨_,_,g,d,.inr ⟨b,o,r,et,rfl,x,y,rfl,?_⟩⟩,by simp;omega,m,λi j D=> ?_⟩
  ·rw[<-a4t,a3u]
  ·have p:(i+1)*s.w<=l.length*s.w:=a0q _ j
   rw[a1a,a2w]at p;have:=z i j (by omega);rw[gz (n:=l.length*s.w)]at this;simpa using this
def pL (d:s.elem=true) {l:List s.T} {o c:Nat} {et:TypeId} (k:h[b]?=some (.cells r et (0,0))) (a:l.length<=c) (m:o+c*s.w<=r.size) {fps:List (List Nat)} (p:l.length<=fps.length)
 (q:∀t∈fps.flatten,∃r et,h[t]?=some (Obj.cells r et (0,0))) {cs:List Value} (e:bT r o (l.length*s.w)=cs) (u:∀i (f:i<l.length) (j:i<fps.length),ck h ok s l[i] ((cs.drop (i*s.w)).take s.w) fps[i]):
 ck h ok (.rows s) l [.slice (some ⟨b,o,none⟩) l.length c] (b::fps.flatten):=by
 have v:l.length*s.w<=c*s.w:=a0q _ a;refine⟨_,rfl,d,_,_,rfl,a,.inr ⟨b,o,r,et,fps,rfl,rfl,k,m,p,q,λi f j=> ?_⟩⟩;have g:(i+1)*s.w<=l.length*s.w:=a0q _ f;rw[a1a,a2w]at g;rw[gz (n:=l.length*s.w),e];exact u i f j
def uc {l1 l2:List s.T} {c1 c2:List Value} {f1 f2:List (List Nat)} (n:f1.length=l1.length) (j:c1.length=l1.length*s.w)
 (k:∀i (c:i<l1.length) (d:i<f1.length),ck h ok s l1[i] ((c1.drop (i*s.w)).take s.w) f1[i]) (l:∀i (c:i<l2.length) (d:i<f2.length),ck h ok s l2[i] ((c2.drop (i*s.w)).take s.w) f2[i]) (a:List (List Nat)) (n2:f2.length=l2.length):
 ∀i (c:i<(l1++l2).length) (d:i<(f1++f2++a).length),ck h ok s (l1++l2)[i] (((c1++c2).drop (i*s.w)).take s.w) (f1++f2++a)[i]:=by
 intro i c d;rw[a0j]at c;have f:(f1++f2++a)[i]=(f1++f2)[i]'(by simp;omega):=a1k (by simp;omega);rw[f];by_cases b:i<l1.length
 ·have g:(i+1)*s.w<=l1.length*s.w:=a0q _ b
  rw[a1a,a2w]at g;rw[a1k b,a1k (by omega)];have e:((c1++c2).drop (i*s.w)).take s.w=(c1.drop (i*s.w)).take s.w:=by
   rw[List.drop_append_of_le_length (by omega),List.take_append_of_le_length (by simp;omega)]
  rw[e];exact k i b (by omega)
 ·rw[a1x (by omega),a1x (by omega)]
  have e:(c1++c2).drop (i*s.w)=c2.drop ((i-l1.length)*s.w):=by
   have:i*s.w=c1.length+(i-l1.length)*s.w:=by rw[j,<-a1a];congr 1;omega
   rw[this,List.drop_length_add_append]
  have m:i-f1.length=i-l1.length:=by omega
  simp only[e,m];exact l (i-l1.length) (by omega) (by omega)
def qh (d:s.elem=true) (a:0<s.w) {l:List s.T} {cs:List Value} {fps:List (List Nat)} (k:cs.length=l.length*s.w) (m:fps.length=l.length) (e:∀i (n:i<l.length) (o:i<fps.length),ck h ok s l[i] ((cs.drop (i*s.w)).take s.w) fps[i]):∀u∈cs,u.oneCell'=true:=by
 intro u f;obtain⟨q,g,rfl⟩:=a2h.1 f;have b:q/s.w<l.length:=(Nat.div_lt_iff_lt_mul a).2 (by omega);have j:=Nat.div_add_mod q s.w;have c:=Nat.mod_lt q a;refine ck.one s d (e (q/s.w) b (by omega)) _ (a8b.2 ⟨q % s.w,?_⟩);rw[a4h,a0f c,a2y,a6e,j,a0a g]
def Ov (o m k:Nat):bT r o (m+k)=bT r o m++bT r (o+m) k:=by
 simp[bT,List.take_add,a4o]
def ol {e':TypeId} (hh:bx F G ow w.heap) (hF:∀b,F b->b<w.heap.size) (N:P.underlying t=some (.slice e)) (Sn:P.underlying tx=some (.slice e')) (Sc:k9 P e sh=true)
 {F1:Nat->Prop} {g ow':OW} (hT:du ow g) (W:bx F1 G g w.heap) (y:∀s v,Sv F G ow w.heap s v->Sv F1 G g w.heap s v) (X:∀b,F b->F1 b)
 {l1 l2:List sh.T} {c1 c2:List Value} {f1 f2 J:List (List Nat)} (k1:c1.length=l1.length*sh.w) (k2:c2.length=l2.length*sh.w) (B:l1.length+l2.length<=(f1++f2++J).length)
 (hE:∀i (O:i<(l1++l2).length) (hf:i<(f1++f2++J).length),ck w.heap (cU F1 G g) sh (l1++l2)[i] (((c1++c2).drop (i*sh.w)).take sh.w) (f1++f2++J)[i])
 (R:(f1++f2++J).flatten.Nodup) (S:∀b∈(f1++f2++J).flatten,F1 b/\ci G ow b) {a1:Option Addr} {cap1:Nat}
 (Y:(a1=none/\l1=[]/\cap1=0)\/∃b o r et,a1=some ⟨b,o,none⟩/\w.heap[b]?=some (.cells r et (0,0))/\o+cap1*sh.w<=r.size/\c1=bT r o (l1.length*sh.w)/\F1 b/\ci G ow b/\b∉(f1++f2++J).flatten)
 (Sl:l1.length<=cap1) (C:Src P sh.w tx xv l2.length c2 w) (R1:(l1.length+l2.length)*c8 P e<=ag) (hn:bX g d [.nrow sh (l1++l2) none]=some ow') (h:Q (.wh d 0 0 [],ow')):
 DB P F G ow w Q (Builtin.append_ #[t,tx] ty #[.slice a1 l1.length cap1,xv]):=by
 obtain⟨Z,Sm,So,D,i,z,O,hz,q,Sd,Se⟩:=iF Sc;have m:∀b∈(f1++f2++J).flatten,∃r et,w.heap[b]?=some (Obj.cells r et (0,0)):=λb hb=>by
  obtain⟨d',j',i',o',Sf,Sg⟩:=aK.1 (S b hb).2;exact lh hh Sf Sg
 have R2:∀(b:Nat),(b=w.heap.size\/F1 b)->∀x,FP F (b::(f1++f2++J).flatten) x->FP F1 [w.heap.size] x:=λb hb x hx=>by
  rcases hx with hx|hx
  ·exact .inl (X x hx)
  ·rcases a1j.1 hx with rfl|hx
   ·rcases hb with hb|hb
    ·exact .inr (by simp[hb])
    ·exact .inl hb
   ·exact .inl (S x hx).1
 have U:∀(b:Nat),(b=w.heap.size\/ci G ow b)->∀x∈b::(f1++f2++J).flatten,¬F x/\(ci G ow x\/w.heap.size<=x):=λb hb x hx=>by
  rcases a1j.1 hx with rfl|hx
  ·rcases hb with rfl|hb
   ·exact⟨λhx=>a6w _ (hF _ hx),.inr (a1m _)⟩
   ·exact⟨hh.notF _ hb,.inl hb⟩
  ·exact⟨hh.notF _ (S x hx).2,.inl (S x hx).2⟩
 by_cases E:a1=none/\l2.length=0
 ·obtain⟨rfl,Si⟩:=E
  have Sj:l2=[]:=a0s Si;subst Sj;have Sk:c2=[]:=a0s (by rw[k2];simp);subst Sk;rcases Y with⟨_,rfl,rfl⟩|⟨b,o,r,et,h0,_⟩
  ·obtain⟨d1,d2,d3⟩:=sA (F1:=F1) (F2:=FP F []) (λb hb=>by
    rcases hb with hb|hb
    ·exact X b hb
    ·simp at hb) W
   have hS:ck w.heap (cU (FP F []) G g) (.rows sh) [] [.slice none 0 0] []:=⟨_,rfl,Z,none,0,rfl,a1m _,.inl ⟨rfl,rfl,rfl,rfl⟩⟩;obtain⟨G2,q1,q2⟩:=oj (F:=F) hT d1 (λs v h=>d2 s v (y s v h)) (.refl _ _) (λb hb=>by simp at hb) a2i hS hn;exact⟨_,_,_,_,_,h,g9 N O none (by rw[q];exact C),q1,q2⟩
  ·cases h0
 by_cases f:l1.length+l2.length<=cap1
 ·rcases Y with⟨rfl,rfl,rfl⟩|⟨b,o,r,et,rfl,hb,V,L,R3,R4,R5⟩
  ·exact absurd ⟨rfl,by simpa using f⟩ E
  ·have R6:(l1.length+l2.length)*sh.w<=cap1*sh.w:=a0q _ f
   rw[a1a]at R6;have H:o+l1.length*sh.w+c2.length<=r.size:=by rw[k2];omega
   have k:=run_append_room_src (P:=P) w t tx ty e i N O b o l1.length cap1 _ l2.length c2 (by rw[q];exact C) f
    (λj hj=>by rw[q,bQ (aP hb)];simp;omega)
    (λj hj=>by unfold World.frozen?;rw[hb];simp)
   rw[q]at k;obtain⟨q1,q2,q3⟩:=GB (p:=o+l1.length*sh.w) (vs:=c2) W R3 hb H;obtain⟨d1,d2,d3⟩:=sA (F2:=FP F (b::(f1++f2++J).flatten)) (λx hx=>by
    rcases hx with hx|hx
    ·exact X x hx
    ·rcases a1j.1 hx with rfl|hx
     ·exact R3
     ·exact(S x hx).1) q1
   have I:=cV c2 (o+l1.length*sh.w) w hb H;have a:∀x∈(f1++f2++J).flatten,(w.setCells b (o+l1.length*sh.w) c2).heap[x]?=w.heap[x]?:=λx hx=>
    World.heap_setCells_other w b _ _ (ci.lt hh (S x hx).2) λe=>R5 (e▸hx)
   have hS:=pL (ok:=cU (FP F (b::(f1++f2++J).flatten)) G g) Z (l:=l1++l2) (b:=b) (o:=o) (c:=cap1) (fps:=f1++f2++J) (cs:=c1++c2) I (by simpa using f) (by rw[bR H];exact V) (by simpa using B)
    (λx hx=>by rw[a x hx];exact m x hx) (by
     rw[a0j,a1a,<-k2,Ov,ca H (a1m _),eH H,<-L])
    (λi O hf=>ck.mono (λb' r' I R0=>by
     obtain⟨m1,M⟩:=q3 b' r' I R0;exact d3 b' r' m1 M) sh (λx hx=>a x (iB hf hx)) (hE i O hf))
   obtain⟨G2,m1,M⟩:=oj (F:=F) hT d1 (λs v h=>d2 s v (q2 s v (y s v h))) (gS R4 w _ _) (U b (.inr R4)) (a4u.2 ⟨R5,R⟩) hS hn;rw[a0j]at M;exact⟨_,_,_,_,_,h,k,m1,M⟩
 ·have K:cap1<l1.length+l2.length:=by omega
  have R7:(Builtin.firstCells i.size l1.length (.slice a1 l1.length cap1)).run P w.drew= .ok c1.toArray w.drew:=by
   rcases Y with⟨rfl,rfl,rfl⟩|⟨b,o,r,et,rfl,hb,V,L,_⟩
   ·have:c1=[]:=a0s (by rw[k1];simp)
    rw[this];exact run_firstCells_none w.drew i.size 0 0 0
   ·refine run_firstCells_some w.drew i.size l1.length _ _ _ _ (by rw[q];exact k1) (λj u N=> ?_)
    rw[Addr.add_mid];show w.cell? _=_;rw[L]at N;rw[bQ (aP hb),<-N,aN];rcases a3y j (l1.length*sh.w)with h|h
    ·exact h
    ·rw[a1f (by rw[<-L,k1];exact h)]at N;cases N
  rw[Sd]at R1 D;unfold ag at R1;have h3:l1.length+l2.length<=(l1.length+l2.length)*i.bytes:=a4m _ D;have R8:=nw (l1.length+l2.length) cap1 K;have R9:Builtin.nextslicecap (l1.length+l2.length) cap1*i.bytes<=281474976710656:=by
   have:=a0q i.bytes R8;rw[Nat.mul_assoc]at this;omega
  have k:=run_append_grow_src (P:=P) w t tx ty e i z N O hz a1 l1.length cap1 c1 R7 _ l2.length c2 (by rw[q];exact C) K (by omega) R9;have Sa:=grownCap_ge w (l1.length+l2.length) cap1 e
  generalize Sp:grownCap w (l1.length+l2.length) cap1 e=cc at k Sa
  obtain⟨q1,q2,q3⟩:=qg W (w1:=w.drew) rfl (.cells ((c1++c2).toArray++Builtin.zeroCells z.cells (cc-(l1.length+l2.length))) e);obtain⟨d1,d2,d3⟩:=sA (F2:=FP F (w.heap.size::(f1++f2++J).flatten)) (R2 _ (.inl rfl)) q1;have Sb:(w.drew.alloc (.cells ((c1++c2).toArray++Builtin.zeroCells z.cells (cc-(l1.length+l2.length))) e)).heap[w.heap.size]?=some (.cells ((c1++c2).toArray++Builtin.zeroCells z.cells (cc-(l1.length+l2.length))) e):=cH w.drew _;have a:∀x∈(f1++f2++J).flatten,(w.drew.alloc (.cells ((c1++c2).toArray++Builtin.zeroCells z.cells (cc-(l1.length+l2.length))) e)).heap[x]?=w.heap[x]?:=λx hx=>co w.drew _ (ci.lt hh (S x hx).2)
  have n:(c1++c2).length=(l1.length+l2.length)*sh.w:=by rw[a0j,k1,k2,a1a]
  have hS:=pL (ok:=cU (FP F (w.heap.size::(f1++f2++J).flatten)) G g) Z (l:=l1++l2) (b:=w.heap.size) (o:=0) (c:=cc) (fps:=f1++f2++J) (cs:=c1++c2) Sb (by simpa using Sa) (by
   simp only[a3e,a2v,n,dP,Se];rw[<-a1a,a1p];exact a0q _ (by omega)) (by simpa using B)
   (λx hx=>by rw[a x hx];exact m x hx) (by
    rw[a0j,<-n]
    generalize c1++c2=A
    simp[bT])
   (λi O hf=>ck.mono (λb' r' I R0=>by
    obtain⟨m1,M⟩:=q3 b' r' I R0;exact d3 b' r' m1 M) sh (λx hx=>a x (iB hf hx)) (hE i O hf))
  obtain⟨G2,m1,M⟩:=oj (F:=F) hT d1 (λs v h=>d2 s v (q2 s v (y s v h))) (wG (w:=w) (w1:=w.drew) _ rfl rfl rfl rfl _) (U _ (.inl rfl)) (a4u.2 ⟨λhx=>a6w _ (ci.lt hh (S _ hx).2),R⟩) hS hn;rw[a0j]at M;exact⟨_,_,_,_,_,h,k,m1,M⟩
def u5 {s x:SV} {sv:Value} (U:bx F G ow w.heap) (hF:∀b,F b->b<w.heap.size) (hs:Sv F G ow w.heap s sv) (hx:Sv F G ow w.heap x xv) (R9:gj P tx=true) (h:(sj P t s x sh ow d).can Q):DB P F G ow w Q (Builtin.append_ #[t,tx] ty #[sv,xv]):=by
 obtain⟨e',K⟩:=gR R9;unfold sj at h;split at h
 ·exact h.elim
 rename_i e he;have V:=fz he;split at h
 ·rename_i y1 Sa
  split at h
  ·rename_i y2 W
   split at h
   ·rename_i X
    obtain⟨n,h⟩:=h;have n:=a0w n;obtain⟨Y,C,Sp,Sb,i,z,hi,hz,Z,Sq,Sr⟩:=iF X;split at h
    ·rename_i ow' hn
     obtain⟨l1,Ss⟩:=y1;obtain⟨l2,Sc⟩:=y2;dsimp only at W n hn h;obtain⟨f,t1,o1,n1,r1⟩:=cA (.rows sh) hF U (.cons hs .nil) Sa;obtain⟨R0,D⟩:=cM U t1 o1;have Sd:∀b',FP F f b'->b'<w.heap.size:=by
      intro b' hb';rcases hb' with hb'|hb'
      ·exact hF b' hb'
      ·exact ci.lt U (o1.own hb')
     obtain⟨E,t2,o2,n2,r2⟩:=cA (.rows sh) Sd R0 (.cons (D _ _ hx) .nil) W;obtain⟨Se,R1⟩:=cM R0 t2 o2;have hT:=t1.trans t2;have Sf:ck w.heap (cU (FP (FP F f) E) G Sc) (.rows sh) l1 [sv] f:=ck.mono (λb' r' hb' Sg=>⟨en t2 o2 hb',Sg⟩) (.rows sh) (λ_ _=>rfl) r1;obtain⟨c1,f1,H,y⟩:=IB Sf;obtain⟨c2,f2,I,g⟩:=IB r2;obtain⟨a1,cap1,rfl,R2,L⟩:=y.val;obtain⟨a2,R3,rfl,Sn,M⟩:=g.val;have c:∀b,b∈f\/b∈E->ci G ow b:=λb hb=>by
      rcases hb with hb|hb
      ·exact o1.own hb
      ·exact t1.own (o2.own hb)
     have k:∀b∈f,b∉E:=λb hb Si=>o1.notOwn U t1 hb (o2.own Si)
     have R8:∀b,b∈f\/b∈E->∃r et,w.heap[b]?=some (Obj.cells r et (0,0)):=λb hb=>by
      obtain⟨d',j',i',o',Sj,Sk⟩:=aK.1 (c b hb);exact lh U Sj Sk
     have l:∀b,b∈f1.flatten++H->b∈f:=λb hb=>by
      rcases L with⟨_,_,_,rfl,rfl,rfl⟩|⟨b1,o,r,et,_,_,_,_,A⟩
      ·simp at hb
      ·exact A.mem_iff.2 (a3a _ hb)
     have a:∀b,b∈f2.flatten++I->b∈E:=λb hb=>by
      rcases M with⟨_,_,_,rfl,rfl,rfl⟩|⟨b1,o,r,et,_,_,_,_,A⟩
      ·simp at hb
      ·exact A.mem_iff.2 (a3a _ hb)
     have R4:(f1.flatten++H).Nodup:=by
      rcases L with⟨_,_,_,rfl,rfl,rfl⟩|⟨b1,o,r,et,_,_,_,_,A⟩
      ·simp
      ·exact(a4u.1 (A.nodup_iff.1 n1)).2
     have R5:(f2.flatten++I).Nodup:=by
      rcases M with⟨_,_,_,rfl,rfl,rfl⟩|⟨b1,o,r,et,_,_,_,_,A⟩
      ·simp
      ·exact(a4u.1 (A.nodup_iff.1 n2)).2
     have N:(f1++f2++[H,I]).flatten.Perm ((f1.flatten++H)++(f2.flatten++I)):=by
      refine a3k.2 λq=> ?_
      simp only[a4t,a3f,a7t,a2b,a6n];omega
     have R6:(f1++f2++[H,I]).flatten.Nodup:=N.nodup_iff.2 (a2d.2 ⟨R4,R5,λp A q hq Sl=>by
      subst Sl;exact k p (l p A) (a p hq)⟩)
     have O:∀b∈(f1++f2++[H,I]).flatten,b∈f\/b∈E:=λb hb=>by
      rcases a0k.1 (N.mem_iff.1 hb)with hb|hb
      ·exact .inl (l b hb)
      ·exact .inr (a b hb)
     have R:l1.length+l2.length<=(f1++f2++[H,I]).length:=by simp only[a0j,y.len,g.len];omega
     have hE:=uc y.len y.clen y.el g.el [H,I] g.len;have Sm:∀u∈c1,u.oneCell'=true:=qh Y C y.clen y.len y.el;have S:∀u∈c2,u.oneCell'=true:=qh Y C g.clen g.len g.el;have J:Src P i.size tx (.slice a2 l2.length R3) l2.length c2 w:=by
      rw[Z];rcases M with⟨rfl,rfl,rfl,_⟩|⟨b,o,r,et,rfl,hb,So,B,_⟩
      ·have:c2=[]:=a0s (by rw[g.clen];simp)
       rw[this];exact Src.ofNil w K 0
      ·refine Src.ofSlice w K _ _ _ _ g.clen (λj u V=> ?_) S
       rw[B]at V;rw[Addr.add_mid,bQ (aP hb),<-V,aN];rcases a3y j (l2.length*sh.w)with h|h
       ·exact h
       ·rw[a1f (by rw[<-B,g.clen];exact h)]at V;cases V
     have Su:∀b,FP (FP F f) E b↔F b\/b∈f\/b∈E:=λb=>by simp[FP,or_assoc]
     rw[Z]at J;refine ol (ty:=ty) U hF V K X hT Se (λs v h=>R1 s v (D s v h)) (λb hb=> .inl (.inl hb)) y.clen g.clen R hE R6 (λb hb=> ?_) ?_ R2 J n hn h
     ·rcases O b hb with hb|hb
      ·exact⟨.inl (.inr hb),c b (.inl hb)⟩
      ·exact⟨.inr hb,c b (.inr hb)⟩
     ·rcases L with⟨h1,h2,h3,_⟩|⟨b,o,r,et,h1,hb,R7,B,m⟩
      ·exact .inl ⟨h1,h2,h3⟩
      ·have T:b∈f:=m.mem_iff.2 (by simp)
       refine .inr ⟨b,o,r,et,h1,hb,R7,B,.inl (.inr T),c b (.inl T),λhx=> ?_⟩;rcases a0k.1 (N.mem_iff.1 hx)with hx|hx
       ·exact(a4u.1 (m.nodup_iff.1 n1)).1 hx
       ·exact k b T (a b hx)
    ·exact h.elim
   ·exact h.elim
  ·exact h.elim
 ·exact h.elim
def Cm {l1 l2:List (List Nat)} (h:l1.Sublist l2):l1.flatten.Sublist l2.flatten:=by
 induction h with
 |slnil=>exact a7m _
 |cons a h ih=>rw[a3f];exact ih.trans (List.sublist_append_right _ _)
 |cons_cons a h ih=>rw[a3f,a3f];exact(a7m a).append ih
def Ju {α:Type} (l:List α) {a b c n2:Nat} (h:a+b<=c):(aM l a b++aM l c n2).Sublist l:=by
 have d:l.drop a=(l.drop a).take b++l.drop (a+b):=by rw[<-a4o,a3u]
 have e:(l.drop c).Sublist (l.drop (a+b)):=by
  have:l.drop c=(l.drop (a+b)).drop (c-(a+b)):=by rw[a4o];congr 1;omega
  rw[this];exact a7n _ _
 have:(aM l a b++aM l c n2).Sublist (l.drop a):=by
  rw[d];exact(a7m _).append ((List.take_sublist _ _).trans e)
 exact this.trans (a7n _ _)
def Cn {s x:SV} {sv:Value} (hh:bx F G ow w.heap) (hF:∀b,F b->b<w.heap.size) (hs:Sv F G ow w.heap s sv) (hx:Sv F G ow w.heap x xv) (Sm:gj P tx=true) (h:(Gn P t s x sh ow d).can Q):DB P F G ow w Q (Builtin.append_ #[t,tx] ty #[sv,xv]):=by
 obtain⟨e',L⟩:=gR Sm;unfold Gn at h;split at h
 ·rename_i H I v1 Z C d2 j2 v2 o2 n2 e he
  have hu:=fz he;split at h
  ·rename_i Sn
   obtain⟨rfl,rfl⟩:=Sn;split at h
   ·rename_i ow1 h0
    obtain⟨G1,W,g2,g3,g4,_⟩:=jV hF hh h0;have So:Tr F G ow w G1 ow1 w:=oi W g2 g3 g4;split at h
    ·rename_i r hr
     obtain⟨_,hn⟩:=ij hr;obtain⟨g,l⟩:=r;dsimp only at h hn;split at h
     ·rename_i Sp
      subst Sp;split at h
      ·rename_i R0
       obtain⟨aC,R1,h⟩:=h;have aC:Z+C<=o2:=a0w aC;have R1:(C+n2)*c8 P e<=ag:=a0w R1;split at h
       ·rename_i ow' k
        have k:bX (bw ow1 H I none) d [.nrow g (aM l Z C++aM l o2 n2) none]=some ow':=k;have M:=g2 _ _ hs;have N:=g2 _ _ hx
        cases M with
        |os M=>
        cases N with
        |os N=>
        simp only[cX,hn,a2r]at M N;obtain⟨R2,a1,cap1,rfl,D,R7⟩:=M;obtain⟨R3,a2,R8,rfl,R4,R9⟩:=N;obtain⟨Sq,Sa,_⟩:=iF R0;have O:bB (ak ow1 H I):=by rw[hn];trivial
        have Sb:ak ow1 H I≠none:=by rw[hn];simp
        have X:(aM l Z C).length=C:=jB R2;have s2:(aM l o2 n2).length=n2:=jB R3;obtain⟨_,fps,hG,R⟩:=W.obs H I _ hn;obtain⟨m1,m2⟩:=iW W O hG;have Sc:∀ {c:Sem Value},DB P F G1 ow1 w Q c->DB P F G ow w Q c:=λ⟨s,ow',v,w',G',q1,q2,q3,q4⟩=>⟨s,ow',v,w',G',q1,q2,So.trans q3,q4⟩
        refine Sc ?_
        cases hg:G1 H I 0 with
        |none=>
         simp only[hg]at R;obtain⟨rfl,_,rfl⟩:=R;have z1:C=0:=by simp at R2;omega
         have z2:n2=0:=by simp at R3;omega
         subst z1;subst z2;rcases R7 with⟨_,rfl,rfl⟩|⟨b,o,A,r',f,_⟩
         ·rcases R9 with⟨_,rfl,rfl⟩|⟨b,o,A,r',f,_⟩
          ·have hT:=sy O
           have Sr:jA G1 ow1 (bw ow1 H I none) []:=λx=>by
            constructor
            ·intro hx;simp at hx
            ·rintro⟨d',j',i',A,Sd,f,R5⟩
             rw[aU Sb]at R5;split at R5
             ·rename_i e
              rw[e.1,e.2]at f
              cases i' with
              |zero=>rw[hg]at f;cases f
              |succ i'=>rw[hG]at f;simp at f
             ·rw[R5]at Sd;exact Sd.elim
           obtain⟨k1,k2⟩:=cM W hT Sr;have Ss:aM ([]:List g.T) Z 0=[]:=by simp[aM]
           have Su:aM ([]:List g.T) o2 0=[]:=by simp[aM]
           rw[Ss,Su]at k;exact ol (ty:=ty) (l1:=[]) (l2:=[]) (c1:=[]) (c2:=[]) (f1:=[]) (f2:=[]) (J:=[]) W hF hu L R0 hT k1 k2 (λb S=> .inl S) (by simp) (by simp) (by simp) (λi hi=>by simp at hi) (by simp) (λb S=>by simp at S) (.inl ⟨rfl,rfl,rfl⟩) (a1m _) (Src.ofNil w L 0) (by simp[ag]) k h
          ·rw[hg]at f;cases f
         ·rw[hg]at f;cases f
        |some q=>
         obtain⟨b,o⟩:=q;simp only[hg]at R;obtain⟨r,et,S,S6,S7,hj,Se,_⟩:=R;obtain⟨t1,t2,t3,t4⟩:=wD (ow1:=ow1) (ow2:=bw ow1 H I none) (fps':=fps) (fp1:=[]) W O hG (.refl _) (.refl _ _) a2i O bG (λd' j'=>aU Sb) (by simp) hg;obtain⟨k1,k2⟩:=cM W t1 t2;have R6:=Ju fps (n2:=n2) aC;have y:=Cm R6;have Y:∀ {K B z:Nat} {a:Option Addr},K+B<=l.length->B<=z->((G1 H I 0=none/\a=none/\z=0)\/∃b o A r,G1 H I 0=some (b,o)/\a=some ⟨b,A,none⟩/\am w.heap b=some r/\(0<z->A=o+K*g.w)/\A+z*g.w<=r.size)->∃A,a=some ⟨b,A,none⟩/\A+z*g.w<=r.size/\(bT r A (B*g.w)).length=B*g.w/\∀i (hi:i<(aM l K B).length) (hf:i<(aM fps K B).length),ck w.heap (cU (FP F (b::fps.flatten)) G1 (bw ow1 H I none)) g (aM l K B)[i] (((bT r A (B*g.w)).drop (i*g.w)).take g.w) (aM fps K B)[i]:=by
          intro K B z a Sf Sg hv;rcases hv with⟨h1,_⟩|⟨b',S8,A,r',f,ha,U,Sw,Sx⟩
          ·rw[hg]at h1;cases h1
          ·rw[hg]at f
           cases f
           have:r'=r:=by
            rw[aP S]at U;exact(a1e U).symm
           subst this;have S5:B*g.w<=z*g.w:=a0q _ Sg;refine⟨A,ha,Sx,aW,λi hi hf=> ?_⟩;have Sy:i<B:=by rw[jB Sf]at hi;exact hi
           have e1:=Sw (by omega);have Sz:(i+1)*g.w<=B*g.w:=a0q _ Sy;rw[a1a,a2w]at Sz;have e2:=gz (r:=r') (o:=A) (n:=B*g.w) (p:=i*g.w) (m:=g.w);rw[<-e2,wC Sf,wC (l:=fps) (by omega),e1,show o+K*g.w+i*g.w=o+(K+i)*g.w by rw[a1a];omega];exact ck.mono (λb' r' Si U=>⟨t4 b' ⟨λhx=>by
            rcases hx with hx|hx
            ·exact Si.1 hx
            ·simp at hx,Si.2⟩,U⟩) g (λ_ _=>rfl) (Se (K+i) (by omega) (by omega) (λS0 hc=>by cases hc))
         obtain⟨p1,rfl,S3,Sj,S4⟩:=Y R2 D R7;obtain⟨p2,rfl,S9,V,Sk⟩:=Y R3 R4 R9;have q1:(aM fps Z C).length=C:=jB;have q2:(aM fps o2 n2).length=n2:=jB;have hE:=uc (by rw[q1,X]) (by rw[Sj,X]) S4 Sk [] (by rw[q2,s2]);have Sl:=qh Sq Sa (by rw[V,s2]) (by rw[q2,s2]) Sk;have E:=ol (ty:=ty) (l1:=aM l Z C) (l2:=aM l o2 n2) (c1:=bT r p1 (C*g.w)) (c2:=bT r p2 (n2*g.w)) (f1:=aM fps Z C) (f2:=aM fps o2 n2) (J:=[]) (a1:=some ⟨b,p1,none⟩) (cap1:=cap1) (xv:= .slice (some ⟨b,p2,none⟩) n2 R8) W hF hu L R0 t1 k1 k2 (λb S=> .inl S)
          (by rw[Sj,X]) (by rw[V,s2]) (by simp[X,s2,q1,q2]) hE (by rw[a2b];exact y.nodup m1)
          (λx hx=>by
           rw[a2b]at hx;have hx:=y.subset hx;exact⟨.inr (a3a _ hx),t2.own (a3a _ hx)⟩)
          (.inr ⟨b,p1,r,et,rfl,S,S3,by rw[X],.inr (by simp),t2.own (by simp),λhx=>by
           rw[a2b]at hx;exact m2 b o hg (y.subset hx)⟩)
          (by rw[X];exact D) (by
           rw[s2];refine Src.ofSlice w L _ _ _ _ V (λj u hu=> ?_) Sl;rw[Addr.add_mid,bQ (aP S),<-hu,aN];rcases a3y j (n2*g.w)with h|h
           ·exact h
           ·rw[a1f (by rw[V];exact h)]at hu;cases hu)
          (by rw[X,s2];exact R1) k h
         rw[X]at E;exact E
       ·exact h.elim
      ·exact h.elim
     ·exact h.elim
    ·exact h.elim
   ·exact h.elim
  ·exact h.elim
 ·exact h.elim
def ud {vs:List Value} (h:B4 vs=true):vs=[.slice none 0 0]:=by
 unfold B4 at h;split at h
 ·rfl
 ·cases h
def om {h:Array Obj} {ok:Nat->Prop}:(s:Sh)->s.elem=true->(vs:List Value)->lR s vs=true->ck h ok s s.z vs []
 | .pur kd,hs,vs,hz=>by
  have f:kd.isSt=false:=by simpa using(a0e _ _▸hs:kd.noOwn=true/\(!kd.isSt)=true).2
  match vs,hz with
  |[],hz=>simp[lR]at hz
  |[v],hz=>
   simp only[lR]at hz;have c:=jr (h:=h) (ok:=ok) kd [v] hz;have d:v.oneCell'=true:=by
    cases kd with
    |int k=>cases c;rfl
    |bool=>cases c;rfl
    |str=>cases c;rfl
    |err=>rcases c with⟨_,c⟩|⟨_,_,_,c⟩<;>(cases c;rfl)
    |any=>cases c;rfl
    |sl o e=>
     cases o with
     |true=>exact c.elim
     |false=>obtain⟨_,_,c,_⟩:=c;cases c;rfl
    |nil=>simp[Kd.isSt]at f
    |cons a b=>simp[Kd.isSt]at f
    |tree a=>obtain⟨i,c,g⟩:=c;cases c;obtain⟨_,_,rfl⟩:=g.ptr;rfl
   refine⟨v,rfl,rfl,?_,λh=>(by rw[f]at h;cases h),λ_=>d⟩;have:v.cells= #[v]:=iC d;rw[this];exact c
  |_::_::_,hz=>simp[lR]at hz
 | .own k,_,vs,hz=>by
  simp only[lR,a0e]at hz;rw[ud hz.1];exact⟨_,rfl,hz.2,none,0,rfl,a1m _,.inl ⟨rfl,rfl,rfl,rfl⟩⟩
 | .rows s,_,vs,hz=>by
  simp only[lR,a0e]at hz;rw[ud hz.1];exact⟨_,rfl,hz.2,none,0,rfl,a1m _,.inl ⟨rfl,rfl,rfl,rfl⟩⟩
 | .nil,_,vs,hz=>by
  match vs,hz with
  |[],_=>exact⟨rfl,rfl⟩
  |_::_,hz=>simp[lR]at hz
 | .cons a b,hs,vs,hz=>by
  simp only[Sh.elem,a0e]at hs
  match vs,hz with
  |[],hz=>simp[lR]at hz
  |v::r,hz=>
   simp only[lR,a0e]at hz;exact⟨v,r,[],[],rfl,rfl,om a hs.1.2 [v] hz.1,om b hs.2 r hz.2⟩
 | .row _,hs,_,_=>by simp[Sh.elem]at hs
 | .nrw _,hs,_,_=>by simp[Sh.elem]at hs
 | .box _,hs,_,_=>by simp[Sh.elem]at hs
 | .agg _,hs,_,_=>by simp[Sh.elem]at hs
 | .fn _ _ _,hs,_,_=>by simp[Sh.elem]at hs
 | .ign,hs,_,_=>by simp[Sh.elem]at hs
 | .nl,hs,_,_=>by simp[Sh.elem]at hs
def DZ (m:Nat):(List.replicate m ([]:List Nat)).flatten=[]:=by
 induction m with
 |zero=>rfl
 |succ m ih=>simp[List.replicate_succ]
def GC {n c:Int} (I:bx F G ow w.heap) (J:∀b,F b->b<w.heap.size) (K:lP P t=some e) (r:k9 P e s=true) (u:B5 P e s=true) (Y:0<=n) (L:n<=c) (B:c*c8 P e<=ag) {ow':OW} (g:bX ow d [.nrow s (List.replicate n.toNat s.z) none]=some ow') (h:Q (.wh d 0 0 [],ow')):DB P F G ow w Q (Instr.makeSlice t (.int .i64 n) (.int .i64 c)):=by
 obtain⟨k,C,_,a,i,z,D,E,o,v,x⟩:=iF r;have y:lR s z.cells.toList=true:=by simpa [B5,D,E]using u
 have M:=fz K;obtain⟨m,rfl⟩:∃m:Nat,c=(m:Int):=⟨c.toNat,by omega⟩;obtain⟨l,rfl⟩:∃l:Nat,n=(l:Int):=⟨n.toNat,by omega⟩;rw[v]at B a;have A:m*i.bytes<=ag:=by exact_mod_cast B
 have Z:m<=m*i.bytes:=a4m _ a;unfold ag at A;have H:((m*i.bytes:Nat):Int)<=281474976710656:=by omega
 have N:(i.bytes:Int)*(m:Int)<=281474976710656:=by rw[Int.mul_comm];rw[a6f]at H;exact H
 have f:=run_make (P:=P) w t e i z M D E .i64 .i64 l m (by omega) L N (by omega);simp only[a0i]at f g;obtain⟨O,R,q3⟩:=qg I (w1:=w) rfl (.cells (madeCells z.cells (m*i.size)) e);have p:(w.alloc (.cells (madeCells z.cells (m*i.size)) e)).heap[w.heap.size]?=some (.cells (madeCells z.cells (m*i.size)) e):=cH _ _;have S:ck (w.alloc (.cells (madeCells z.cells (m*i.size)) e)).heap (cU (FP F [w.heap.size]) G ow) (.rows s) (List.replicate l s.z) [.slice (some ⟨w.heap.size,0,none⟩) l m] [w.heap.size]:=by
  refine⟨_,rfl,k,_,m,by rw[a2a],by rw[a2a];omega,.inr ⟨w.heap.size,0,_,e,List.replicate l [],rfl,by rw[DZ],p,by rw[size_madeCells,o];omega,by simp,λb q=>by rw[DZ]at q;simp at q,λj T U=> ?_⟩⟩;simp only[a2a]at T;have:=pG (z:=z.cells) (m:=m) (i:=j);rw[x]at this;rw[a1p,o,this];simp only[a4x];exact om s k _ y
 obtain⟨G2,V,W⟩:=oj (F:=F) (.refl ow) O R (wG (w:=w) (w1:=w) _ rfl rfl rfl rfl _) (λb q=>by
  have:b=w.heap.size:=by simpa using q
  subst this;exact⟨λX=>a6w _ (J _ X),.inr (a1m _)⟩) (by simp) S g
 exact⟨_,_,_,_,_,h,f,V,W⟩
def zK {n c:SV} {i j:Value} (k:bx F G ow w.heap) (l:∀b,F b->b<w.heap.size) (m:Sv F G ow w.heap n i) (o:Sv F G ow w.heap c j) (h:(B6 P t n c s ow d).can Q):DB P F G ow w Q (Instr.makeSlice t i j):=by
 unfold B6 at h;split at h
 ·rename_i e n c p
  split at h
  ·rename_i f
   simp only[a0e]at f;obtain⟨a,h⟩:=h;have a:(0:Int)<=n/\(n:Int)<=c/\(c:Int)*c8 P e<=ag:=a0w a;split at h
   ·rename_i ow' g
    rw[m.int_inv,o.int_inv];exact GC k l p f.1 f.2 a.1 a.2.1 a.2.2 g h
   ·exact h.elim
  ·exact h.elim
 ·exact h.elim
end
end Go.Pev
namespace Go.Pev
variable {h:Array Obj} {G:Gh} {ow:OW} {v:Value} {F ok:Nat->Prop}
def iX (L:List (Nat×Obj)) (I:Nat->Prop) (h:Array Obj):Prop:=∀p∈L,¬I p.1/\h[p.1]?=some p.2
def GD (l:List Value):Value:=match l with|[v]=>v|l=> .tuple l.toArray
def IC (h:Array Obj):Value->List Nat->Option Value
 |v,[]=>some v
 | .pointer (some ⟨b,o,none⟩),i::r=>(match h[b]? with|some (.cells cs _ _)=>(match cs[o+i]? with|some v=>IC h v r|none=>none)|_=>none)
 |_,_=>none
def Co (h:Array Obj) (v:Value) (c:Nat) (p:List Nat):Option Value:=
 match v with
 | .func _ xs ys=>(match(xs.toList++ys.toList)[c]? with|some v=>IC h v p|none=>none)
 |_=>none
def LZ (h:Array Obj) (a:List (Nat×Nat×Nat×List Nat)) (vs:List Value):Prop:=∀q∈a,∃v t,vs[q.1]?=some v/\vs[q.2.1]?=some t/\Co h t q.2.2.1 q.2.2.2=some v
def LZ.nil {vs:List Value}:LZ h [] vs:=λq a=>by cases a
def wI {F:Nat->Prop} {G:Gh} {ow:OW} {h:Array Obj} (n:bx F G ow h):(p:List Nat)-> {s g:SV}-> {v:Value}->Sv F G ow h s v->sd ow s p=some g->∃k,IC h v p=some k/\Sv F G ow h g k
 |[],s,g,v,hs,e=>by
  simp only[sd,a0l]at e;subst e;exact⟨v,rfl,hs⟩
 |i::r,s,g,v,hs,e=>by
  cases s with
  |bp d j c=>
   simp only[sd]at e;split at e
   ·rename_i l x
    split at e
    ·rename_i t y
     have q:=aG x
     cases hs with
     |bp hv=>
     rw[q]at hv;obtain⟨b,o,z,rfl⟩:=hv;obtain⟨_,A,B,C,et,f,a,u,D⟩:=n.obs d j _ q;rw[z]at f;obtain⟨rfl,rfl⟩:b=A/\o=B:=by simpa using f
     obtain⟨E,rfl⟩:=a0r.1 y;have w:o+(c+i)<C.size:=by omega
     have m:=D (c+i) E w;obtain⟨k,H,I⟩:=wI n r m e;refine⟨k,?_,I⟩;have J:o+c+i=o+(c+i):=by omega
     simp only[IC,a,J,a1o w];exact H
    ·cases e
   ·cases e
  |_=>simp[sd]at e
def q5 (m:bx F G ow h) {s l:SV} (n:Sv F G ow h s v) {c:Nat} {p:List Nat} (e:nQ ow s c p=some l):∃k,Co h v c p=some k/\Sv F G ow h l k:=by
 cases s with
 |fn f a b=>
  simp only[nQ]at e;split at e
  ·rename_i t o
   cases n with
   |fn l1 l2 h1 h2=>
   rename_i xs ys;have d:dq F G ow h (a++b) (xs++ys):=⟨by simp[l1,l2],λi q r=>by
    by_cases g:i<a.length
    ·rw[a1k g,a1k (by omega)]
     exact h1 i g (by omega)
    ·rw[a1x (by omega),a1x (by omega)]
     have e:i-xs.length=i-a.length:=by omega
     simp only[e];simp only[a0j]at q r;exact h2 (i-a.length) (by omega) (by omega)⟩
   obtain⟨g,rfl⟩:=a0r.1 o;have j:c<(xs++ys).length:=by rw[<-d.1];exact g
   obtain⟨k,u,w⟩:=wI m p (d.2 c g j) e;refine⟨k,?_,w⟩;simp only[Co,a0a j];exact u
  ·cases e
 |_=>simp[nQ]at e
def Jv {s f:SV} {l:Value} (m:Sv F G ow h s v) (g:Sv F G ow h f l) (e:vX ow s f=true):v=l:=by
 cases s with
 |bp d j c=>
  cases f with
  |bp d' j' c'=>
   simp only[vX,a0e,a3b]at e;obtain⟨⟨⟨rfl,rfl⟩,rfl⟩,i⟩:=e;unfold Pt at i;split at i
   ·rename_i k n
    have p:=aG n
    cases m with
    |bp hv=>
    cases g with
    |bp hv'=>
    rw[p]at hv hv';obtain⟨b,o,q,rfl⟩:=hv;obtain⟨r,t,a,rfl⟩:=hv';rw[q]at a;obtain⟨rfl,rfl⟩:b=r/\o=t:=by simpa using a
    rfl
   ·cases i
  |_=>simp[vX]at e
 |_=>simp[vX]at e
def wJ (m:bx F G ow h) {f:List SV} {vs:List Value} (b:dq F G ow h f vs) {g:List (Nat×Nat×Nat×List Nat)} (e:Ob g f ow=true):LZ h g vs:=by
 intro q n;have a:=(a1g.1 e) q n;unfold L6 at a;split at a
 ·rename_i s t c d
  split at a
  ·rename_i u o
   obtain⟨i,rfl⟩:=a0r.1 c;obtain⟨j,rfl⟩:=a0r.1 d;have k:q.1<vs.length:=by rw[<-b.1];exact i
   have l:q.2.1<vs.length:=by rw[<-b.1];exact j
   obtain⟨v,p,r⟩:=q5 m (b.2 _ j l) o;have:=Jv (b.2 _ i k) r a;exact⟨vs[q.1],vs[q.2.1],a0a k,a0a l,by rw[p,this]⟩
  ·cases a
 ·cases a
def ue {F:Nat->Prop} {G:Gh} {ow:OW} {h:Array Obj} (c:bx F G ow h) {vs:List Value}:(d:List (Nat×Nat×Nat×List Nat))-> {a:List SV}->dq F G ow h a vs->LZ h d vs->dq F G ow h (L7 ow d a) vs
 |[],a,hs,_=>hs
 |q::r,a,hs,ha=>by
  obtain⟨v,t,m,f,n⟩:=ha q (by simp);refine ue c r ?_ λo b=>ha o (by simp[b])
  split
  ·rename_i z p
   split
   ·rename_i s u
    obtain⟨g,rfl⟩:=a0r.1 p;have j:q.2.1<vs.length:=by rw[<-hs.1];exact g
    obtain⟨A,k,w⟩:=q5 c (hs.2 _ g j) u;rw[a0a j]at f;rw[a1e f,n]at k
    cases k
    refine⟨by simp[hs.1],λi x y=> ?_⟩;by_cases l:q.1=i
    ·subst l
     obtain⟨_,e⟩:=a0r.1 m;simp only[a3j,e];exact w
    ·rw[a3c l]
     exact hs.2 i (by simpa using x) y
   ·exact hs
  ·exact hs
def aw (P:Program) (L:List (Nat×Obj)) (f:FuncId) (c:iR):Prop:=
 (∃fn,P.funcs[f]?=some fn/\(fn.name== "runtime.NumGoroutine")=false/\fn.body.isNone=false)/\
 ∀(w:World) (F:Nat->Prop) (x:c.args.T) (vs:List Value) (d:List Nat) (y:c.res.T×c.args.Out),(∀b,F b->b<w.heap.size)->iX L (·∈d) w.heap->d.Nodup->(∀b∈d,¬F b)->
  ck w.heap (λb=>¬FP F d b) c.args x vs d->c.den x=some y->LZ w.heap c.al vs->
  Calls P f vs.toArray w λe g=>∃h fp1 a,e= .returned (GD h)/\ck g.heap (λb=>¬FP F (fp1++a) b) c.res y.1 h fp1/\gK g.heap (λb=>¬FP F (fp1++a) b) c.args y.2 vs a/\(fp1++a).Nodup/\(∀b∈fp1++a,b∈d\/w.heap.size<=b)/\fh (·∈d) w g
def Calls.mono {P:Program} {f:FuncId} {args:Array Value} {w:World} {R b:Ending->World->Prop} (h:Calls P f args w R) (c:∀e a,R e a->b e a):Calls P f args w b:=λcs=>let⟨e,a,fr,r,s⟩:=h cs;⟨e,a,fr,c _ _ r,s⟩
def uf:(e c:OW)->(d j:Nat)->ak (nO e c) d j=(match ak e d j,ak c d j with|some o,some n=>some (iz o n)|_,n=>n):=by
 have f:(a b:List (Option OB))->(j:Nat)->(vW a b)[j]?=(match a[j]?,b[j]? with|some o,some n=>some (iz o n)|_,n=>n):=by
  intro a
  induction a with
  |nil=>intro b j;cases b<;>simp[vW]
  |cons o os ih=>
   intro b j
   cases b with
   |nil=>simp[vW]
   |cons n ns=>
    cases j with
    |zero=>simp[vW]
    |succ j=>simp[vW,ih]
 intro e
 induction e with
 |nil=>intro c d j;cases c<;>simp[nO,ak]
 |cons o os ih=>
  intro c d j
  cases c with
  |nil=>simp[nO,ak]
  |cons n ns=>
   cases d with
   |zero=>simp[nO,ak,f]
   |succ d=>simpa [nO,ak]using ih ns d j
def ug:(b a:OW)->(nO b a).length=a.length
 |[],a=>by cases a<;>simp[nO]
 |o::os,[]=>by simp[nO]
 |o::os,n::ns=>by simp[nO,ug os ns]
def GF {ow1:OW} (f:du ow ow1):du ow (nO ow ow1)/\∀G b,Gw G ow (nO ow ow1) b↔Gw G ow ow1 b:=by
 have g:∀d j,ak (nO ow ow1) d j=ak ow d j\/(ak (nO ow ow1) d j=ak ow1 d j):=by
  intro d j;rw[uf];rcases f.names d j with e|⟨_,e⟩|⟨k,ver,l,e1,e2⟩|⟨s,l,k,l',e1,e2,_⟩|⟨cells,e1,e2⟩
  ·rw[e]
   cases h:ak ow d j with
   |none=>exact .inl rfl
   |some o=>
    left
    cases o with
    |none=>rfl
    |some x=>
     cases x with
     |nrow s l foc=>cases foc<;>rfl
     |_=>rfl
  ·right
   rw[e]
   cases h:ak ow d j with
   |none=>rfl
   |some o=>
    cases o with
    |none=>rfl
    |some x=>
     cases x with
     |nrow s l foc=>cases foc<;>rfl
     |_=>rfl
  ·left
   rw[e1,e2];rfl
  ·left
   rw[e1,e2];rfl
  ·right
   rw[e1,e2];rfl
 have a:∀d j,bB (ak ow d j)->(ak (nO ow ow1) d j=some none↔ak ow1 d j=some none):=by
  intro d j c;rw[uf];rcases f.names d j with e|⟨_,e⟩|⟨k,ver,l,e1,e2⟩|⟨s,l,k,l',e1,e2,_⟩|⟨cells,e1,e2⟩
  ·rw[e]
   generalize ak ow d j=x at c
   match x,c with
   |some (some (.box _)),_=>simp[iz]
   |some (some (.row _ _ _)),_=>simp[iz]
   |some (some (.nrow _ _ none)),_=>simp[iz]
   |some (some (.nrow _ _ (some _))),_=>simp[iz]
  ·rw[e]
   generalize ak ow d j=x at c
   match x,c with
   |some (some (.box _)),_=>simp[iz]
   |some (some (.row _ _ _)),_=>simp[iz]
   |some (some (.nrow _ _ none)),_=>simp[iz]
   |some (some (.nrow _ _ (some _))),_=>simp[iz]
  ·rw[e1,e2];simp[iz]
  ·rw[e1,e2];simp[iz]
  ·rw[e1,e2];simp[iz]
 refine⟨⟨by rw[ug,f.len],λd j=> ?_⟩,λG b=> ?_⟩
 ·rcases g d j with e|e
  ·exact .inl e
  ·rw[e];exact f.names d j
 ·constructor
  ·rintro⟨d,j,i,o,c,m,n⟩
   exact⟨d,j,i,o,c,m,(a d j c).1 n⟩
  ·rintro⟨d,j,i,o,c,m,n⟩
   exact⟨d,j,i,o,c,m,(a d j c).2 n⟩
def nY.any {ok':Nat->Prop} {k:Kd} (a:k.allOwn=true) {x:k.T} (e:nY h ok k x v):nY h ok' k x v:=⟨ct.any_heap k a e.1,e.2⟩
def sq.any {ok':Nat->Prop} {k:Kd} (g:k.allOwn=true) {l:List k.T} {f:List Nat} (e:sq h ok k l v f):sq h ok' k l v f:=by
 obtain⟨i,a,c,j,d,e⟩:=e;refine⟨i,a,c,j,d,?_⟩;rcases e with e|⟨b,o,r,et,ha,hf,hb,hel,hs⟩
 ·exact .inl e
 ·exact .inr ⟨b,o,r,et,ha,hf,hb,hel.mono λx cs m=>ct.any_heap k g m,hs⟩
def ck.any {h:Array Obj} {ok ok':Nat->Prop}:(s:Sh)->s.fresh=true-> {x:s.T}-> {vs:List Value}-> {n:List Nat}->ck h ok s x vs n->ck h ok' s x vs n
 | .pur _,hs,_,_,_,e=>by obtain⟨v,d,f,e⟩:=e;exact⟨v,d,f,e.any hs⟩
 | .own _,hs,_,_,_,e=>by obtain⟨v,d,e⟩:=e;exact⟨v,d,e.any hs⟩
 | .row _,hs,_,_,_,e=>by obtain⟨v,d,e⟩:=e;exact⟨v,d,e.any hs⟩
 | .rows s,hs,_,_,_,e| .nrw s,hs,_,_,_,e=>by
  obtain⟨v,p,g,a,c,j,q,e⟩:=e;refine⟨v,p,g,a,c,j,q,?_⟩;rcases e with e|⟨b,o,r,et,fps,j,hf,hr,hc,hn,hj,he⟩
  ·exact .inl e
  ·exact .inr ⟨b,o,r,et,fps,j,hf,hr,hc,hn,hj,λi t k=>ck.any s hs (he i t k)⟩
 | .box l,hs,_,_,_,e=>by obtain⟨b,o,r,et,m,d,f,u,w,e⟩:=e;exact⟨b,o,r,et,m,d,f,u,w,ck.any l hs e⟩
 | .agg l,hs,_,_,_,e=>by obtain⟨cs,d,e⟩:=e;exact⟨cs,d,ck.any l hs e⟩
 | .fn _ _ l,hs,_,_,_,e=>by obtain⟨xs,ys,d,f,e⟩:=e;exact⟨xs,ys,d,f,ck.any l hs e⟩
 | .ign,_,_,_,_,e=>e
 | .nl,_,_,_,_,e=>e
 | .nil,_,_,_,_,e=>e
 | .cons a b,hs,_,_,_,e=>by
  simp only[Sh.fresh,a0e]at hs;obtain⟨v,r,f1,f2,d,f,y,z⟩:=e;exact⟨v,r,f1,f2,d,f,ck.any a hs.1 y,ck.any b hs.2 z⟩
def gK.any {h:Array Obj} {ok ok':Nat->Prop}:(s:Sh)->s.freshOut=true-> {x:s.Out}-> {vs:List Value}-> {i:List Nat}->gK h ok s x vs i->gK h ok' s x vs i
 | .pur _,_,_,_,_,e=>e
 | .own _,_,_,_,_,e=>e
 | .rows _,_,_,_,_,e=>e
 | .row _,hs,_,_,_,e=>by obtain⟨v,c,e⟩:=e;exact⟨v,c,e.any hs⟩
 | .nrw s,hs,_,_,_,e=>ck.any (.nrw s) hs e
 | .box l,hs,_,_,_,e=>by obtain⟨b,o,r,et,g,c,d,j,k,e⟩:=e;exact⟨b,o,r,et,g,c,d,j,k,ck.any l hs e⟩
 | .agg l,hs,_,_,_,e=>by obtain⟨cs,c,e⟩:=e;exact⟨cs,c,gK.any l hs e⟩
 | .fn _ _ l,hs,_,_,_,e=>by obtain⟨xs,ys,c,d,e⟩:=e;exact⟨xs,ys,c,d,gK.any l hs e⟩
 | .ign,_,_,_,_,e=>e
 | .nl,_,_,_,_,e=>e
 | .nil,_,_,_,_,e=>e
 | .cons a b,hs,_,_,_,e=>by
  simp only[Sh.freshOut,a0e]at hs;obtain⟨v,r,f1,f2,c,d,f,m⟩:=e;refine⟨v,r,f1,f2,c,d,?_,gK.any b hs.2 m⟩;rcases f with f|⟨h0,f⟩
  ·exact .inl f
  ·exact .inr ⟨h0,gK.any a hs.1 f⟩
abbrev Q9:=Nat×Nat×OB×Pl
def dx (a:List Q9):List Nat:=a.flatMap λp=>p.2.2.2.fp
def cd (ps:List Pl):List Nat:=ps.flatMap Pl.fp
structure Ow (h:Array Obj) (ok:Nat->Prop) (G:Gh) (old:OW) (d:Nat) (fp:List Nat) (st st':OW×List OB) (puts:List Q9) (ps:List Pl) (new:List OB):Prop where
 obs:st'.2=st.2++new
 plen:ps.length=new.length
 len:st'.1.length=st.1.length
 names:∀d' j',(∃p∈puts,p.1=d'/\p.2.1=j'/\ak st'.1 d' j'=some (some p.2.2.1))\/((∀p∈puts,¬(p.1=d'/\p.2.1=j'))/\ak st'.1 d' j'=ak st.1 d' j')
 old:∀p∈puts,bB (ak old p.1 p.2.1)/\EC (ak old p.1 p.2.1) (some (some p.2.2.1))/\bB (some (some p.2.2.1))
 place:∀p∈puts,p.2.2.2.1=G p.1 p.2.1 0/\(p.2.2.2.1=none->p.2.2.2.2=[])
 blocks:fp.Perm (dx puts++cd ps)
 rep:∀(G2:Gh) (ow2:OW),(∀p∈puts,G2 p.1 p.2.1=p.2.2.2.pos)->lg G2 ow2 d st.2.length new ps->(∀p∈puts,df h ok G2 ow2 p.1 p.2.1 p.2.2.1)/\∀i o,new[i]?=some o->df h ok G2 ow2 d (st.2.length+i) o/\bB (some (some o))
def Ow.none {b:OW} {d:Nat} (st:OW×List OB):Ow h ok G b d [] st st [] [] []:=⟨by simp,rfl,rfl,λ_ _=> .inr ⟨λp a=>by simp at a,rfl⟩,λp a=>by simp at a,λp a=>by simp at a,List.Perm.refl _,λ_ _ _ _=>⟨λp a=>by simp at a,λi o c=>by simp at c⟩⟩
def iY {F:Nat->Prop} {G:Gh} {L:OW} {w0:World} {h:Array Obj} {ok:Nat->Prop} (W:bx F G L w0.heap)
 (X:∀(b:Nat) (r:Array Value) (et:TypeId) (f:Nat×Nat),w0.heap[b]?=some (Obj.cells r et f)->∃r':Array Value,h[b]?=some (Obj.cells r' et f)/\r'.size=r.size) (d:Nat):
 (s:Sh)-> {t:List SV}-> {vs:List Value}->dq F G L w0.heap t vs-> {y:s.Out}-> {I:List Nat}->gK h ok s y vs I-> {st x:OW×List OB}->(∀d' j',ak L d' j'≠none->ak st.1 d' j'≠none)->
 eT d L s t y st=some x->∃R4 ps Sk,Ow h ok G L d I st x R4 ps Sk
 | .pur _,t,vs,A,y,I,e,st,x,hne,hu=>by
  obtain⟨⟨v,rfl⟩,rfl⟩:=e;obtain⟨s,rfl,_⟩:=A.single;simp only[eT,a0l]at hu;subst hu;exact⟨_,_,_,.none st⟩
 | .own _,t,vs,A,y,I,e,st,x,hne,hu=>by
  obtain⟨⟨v,rfl⟩,rfl⟩:=e;obtain⟨s,rfl,_⟩:=A.single;simp only[eT,a0l]at hu;subst hu;exact⟨_,_,_,.none st⟩
 | .rows _,t,vs,A,y,I,e,st,x,hne,hu=>by
  obtain⟨⟨v,rfl⟩,rfl⟩:=e;obtain⟨s,rfl,_⟩:=A.single;simp only[eT,a0l]at hu;subst hu;exact⟨_,_,_,.none st⟩
 | .ign,t,vs,A,y,I,e,st,x,hne,hu=>by
  obtain⟨⟨v,rfl⟩,rfl⟩:=e;obtain⟨s,rfl,_⟩:=A.single;simp only[eT,a0l]at hu;subst hu;exact⟨_,_,_,.none st⟩
 | .nl,t,vs,A,y,I,e,st,x,hne,hu=>by
  obtain⟨⟨v,rfl⟩,rfl⟩:=e;obtain⟨s,rfl,_⟩:=A.single;simp only[eT,a0l]at hu;subst hu;exact⟨_,_,_,.none st⟩
 | .nil,t,vs,A,y,I,e,st,x,hne,hu=>by
  obtain⟨rfl,rfl⟩:=e;have:t=[]:=a0s A.1;subst this;simp only[eT,a0l]at hu;subst hu;exact⟨_,_,_,.none st⟩
 | .row k,t,vs,A,y,I,e,st,x,hne,hu=>by
  obtain⟨v,rfl,e⟩:=e;obtain⟨s,rfl,B⟩:=A.single
  cases s with
  |wh dd j ver path=>
   simp only[eT]at hu;split at hu
   ·rename_i N D l0 hg
    split at hu
    ·rename_i hk
     subst hk;simp only[a0l]at hu;subst hu;have M:=aG hg
     cases B with
     |wh B=>
     simp only[cX,M,a2q]at B;obtain⟨Sy,Si,ho⟩:=W.obs dd j _ M;obtain⟨_,a,c,rfl,Sl,w⟩:=B;obtain⟨Y,a',c',P,R5,e⟩:=e;have ha:a=a'/\l0.length=y.length/\c=c':=by simpa using P
     obtain⟨rfl,E,rfl⟩:=ha;have Q:ak st.1 dd j≠none:=hne dd j (by rw[M];simp);refine⟨[(dd,j,.row N (D+1) y,(G dd j 0,[]))],[],[],by simp,rfl,bG,λd' j'=> ?_,λp hp=> ?_,λp hp=> ?_,?_,λJ ow2 C _=>⟨λp hp=> ?_,λi o K=>by simp at K⟩⟩
     ·rw[aU Q]
      by_cases H:d'=dd/\j'=j
      ·exact .inl ⟨_,a0x.2 rfl,H.1.symm,H.2.symm,by rw[a0f H]⟩
      ·refine .inr ⟨λp hp m=> ?_,by rw[a0d H]⟩
       have:p=(dd,j,OB.row N (D+1) y,(G dd j 0,[])):=by simpa using hp
       subst this;exact H ⟨m.1.symm,m.2.symm⟩
     ·have:p=(dd,j,OB.row N (D+1) y,(G dd j 0,[])):=by simpa using hp
      subst this;simp only;rw[M];exact⟨trivial,⟨rfl,E⟩,trivial⟩
     ·have:p=(dd,j,OB.row N (D+1) y,(G dd j 0,[])):=by simpa using hp
      subst this;exact⟨rfl,λ_=>rfl⟩
     ·rcases e with⟨rfl,_,_,rfl⟩|⟨b,o,r,et,rfl,rfl,_⟩
      ·rcases w with⟨u,_⟩|⟨_,_,_,_,_,m,_⟩
       ·simp[dx,cd,Pl.fp,u]
       ·cases m
      ·rcases w with⟨_,m,_⟩|⟨b',o',R6,r',u,m,_⟩
       ·cases m
       ·cases m
        simp[dx,cd,Pl.fp,u]
     ·have:p=(dd,j,OB.row N (D+1) y,(G dd j 0,[])):=by simpa using hp
      subst this;have C:=C _ (a0x.2 rfl);simp only at C⊢;have R:J dd j 0=G dd j 0:=by rw[C];rfl
      refine⟨by rw[C];exactλi=>rfl,Y,?_⟩;rw[R];rcases e with⟨rfl,hy,_,rfl⟩|⟨b,o,r,et,rfl,rfl,Z,T,A⟩
      ·rcases w with⟨u,_⟩|⟨_,_,_,_,_,m,_⟩
       ·rw[u];exact hy
       ·cases m
      ·rcases w with⟨_,m,_⟩|⟨b',o',R6,r',u,m,R7,R0,_⟩
       ·cases m
       ·cases m
        rw[u];refine⟨r,et,Z,?_⟩;by_cases R1:0<c
        ·have:=R0 R1
         rw[a7b,a4p]at this;rw[<-this];exact T
        ·have hy:y=[]:=a0s (by omega)
         subst hy;refine⟨?_,λi K=>by simp at K⟩;simp only[u]at ho;obtain⟨r0,Sm,R2,R8⟩:=ho;obtain⟨r1,S,R9⟩:=X _ _ _ _ R2;rw[Z]at S
         cases S
         have:=R8.1;simp;omega
    ·cases hu
   ·cases hu
  |_=>simp[eT]at hu
 | .nrw k,t,vs,A,y,I,e,st,x,hne,hu=>by
  obtain⟨s,Sz,B⟩:∃s v,t=[s]/\vs=[v]/\Sv F G L w0.heap s v:=by
   obtain⟨v,rfl,_⟩:=e;obtain⟨s,rfl,B⟩:=A.single;exact⟨s,v,rfl,rfl,B⟩
  obtain⟨rfl,rfl,B⟩:=B
  cases s with
  |wh dd j ver path=>
   simp only[eT]at hu;split at hu
   ·rename_i N l0 hg
    split at hu
    ·rename_i hk
     subst hk;simp only[a0l]at hu;subst hu;have M:=aG hg
     cases B with
     |wh B=>
     simp only[cX,M,a2q]at B;obtain⟨_,Sx,_,ho⟩:=W.obs dd j _ M;obtain⟨_,a,c,rfl,Sl,w⟩:=B;obtain⟨v',P,T,a',c',m,R5,e⟩:=e;have P:=P.trans (a1v (λz=>[z]) m);have ha:a=a'/\l0.length=y.length/\c=c':=by simpa using P
     obtain⟨rfl,E,rfl⟩:=ha;have Q:ak st.1 dd j≠none:=hne dd j (by rw[M];simp);obtain⟨q,Sn,Sa⟩:∃q:List Nat,I=Pl.fp (G dd j 0,q)/\((G dd j 0=none->q=[])/\∀(J:Gh) (ow2:OW),J dd j=Pl.pos (G dd j 0,q)->df h ok J ow2 dd j (.nrow N y none)):=by
      rcases e with⟨rfl,hy,_,rfl⟩|⟨b,o,r,et,fps,rfl,rfl,Z,S0,So,Sp,Sb⟩
      ·rcases w with⟨u,_⟩|⟨_,_,_,_,_,m,_⟩
       ·refine⟨[],by simp[Pl.fp,u],λ_=>rfl,λJ ow2 C=>⟨T,[],λi=>by rw[C];rfl,?_⟩⟩
        have R:J dd j 0=none:=by rw[C];exact u
        rw[R];exact⟨hy,rfl,rfl⟩
       ·cases m
      ·rcases w with⟨_,m,_⟩|⟨b',o',R6,r',u,m,R7,R0,_⟩
       ·cases m
       ·cases m
        refine⟨fps.flatten,by simp[Pl.fp,u],λhz=>(by rw[u]at hz;cases hz),λJ ow2 C=>⟨T,fps,λi=>by rw[C];rfl,?_⟩⟩;have R:J dd j 0=some (b,o'):=by rw[C];exact u
        rw[R];simp only[u]at ho;obtain⟨r0,Sm,R2,Sq,_⟩:=ho;obtain⟨r1,S,R9⟩:=X _ _ _ _ R2;rw[Z]at S
        cases S
        refine⟨r,et,Z,by rw[<-E,R9];exact Sq,So,Sp,λi K hf _=> ?_,λe Sr hz=>by cases hz⟩;have:=R0 (by omega);rw[a7b,a4p]at this;rw[<-this];exact Sb i K hf
     refine⟨[(dd,j,.nrow N y none,(G dd j 0,q))],[],[],by simp,rfl,bG,λd' j'=> ?_,λp hp=> ?_,λp hp=> ?_,by simp[dx,cd,Sn],λJ ow2 C _=>⟨λp hp=> ?_,λi o K=>by simp at K⟩⟩
     ·rw[aU Q]
      by_cases H:d'=dd/\j'=j
      ·exact .inl ⟨_,a0x.2 rfl,H.1.symm,H.2.symm,by rw[a0f H]⟩
      ·refine .inr ⟨λp hp m=> ?_,by rw[a0d H]⟩
       have:p=(dd,j,OB.nrow N y none,(G dd j 0,q)):=by simpa using hp
       subst this;exact H ⟨m.1.symm,m.2.symm⟩
     ·have:p=(dd,j,OB.nrow N y none,(G dd j 0,q)):=by simpa using hp
      subst this;simp only;rw[M];exact⟨trivial,⟨rfl,E⟩,trivial⟩
     ·have:p=(dd,j,OB.nrow N y none,(G dd j 0,q)):=by simpa using hp
      subst this;exact⟨rfl,Sa.1⟩
     ·have:p=(dd,j,OB.nrow N y none,(G dd j 0,q)):=by simpa using hp
      subst this;exact Sa.2 J ow2 (C _ (a0x.2 rfl))
    ·cases hu
   ·cases hu
  |_=>simp[eT]at hu
 | .box l,t,vs,A,y,I,e,st,x,hne,hu=>by
  obtain⟨b,o,r,et,S3,rfl,rfl,Z,Sc,e⟩:=e;obtain⟨s,rfl,B⟩:=A.single
  cases s with
  |bp dd j c=>
   simp only[eT]at hu;split at hu
   ·rename_i Sj hg
    split at hu
    ·rename_i R1
     subst R1;simp only[a0l]at hu;subst hu;have M:=aG hg
     cases B with
     |bp B=>
     simp only[M]at B;obtain⟨b',o',u,m⟩:=B;have m:b=b'/\o=o':=by simpa using m
     obtain⟨rfl,rfl⟩:=m;have Q:ak st.1 dd j≠none:=hne dd j (by rw[M];simp);obtain⟨ps,hl,hf,hr⟩:=gT l e d st.2.length;refine⟨[(dd,j,.box (bK d l y st.2.length).1,(some (b,o),[]))],ps,(bK d l y st.2.length).2,rfl,hl,bG,λd' j'=> ?_,λp hp=> ?_,λp hp=> ?_,?_,λJ ow2 C hN=> ?_⟩
     ·rw[aU Q]
      by_cases H:d'=dd/\j'=j
      ·exact .inl ⟨_,a0x.2 rfl,H.1.symm,H.2.symm,by rw[a0f H]⟩
      ·refine .inr ⟨λp hp m=> ?_,by rw[a0d H]⟩
       have:p=(dd,j,OB.box (bK d l y st.2.length).1,(some (b,o),[])):=by simpa using hp
       subst this;exact H ⟨m.1.symm,m.2.symm⟩
     ·have:p=(dd,j,OB.box (bK d l y st.2.length).1,(some (b,o),[])):=by simpa using hp
      subst this;simp only;rw[M];exact⟨trivial,trivial,trivial⟩
     ·have:p=(dd,j,OB.box (bK d l y st.2.length).1,(some (b,o),[])):=by simpa using hp
      subst this;exact⟨u.symm,λh=>by cases h⟩
     ·simp[dx,cd,Pl.fp,hf]
     ·obtain⟨r1,r2⟩:=hr J ow2 hN
      refine⟨λp hp=> ?_,r2⟩;have:p=(dd,j,OB.box (bK d l y st.2.length).1,(some (b,o),[])):=by simpa using hp
      subst this;have C:=C _ (a0x.2 rfl);simp only at C⊢;have E:(bK d l y st.2.length).1.length=l.len:=by rw[r1.1,aW Sc]
      refine⟨by rw[C];exactλi=>rfl,b,o,r,et,by rw[C];rfl,Z,by omega,λi K R7=> ?_⟩;have Sd:i<(bT r o l.len).length:=by rw[aW Sc];omega
      have e1:(bT r o l.len)[i]=r[o+i]:=by
       have:=aN (r:=r) (o:=o) (n:=l.len) (i:=i) (by omega);rw[a0a Sd,a1o (by omega)]at this;exact a1e this
      rw[<-e1];exact r1.2 i K Sd
    ·cases hu
   ·cases hu
  |_=>simp[eT]at hu
 | .agg l,t,vs,A,y,I,e,st,x,hne,hu=>by
  obtain⟨cs,rfl,e⟩:=e;obtain⟨s,rfl,B⟩:=A.single
  cases s with
  |agg ss=>
   simp only[eT]at hu;obtain⟨us,m,R3⟩:=B.agg_inv;have m:cs=us:=by simpa using m
   subst m;exact iY W X d l R3 e hne hu
  |_=>simp[eT]at hu
 | .fn f n l,t,vs,A,y,I,e,st,x,hne,hu=>by
  obtain⟨xs,ys,rfl,_,e⟩:=e;obtain⟨s,rfl,B⟩:=A.single
  cases s with
  |fn g a b=>
   simp only[eT]at hu;obtain⟨us,zs,m,R3,Ss⟩:=B.fn_inv;have m:f=g/\xs=us/\ys=zs:=by simpa using m
   obtain⟨rfl,rfl,rfl⟩:=m;exact iY W X d l (R3.append Ss) e hne hu
  |_=>simp[eT]at hu
 | .cons a b,t,vs,A,y,I,e,st,x,hne,hu=>by
  obtain⟨v,r,f1,f2,rfl,rfl,e1,e2⟩:=e
  match t,A,hu with
  |[],A,_=>have:=A.1;simp at this
  |s::t,A,hu=>
   obtain⟨v',r',m,B,hr⟩:=A.uncons;simp only[a5d]at m;obtain⟨rfl,rfl⟩:=m;simp only[eT]at hu;rcases e1 with⟨h0,rfl⟩|⟨h0,e1⟩
   ·rw[a0f h0]at hu
    exact iY W X d b hr e2 hne hu
   rw[a0d (by rw[h0];simp)]at hu;split at hu
   ·rename_i Se h1
    obtain⟨p1,s1,n1,O⟩:=iY W X d a (.cons B .nil) e1 hne h1;obtain⟨p2,s2,n2,V⟩:=iY W X d b hr e2 (st:=Se) (λd' j' m=>by
     rcases O.names d' j' with⟨p,_,_,_,e⟩|⟨_,e⟩
     ·rw[e];simp
     ·rw[e];exact hne d' j' m) hu
    refine⟨p1++p2,s1++s2,n1++n2,by rw[V.obs,O.obs,a1u],by simp[O.plen,V.plen],by rw[V.len,O.len],λd' j'=> ?_,λp hp=> ?_,λp hp=> ?_,?_,λJ ow2 C hN=> ?_⟩
    ·rcases V.names d' j' with⟨p,hp,U,e4,e5⟩|⟨Su,U⟩
     ·exact .inl ⟨p,a0k.2 (.inr hp),U,e4,e5⟩
     ·rcases O.names d' j' with⟨p,hp,e4,e5,e6⟩|⟨Sf,e4⟩
      ·exact .inl ⟨p,a0k.2 (.inl hp),e4,e5,by rw[U,e6]⟩
      ·refine .inr ⟨λp hp=> ?_,by rw[U,e4]⟩
       rcases a0k.1 hp with hp|hp
       ·exact Sf p hp
       ·exact Su p hp
    ·rcases a0k.1 hp with hp|hp
     ·exact O.old p hp
     ·exact V.old p hp
    ·rcases a0k.1 hp with hp|hp
     ·exact O.place p hp
     ·exact V.place p hp
    ·have U:dx (p1++p2)=dx p1++dx p2:=by simp[dx]
     have e4:cd (s1++s2)=cd s1++cd s2:=by simp[cd]
     rw[U,e4];refine(O.blocks.append V.blocks).trans ?_
     rw[a1u,a1u];refine a8c _ ?_
     rw[<-a1u,<-a1u];exact List.Perm.append_right _ a6t
    ·obtain⟨a1,a2⟩:=O.rep J ow2 (λp hp=>C p (a0k.2 (.inl hp))) (hN.left O.plen)
     have Sg:=hN.right O.plen;have U:st.2.length+n1.length=Se.2.length:=by rw[O.obs];simp
     rw[U]at Sg;obtain⟨b1,b2⟩:=V.rep J ow2 (λp hp=>C p (a0k.2 (.inr hp))) Sg;refine⟨λp hp=> ?_,λi o K=> ?_⟩
     ·rcases a0k.1 hp with hp|hp
      ·exact a1 p hp
      ·exact b1 p hp
     ·by_cases Sw:i<n1.length
      ·rw[a1l Sw]at K
       exact a2 i o K
      ·rw[a0y (by omega)]at K
       have:=b2 _ o K;rw[<-U,a2n,show n1.length+(i-n1.length)=i by omega]at this;exact this
   ·cases hu
end Go.Pev
namespace Go.Pev
variable {ow:OW}
def vG {h:Array Obj} {ok:Nat->Prop} {G:Gh} {l:List SV} {vs:List Value} (c:mC h ok G ow l vs):cn h ok G ow (Qq l) (GD vs):=by
 obtain⟨d,c⟩:=c
 match l,vs,d,c with
 |[],[],d,c=>exact .tup (l:=[]) (vs:=[]) rfl c
 |[a],[v],_,c=>exact c 0 (by simp) (by simp)
 |a::b::l,v::u::vs,d,c=>exact .tup d c
def du.ne {ow1:OW} (a:du ow ow1) {d j:Nat} (h:ak ow d j≠none):ak ow1 d j≠none:=by
 rcases a.names d j with e|⟨_,e⟩|hz
 ·rw[e];exact h
 ·rw[e];simp
 ·obtain⟨_,e⟩:=hz.not.2.2
  rw[e];simp
def wK {F:Nat->Prop} {G:Gh} {t:OW} {w V:World} (hh:bx F G ow w.heap) (hF:∀b,F b->b<w.heap.size) {fp fps:List Nat} (hT:du ow t) (hO:jA G ow t fp) (hK:fh (·∈fp) w V) (Sf:fps.Nodup)
 (Q:∀b∈fps,b∈fp\/w.heap.size<=b) {d:Nat} {u Sk:List OB} {R R5:List Pl} {g:List Q9} {Sl:List Nat} {m:OW×List OB} {yh:Nat->Prop}
 (W:Ow V.heap yh G ow d Sl (t,u) m g R5 Sk) (Sm:R.length=u.length) (Sg:fps=cd R++Sl) {ow':OW} (Sr:bX m.1 d m.2=some ow')
 (Ss:∀b r,yh b->am V.heap b=some r->¬F b/\¬ci G t b/\b∉fps) {l:List SV} {vs:List Value}
 (hR:∀(G2:Gh) (ow2:OW),lg G2 ow2 d 0 u R->mC V.heap yh G2 ow2 l vs/\∀i o,u[i]?=some o->df V.heap yh G2 ow2 d (0+i) o/\bB (some (some o))):
 ∃H,Tr F G ow w H ow' V/\dq F H ow' V.heap l vs:=by
 obtain⟨Sn,S4,S5⟩:=fj Sr;have R6:m.2=u++Sk:=W.obs
 let ps:=R++R5
 let H:Gh:=λd' j=>if m.2≠[]/\d'=d then(match ps[j]? with|some p=>p.pos|none=>λ_=>none)else
  (match g.find? (λp=>p.1==d'&& p.2.1==j)with|some p=>p.2.2.2.pos|none=>G d' j)
 have S6:ps.length=m.2.length:=by simp[ps,Sm,W.plen,R6]
 have R7:m.2≠[]->∀j,ak ow d j=none:=by
  intro C j;have h1:m.1[d]?=some []:=by
   rcases S4 with h|h
   ·exact absurd h C
   ·exact h
  have N:=cZ h1 j
  cases I:ak ow d j with
  |none=>rfl
  |some z=>
   have h3:ak t d j≠none:=hT.ne (by rw[I];simp);rcases W.names d j with⟨p,_,_,_,e⟩|⟨_,e⟩
   ·rw[N]at e;cases e
   ·rw[N]at e;exact absurd e.symm h3
 have So:Sl.Nodup:=by rw[Sg]at Sf;exact(a2d.1 Sf).2.1
 have R1:(dx g).Nodup:=(a2d.1 (W.blocks.nodup_iff.1 So)).1;have Su:∀p∈g,∀q∈g,p.1=q.1->p.2.1=q.2.1->p.2.2.2.pos=q.2.2.2.pos:=by
  intro p n q X e1 e2;obtain⟨a1,a2⟩:=W.place p n;obtain⟨b1,b2⟩:=W.place q X;rw[e1,e2]at a1
  cases D:G q.1 q.2.1 0 with
  |none=>
   rw[D]at a1 b1;have e:p.2.2.2=q.2.2.2:=Prod.ext (a1.trans b1.symm) ((a2 a1).trans (b2 b1).symm);rw[e]
  |some x=>
   obtain⟨bb,oo⟩:=x;rw[D]at a1 b1;obtain⟨i,B,rfl⟩:=a2h.1 n;obtain⟨k,hk,rfl⟩:=a2h.1 X;have e:=oh (g.map λp=>p.2.2.2) (by rw[List.flatMap_map];exact R1) i k (by simpa using B) (by simpa using hk) bb (Pl.mem.2 ⟨0,oo,by rw[a4k];exact a1⟩) (Pl.mem.2 ⟨0,oo,by rw[a4k];exact b1⟩);have e:=e.1;subst e;rfl
 have g0:∀d' j,¬(m.2≠[]/\d'=d)->(∀p∈g,¬(p.1=d'/\p.2.1=j))->H d' j=G d' j:=by
  intro d' j hd R2;simp only[H];rw[a0d hd];have:g.find? (λp=>p.1==d'&& p.2.1==j)=none:=by
   rw[List.find?_eq_none];intro p n;have:=R2 p n;simpa using this
  rw[this]
 have Sw:∀p∈g,¬(m.2≠[]/\p.1=d):=by
  intro p n h;have h1:=(W.old p n).1;rw[h.2,R7 h.1]at h1;exact h1
 have R8:∀p∈g,H p.1 p.2.1=p.2.2.2.pos:=by
  intro p n;simp only[H];rw[a0d (Sw p n)]
  cases hfd:g.find? (λq=>q.1==p.1&& q.2.1==p.2.1)with
  |none=>
   rw[List.find?_eq_none]at hfd;have:=hfd p n;simp at this
  |some q=>
   have h1:=List.find?_some hfd;simp only[a0e,a3b]at h1;exact Su q (List.mem_of_find?_eq_some hfd) p n h1.1 h1.2
 have R9:∀d' j,ak ow d' j≠none->H d' j 0=G d' j 0:=by
  intro d' j I;have hd:¬(m.2≠[]/\d'=d):=λh=>I (by rw[h.2];exact R7 h.1 j)
  by_cases n:∃p∈g,p.1=d'/\p.2.1=j
  ·obtain⟨p,n,rfl,rfl⟩:=n
   rw[R8 p n];exact(W.place p n).1
  ·rw[g0 d' j hd (λp S7 h=>n ⟨p,S7,h⟩)]
 have gd:m.2≠[]->∀j,H d j=(match ps[j]? with|some p=>p.pos|none=>λ_=>none):=λC j=>by
  show(if m.2≠[]/\d=d then _ else _)=_;rw[a0f ⟨C,rfl⟩]
 have O:∀d' j,(m.2≠[]/\d'=d/\ak ow' d' j=m.2[j]?.map some)\/(¬(m.2≠[]/\d'=d)/\((∃p∈g,p.1=d'/\p.2.1=j/\ak ow' d' j=some (some p.2.2.1))\/((∀p∈g,¬(p.1=d'/\p.2.1=j))/\ak ow' d' j=ak t d' j))):=by
  intro d' j;rw[S5];by_cases hc:d'=d/\m.2≠[]
  ·rw[a0f hc];exact .inl ⟨hc.2,hc.1,rfl⟩
  ·rw[a0d hc]
   refine .inr ⟨λh=>hc ⟨h.2,h.1⟩,?_⟩;exact W.names d' j
 have y:∀ {d' j i b o:Nat},bB (ak ow' d' j)->H d' j i=some (b,o)->(m.2≠[]/\d'=d/\∃hj:j<ps.length,ps[j].pos i=some (b,o))\/(∃p∈g,p.1=d'/\p.2.1=j/\p.2.2.2.pos i=some (b,o))\/(bB (ak ow d' j)/\G d' j i=some (b,o)/\ak ow' d' j=ak t d' j):=by
  intro d' j i b o B D;rcases O d' j with⟨C,rfl,M⟩|⟨R3,⟨p,n,rfl,rfl,M⟩|⟨R2,M⟩⟩
  ·left
   refine⟨C,rfl,?_⟩;rw[gd C]at D
   cases X:ps[j]? with
   |none=>rw[X]at D;cases D
   |some q=>
    rw[X]at D;obtain⟨hj,rfl⟩:=a0r.1 X;exact⟨hj,D⟩
  ·right;left
   rw[R8 p n]at D;exact⟨p,n,rfl,rfl,D⟩
  ·right;right
   rw[M]at B;have e:=(hT.names d' j).own B;rw[e]at B;rw[g0 d' j R3 R2]at D;exact⟨B,D,M⟩
 have J:∀ {j i b o:Nat} (hj:j<ps.length),ps[j].pos i=some (b,o)->b∈cd ps:=λhj h=>a3s.2 ⟨_,a0n hj,Pl.mem.2 ⟨_,_,h⟩⟩
 have A:∀p∈g,∀ {i b o},p.2.2.2.pos i=some (b,o)->b∈dx g:=λp n i b o D=>a3s.2 ⟨p,n,Pl.mem.2 ⟨i,o,D⟩⟩
 have K:(cd R++(dx g++cd R5)).Nodup:=(a8c (cd R) W.blocks).nodup_iff.1 (by rw[Sg]at Sf;exact Sf);have Y:cd ps=cd R++cd R5:=by simp[cd,ps]
 have Sx:(cd ps).Nodup:=by
  rw[Y];rw[a2d]at K⊢;exact⟨K.1,(a2d.1 K.2.1).2.1,λa ha b L=>K.2.2 a ha b (a0k.2 (.inr L))⟩
 have Sa:∀b,b∈cd ps->b∈dx g->False:=by
  intro b h1 N;rw[Y]at h1;rw[a2d]at K;rcases a0k.1 h1 with h1|h1
  ·exact K.2.2 b h1 b (a0k.2 (.inl N)) rfl
  ·exact(a2d.1 K.2.1).2.2 b N b h1 rfl
 have Z:∀b,b∈cd ps->b∈fps:=by
  intro b h1;rw[Y]at h1;rw[Sg];rcases a0k.1 h1 with h1|h1
  ·exact a0k.2 (.inl h1)
  ·exact a0k.2 (.inr (W.blocks.mem_iff.2 (a0k.2 (.inr h1))))
 have P:∀b,b∈dx g->b∈fps:=λb h1=>by
  rw[Sg];exact a0k.2 (.inr (W.blocks.mem_iff.2 (a0k.2 (.inl h1))))
 have S:∀ {d' j i b o:Nat},bB (ak ow' d' j)->ak ow' d' j=ak t d' j->G d' j i=some (b,o)->ci G t b:=λB he D=>aK.2 ⟨_,_,_,_,by rw[<-he];exact B,D⟩
 have T:∀b,ci H ow' b->ci G t b\/b∈fps:=by
  intro b L;obtain⟨d',j,i,o,B,D⟩:=aK.1 L;rcases y B D with⟨_,_,hj,h⟩|⟨p,n,rfl,rfl,h⟩|⟨h1,N,h3⟩
  ·exact .inr (Z b (J hj h))
  ·exact .inr (P b (A p n h))
  ·exact .inl (S B h3 N)
 have E:∀b∈fps,¬ci G t b:=by
  intro b L ho;rcases Q b L with h|h
  ·exact hO.notOwn hh hT h ho
  ·have:=ci.lt hh (hT.own ho);omega
 have Si:∀b r,yh b->am V.heap b=some r->cU F H ow' b/\am V.heap b=some r:=by
  intro b r L hr;obtain⟨h1,N,h3⟩:=Ss b r L hr;refine⟨⟨h1,λho=> ?_⟩,hr⟩;rcases T b ho with h|h
  ·exact N h
  ·exact h3 h
 have R0:∀b,b<w.heap.size->b∉fp->V.heap[b]?=w.heap[b]?:=λb L M=>hK.heap b L M
 have Sb:∀b r,cU F G ow b->am w.heap b=some r->cU F H ow' b/\am V.heap b=some r:=by
  intro b r L hr;have U:=cB hr;have Sc:b∉fp:=λh=>L.2 (hO.own h)
  refine⟨⟨L.1,λho=> ?_⟩,by unfold am;rw[R0 b U Sc];exact hr⟩;rcases T b ho with h|h
  ·exact L.2 (hT.own h)
  ·rcases Q b h with h|h
   ·exact Sc h
   ·omega
 have Sy:∀b r,am w.heap b=some r->∃r',am V.heap b=some r'/\r'.size=r.size:=by
  intro b r hr;unfold am at hr;split at hr
  ·rename_i c et f L
   cases hr
   obtain⟨r',h1,N⟩:=hK.cells b _ et f L;exact⟨r',by unfold am;rw[h1],N⟩
  ·cases hr
 have hE:∀d' j,EC (ak ow d' j) (ak ow' d' j):=by
  intro d' j;rcases O d' j with⟨C,rfl,M⟩|⟨R3,⟨p,n,rfl,rfl,M⟩|⟨R2,M⟩⟩
  ·rw[R7 C j];trivial
  ·rw[M];exact(W.old p n).2.1
  ·rw[M];exact(hT.names d' j).ec
 have S8:∀s v,Sv F G ow w.heap s v->Sv F H ow' V.heap s v:=λs v e=>cn.mono R9 hE Sb Sy e
 have hN:lg H ow' d 0 m.2 ps:=by
  intro i o B;have C:m.2≠[]:=by intro h;rw[h]at B;simp at B
  have U:i<ps.length:=by rw[S6];exact(a0r.1 B).1
  rw[a1p];refine⟨?_,ps[i],a0a U,by rw[gd C,a0a U]⟩;rcases O d i with⟨_,_,M⟩|⟨R3,_⟩
  ·rw[M,B];rfl
  ·exact absurd ⟨C,rfl⟩ R3
 have Sz:lg H ow' d 0 (u++Sk) (R++R5):=by rw[<-R6];exact hN
 obtain⟨r1,r2⟩:=hR H ow' (Sz.left Sm);have S0:=Sz.right Sm;rw[a1p]at S0;obtain⟨q1,q2⟩:=W.rep H ow' R8 S0;have up:∀ {d' j:Nat} {o:OB},ak ow' d' j≠none->df V.heap yh H ow' d' j o->df V.heap (cU F H ow') H ow' d' j o:=λI e=>
  df.mono (λ_ _ _=>rfl) (λ_ _=> .refl _) Si (λb r hr=>⟨r,hr,rfl⟩) rfl (λ_ _ _ _ _=>rfl) e
 have S9:Tr F G ow w H ow' V:=by
  refine⟨⟨λd' j o M=> ?_,λd1 j1 i1 d2 j2 i2 b o1 o2 h1 N g1 g2=> ?_,λb L=> ?_⟩,S8,?_,λb L=> ?_,by rw[Sn,W.len,hT.len]⟩
  ·rcases O d' j with⟨C,rfl,I⟩|⟨R3,⟨p,n,rfl,rfl,I⟩|⟨R2,I⟩⟩
   ·have ho:m.2[j]?=some o:=by
     rw[M]at I
     cases X:m.2[j]? with
     |none=>simp[X]at I
     |some q=>simp[X]at I;rw[I]
    rw[R6]at ho;refine up (by rw[M];simp) ?_
    by_cases U:j<u.length
    ·rw[a1l U]at ho
     have:=(r2 j o ho).1;rw[a1p]at this;exact this
    ·rw[a0y (by omega)]at ho
     have:=(q2 _ o ho).1;rw[show u.length+(j-u.length)=j by omega]at this;exact this
   ·rw[M]at I
    have I:o=p.2.2.1:=by simpa using I
    subst I;exact up (by rw[M];simp) (q1 p n)
   ·rw[M]at I
    have Ta:∀b,ci G t b->b∉fp:=λb L h=>hO.notOwn hh hT h L
    rcases hT.names d' j with e|⟨_,e⟩|hz
    ·have h0:ak ow d' j=some (some o):=by rw[<-e,<-I]
     refine df.mono R9 hE Sb Sy (g0 d' j R3 R2) (λB i b c D=> ?_) (hh.obs d' j o h0);have Sd:ci G t b:=aK.2 ⟨d',j,i,c,by rw[<-I];exact B,D⟩;exact R0 b (ci.lt hh (hT.own Sd)) (Ta b Sd)
    ·rw[e]at I;cases I
    ·have R4:=hz.own
     have Sj:=hz.not.1;rw[<-I]at hz Sj
     generalize Se:ak ow d' j=x at hz R4
     match x,R4,hz with
     |some (some ob),R4,hz=>
      refine hz.rep (R9 d' j (by rw[Se];simp)) Sb (λi b o1 D=> ?_) (hh.obs d' j ob Se);have Sd:ci G ow b:=aK.2 ⟨d',j,i,o1,by rw[Se];exact R4,D⟩;have U:=ci.lt hh Sd;have Tb:¬ci G t b:=by
       intro h;obtain⟨d2,j2,i2,o2,B,Sp⟩:=aK.1 h;have e3:=(hT.names d2 j2).own B;obtain⟨rfl,rfl,_⟩:=hh.apart d2 j2 i2 d' j i b o2 o1 (by rw[<-e3];exact B) (by rw[Se];exact R4) Sp D;rw[<-I]at B;exact Sj B
      have Sc:b∉fp:=by
       intro h;obtain⟨d2,j2,i2,o2,B,Sp,S3⟩:=(hO b).1 h;obtain⟨rfl,rfl,_⟩:=hh.apart d2 j2 i2 d' j i b o2 o1 B (by rw[Se];exact R4) Sp D;rw[<-I]at S3;cases S3
      refine⟨⟨hh.notF b Sd,λh=> ?_⟩,R0 b U Sc⟩;rcases T b h with h|h
      ·exact Tb h
      ·rcases Q b h with h|h
       ·exact Sc h
       ·omega
  ·rcases y h1 g1 with⟨n1,rfl,k1,p1⟩|⟨p,n,rfl,rfl,p1⟩|⟨x1,k1,c1⟩
   ·rcases y N g2 with⟨n2,rfl,k2,p2⟩|⟨q,X,rfl,rfl,p2⟩|⟨x2,k2,c2⟩
    ·obtain⟨e,Sq⟩:=oh ps Sx j1 j2 k1 k2 b (Pl.mem.2 ⟨_,_,p1⟩) (Pl.mem.2 ⟨_,_,p2⟩)
     subst e;exact⟨rfl,rfl,Pl.inj Sq p1 p2⟩
    ·exact(Sa b (J k1 p1) (A q X p2)).elim
    ·exact absurd (S N c2 k2) (E b (Z b (J k1 p1)))
   ·rcases y N g2 with⟨n2,rfl,k2,p2⟩|⟨q,X,rfl,rfl,p2⟩|⟨x2,k2,c2⟩
    ·exact(Sa b (J k2 p2) (A p n p1)).elim
    ·obtain⟨i,B,rfl⟩:=a2h.1 n
     obtain⟨k,hk,rfl⟩:=a2h.1 X;obtain⟨e,Sq⟩:=oh (g.map λp=>p.2.2.2) (by rw[List.flatMap_map];exact R1) i k (by simpa using B) (by simpa using hk) b (Pl.mem.2 ⟨_,_,by simpa using p1⟩) (Pl.mem.2 ⟨_,_,by simpa using p2⟩);subst e;exact⟨rfl,rfl,Pl.inj (by simpa using Sq) p1 p2⟩
    ·exact absurd (S N c2 k2) (E b (P b (A p n p1)))
   ·rcases y N g2 with⟨n2,rfl,k2,p2⟩|⟨q,X,rfl,rfl,p2⟩|⟨x2,k2,c2⟩
    ·exact absurd (S h1 c1 k1) (E b (Z b (J k2 p2)))
    ·exact absurd (S h1 c1 k1) (E b (P b (A q X p2)))
    ·exact hh.apart d1 j1 i1 d2 j2 i2 b o1 o2 x1 x2 k1 k2
  ·rcases T b L with h|h
   ·exact hh.notF b (hT.own h)
   ·rcases Q b h with h|h
    ·exact hh.notF b (hO.own h)
    ·intro hf
     have:=hF b hf;omega
  ·exact⟨hK.size,λb L M=>hK.heap b L λh=>M (hO.own h),hK.cells,hK.os,hK.output,hK.tape⟩
  ·rcases T b L with h|h
   ·exact .inl (hT.own h)
   ·rcases Q b h with h|h
    ·exact .inl (hO.own h)
    ·exact .inr h
 exact⟨H,S9,r1.1,λi h1 N=>cn.mono (λ_ _ _=>rfl) (λ_ _=> .refl _) Si (λb r hr=>⟨r,hr,rfl⟩) (r1.2 i h1 N)⟩
end Go.Pev
namespace Go.Pev
variable {op:Oper} {ρv:Operand->Value} {Q:SV×OW->Prop} {d:Nat} {o:Op} {ρ:Operand->SV}
section
variable {F:Nat->Prop} {G:Gh} {ow:OW} {w:World} {P:Program} {L:List (Nat×Obj)}
def D0 (P:Program) (F:Nat->Prop) (G:Gh) (ow:OW) (w:World) (f:FuncId) (vs:List Value) (Q:SV×OW->Prop):Prop:=Calls P f vs.toArray w λe a=>∃s ow' v b,e= .returned v/\Q (s,ow')/\Tr F G ow w b ow' a/\Sv F b ow' a.heap s v
def D1 {f:FuncId} {a:iR} (Y:aw P L f a) (i:bx F G ow w.heap) (C:∀b,F b->b<w.heap.size) (S:iX L (ci G ow) w.heap) {args:List SV} {vs:List Value} (D:dq F G ow w.heap args vs) {c:ba (SV×OW)} (k:Md a args ow d=some c) (h:c.can Q):D0 P F G ow w f vs Q:=by
 unfold Md at k;split at k
 rotate_left
 ·cases k
 rename_i E;split at k
 ·cases k
 rename_i p Z
 cases k
 obtain⟨y,hy,h⟩:=h;dsimp only at h;split at h
 ·rename_i q j
  split at h
  ·rename_i ow' hn
   obtain⟨H,A,m,I,n⟩:=cA a.args (x:=p.1) (ow1:=p.2) C i D Z;have R0:∀b∈H,b<w.heap.size:=λb hb=>ci.lt i (m.own hb)
   refine(Y.2 w (λb=>F b\/ci G p.2 b) p.1 vs H y ?_ (λq j=>⟨λhm=>(S q j).1 (m.own hm),(S q j).2⟩) I ?_ ?_ hy (wJ i D E)).mono λe o ⟨T,fp1,t,h1,U,V,h4,h5,W⟩=> ?_
   ·intro b hb
    rcases hb with hb|hb
    ·exact C b hb
    ·exact ci.lt i (A.own hb)
   ·intro b hb hx
    rcases hx with hx|hx
    ·exact i.notF b (m.own hb) hx
    ·exact m.notOwn i A hb hx
   ·refine ck.mono (λb r hb J=>⟨λhx=> ?_,J⟩) _ (λ_ _=>rfl) n
    rcases hx with(hx|hx)|hx
    ·exact hb.1 (.inl hx)
    ·exact hb.2 hx
    ·exact hb.1 (.inr hx)
   ·
    have u:∀(g:OW) (yh:Nat->Prop),du ow g->jA G ow g H->ck o.heap yh a.res y.1 T fp1->gK o.heap yh a.args y.2 vs t->
     (∀b r,yh b->am o.heap b=some r->¬F b/\¬ci G g b/\b∉fp1++t)->eT d ow a.args args y.2 (g,(bK d a.res y.1 0).2)=some q->
     ∃s ow' v B,e= .returned v/\Q (s,ow')/\Tr F G ow w B ow' o/\Sv F B ow' o.heap s v:=by
     intro g yh z K J M N hu;obtain⟨R1,l1,f1,r1⟩:=gT a.res J d 0;obtain⟨X,R2,R3,hP⟩:=iY (F:=F) i W.cells d a.args D M (st:=(g,(bK d a.res y.1 0).2)) (λd' j' hx=>z.ne hx) hu;obtain⟨B,O,R⟩:=wK i C z K W h4 h5 hP l1 (by rw[<-f1];rfl) hn N (l:=(bK d a.res y.1 0).1) (vs:=T) r1;exact⟨_,_,_,B,h1,h,O,vG R⟩
    cases hfr:a.res.fresh&& a.args.freshOut with
    |true=>
     simp only[Gm,hfr,a1z]at j;simp only[a0e]at hfr;obtain⟨t1,t2⟩:=GF A;exact u (nO ow p.2) (λ_=>False) t1 (λb=>(m b).trans (t2 G b).symm) (ck.any _ hfr.1 U) (gK.any _ hfr.2 V) (λb r hb=>hb.elim) j
    |false=>
     simp only[Gm,hfr,a0t,a1y]at j;exact u p.2 _ A m U V (λb r hb _=>⟨λhx=>hb (.inl (.inl hx)),λhx=>hb (.inl (.inr hx)),λhx=>hb (.inr hx)⟩) j
  ·exact h.elim
 ·exact h.elim
def pM {f:FuncId}:(a:List iR)->(∀sg∈a,aw P L f sg)->bx F G ow w.heap->(∀b,F b->b<w.heap.size)->iX L (ci G ow) w.heap-> {args:List SV}-> {vs:List Value}->dq F G ow w.heap args vs-> {d:Nat}-> {Q:SV×OW->Prop}->(vB args ow d a).can Q->D0 P F G ow w f vs Q
 |[],_,_,_,_,_,_,_,_,_,h=>h.elim
 |sg::r,hs,hh,hF,hL,args,vs,ha,d,Q,h=>by
  unfold vB at h;split at h
  ·rename_i c g
   exact D1 (hs sg (by simp)) hh hF hL ha g h
  ·exact pM r (λsg e=>hs sg (by simp[e])) hh hF hL ha h
def lV {h:Array Obj} {ok:Nat->Prop}:(s:Sh)->aJ s=true-> {x:s.T}-> {vs:List Value}-> {a:List Nat}->ck h ok s x vs a->a=[]/\∀d j,(bK d s x j).2=[]
 | .nil,_,_,_,_,e=>⟨e.2,λ_ _=>rfl⟩
 | .cons (.pur _) b,hs,x,_,_,e=>by
  obtain⟨v,r,f1,f2,rfl,rfl,⟨_,_,c,_⟩,f⟩:=e;obtain⟨g,i⟩:=lV b (by simpa [aJ]using hs) f;refine⟨by rw[c,g];rfl,λd j=> ?_⟩;show []++(bK d b x.2 (j+0)).2=[];rw[i];rfl
 | .cons (.own _) _,hs,_,_,_,_=>by simp[aJ]at hs
 | .cons (.row _) _,hs,_,_,_,_=>by simp[aJ]at hs
 | .cons (.nrw _) _,hs,_,_,_,_=>by simp[aJ]at hs
 | .cons (.box _) _,hs,_,_,_,_=>by simp[aJ]at hs
 | .cons (.agg _) _,hs,_,_,_,_=>by simp[aJ]at hs
 | .cons (.fn _ _ _) _,hs,_,_,_,_=>by simp[aJ]at hs
 | .cons .ign _,hs,_,_,_,_=>by simp[aJ]at hs
 | .cons .nl _,hs,_,_,_,_=>by simp[aJ]at hs
 | .cons .nil _,hs,_,_,_,_=>by simp[aJ]at hs
 | .cons (.cons _ _) _,hs,_,_,_,_=>by simp[aJ]at hs
 | .pur _,hs,_,_,_,_=>by simp[aJ]at hs
 | .own _,hs,_,_,_,_=>by simp[aJ]at hs
 | .row _,hs,_,_,_,_=>by simp[aJ]at hs
 | .nrw _,hs,_,_,_,_=>by simp[aJ]at hs
 | .box _,hs,_,_,_,_=>by simp[aJ]at hs
 | .agg _,hs,_,_,_,_=>by simp[aJ]at hs
 | .fn _ _ _,hs,_,_,_,_=>by simp[aJ]at hs
 | .ign,hs,_,_,_,_=>by simp[aJ]at hs
 | .nl,hs,_,_,_,_=>by simp[aJ]at hs
def Qy (P:Program) (F:Nat->Prop) (G:Gh) (ow:OW) (w:World) (f:FuncId) (vs:List Value) (Q:SV->Prop):Prop:=Calls P f vs.toArray w λe a=>∃s v,e= .returned v/\Q s/\Tr F G ow w G ow a/\Sv F G ow a.heap s v
def Mz (e:bx F G ow w.heap) (n:∀b,F b->b<w.heap.size) {f:World} (a:fh (λ_=>False) w f):Tr F G ow w G ow f:=by
 have g:fh (ci G ow) w f:=⟨a.size,λb k _=>a.heap b k (λh=>h),a.cells,a.os,a.output,a.tape⟩;exact tQ e n (λ_ _ _=>rfl) (λ_ _=> .refl _) g (λb k=> .inl k)
  (λb r _ l=>⟨r,by unfold am;rw[a.heap b (cB l) (λh=>h)];exact l,rfl⟩)
  (λd j o m=> .inl ⟨m,rfl,λp i b c q=>a.heap b (ci.lt e (aK.2 ⟨d,j,i,c,by rw[m];exact p,q⟩)) (λh=>h)⟩) e.apart rfl
def mD {f:FuncId}:(k:List iR)->(∀sg∈k,aw P L f sg)->bx F G ow w.heap->(∀b,F b->b<w.heap.size)->iX L (ci G ow) w.heap-> {args:List SV}-> {vs:List Value}->dq F G ow w.heap args vs-> {Q:SV->Prop}->(wa args ow k).can Q->Qy P F G ow w f vs Q
 |[],_,_,_,_,_,_,_,_,h=>h.elim
 |sg::r,hs,hh,hF,hL,args,vs,ha,Q,h=>by
  unfold wa at h;split at h
  ·rename_i g
   simp only[a0e]at g;obtain⟨g,c⟩:=g;have c:sg.al=[]:=List.isEmpty_iff.1 c;split at h
   ·rename_i p u
    obtain⟨y,v,h⟩:=h;obtain⟨M,z,N,l,a⟩:=cA sg.args (x:=p.1) (ow1:=p.2) hF hh ha u;obtain⟨rfl,_⟩:=lV _ g.1.1 a;refine((hs sg (by simp)).2 w (λb=>F b\/ci G p.2 b) p.1 vs [] y ?_ (λq A=>⟨λB=>by simp at B,(hL q A).2⟩) l (λb hb=>by simp at hb) ?_ v (by rw[c];exact LZ.nil)).mono λe C ⟨O,fp1,D,E,s,R,S,T,j⟩=> ?_
    ·intro b hb
     rcases hb with hb|hb
     ·exact hF b hb
     ·exact ci.lt hh (z.own hb)
    ·refine ck.mono (λb r hb H=>⟨λhx=> ?_,H⟩) _ (λ_ _=>rfl) a
     rcases hx with(hx|hx)|hx
     ·exact hb.1 (.inl hx)
     ·exact hb.2 hx
     ·exact hb.1 (.inr hx)
    ·obtain⟨rfl,m⟩:=lV _ g.1.2 s
     have I:fh (λ_=>False) w C:=⟨j.size,λb hb _=>j.heap b hb (by simp),j.cells,j.os,j.output,j.tape⟩;have n:=Mz hh hF I;obtain⟨ps,l1,f1,J⟩:=gT sg.res (ck.any (ok':=cU F G ow) _ g.2 s) 0 0;obtain⟨K,_⟩:=J G ow (λi o t=>by rw[m]at t;simp at t);exact⟨_,_,E,h,n,vG K⟩
   ·exact mD r (λsg d=>hs sg (by simp[d])) hh hF hL ha h
  ·exact mD r (λsg d=>hs sg (by simp[d])) hh hF hL ha h
def pN:(s:Sh)->aJ s=true->s.freshOut=true
 | .nil,_=>rfl
 | .cons (.pur k) b,hs=>by
  have:=pN b (by simpa [aJ]using hs);simp[Sh.freshOut,this]
 | .cons (.own _) _,hs=>by simp[aJ]at hs
 | .cons (.row _) _,hs=>by simp[aJ]at hs
 | .cons (.nrw _) _,hs=>by simp[aJ]at hs
 | .cons (.rows _) _,hs=>by simp[aJ]at hs
 | .cons (.box _) _,hs=>by simp[aJ]at hs
 | .cons (.agg _) _,hs=>by simp[aJ]at hs
 | .cons (.fn _ _ _) _,hs=>by simp[aJ]at hs
 | .cons .ign _,hs=>by simp[aJ]at hs
 | .cons .nl _,hs=>by simp[aJ]at hs
 | .cons .nil _,hs=>by simp[aJ]at hs
 | .cons (.cons _ _) _,hs=>by simp[aJ]at hs
 | .pur _,hs=>by simp[aJ]at hs
 | .own _,hs=>by simp[aJ]at hs
 | .rows _,hs=>by simp[aJ]at hs
 | .row _,hs=>by simp[aJ]at hs
 | .nrw _,hs=>by simp[aJ]at hs
 | .box _,hs=>by simp[aJ]at hs
 | .agg _,hs=>by simp[aJ]at hs
 | .fn _ _ _,hs=>by simp[aJ]at hs
 | .ign,hs=>by simp[aJ]at hs
 | .nl,hs=>by simp[aJ]at hs
def wL {d:Nat} {a:OW}:(s:Sh)->aJ s=true-> {args:List SV}-> {ow:OW}-> {p:s.T×OW}->pk s args ow=some p-> {y:s.Out}-> {st:OW×List OB}->eT d a s args y st=some st
 | .nil,_,[],_,_,_,_,_=>rfl
 | .nil,_,_::_,_,_,e,_,_=>by simp[pk]at e
 | .cons (.pur k) b,hs,[],_,_,e,_,_=>by simp[pk]at e
 | .cons (.pur k) b,hs,v::r,ow,p,e,y,st=>by
  unfold pk at e;split at e
  ·rename_i x _
   split at e
   ·rename_i z c
    simp only[eT,Sh.noOuts,a1z];exact wL b (by simpa [aJ]using hs) c
   ·cases e
  ·cases e
 | .cons (.own _) _,hs,_,_,_,_,_,_=>by simp[aJ]at hs
 | .cons (.row _) _,hs,_,_,_,_,_,_=>by simp[aJ]at hs
 | .cons (.nrw _) _,hs,_,_,_,_,_,_=>by simp[aJ]at hs
 | .cons (.rows _) _,hs,_,_,_,_,_,_=>by simp[aJ]at hs
 | .cons (.box _) _,hs,_,_,_,_,_,_=>by simp[aJ]at hs
 | .cons (.agg _) _,hs,_,_,_,_,_,_=>by simp[aJ]at hs
 | .cons (.fn _ _ _) _,hs,_,_,_,_,_,_=>by simp[aJ]at hs
 | .cons .ign _,hs,_,_,_,_,_,_=>by simp[aJ]at hs
 | .cons .nl _,hs,_,_,_,_,_,_=>by simp[aJ]at hs
 | .cons .nil _,hs,_,_,_,_,_,_=>by simp[aJ]at hs
 | .cons (.cons _ _) _,hs,_,_,_,_,_,_=>by simp[aJ]at hs
 | .pur _,hs,_,_,_,_,_,_=>by simp[aJ]at hs
 | .own _,hs,_,_,_,_,_,_=>by simp[aJ]at hs
 | .rows _,hs,_,_,_,_,_,_=>by simp[aJ]at hs
 | .row _,hs,_,_,_,_,_,_=>by simp[aJ]at hs
 | .nrw _,hs,_,_,_,_,_,_=>by simp[aJ]at hs
 | .box _,hs,_,_,_,_,_,_=>by simp[aJ]at hs
 | .agg _,hs,_,_,_,_,_,_=>by simp[aJ]at hs
 | .fn _ _ _,hs,_,_,_,_,_,_=>by simp[aJ]at hs
 | .ign,hs,_,_,_,_,_,_=>by simp[aJ]at hs
 | .nl,hs,_,_,_,_,_,_=>by simp[aJ]at hs
def lH {f:FuncId} {d:Nat}:(j:List iR)->(∀sg∈j,aw P L f sg)->bx F G ow w.heap->(∀b,F b->b<w.heap.size)->iX L (ci G ow) w.heap-> {args:List SV}-> {vs:List Value}->dq F G ow w.heap args vs-> {Q:SV×OW->Prop}->(mo args ow d j).can Q->D0 P F G ow w f vs Q
 |[],_,_,_,_,_,_,_,_,h=>h.elim
 |sg::r,hs,hh,hF,hL,args,vs,ha,Q,h=>by
  unfold mo at h;split at h
  ·rename_i c
   simp only[a0e]at c;obtain⟨c,g⟩:=c;have g:sg.al=[]:=List.isEmpty_iff.1 g;split at h
   ·rename_i p u
    obtain⟨y,C,h⟩:=h;dsimp only at h;split at h
    ·rename_i ow' D
     obtain⟨X,E,Y,k,a⟩:=cA sg.args (x:=p.1) (ow1:=p.2) hF hh ha u;obtain⟨rfl,_⟩:=lV _ c.1 a;refine((hs sg (by simp)).2 w (λb=>F b\/ci G p.2 b) p.1 vs [] y ?_ (λq H=>⟨λI=>by simp at I,(hL q H).2⟩) k (λb hb=>by simp at hb) ?_ C (by rw[g];exact LZ.nil)).mono λe v ⟨z,fp1,m,J,K,M,N,O,A⟩=> ?_
     ·intro b hb
      rcases hb with hb|hb
      ·exact hF b hb
      ·exact ci.lt hh (E.own hb)
     ·refine ck.mono (λb r hb n=>⟨λhx=> ?_,n⟩) _ (λ_ _=>rfl) a
      rcases hx with(hx|hx)|hx
      ·exact hb.1 (.inl hx)
      ·exact hb.2 hx
      ·exact hb.1 (.inr hx)
     ·have n:ck v.heap (λ_=>False) sg.res y.1 z fp1:=ck.any _ c.2 K
      have o:gK v.heap (λ_=>False) sg.args y.2 vs m:=gK.any _ (pN _ c.1) M;obtain⟨R,l1,f1,S⟩:=gT sg.res n d 0;obtain⟨B,T,U,V⟩:=iY (F:=F) hh A.cells d sg.args ha o (st:=(ow,(bK d sg.res y.1 0).2)) (λd' j' hx=>hx) (wL _ c.1 u);obtain⟨W,s,t⟩:=wK hh hF (.refl _) (.refl _ _) A N O V l1 (by rw[<-f1];rfl) D (λb r hb=>hb.elim) (l:=(bK d sg.res y.1 0).1) (vs:=z) S;exact⟨_,_,_,W,J,h,s,vG t⟩
    ·exact h.elim
   ·exact lH r (λsg i=>hs sg (by simp[i])) hh hF hL ha h
  ·exact lH r (λsg i=>hs sg (by simp[i])) hh hF hL ha h
def u6 (P:Program) (op:Oper) (b:Operand->Value) (w:World) (R:Value->World->Prop):Prop:=
 (∃v a,(execOp b op).run P w= .ok (.value v) a/\R v a)\/(∃a,(execOp b op).run P w= .ok .skip a/\R undef a)\/
 ∃f args,(execOp b op).run P w= .ok (.enter f args) w/\Calls P f args w λe a=>∃v,e= .returned v/\R v a
def u6.wp {op:Oper} {a:Act} {next:Act->World->Prop} {d:Exit->Act->World->Prop} (h:u6 P op a.eval w λv c=>next (a.put op.dst v) c):op.wp P a w next d:=by
 unfold Oper.wp;rcases h with⟨v,c,b,h⟩|⟨c,b,h⟩|⟨f,args,b,h⟩
 ·rw[b];exact h
 ·rw[b];exact h
 ·rw[b]
  exact h.mono λe c ⟨v,g,h⟩=>by rw[g];exact h
def iG {c:Call} {b:Operand} (d:op.op= .call c) (f:c.callee= .value b) {a:FuncId} {xs ys:List Value} (g:ρv b= .func (.func a) xs.toArray ys.toArray)
 (h:∃fn,P.funcs[a]?=some fn/\(fn.name== "runtime.NumGoroutine")=false/\fn.body.isNone=false):
 (execOp ρv op).run P w= .ok (.enter a (xs++c.args.toList.map ρv++ys).toArray) w:=by
 obtain⟨fn,i,j,k⟩:=h;have e:xs.toArray++c.args.map ρv++ys.toArray=(xs++c.args.toList.map ρv++ys).toArray:=by apply a4r;simp
 simp only[execOp,d,resolve,f,g,Deferred.ofValue,Sem.run_bind,Sem.run_pure,Result.andThen_ok,invoke,callFunc,run_program,i,j,k,a0t,a1y];rw[e]
end
section
variable {F:Nat->Prop} {G:Gh} {ow:OW} {w:World} {L:List (Nat×Obj)} {C:gI}
def gI.Holds (C:gI) (L:List (Nat×Obj)):Prop:=∀f,∀a∈C.sigsOf f,aw C.P L f a
def fT (k:C.Holds L) (l:op.op=o) (g:bx F G ow w.heap) (m:∀b,F b->b<w.heap.size) (n:iX L (ci G ow) w.heap) (i:Mp F G ow w.heap ρ ρv) {Q:SV->Prop} (h:(AA C o ρ ow).can Q):u6 C.P op ρv w λv j=>∃s,Q s/\Tr F G ow w G ow j/\Sv F G ow j.heap s v:=by
 unfold AA at h;split at h
 ·rename_i p args _
  split at h
  ·rename_i d a b q
   have f:=i p;rw[q]at f;obtain⟨xs,ys,f,r,t⟩:=f.fn_inv;have c:dq F G ow w.heap (a++args.toList.map ρ++b) (xs++args.toList.map ρv++ys):=(r.append (i.svs _)).append t
   cases hsg:C.sigsOf d with
   |nil=>rw[hsg]at h;exact h.elim
   |cons sg0 r0=>
    have u:=(k d sg0 (by rw[hsg];simp)).1;have:=mD (C.sigsOf d) (k d) g m n c h;exact .inr (.inr ⟨d,_,iG l rfl f u,this.mono λe j ⟨s,v,x,y,z,A⟩=>⟨v,x,s,y,z,A⟩⟩)
  ·exact h.elim
 ·obtain⟨s,v,B,D,E⟩:=ww (P:=C.P) l g i h
  exact .inl ⟨v,w,D,s,B,.refl g,E⟩
def uh (k:C.Holds L) (m:op.op=o) (n:bx F G ow w.heap) (p:∀b,F b->b<w.heap.size) (q:iX L (ci G ow) w.heap) (l:Mp F G ow w.heap ρ ρv) (h:(tL C o ρ ow d).can Q):u6 C.P op ρv w λv j=>∃s ow' g,Q (s,ow')/\Tr F G ow w g ow' j/\Sv F g ow' j.heap s v:=by
 unfold tL at h;split at h
 ·rename_i r args _
  split at h
  ·rename_i f a b t
   have i:=l r;rw[t]at i;obtain⟨xs,ys,i,u,x⟩:=i.fn_inv;have c:dq F G ow w.heap (a++args.toList.map ρ++b) (xs++args.toList.map ρv++ys):=(u.append (l.svs _)).append x
   cases hsg:C.sigsOf f with
   |nil=>rw[hsg]at h;exact h.elim
   |cons sg0 r0=>
    have y:=(k f sg0 (by rw[hsg];simp)).1;have:=lH (C.sigsOf f) (k f) n p q c h;exact .inr (.inr ⟨f,_,iG m rfl i y,this.mono λe j ⟨s,ow',v,g,z,A,B,D⟩=>⟨v,z,s,ow',g,A,B,D⟩⟩)
  ·exact h.elim
 ·exact h.elim
def u6.res {P:Program} {c:Sem Value} (d:DB P F G ow w Q c) (e:(execOp ρv op).run P w=(do pure (Next.value (<-c)):Sem Next).run P w):u6 P op ρv w λv a=>∃s ow' b,Q (s,ow')/\Tr F G ow w b ow' a/\Sv F b ow' a.heap s v:=by
 obtain⟨s,ow',v,a,b,f,g,h,i⟩:=d;refine .inl ⟨v,a,?_,s,ow',b,f,h,i⟩;rw[e,Sem.run_bind,g];rfl
def gk (S:C.Holds L) (k:op.op=o) (j:bx F G ow w.heap) (m:∀b,F b->b<w.heap.size) (T:iX L (ci G ow) w.heap) (c:Mp F G ow w.heap ρ ρv) (h:(nj C o ρ ow d).can Q):u6 C.P op ρv w λv u=>∃s ow' z,Q (s,ow')/\Tr F G ow w z ow' u/\Sv F z ow' u.heap s v:=by
 unfold nj at h;split at h
 ·split at h
  ·rename_i q B
   split at h
   ·rename_i ow' D
    exact u6.res (zC (P:=C.P) j m B D h) (by simp only[execOp,k])
   ·exact h.elim
  ·exact h.elim
 ·split at h
  ·rename_i q B
   split at h
   ·rename_i ow' D
    exact u6.res (DR (P:=C.P) j m (c _) B D h) (by simp only[execOp,k])
   ·exact h.elim
  ·exact h.elim
 ·rename_i t n f
  refine u6.res (qe (P:=C.P) (vps:=f.toList.map λx=>(x.1,ρv x.2)) j m (by simp) (by simp only[a8u];exact(by simpa [a7l]using c.svs (f.toList.map (·.2)))) h) ?_
  simp only[execOp,k]
  congr 4
  apply a4r;simp
 ·have h:=ba.can_bind _ h
  obtain⟨ow',u,E,H,I⟩:=zF (P:=C.P) j m (c _) (c _) h;refine .inr (.inl ⟨u,?_,_,ow',G,E,I,.tup (l:=[]) (vs:=[]) rfl (λi h=>by simp at h)⟩);simp only[execOp,k,Sem.run_bind,H,Result.andThen_ok,Sem.run_pure]
 ·exact u6.res (qW (P:=C.P) j m (c _) (c _) h) (by simp only[execOp,k])
 ·rename_i args J
  split at h
  ·rename_i s x t tx V I
   split at h
   ·rename_i K
    refine u6.res (wA (P:=C.P) (ty:=op.type) j m (c s) (c x) K h) ?_
    have W:args.map ρv= #[ρv s,ρv x]:=by apply a4r;simp[V]
    have X:J= #[t,tx]:=by apply a4r;simp[I]
    simp only[execOp,k,resolve,Sem.run_bind,Sem.run_pure,Result.andThen_ok,invoke,builtin,W,X]
   ·exact h.elim
  ·exact h.elim
 ·rename_i Y args _
  split at h
  ·rename_i y a b Z
   have A:=c Y;rw[Z]at A;obtain⟨xs,ys,A,M,hy⟩:=A.fn_inv;have g:dq F G ow w.heap (a++args.toList.map ρ++b) (xs++args.toList.map ρv++ys):=(M.append (c.svs _)).append hy
   cases hsg:C.sigsOf y with
   |nil=>rw[hsg]at h;exact h.elim
   |cons sg0 r0=>
    have h0:=(S y sg0 (by rw[hsg];simp)).1;obtain⟨G1,r,N⟩:=ub m j (a++args.toList.map ρ++b);have:=pM (C.sigsOf y) (S y) r.hrep m (λp U=>⟨λM=>(T p U).1 (N _ M),(T p U).2⟩) ⟨g.1,λi O R=>r.sv _ _ (g.2 i O R)⟩ h;exact .inr (.inr ⟨y,_,iG k rfl A h0,this.mono λe u ⟨s,ow',v,z,O,R,h3,h4⟩=>⟨v,O,s,ow',z,R,r.trans h3,h4⟩⟩)
  ·exact h.elim
 ·have h:=ba.can_bind _ h
  obtain⟨s,v,E,H,hs⟩:=ww (P:=C.P) k j c h;exact .inl ⟨v,w,H,s,ow,G,E,.refl j,hs⟩
def mE (p:C.Holds L) (k:op.op=o) (f:bx F G ow w.heap) (g:∀b,F b->b<w.heap.size) (r:iX L (ci G ow) w.heap) (a:Mp F G ow w.heap ρ ρv) (h:(zp C o ρ ow d).can Q):u6 C.P op ρv w λv B=>∃s ow' u,Q (s,ow')/\Tr F G ow w u ow' B/\Sv F u ow' B.heap s v:=by
 unfold zp at h;split at h
 ·split at h
  ·rename_i q D
   obtain⟨x,ow',v,u,E,H,I,K⟩:=zI (P:=C.P) f g (a _) (d:=q.1) (j:=q.2.1) (e:=q.2.2.1) (c:=q.2.2.2.1) (s:=q.2.2.2.2) D h;refine .inl ⟨v,w,?_,x,ow',u,E,I,K⟩;simp only[execOp,k,Sem.run_bind,H,Result.andThen_ok,Sem.run_pure]
  ·exact gk p k f g r a h
 ·split at h
  ·rename_i q D
   have h:=ba.can_bind _ h;obtain⟨ow',B,u,E,H,I⟩:=wE (P:=C.P) f g (a _) (a _) (d:=q.1) (j:=q.2.1) (e:=q.2.2.1) (c:=q.2.2.2.1) (s:=q.2.2.2.2) D h;refine .inr (.inl ⟨B,?_,_,ow',u,E,I,.tup (l:=[]) (vs:=[]) rfl (λi h=>by simp at h)⟩);simp only[execOp,k,Sem.run_bind,H,Result.andThen_ok,Sem.run_pure]
  ·exact gk p k f g r a h
 ·rename_i t n m
  split at h
  ·rename_i T M
   refine u6.res (wH (P:=C.P) (vps:=m.toList.map λx=>(x.1,ρv x.2)) f g (by simp) (by simp only[a8u];exact(by simpa [a7l]using a.svs (m.toList.map (·.2)))) h) ?_
   simp only[execOp,k]
   congr 4
   apply a4r;simp
  ·exact gk p k f g r a h
 ·split at h
  ·exact u6.res (zK (P:=C.P) f g (a _) (a _) h) (by simp only[execOp,k])
  ·exact gk p k f g r a h
 ·rename_i J
  split at h
  ·rename_i s x t tx y N O
   split at h
   ·split at h
    ·rename_i z
     have A:DB C.P F G ow w Q (Builtin.append_ #[t,tx] op.type #[ρv s,ρv x]):=by
      split at h
      ·exact Cn (P:=C.P) (ty:=op.type) f g (a s) (a x) z h
      ·exact u5 (P:=C.P) (ty:=op.type) f g (a s) (a x) z h
     refine u6.res A ?_
     have R:J.args.map ρv= #[ρv s,ρv x]:=by apply a4r;simp[N]
     have S:J.argTypes= #[t,tx]:=by apply a4r;simp[O]
     simp only[execOp,k,y,resolve,Sem.run_bind,Sem.run_pure,Result.andThen_ok,invoke,builtin,R,S]
    ·exact h.elim
   ·exact gk p k f g r a h
  ·exact gk p k f g r a h
 ·exact gk p k f g r a h
end
end Go.Pev
namespace Go.Pev
variable {w:World} {G:Gh} {ow:OW} {a:Act} {v:Value} {s:SV} {sl:List SV} {d:Option Tmp}
structure GH (F:Nat->Prop) (fp:List Nat) (L:List (Nat×Obj)) (w0:World):Prop where
 wide:∀b,F b->b<w0.heap.size
 laid:iX L (·∈fp) w0.heap
 fpF:∀b∈fp,¬F b
structure nG (nt:Nat) (fr:Nat->Bool) (F:Nat->Prop) (fp:List Nat) (w0:World) (vs:List Value) (st:St) (a:Act) (w:World):Prop where
 ex:∃G,dq F G st.ow w.heap st.sl a.tmps.toList/\bx F G st.ow w.heap/\∀b,ci G st.ow b->b∈fp\/w0.heap.size<=b
 kept:fh (·∈fp) w0 w
 defers:a.defers=[]
 args:∀i,i<vs.length->fr i=false->a.tmps[i]?=vs[i]?
 size:a.tmps.size=nt
section
variable {F:Nat->Prop} {fp:List Nat} {L:List (Nat×Obj)} {w0:World} {vs:List Value} {C:gI} {nt:Nat} {fr:Nat->Bool}
def GH.wideAt (a:GH F fp L w0) (c:fh (·∈fp) w0 w):∀b,F b->b<w.heap.size:=λb d=>a7c (a.wide b d) c.size
def GH.laidAt (e:GH F fp L w0) (f:fh (·∈fp) w0 w) (g:∀b,ci G ow b->b∈fp\/w0.heap.size<=b):iX L (ci G ow) w.heap:=λp i=>by
 obtain⟨c,d⟩:=e.laid p i;have a:=(a1b.1 d).1;refine⟨λh=> ?_,by rw[f.heap p.1 a c];exact d⟩;rcases g _ h with h|h
 ·exact c h
 ·omega
def ep (j:dq F G ow w.heap sl a.tmps.toList):Mp F G ow w.heap (iU sl) a.eval:=by
 intro x
 cases x with
 |tmp t=>
  show Sv F G ow w.heap (match sl[t]? with|some s=>s|none=> .dead) (a.tmps.getD t undef);split
  ·rename_i s h
   obtain⟨d,rfl⟩:=a0r.1 h;have c:t<a.tmps.toList.length:=by rw[<-j.1];exact d
   have e:a.tmps.getD t undef=a.tmps.toList[t]:=by
    have:t<a.tmps.size:=by simpa using c
    simp[Array.getD,this]
   rw[e];exact j.2 t d c
  ·exact .dead _
 |const v=>exact tO 4 v
 |global g=>exact .dead _
 |func f=>exact .fn (a:=[]) (b:=[]) (xs:=[]) (ys:=[]) rfl rfl (λi h=>by simp at h) (λi h=>by simp at h)
def vH (b:dq F G ow w.heap sl a.tmps.toList) (g:Sv F G ow w.heap s v) (d:Option Tmp):dq F G ow w.heap (bn sl d s) (a.put d v).tmps.toList:=by
 cases d with
 |none=>exact b
 |some d=>
  refine⟨by simp[bn,Act.put,b.1],λi c f=> ?_⟩;simp only[bn,Act.put,Array.toList_setIfInBounds]at c f⊢;by_cases e:d=i
  ·subst e
   simp only[a3j];exact g
  ·simp only[a3c e]
   exact b.2 i (by simpa using c) (by simpa using f)
def D2 (h:∀i,i<vs.length->fr i=false->a.tmps[i]?=vs[i]?) (f:∀x,d=some x->fr x=true):∀i,i<vs.length->fr i=false->(a.put d v).tmps[i]?=vs[i]?:=by
 intro i c b
 cases d with
 |none=>exact h i c b
 |some d=>
  have:=f d rfl;simp only[Act.put];rw[Array.getElem?_setIfInBounds_ne (λe=>by rw[e]at this;rw[this]at b;cases b)];exact h i c b
def D3 (a:Act) (d:Option Tmp) (v:Value):(a.put d v).tmps.size=a.tmps.size:=by cases d<;>simp[Act.put]
def mF (a:Act) (d:Option Tmp) (v:Value):(a.put d v).defers=a.defers:=by cases d<;>rfl
def nG.op (o:GH F fp L w0) {st:St} (h:nG nt fr F fp w0 vs st a w) (g:dq F G st.ow w.heap st.sl a.tmps.toList) (j:∀b,ci G st.ow b->b∈fp\/w0.heap.size<=b) {e:Gh} {ow':OW} {f:World} (c:Tr F G st.ow w e ow' f) (k:Sv F e ow' f.heap s v) (l:∀x,d=some x->fr x=true):nG nt fr F fp w0 vs ⟨bn st.sl d s,ow'⟩ (a.put d v) f:=by
 refine⟨⟨e,vH ⟨g.1,λi h1 m=>c.sv _ _ (g.2 i h1 m)⟩ k d,c.hrep,λb n=> ?_⟩,h.kept.trans c.kept j,by rw[mF];exact h.defers,D2 h.args l,by rw[D3];exact h.size⟩;rcases c.own b n with h1|h1
 ·exact j b h1
 ·exact .inr (a5m h.kept.size h1)
def nG.slot {st:St} (h:nG nt fr F fp w0 vs st a w) (b:∀G,Sv F G st.ow w.heap s v) (c:∀x,d=some x->fr x=true):nG nt fr F fp w0 vs ⟨bn st.sl d s,st.ow⟩ (a.put d v) w:=by
 obtain⟨G,e,f,g⟩:=h.ex;exact⟨⟨G,vH e (b G) d,f,g⟩,h.kept,by rw[mF];exact h.defers,D2 h.args c,by rw[D3];exact h.size⟩
def kx {h:Array Obj}:Sv F G ow h (.tup []) undef:= .tup (l:=[]) (vs:=[]) rfl (λi h=>by simp at h)
def cC (l:dq F G ow w.heap sl a.tmps.toList) {k:Array Oper} {o:Oper} {b:Bool} (h:dD k o sl=some b):Region.wanted o (yielded k a.tmps)=b:=by
 unfold dD at h;unfold Region.wanted;split at h
 ·rename_i m
  rw[m];exact a1e h
 ·rename_i j f m
  rw[m];simp only;unfold yielded;split at h
  ·rename_i n
   cases h
   rw[n];rfl
  ·rename_i g n
   rw[n];simp only[a0c];split at h
   ·rename_i t i
    cases h
    obtain⟨d,e⟩:=a0r.1 i;have c:g<a.tmps.toList.length:=by rw[<-l.1];exact d
    have:=l.2 g d c;rw[e]at this;have p:=this.lb_inv;have:a.tmps[g]?=some (.bool t):=by rw[<-p];simp[show g<a.tmps.size by simpa using c]
    rw[this]
    cases t<;>cases f<;>rfl
   ·rename_i i
    cases h
    obtain⟨d,e⟩:=a0r.1 i;have c:g<a.tmps.toList.length:=by rw[<-l.1];exact d
    have:=l.2 g d c;rw[e]at this;obtain⟨r,p,q⟩:=this.tup_inv;have:r=[]:=a0s q.1.symm;subst this;have:a.tmps[g]?=some (.tuple #[]):=by rw[<-p];simp[show g<a.tmps.size by simpa using c]
    rw[this]
    cases f<;>rfl
   ·cases h
def lj {α:Type} {n:Nat} {src:Bool} (a:Sv F G ow w.heap s v) {k:SV->Option α} {r:α} (h:split n src s k=some r):∃c,k c=some r/\Sv F G ow w.heap c v:=by
 unfold split at h;split at h
 ·split at h
  ·rename_i b
   rw[a.bool_inv];rw[ek]at h
   cases b
   ·exact⟨_,h,.lb _⟩
   ·exact⟨_,h,.lb _⟩
  ·exact⟨_,h,a⟩
 ·exact⟨_,h,a⟩
def wM (C:gI) (L:List (Nat×Obj)):Prop:=∀ {F:Nat->Prop} {G:Gh} {ow:OW} {w:World} {o:Op} {op:Oper},op.op=o->∀ {ρ:Operand->SV} {a:Operand->Value},bx F G ow w.heap->(∀b,F b->b<w.heap.size)->iX L (ci G ow) w.heap->Mp F G ow w.heap ρ a->∀ {d:Nat} {Q:SV×OW->Prop},(tM C o ρ ow d).can Q->u6 C.P op a w λv c=>∃s ow' e,Q (s,ow')/\Tr F G ow w e ow' c/\Sv F e ow' c.heap s v
def oq {α:Type} (y:wM C L) (j:GH F fp L w0) {b:Array Oper} {Q:Exit->Act->World->Prop} {k:St->Option α} {r:α}
 (z:∀m I c,k m=some r->nG nt fr F fp w0 vs m I c->Q .normal I c):
 (l:List (Oper×Nat))->(∀p∈l,b[p.2]?=some p.1/\∀d,p.1.dst=some d->fr d=true)-> {st:St}-> {a:Act}-> {w:World}->nG nt fr F fp w0 vs st a w->AG C b l st k=some r->wpOps C.P b Q (l.map (·.2)) a w
 |[],_,st,a,w,h,e=>z _ _ _ e h
 |(o,i)::l,hl,st,a,w,h,e=>by
  obtain⟨M,J⟩:=hl (o,i) (by simp);have n:∀p∈l,b[p.2]?=some p.1/\∀d,p.1.dst=some d->fr d=true:=λp N=>hl p (by simp[N])
  obtain⟨G,x,O,g⟩:=h.ex;unfold AG at e;simp only[a2g,wpOps];rw[M];simp only;split at e
  ·cases e
  ·rename_i A
   rw[cC x A];exact oq y j z l n (h.slot (λ_=>kx) J) e
  ·rename_i A
   rw[cC x A];simp only[a1z];left;have q:=ba.can_of_run _ e;have B:=y rfl O (j.wideAt h.kept) (j.laidAt h.kept g) (ep x) q;refine u6.wp ?_
   have conv:∀v c,(∃s ow' D,(split C.fuel (dZ b i) s λK=>AG C b l ⟨bn st.sl o.dst K,ow'⟩ k)=some r/\Tr F G st.ow w D ow' c/\Sv F D ow' c.heap s v)->wpOps C.P b Q (l.map (·.2)) (a.put o.dst v) c:=by
    rintro v c ⟨s,ow',D,E,R,H⟩
    obtain⟨K,E,H⟩:=lj H E;exact oq y j z l n (h.op j x g R H J) E
   rcases B with⟨v,c,t,u⟩|⟨c,t,u⟩|⟨f,args,t,u⟩
   ·exact .inl ⟨v,c,t,conv v c u⟩
   ·exact .inr (.inl ⟨c,t,conv undef c u⟩)
   ·exact .inr (.inr ⟨f,args,t,u.mono λe c ⟨v,S,T⟩=>⟨v,S,conv v c T⟩⟩)
def qi {α:Type} (H:C.Holds L) (t:GH F fp L w0) {b:Array Oper} {Q:Exit->Act->World->Prop} {ow:OW} {k:List SV->Option α} {r:α}
 {sl0:List SV} {D:Nat->Prop}
 (I:∀m R c,k m=some r->nG nt fr F fp w0 vs ⟨m,ow⟩ R c->(∀d,¬D d->m[d]?=sl0[d]?)->Q .normal R c):
 (l:List (Oper×Nat))->(∀p∈l,b[p.2]?=some p.1/\∀d,p.1.dst=some d->fr d=true/\D d)-> {n:List SV}-> {a:Act}-> {w:World}->nG nt fr F fp w0 vs ⟨n,ow⟩ a w->(∀d,¬D d->n[d]?=sl0[d]?)->Jn C b ow l n k=some r->wpOps C.P b Q (l.map (·.2)) a w
 |[],_,n,a,w,h,hag,e=>I _ _ _ e h hag
 |(o,i)::l,hl,n,a,w,h,hag,e=>by
  obtain⟨U,u⟩:=hl (o,i) (by simp);have S:∀d,o.dst=some d->fr d=true:=λd J=>(u d J).1
  have g:∀s d,¬D d->(bn n o.dst s)[d]?=sl0[d]?:=by
   intro s d q
   cases J:o.dst with
   |none=>exact hag d q
   |some x=>
    have:x≠d:=λe=>q (e▸(u x J).2)
    simp only[bn];rw[a2z this];exact hag d q
  have y:∀p∈l,b[p.2]?=some p.1/\∀d,p.1.dst=some d->fr d=true/\D d:=λp V=>hl p (by simp[V])
  obtain⟨G,E,W,j⟩:=h.ex;unfold Jn at e;simp only[a2g,wpOps];rw[U];simp only;split at e
  ·cases e
  ·rename_i K
   rw[cC E K];exact qi H t I l y (h.slot (λ_=>kx) S) (g _) e
  ·rename_i K
   rw[cC E K];simp only[a1z];left;have z:=ba.can_of_run _ e;have M:=fT H rfl W (t.wideAt h.kept) (t.laidAt h.kept j) (ep E) z;refine u6.wp ?_
   have conv:∀v c,(∃s,(split C.fuel (dZ b i) s λT=>Jn C b ow l (bn n o.dst T) k)=some r/\Tr F G ow w G ow c/\Sv F G ow c.heap s v)->wpOps C.P b Q (l.map (·.2)) (a.put o.dst v) c:=by
    rintro v c ⟨s,N,X,O⟩
    obtain⟨T,N,O⟩:=lj O N;exact qi H t I l y (h.op t E j X O S) (g _) N
   rcases M with⟨v,c,A,B⟩|⟨c,A,B⟩|⟨f,args,A,B⟩
   ·exact .inl ⟨v,c,A,conv v c B⟩
   ·exact .inr (.inl ⟨c,A,conv undef c B⟩)
   ·exact .inr (.inr ⟨f,args,A,B.mono λe c ⟨v,Y,Z⟩=>⟨v,Y,conv v c Z⟩⟩)
def im (a:Array Oper) {fr:Nat->Bool} (h:(a.toList.all λo=>match o.dst with|some d=>fr d|none=>true)=true):(∀p∈a.toList.zipIdx,a[p.2]?=some p.1/\∀d,p.1.dst=some d->fr d=true)/\a.toList.zipIdx.map (·.2)=List.range a.size:=by
 refine⟨λp e=> ?_,by simp[a3x]⟩;have b:=List.mem_zipIdx' e;refine⟨by have:=b.2;rw[this];simp[show p.2<a.size by simpa using b.1],λd f=> ?_⟩;have c:=a1g.1 h p.1 (by rw[b.2];exact a0n _);rw[f]at c;simpa using c
end
end Go.Pev
namespace Go.Pev
variable {st:St} {a:Act} {w:World}
section
variable {F:Nat->Prop} {G:Gh} {w:World}
def D4 {f1:List Nat} (n:bx (FP F f1) G st.ow w.heap) {tmps:List Value} (k:dq (FP F f1) G st.ow w.heap st.sl tmps) {a:Sh} {x:a.T} {v:Value} (e:ck w.heap (cU (FP F f1) G st.ow) a x [v] f1) (j:f1.Nodup) (o:∀b∈f1,¬F b)
 {s:Nat} (c:st.ow[s]?=some []) (l:tmps[s]?=some v):
 ∃f,bx F f (st.ow.set s ((bK s a x 0).2.map some)) w.heap/\dq F f (st.ow.set s ((bK s a x 0).2.map some)) w.heap (st.sl.set s ((bK s a x 0).1.headD .dead)) tmps/\∀b,ci f (st.ow.set s ((bK s a x 0).2.map some)) b↔ci G st.ow b\/b∈f1:=by
 have p:bX st.ow s (bK s a x 0).2=some (st.ow.set s ((bK s a x 0).2.map some)):=by
  unfold bX;split
  ·rename_i h
   rw[h]
   congr 1
   apply a2e;intro i;by_cases g:s=i
   ·subst g
    rw[a4w (a0r.1 c).1,c];rfl
   ·rw[a2z g]
  ·rw[c]
 obtain⟨f,q,r,t,y,_⟩:=sz n e j o p;refine⟨f,q,⟨by simp[k.1],λi z m=> ?_⟩,y⟩;obtain⟨u,A,d⟩:=r.single;have d:Sv F f (st.ow.set s ((bK s a x 0).2.map some)) w.heap ((bK s a x 0).1.headD .dead) v:=by rw[A];exact d
 by_cases g:s=i
 ·subst g
  rw[a3j];rw[a0a m]at l;rw[a1e l];exact d
 ·rw[a3c g]
  exact t _ _ (k.2 i (by simpa using z) m)
def ui (F:Nat->Prop) (w:World) (nt:Nat) {tmps:List Value} (g:tmps.length=nt):bx F (λ_ _ _=>none) (List.replicate nt []) w.heap/\dq F (λ_ _ _=>none) (List.replicate nt []) w.heap (List.replicate nt SV.dead) tmps/\∀b,¬ci (λ_ _ _=>none) (List.replicate nt []) b:=by
 refine⟨⟨λd j o a=> ?_,λd j i d' j' m b o n _ _ c _=>(by cases c),λb e=> ?_⟩,⟨by simp[g],λi k f=>by simp only[a4x];exact .dead _⟩,λb e=> ?_⟩
 ·unfold ak at a
  cases h:(List.replicate nt ([]:List (Option OB)))[d]? with
  |none=>rw[h]at a;cases a
  |some l=>
   rw[h]at a;have:l=[]:=by
    obtain⟨k,f⟩:=a0r.1 h;simpa using f.symm
   subst this;simp at a
 ·obtain⟨_,_,_,_,_,c⟩:=aK.1 e;cases c
 ·obtain⟨_,_,_,_,_,c⟩:=aK.1 e;cases c
def wN {nt:Nat} {tmps:List Value} (q:tmps.length=nt) {g:Nat->Prop}:(l:List (Nat×Sh))->p8 nt l=true-> {F:Nat->Prop}-> {x:(g7 l).T}-> {c:List Nat}->
 ck w.heap g (g7 l) x (l.map λp=>tmps.getD p.1 undef) c->c.Nodup->(∀b∈c,¬F b)->(∀b,g b->¬F b/\b∉c)->
 ∃G,bx F G (qN nt l x).ow w.heap/\dq F G (qN nt l x).ow w.heap (qN nt l x).sl tmps/\(∀b,ci G (qN nt l x).ow b↔b∈c)/\∀d,d<nt->d∉l.map (·.1)->(qN nt l x).ow[d]?=some []
 |[],_,F,x,c,e,_,_,_=>by
  obtain⟨j,z,A⟩:=ui F w nt q;obtain⟨_,rfl⟩:=e;exact⟨_,j,z,λb=>⟨λh=>absurd h (A b),λh=>by simp at h⟩,λd m _=>by simp[qN,m]⟩
 |(s,sh)::r,hlv,F,x,c,e,hnd,hF,hok=>by
  simp only[p8,a0e,a0v,a2o]at hlv;obtain⟨⟨B,n⟩,C⟩:=hlv;obtain⟨v,N,f1,f2,j,rfl,D,E⟩:=e;simp only[a2g,a5d]at j;obtain⟨rfl,rfl⟩:=j;rw[a2d]at hnd;obtain⟨G,H,I,t,u⟩:=wN q r C (F:=FP F f1) (x:=x.2) E hnd.2.1
   (λb a hx=>by
    rcases hx with hx|hx
    ·exact hF b (a0k.2 (.inr a)) hx
    ·exact hnd.2.2 b hx b a rfl)
   (λb a=>by
    obtain⟨a1,k⟩:=hok b a;exact⟨λhx=>by
     rcases hx with hx|hx
     ·exact a1 hx
     ·exact k (a0k.2 (.inl hx)),λhx=>k (a0k.2 (.inr hx))⟩)
  have i:s∉r.map (·.1):=by simpa using n
  have J:tmps[s]?=some (tmps.getD s undef):=by simp[List.getD,show s<tmps.length by omega]
  obtain⟨y,K,L,M⟩:=D4 (st:=qN nt r x.2) H I (ck.mono (λb O a o=>⟨⟨λhx=>by
   obtain⟨a1,k⟩:=hok b a;rcases hx with hx|hx
   ·exact a1 hx
   ·exact k (a0k.2 (.inl hx)),λhx=>(hok b a).2 (a0k.2 (.inr ((t b).1 hx)))⟩,o⟩) sh (λ_ _=>rfl) D) hnd.1 (λb a=>hF b (a0k.2 (.inl a))) (u s B i) J
  refine⟨y,K,L,λb=> ?_,λd m f=> ?_⟩
  ·rw[show ci y (qN nt ((s,sh)::r) x).ow b↔_ from M b,t b,a0k]
   exact Or.comm
  ·simp only[a2g,a1j,not_or]at f
   show((qN nt r x.2).ow.set s _)[d]?=some [];rw[a2z (Ne.symm f.1)];exact u d m f.2
def uj {nt:Nat} {tmps:List Value} (o:tmps.length=nt) {f:Nat->Prop}:(s:Sh)->s.chain=true->(i:Nat)->i+s.len<=nt-> {F:Nat->Prop}-> {x:s.T}-> {vs:List Value}-> {c:List Nat}->
 ck w.heap f s x vs c->(∀j,j<vs.length->tmps[i+j]?=vs[j]?)->c.Nodup->(∀b∈c,¬F b)->(∀b,f b->¬F b/\b∉c)->
 ∃G,bx F G (nk nt s x i).ow w.heap/\dq F G (nk nt s x i).ow w.heap (nk nt s x i).sl tmps/\(∀b,ci G (nk nt s x i).ow b↔b∈c)/\∀d,d<i->d<nt->(nk nt s x i).ow[d]?=some []
 | .nil,_,i,_,F,x,vs,c,e,_,_,_,_=>by
  obtain⟨u,y,z⟩:=ui F w nt o;obtain⟨_,rfl⟩:=e;exact⟨_,u,y,λb=>⟨λh=>absurd h (z b),λh=>by simp at h⟩,λd _ p=>by simp[nk,p]⟩
 | .cons sh b,hc,i,hi,F,x,vs,c,e,hv,hnd,hF,hok=>by
  obtain⟨v,K,f1,f2,rfl,rfl,A,B⟩:=e;simp only[Sh.len]at hi;rw[a2d]at hnd;obtain⟨G,C,D,q,r⟩:=uj o b (by simpa [Sh.chain]using hc) (i+1) (by omega) (F:=FP F f1) (x:=x.2) B
   (λj E=>by have:=hv (j+1) (by simpa using E);rw[show i+(j+1)=i+1+j by omega]at this;simpa using this) hnd.2.1
   (λb a hx=>by
    rcases hx with hx|hx
    ·exact hF b (a0k.2 (.inr a)) hx
    ·exact hnd.2.2 b hx b a rfl)
   (λb a=>by
    obtain⟨a1,g⟩:=hok b a;exact⟨λhx=>by
     rcases hx with hx|hx
     ·exact a1 hx
     ·exact g (a0k.2 (.inl hx)),λhx=>g (a0k.2 (.inr hx))⟩)
  have k:tmps[i]?=some v:=by have:=hv 0 (by simp);simpa using this
  obtain⟨t,H,I,J⟩:=D4 (st:=nk nt b x.2 (i+1)) C D (ck.mono (λb L a l=>⟨⟨λhx=>by
   obtain⟨a1,g⟩:=hok b a;rcases hx with hx|hx
   ·exact a1 hx
   ·exact g (a0k.2 (.inl hx)),λhx=>(hok b a).2 (a0k.2 (.inr ((q b).1 hx)))⟩,l⟩) sh (λ_ _=>rfl) A) hnd.1 (λb a=>hF b (a0k.2 (.inl a))) (r i (by omega) (by omega)) k
  refine⟨t,H,I,λm=> ?_,λd p n=> ?_⟩
  ·rw[show ci t (nk nt (.cons sh b) x i).ow m↔_ from J m,q m,a0k]
   exact Or.comm
  ·show((nk nt b x.2 (i+1)).ow.set i _)[d]?=some []
   rw[a2z (by omega)];exact r d (by omega) n
 | .pur _,hc,_,_,_,_,_,_,_,_,_,_,_=>by simp[Sh.chain]at hc
 | .own _,hc,_,_,_,_,_,_,_,_,_,_,_=>by simp[Sh.chain]at hc
 | .row _,hc,_,_,_,_,_,_,_,_,_,_,_=>by simp[Sh.chain]at hc
 | .nrw _,hc,_,_,_,_,_,_,_,_,_,_,_=>by simp[Sh.chain]at hc
 | .box _,hc,_,_,_,_,_,_,_,_,_,_,_=>by simp[Sh.chain]at hc
 | .agg _,hc,_,_,_,_,_,_,_,_,_,_,_=>by simp[Sh.chain]at hc
 | .fn _ _ _,hc,_,_,_,_,_,_,_,_,_,_,_=>by simp[Sh.chain]at hc
 | .ign,hc,_,_,_,_,_,_,_,_,_,_,_=>by simp[Sh.chain]at hc
 | .nl,hc,_,_,_,_,_,_,_,_,_,_,_=>by simp[Sh.chain]at hc
end
section
variable {F:Nat->Prop} {fp:List Nat} {L:List (Nat×Obj)} {w0:World} {vs:List Value} {C:gI} {nt:Nat} {fr:Nat->Bool}
def GI (r:GH F fp L w0) {c:List (Nat×Sh)} (l:p8 nt c=true) (h:nG nt fr F fp w0 vs st a w) {y:(g7 c).T×OW} (e:pk (g7 c) (c.map λp=>iU st.sl (.tmp p.1)) st.ow=some y):nG nt fr F fp w0 vs (qN nt c y.1) a w:=by
 obtain⟨G,s,o,j⟩:=h.ex;have t:=ep s;have d:dq F G st.ow w.heap (c.map λp=>iU st.sl (.tmp p.1)) (c.map λp=>a.tmps.toList.getD p.1 undef):=by
  refine⟨by simp,λi u C=> ?_⟩;simp only[a4k];have:=t (.tmp (c[i]'(by simpa using u)).1);simpa [Act.eval]using this
 obtain⟨f,D,q,m,k⟩:=cA (g7 c) (x:=y.1) (ow1:=y.2) (r.wideAt h.kept) o d e;obtain⟨v,z,A,B,_⟩:=wN (nt:=nt) (tmps:=a.tmps.toList) (by simpa using h.size) c l (F:=F) k m (λb g=>o.notF b (q.own g)) (λb g=>⟨λn=>g.1 (.inl n),λn=>g.1 (.inr n)⟩);exact⟨⟨v,A,z,λb g=>j b (q.own ((B b).1 g))⟩,h.kept,h.defers,h.args,h.size⟩
def nG.alR (h:nG nt fr F fp w0 vs st a w) {b:List (Nat×Nat×Nat×List Nat)} (e:Ob b st.sl st.ow=true):LZ w.heap b a.tmps.toList:=by
 obtain⟨G,c,d,_⟩:=h.ex;exact wJ d c e
def nG.fix (h:nG nt fr F fp w0 vs st a w) {c:List (Nat×Nat×Nat×List Nat)} (e:LZ w.heap c a.tmps.toList):nG nt fr F fp w0 vs (L8 c st) a w:=by
 obtain⟨G,f,d,b⟩:=h.ex;exact⟨⟨G,ue d c f e,d,b⟩,h.kept,h.defers,h.args,h.size⟩
def QK {α:Type} (nt:Nat) (fr:Nat->Bool) (F:Nat->Prop) (b:List Nat) (c:World) (vs:List Value) (K:Ks α) (r:α):Exit->Act->World->Prop
 | .normal,a,w=>∃st,nG nt fr F b c vs st a w/\K.normal st=some r
 | .exit i,a,w=>∃st,nG nt fr F b c vs st a w/\K.exit i st=some r
 | .ret,a,w=>∃st,nG nt fr F b c vs st a w/\K.ret st=some r
 |_,_,_=>False
def q6 {α:Type} (m:GH F fp L w0) {P:Program} {b:List (Nat×Sh)} (g:p8 nt b=true) {o:List (Nat×Nat×Nat×List Nat)} {c:Code} {K:Ks α} {r:α} {p:St->(St->Option α)->Option α}
 (d:∀k st a w,p st k=some r->nG nt fr F fp w0 vs st a w->c.wp P (QK nt fr F fp w0 vs {K with normal:=k} r) a w):
 (n:Nat)-> {x:(g7 b).T}-> {a:Act}-> {w:World}->Ml nt b o p n x=some r->nG nt fr F fp w0 vs (qN nt b x) a w->LZ w.heap o a.tmps.toList->Code.rounds P c (QK nt fr F fp w0 vs K r) n a w
 |0,_,_,_,e,_,_=>by cases e
 |n+1,x,a,w,e,h,ha=>by
  rw[rounds_succ];refine wp_mono (d _ _ _ _ e (h.fix ha)) λs u v j=> ?_
  cases s with
  |normal=>
   obtain⟨st,q,f⟩:=j;dsimp only at f;split at f
   ·rename_i l
    split at f
    ·rename_i y t
     exact q6 m g d n f (GI m g q t) (q.alR l)
    ·cases f
   ·cases f
  |exit i=>exact j
  |ret=>exact j
  |_=>exact j.elim
end
end Go.Pev
namespace Go.Pev
variable {w:World} {st:St} {a:Act} {fn:Func}
section
variable {F:Nat->Prop} {fp:List Nat} {L:List (Nat×Obj)} {w0:World} {vs:List Value} {C:gI} {nt:Nat} {fr:Nat->Bool}
def wO {G:Gh} {ow:OW} {k:Kd} {s:SV} {v:Value} (a:Sv F G ow w.heap s v) {x:k.T} (e:wj k s=some x):Sv F G ow w.heap (.v k x) v:=by
 unfold wj at e;split at e
 ·split at e
  ·rename_i b
   subst b;have e:=a1e e;subst e;exact a
  ·cases e
 ·split at e
  ·cases e
   rw[a.lb_inv];exact .bool _
  ·cases e
 ·split at e
  ·cases e
   cases a
   exact .v rfl ⟨none,0,rfl,a1m _,.inl rfl⟩
  ·cases e
 ·cases e
def q7 {G:Gh} {ow:OW} {w:World} {a sl0:List SV} {tmps:List Value} (c:dq F G ow w.heap a tmps) (g:dq F G ow w.heap sl0 tmps):(l:List (Nat×Kd))-> {p:DI l}->kq l a=some p->dq F G ow w.heap (nX l p sl0) tmps
 |[],_,_=>g
 |(d,k)::r,p,e=>by
  simp only[kq]at e;split at e
  ·rename_i x h
   split at e
   ·rename_i y n
    cases e
    have ih:=q7 c g r n;refine⟨by simp[nX,ih.1],λi j f=> ?_⟩;simp only[nX]at j⊢;by_cases m:d=i
    ·subst m
     simp only[a3j];have b:d<a.length:=by rw[c.1];exact f
     have o:iU a (.tmp d)=a[d]:=by simp[iU,b]
     rw[o]at h;exact wO (c.2 d b f) h
    ·simp only[a3c m]
     exact ih.2 i (by simpa using j) f
   ·cases e
  ·cases e
def GJ (b:List Oper):(a:List SV)->(b.foldl (λa o=>bn a o.dst .dead) a).length=a.length/\∀d,(∃o∈b,o.dst=some d)/\(∀(h:d<(b.foldl (λa o=>bn a o.dst .dead) a).length),(b.foldl (λa o=>bn a o.dst .dead) a)[d]= .dead)\/(¬∃o∈b,o.dst=some d)/\(b.foldl (λa o=>bn a o.dst .dead) a)[d]?=a[d]?:=by
 induction b with
 |nil=>intro a;exact⟨rfl,λd=> .inr ⟨by simp,rfl⟩⟩
 |cons o b ih=>
  intro a;obtain⟨k,l⟩:=ih (bn a o.dst .dead);have f:(bn a o.dst .dead).length=a.length:=by cases g:o.dst<;>simp[bn]
  refine⟨by simp only[a1t];rw[k,f],λd=> ?_⟩;simp only[a1t];rcases l d with⟨⟨j,ho',c⟩,i⟩|⟨m,i⟩
  ·exact .inl ⟨⟨j,by simp[ho'],c⟩,i⟩
  ·by_cases g:o.dst=some d
   ·refine .inl ⟨⟨o,by simp,g⟩,λh=> ?_⟩
    have:(b.foldl (λa o=>bn a o.dst .dead) (bn a o.dst .dead))[d]?=some .dead:=by
     rw[i,g];simp only[bn];rw[a4w (by rw[k,f]at h;exact h)]
    rw[a0a h]at this;exact a1e this
   ·refine .inr ⟨?_,?_⟩
    ·rintro⟨j,ho',c⟩
     rcases a1j.1 ho' with rfl|ho'
     ·exact g c
     ·exact m ⟨j,ho',c⟩
    ·rw[i]
     cases hx:o.dst with
     |none=>rfl
     |some x=>
      simp only[bn];rw[a2z (λe=>g (by rw[hx,e]))]
def Cq {b:Array Oper} {c:List SV} {k:Act} {l:World} (h:nG nt fr F fp w0 vs ⟨c,st.ow⟩ k l) (m:∀d,¬(∃o∈b.toList,o.dst=some d)->c[d]?=st.sl[d]?) (f:st.sl.length=nt) {a:List (Nat×Kd)} {p:DI a} (e:kq a c=some p):nG nt fr F fp w0 vs ⟨nX a p (b.toList.foldl (λn o=>bn n o.dst .dead) st.sl),st.ow⟩ k l:=by
 obtain⟨G,q,u,g⟩:=h.ex;obtain⟨f1,f2⟩:=GJ b.toList st.sl;have v:dq F G st.ow l.heap (b.toList.foldl (λn o=>bn n o.dst .dead) st.sl) k.tmps.toList:=by
  refine⟨by rw[f1,f];simp[h.size],λi r s=> ?_⟩;rcases f2 i with⟨_,j⟩|⟨w,j⟩
  ·rw[j r];exact .dead _
  ·have t:i<c.length:=by rw[q.1];exact s
   rw[<-m i w,a0a r,a0a t]at j;rw[a1e j];exact q.2 i t s
 exact⟨⟨G,q7 q v a e,u,g⟩,h.kept,h.defers,h.args,h.size⟩
def nG.len (h:nG nt fr F fp w0 vs st a w):st.sl.length=nt:=by
 obtain⟨G,b,_⟩:=h.ex;rw[b.1];simpa using h.size
def wP (C:gI) (L:List (Nat×Obj)):Prop:=∀ {α:Type} {nt:Nat} {fr:Nat->Bool} {F:Nat->Prop} {e:List Nat} {f:World} {vs:List Value} {i:Nat} {b:Array Oper} {st:St} {a:Act} {w:World} {k:List SV->Option α} {r:α},GH F e L f->
 (b.toList.all λo=>match o.dst with|some d=>fr d|none=>true)=true->nG nt fr F e f vs st a w->lS b (iA b)=true->
 wg C b st.ow b.toList.zipIdx st.sl k=some r->∀Q:Exit->Act->World->Prop,
 (∀c g h,k c=some r->nG nt fr F e f vs ⟨c,st.ow⟩ g h->(∀d,¬(∃o∈b.toList,o.dst=some d)->c[d]?=st.sl[d]?)->Q .normal g h)->(Code.region i b true).wp C.P Q a w
def wQ (C:gI) (L:List (Nat×Obj)):Prop:=∀ {α:Type} {nt:Nat} {fr:Nat->Bool} {F:Nat->Prop} {e:List Nat} {f:World} {vs:List Value} {i:Nat} {b:Array Oper} {ks:List (List Nat×Bool)} {st:St} {a:Act} {w:World} {k:St->Option α} {r:α},GH F e L f->
 (b.toList.all λo=>match o.dst with|some d=>fr d|none=>true)=true->nG nt fr F e f vs st a w->lS b (p7 qM b ks)=true->
 sn C b ks b.toList.zipIdx st k=some r->∀Q:Exit->Act->World->Prop,
 (∀c g h,k c=some r->nG nt fr F e f vs c g h->Q .normal g h)->(Code.region i b true).wp C.P Q a w
def o7 (C:gI) (L:List (Nat×Obj)):Prop:=wP C L/\wQ C L/\wM C L
def uk {α:Type} (H:C.Holds L) (u:o7 C L) (s:GH F fp L w0) (x:F6) {B:Nat} {b:Array Oper} {c:Bool} (v:(b.toList.all λo=>match o.dst with|some d=>fr d|none=>true)=true) {K:Ks α} {r:α}
 (e:It C x B b c st K.normal=some r) (h:nG nt fr F fp w0 vs st a w):(Code.region B b c).wp C.P (QK nt fr F fp w0 vs K r) a w:=by
 obtain⟨y,E⟩:=im b v;unfold It at e;split at e
 ·rename_i I i _
  have t:∀p,K.normal ⟨nX i p (b.toList.foldl (λJ o=>bn J o.dst .dead) st.sl),st.ow⟩=some r->∀f m n,kq i f=some p->nG nt fr F fp w0 vs ⟨f,st.ow⟩ m n->(∀d,¬(∃o∈b.toList,o.dst=some d)->f[d]?=st.sl[d]?)->QK nt fr F fp w0 vs K r .normal m n:=λp e f m n j k M=>⟨_,Cq k M h.len j,e⟩
  cases c with
  |true=>
   simp only[a1z]at e;split at e
   ·rename_i g
    rw[a2k]at e;obtain⟨p,z,e⟩:=e;exact u.1 s v h g z _ (t p e)
   ·cases e
  |false=>
   simp only[a0t,a1y]at e;rw[a2k]at e;obtain⟨p,z,e⟩:=e;refine wp_region ?_
   rw[<-E];refine qi (D:=λd=>∃o∈b.toList,o.dst=some d) (sl0:=st.sl) H s (t p e) b.toList.zipIdx (λq A=>⟨(y q A).1,λd G=>⟨(y q A).2 d G,?_⟩⟩) h (λ_ _=>rfl) z;have:=List.mem_zipIdx' A;exact⟨q.1,by rw[this.2];exact a0n _,G⟩
 ·cases c with
  |true=>
   simp only[a1z]at e;split at e
   ·split at e
    ·rename_i g
     exact u.2.1 s v h g e _ λl m n j k=>⟨l,k,j⟩
    ·cases e
   ·split at e
    ·rename_i g
     exact u.1 s v h g e _ λf m n j k _=>⟨_,k,j⟩
    ·cases e
  |false=>
   simp only[a0t,a1y]at e;refine wp_region ?_
   rw[<-E];exact oq u.2.2 s (λl m n j k=>⟨l,k,j⟩) _ y h e
def dF {α:Type} (j:C.Holds L) (l:o7 C L) (d:GH F fp L w0) (b:F6):(c:Code)->lT fr c=true-> {f:Nat}-> {K:Ks α}-> {r:α}-> {st:St}-> {a:Act}-> {w:World}->d6 C b nt c f st K=some r->nG nt fr F fp w0 vs st a w->c.wp C.P (QK nt fr F fp w0 vs K r) a w
 | .skip,_,_,K,r,st,a,w,e,h=>wp_skip ⟨st,h,by simpa [d6]using e⟩
 | .exit s,_,_,K,r,st,a,w,e,h=>wp_exit ⟨st,h,by simpa [d6]using e⟩
 | .ret,_,_,K,r,st,a,w,e,h=>wp_ret ⟨st,h,by simpa [d6]using e⟩
 | .seq x y,hd,f,K,r,st,a,w,e,h=>by
  simp only[lT,a0e]at hd;simp only[d6]at e;refine wp_seq (wp_mono (dF j l d b x hd.1 e h) λA I J g=> ?_)
  cases A with
  |normal=>obtain⟨n,v,p⟩:=g;exact dF j l d b y hd.2 p v
  |exit i=>exact g
  |ret=>exact g
  |_=>exact g.elim
 | .cond o x y,hd,f,K,r,st,a,w,e,h=>by
  simp only[lT,a0e]at hd;simp only[d6]at e;obtain⟨G,M,O,H⟩:=h.ex;have z:=ep M o;split at e
  ·rename_i t B
   rw[B]at z;refine wp_cond z.lb_inv ?_
   cases t with
   |true=>exact dF j l d b x hd.1 e h
   |false=>exact dF j l d b y hd.2 e h
  ·rename_i t B
   rw[B]at z;refine wp_cond z.bool_inv ?_
   rw[ek]at e
   cases t with
   |true=>exact dF j l d b x hd.1 e h
   |false=>exact dF j l d b y hd.2 e h
  ·cases e
 | .block s x,hd,f,K,r,st,a,w,e,h=>by
  simp only[lT]at hd;simp only[d6]at e;refine wp_block (wp_mono (dF j l d b x hd e h) λA I J g=> ?_)
  cases A with
  |normal=>exact g
  |exit i=>
   obtain⟨n,v,p⟩:=g;by_cases D:i=s
   ·subst D
    simp only[a5w,a1z]at p;simp only[Exit.inBlock,a1z];exact⟨n,v,p⟩
   ·have N:(i==s)=false:=by simpa using D
    simp only[N,a0t,a1y]at p;simp only[Exit.inBlock,D,a1y];exact⟨n,v,p⟩
  |ret=>exact g
  |_=>exact g.elim
 | .loop x,hd,f,K,r,st,a,w,e,h=>by
  simp only[lT]at hd;simp only[d6]at e;split at e
  ·cases e
  ·rename_i s u _
   split at e
   ·rename_i m
    split at e
    ·rename_i y E
     exact wp_loop_rounds C.fuel (q6 d m (λk st a w e h=>dF j l d b x hd e h) C.fuel e (GI d m h E) (h.alR (a1g.2 λq g=>((a0e _ _).mp (a4v.1 g).2).1)))
    ·cases e
   ·cases e
 | .region s ops draw,hd,f,K,r,st,a,w,e,h=>by
  simp only[lT]at hd;simp only[d6]at e;split at e
  ·rename_i _ u _
   split at e
   ·rename_i m
    split at e
    ·rename_i y E
     rw[ni]at e;exact uk j l d b hd e (GI d m h E)
    ·cases e
   ·cases e
  ·exact uk j l d b hd e h
 | .label _,_,_,_,_,_,_,_,e,_=>by simp[d6]at e
 | .goto _,_,_,_,_,_,_,_,e,_=>by simp[d6]at e
 | .scope _,_,_,_,_,_,_,_,e,_=>by simp[d6]at e
 | .rangeFunc _ _ _ _,_,_,_,_,_,_,_,e,_=>by simp[d6]at e
def iZ {w:World} {G:Gh}:(s:Sh)-> {F:Nat->Prop}-> {ow ow1:OW}->(∀b,F b->b<w.heap.size)->bx F G ow w.heap-> {c:List SV}-> {d:List Value}->dq F G ow w.heap c d-> {x:s.Out}->gx s c ow=some (x,ow1)->∃f,du ow ow1/\jA G ow ow1 f/\f.Nodup/\gK w.heap (cU (FP F f) G ow1) s x d f
 | .row k,F,ow,ow1,hF,hh,c,d,hs,x,e=>cA (.row k) hF hh hs e
 | .nrw s,F,ow,ow1,hF,hh,c,d,hs,x,e=>cA (.nrw s) hF hh hs e
 | .box l,F,ow,ow1,hF,hh,c,d,hs,x,e=>cA (.box l) hF hh hs e
 | .pur _,F,ow,ow1,hF,hh,c,d,hs,x,e=>by
  match c,hs,e with
  |[],_,e=>simp[gx]at e
  |[s],hs,e=>
   simp only[gx,a0l,a0z]at e;obtain⟨v,rfl,h⟩:=hs.single';rw[<-e.2];exact⟨[],.refl _,.refl _ _,a2i,⟨v,rfl⟩,rfl⟩
  |_::_::_,_,e=>simp[gx]at e
 | .own _,F,ow,ow1,hF,hh,c,d,hs,x,e=>by
  match c,hs,e with
  |[],_,e=>simp[gx]at e
  |[s],hs,e=>
   simp only[gx,a0l,a0z]at e;obtain⟨v,rfl,h⟩:=hs.single';rw[<-e.2];exact⟨[],.refl _,.refl _ _,a2i,⟨v,rfl⟩,rfl⟩
  |_::_::_,_,e=>simp[gx]at e
 | .rows _,F,ow,ow1,hF,hh,c,d,hs,x,e=>by
  match c,hs,e with
  |[],_,e=>simp[gx]at e
  |[s],hs,e=>
   simp only[gx,a0l,a0z]at e;obtain⟨v,rfl,h⟩:=hs.single';rw[<-e.2];exact⟨[],.refl _,.refl _ _,a2i,⟨v,rfl⟩,rfl⟩
  |_::_::_,_,e=>simp[gx]at e
 | .ign,F,ow,ow1,hF,hh,c,d,hs,x,e=>by
  match c,hs,e with
  |[],_,e=>simp[gx]at e
  |[s],hs,e=>
   simp only[gx,a0l,a0z]at e;obtain⟨v,rfl,h⟩:=hs.single';rw[<-e.2];exact⟨[],.refl _,.refl _ _,a2i,⟨v,rfl⟩,rfl⟩
  |_::_::_,_,e=>simp[gx]at e
 | .nl,F,ow,ow1,hF,hh,c,d,hs,x,e=>by
  match c,hs,e with
  |[],_,e=>simp[gx]at e
  |[s],hs,e=>
   simp only[gx,a0l,a0z]at e;obtain⟨v,rfl,h⟩:=hs.single';rw[<-e.2];exact⟨[],.refl _,.refl _ _,a2i,⟨v,rfl⟩,rfl⟩
  |_::_::_,_,e=>simp[gx]at e
 | .nil,F,ow,ow1,hF,hh,c,d,hs,x,e=>by
  match c,hs,e with
  |[],hs,e=>
   simp only[gx,a0l,a0z]at e;have:d=[]:=a0s hs.1.symm;subst this;rw[<-e.2];exact⟨[],.refl _,.refl _ _,a2i,rfl,rfl⟩
  |_::_,_,e=>simp[gx]at e
 | .agg l,F,ow,ow1,hF,hh,c,d,hs,x,e=>by
  match c,hs,e with
  |[],_,e=>simp[gx]at e
  |[s],hs,e=>
   obtain⟨v,rfl,h⟩:=hs.single'
   cases s with
   |agg cs=>
    simp only[gx]at e;obtain⟨S,rfl,I⟩:=h.agg_inv;obtain⟨f,t,u,J,K⟩:=iZ l hF hh I e;exact⟨f,t,u,J,S,rfl,K⟩
   |_=>simp[gx]at e
  |_::_::_,_,e=>simp[gx]at e
 | .fn f n l,F,ow,ow1,hF,hh,c,d,hs,x,e=>by
  match c,hs,e with
  |[],_,e=>simp[gx]at e
  |[s],hs,e=>
   obtain⟨v,rfl,h⟩:=hs.single'
   cases s with
   |fn g a b=>
    simp only[gx]at e;split at e
    ·rename_i T
     obtain⟨rfl,U⟩:=T;obtain⟨xs,ys,rfl,m,A⟩:=h.fn_inv;obtain⟨V,t,u,J,K⟩:=iZ l hF hh (m.append A) e;exact⟨V,t,u,J,xs,ys,rfl,by rw[<-m.1,U],K⟩
    ·cases e
   |_=>simp[gx]at e
  |_::_::_,_,e=>simp[gx]at e
 | .cons a b,F,ow,ow1,hF,hh,c,d,hs,x,e=>by
  match c,hs,e with
  |[],_,e=>simp[gx]at e
  |s::r,hs,e=>
   simp only[gx]at e;split at e
   ·rename_i L
    split at e
    ·rename_i z M
     cases e
     obtain⟨v,o,rfl,h,j⟩:=hs.uncons;obtain⟨f2,B,C,n2,N⟩:=iZ b (x:=z.1) (ow1:=z.2) hF hh j M;exact⟨f2,B,C,n2,v,o,[],f2,rfl,rfl,.inl ⟨L,rfl⟩,N⟩
    ·cases e
   rename_i L;split at e
   ·rename_i y A
    split at e
    ·rename_i z M
     cases e
     obtain⟨v,o,rfl,h,j⟩:=hs.uncons;obtain⟨f1,E,H,W,X⟩:=iZ a (x:=y.1) (ow1:=y.2) hF hh (.cons h .nil) A;obtain⟨O,D⟩:=cM hh E H;have P:∀q,FP F f1 q->q<w.heap.size:=by
      intro q hb';rcases hb' with hb'|hb'
      ·exact hF q hb'
      ·exact ci.lt hh (H.own hb')
     obtain⟨f2,B,C,n2,N⟩:=iZ b (x:=z.1) (ow1:=z.2) P O ⟨j.1,λi t u=>D _ _ (j.2 i t u)⟩ M;refine⟨f1++f2,E.trans B,λx=> ?_,a2d.2 ⟨W,n2,λx m y A Q=> ?_⟩,v,o,f1,f2,rfl,rfl,?_,?_⟩
     ·rw[Gw.trans E B,<-H x,<-C x,a0k]
     ·subst Q
      exact H.notOwn hh E m (C.own A)
     ·exact .inr ⟨by simpa using L,gK.mono (λq Y hb' p=>⟨fS (λR m=>mB.2 m) (en B C hb'),p⟩) a (λ_ _=>rfl) X⟩
     ·exact gK.mono (λq Y hb' p=>⟨fS (λR m=>mB.2 m) hb',p⟩) b (λ_ _=>rfl) N
    ·cases e
   ·cases e
def lk {P:Program} {G:Gh} {st:St} {a:Act} {w:World} (k:bx F G st.ow w.heap) (j:dq F G st.ow w.heap st.sl a.tmps.toList):(l:List ResultVar)-> {Q:List SV->Prop}->(AF P st l).can Q->∃e f,Q e/\(l.mapM λ| .tmp t=>pure (a.tmps.getD t undef)| .cell b t=>do loadVar t (<-asAddr (a.tmps.getD b undef)):Sem (List Value)).run P w= .ok f w/\dq F G st.ow w.heap e f
 |[],Q,h=>⟨[],[],h,rfl,.nil⟩
 | .tmp t::r,Q,h=>by
  have h:=ba.can_bind _ h;obtain⟨e,f,g,c,d⟩:=lk k j r h;have p:=ep j (.tmp t);refine⟨iU st.sl (.tmp t)::e,a.tmps.getD t undef::f,g,?_,.cons p d⟩;simp only[a7g,Sem.run_bind,Sem.run_pure,Result.andThen_ok,c]
 | .cell b t::r,Q,h=>by
  have h:=ba.can_bind _ h;obtain⟨s,v,g,c,d⟩:=mu k (ep j (.tmp b)) h;have h:=ba.can_bind _ g;obtain⟨e,f,g,m,i⟩:=lk k j r h;refine⟨s::e,v::f,g,?_,.cons d i⟩;have n:(do loadVar t (<-asAddr (a.tmps.getD b undef)):Sem Value).run P w= .ok v w:=by
   have c:(Instr.loadAt t (a.tmps.getD b undef)).run P w= .ok v w:=c
   generalize a.tmps.getD b undef=z at c
   cases z with
   |pointer o=>
    cases o with
    |none=>simp[Instr.loadAt,Instr.sureAddr,stuck]at c
    |some ad=>simpa [Instr.loadAt,Instr.sureAddr,asAddr]using c
   |_=>simp[Instr.loadAt,Instr.sureAddr,stuck]at c
  simp only[a7g,Sem.run_bind,Result.andThen_ok,Sem.run_pure]at n⊢;rw[n];simp only[Result.andThen_ok,m]
def ul {P:Program} {c:List Value} (d:(fn.results.toList.mapM λ| .tmp t=>pure (a.tmps.getD t undef)| .cell b t=>do loadVar t (<-asAddr (a.tmps.getD b undef)):Sem (List Value)).run P w= .ok c w):(results fn a.tmps).run P w= .ok (GD c) w:=by
 unfold results;have e:(fn.results.mapM λ| .tmp t=>pure (a.tmps.getD t undef)| .cell b t=>do loadVar t (<-asAddr (a.tmps.getD b undef)):Sem (Array Value)).run P w= .ok c.toArray w:=by
  rw[a7h,Sem.run_map,d];rfl
 rw[Sem.run_bind];refine(a1v (λq=>Result.andThen q _) (show _=Result.ok c.toArray w from e)).trans ?_
 simp only[Result.andThen_ok,Sem.run_pure]
 congr 1
 match c with
 |[]=>rfl
 |[u]=>rfl
 |u::u'::us'=>simp[GD]
def ID {h:Array Obj} {ok:Nat->Prop}:(s:Sh)->s.chain=true-> {x:s.T}-> {a:List Value}-> {f:List Nat}->ck h ok s x a f->a.length=s.len
 | .nil,_,_,_,_,e=>by obtain⟨rfl,_⟩:=e;rfl
 | .cons _ b,hc,_,_,_,e=>by
  obtain⟨v,r,f1,f2,rfl,_,_,c⟩:=e;simp[Sh.len,ID b (by simpa [Sh.chain]using hc) c]
 | .pur _,hc,_,_,_,_=>by simp[Sh.chain]at hc
 | .own _,hc,_,_,_,_=>by simp[Sh.chain]at hc
 | .rows _,hc,_,_,_,_=>by simp[Sh.chain]at hc
 | .row _,hc,_,_,_,_=>by simp[Sh.chain]at hc
 | .nrw _,hc,_,_,_,_=>by simp[Sh.chain]at hc
 | .box _,hc,_,_,_,_=>by simp[Sh.chain]at hc
 | .agg _,hc,_,_,_,_=>by simp[Sh.chain]at hc
 | .fn _ _ _,hc,_,_,_,_=>by simp[Sh.chain]at hc
 | .ign,hc,_,_,_,_=>by simp[Sh.chain]at hc
 | .nl,hc,_,_,_,_=>by simp[Sh.chain]at hc
def AN {h:Array Obj} {ok:Nat->Prop}:(s:Sh)->s.chain=true-> {y:s.Out}-> {c vs:List Value}-> {f:List Nat}->c.length=vs.length->(∀i,i<vs.length->lc s i=false->c[i]?=vs[i]?)->gK h ok s y c f->gK h ok s y vs f
 | .nil,_,_,c,vs,f,hl,_,e=>by
  obtain⟨rfl,rfl⟩:=e;exact⟨a0s hl.symm,rfl⟩
 | .cons a b,hc,y,c,vs,f,hl,hag,e=>by
  obtain⟨v,r,f1,f2,rfl,rfl,d,g⟩:=e
  cases vs with
  |nil=>simp at hl
  |cons v' r'=>
   refine⟨v',r',f1,f2,rfl,rfl,?_,AN b (by simpa [Sh.chain]using hc) (by simpa using hl) (λi j k=> ?_) g⟩
   ·rcases d with d|⟨h0,d⟩
    ·exact .inl d
    ·have:=hag 0 (by simp) (by simpa [lc]using h0)
     simp only[a1r,a0l]at this;rw[<-this];exact .inr ⟨h0,d⟩
   ·have:=hag (i+1) (by simpa using j) (by simpa [lc]using k)
    simpa using this
 | .pur _,hc,_,_,_,_,_,_,_=>by simp[Sh.chain]at hc
 | .own _,hc,_,_,_,_,_,_,_=>by simp[Sh.chain]at hc
 | .rows _,hc,_,_,_,_,_,_,_=>by simp[Sh.chain]at hc
 | .row _,hc,_,_,_,_,_,_,_=>by simp[Sh.chain]at hc
 | .nrw _,hc,_,_,_,_,_,_,_=>by simp[Sh.chain]at hc
 | .box _,hc,_,_,_,_,_,_,_=>by simp[Sh.chain]at hc
 | .agg _,hc,_,_,_,_,_,_,_=>by simp[Sh.chain]at hc
 | .fn _ _ _,hc,_,_,_,_,_,_,_=>by simp[Sh.chain]at hc
 | .ign,hc,_,_,_,_,_,_,_=>by simp[Sh.chain]at hc
 | .nl,hc,_,_,_,_,_,_,_=>by simp[Sh.chain]at hc
def um (Y:GH F fp L w0) {args d:Sh} (N:args.chain=true) (O:fr=lc args) (p:vs.length=args.len) (Q:args.len<=nt) (h:nG nt fr F fp w0 vs st a w) {y:d.T×args.Out} (e:Mm C fn args d st=some y):a.defers=[]/\∃v,(results fn a.tmps).run C.P w= .ok v w/\∃Z fp1 c,v=GD Z/\ck w.heap (λb=>¬FP F (fp1++c) b) d y.1 Z fp1/\gK w.heap (λb=>¬FP F (fp1++c) b) args y.2 vs c/\(fp1++c).Nodup/\(∀b∈fp1++c,b∈fp\/w0.heap.size<=b)/\fh (·∈fp) w0 w:=by
 refine⟨h.defers,?_⟩;obtain⟨G0,j,s,k⟩:=h.ex;obtain⟨E,us,l,t,f⟩:=lk s j _ (ba.can_of_run _ e);obtain⟨G,m,u⟩:=ub (Y.wideAt h.kept) s E;have H:=m.hrep;have I:dq F G (kn E st.ow) w.heap st.sl a.tmps.toList:=⟨j.1,λi A J=>m.sv _ _ (j.2 i A J)⟩;have R:dq F G (kn E st.ow) w.heap E us:=⟨f.1,λi A J=>m.sv _ _ (f.2 i A J)⟩;have g:=λb hb=>k b (u b hb)
 split at l
 ·rename_i x hx
  split at l
  ·rename_i z hz
   cases l
   have hF:=Y.wideAt h.kept;obtain⟨f1,S,K,n1,r1⟩:=cA d (x:=x.1) (ow1:=x.2) hF H R hx;obtain⟨U,B⟩:=cM H S K;have V:∀M,FP F f1 M->M<w.heap.size:=by
    intro M hb';rcases hb' with hb'|hb'
    ·exact hF M hb'
    ·exact ci.lt H (K.own hb')
   have hn:st.sl.length=nt:=h.len;have n:dq (FP F f1) G x.2 w.heap (st.sl.take args.len) (a.tmps.toList.take args.len):=by
    refine⟨by simp[I.1],λi A J=> ?_⟩;simp only[a5c];have h3:i<st.sl.length:=by simp at A;omega
    have h4:i<a.tmps.toList.length:=by rw[<-I.1];exact h3
    exact B _ _ (I.2 i h3 h4)
   have o:∀i,i<vs.length->lc args i=false->(a.tmps.toList.take args.len)[i]?=vs[i]?:=λi hi hf=>by
    rw[<-h.args i hi (by rw[O];exact hf),a4h,ifPosQ,a5n]
   obtain⟨f2,t2,W,n2,r2⟩:=iZ args (x:=z.1) (ow1:=z.2) V U n hz;have D:=ul (fn:=fn) t;refine⟨_,D,us,f1,f2,rfl,?_,?_,?_,?_,h.kept⟩
   ·refine ck.mono (λb r hb t=>⟨λhx=> ?_,t⟩) _ (λ_ _=>rfl) r1
    rcases hx with hx|hx
    ·exact hb.1 (.inl hx)
    ·rcases a0k.1 hx with hx|hx
     ·exact hb.1 (.inr hx)
     ·exact hb.2 (W.own hx)
   ·refine gK.mono (λb r hb t=>⟨λhx=>hb.1 (mB.2 hx),t⟩) _ (λ_ _=>rfl) (AN args N (by simp[p,<-I.1,hn,Q]) o r2)
   ·exact a2d.2 ⟨n1,n2,λq l q' X he=>by subst he;exact K.notOwn H S l (W.own X)⟩
   ·intro b hb
    rcases a0k.1 hb with hb|hb
    ·exact g b (K.own hb)
    ·exact g b (S.own (W.own hb))
  ·cases l
 ·cases l
def Cr (Z:C.Holds L) (hD:o7 C L) {f:FuncId} (U:C.P.funcs[f]?=some fn) (l:(fn.name== "runtime.NumGoroutine")=false) (e:F6) (args m:Sh) {den:args.T->Option (m.T×args.Out)} (A:∀x y,den x=some y->jM C e fn args m x=some y) (n:fn.body.isNone=false):aw C.P L f ⟨args,m,den,e.al⟩:=by
 refine⟨⟨fn,U,l,n⟩,λw F x vs V y hF hL I B D h J=> ?_⟩;have h:=A x y h;unfold jM at h;split at h
 ·cases h
 rename_i c r;split at h
 ·rename_i W
  simp only[a0e,a0v]at W;obtain⟨⟨g,E⟩,hd⟩:=W;have k:vs.length=args.len:=ID args g D;have K:GH F V L w:=⟨hF,hL,B⟩;refine calls_of_wp U r ?_
  have d:(vs.toArray++Array.replicate (fn.ntmps-vs.toArray.size) undef).size=fn.ntmps:=by simp;omega
  have a:∀i,i<vs.length->(vs.toArray++Array.replicate (fn.ntmps-vs.toArray.size) undef)[i]?=vs[i]?:=by
   intro i H;rw[a4y (by simpa using H)];simp
  obtain⟨G,g1,g2,g3,_⟩:=uj (nt:=fn.ntmps) (tmps:=(vs.toArray++Array.replicate (fn.ntmps-vs.toArray.size) undef).toList) (by rw[a6a,d]) args g 0 (by omega) (F:=F) D (λj hj=>by rw[a1p,a5n];exact a j hj) I B (λb r=>⟨λM=>r (.inl M),λM=>r (.inr M)⟩)
  have hI:nG fn.ntmps (lc args) F V w vs (nk fn.ntmps args x 0) {tmps:=vs.toArray++Array.replicate (fn.ntmps-vs.toArray.size) undef,defers:=[]} w:=⟨⟨G,g2,g1,λb r=> .inl ((g3 b).1 r)⟩,.refl _ _,rfl,λi H _=>a i H,d⟩
  have N:LZ w.heap e.al (vs.toArray++Array.replicate (fn.ntmps-vs.toArray.size) undef).toList:=λq s=>by
   obtain⟨v,t,z,o,h3⟩:=J q s;have X:∀(i:Nat) (u:Value),vs[i]?=some u->(vs.toArray++Array.replicate (fn.ntmps-vs.toArray.size) undef).toList[i]?=some u:=λi u Y=>by
    have H:=(a0r.1 Y).1;rw[a5n,a i H,Y]
   exact⟨v,t,X _ _ z,X _ _ o,h3⟩
  refine wp_mono (dF Z hD K e c hd h (hI.fix N)) λex a' w' s=> ?_
  cases ex with
  |normal=>
   obtain⟨st,z,o⟩:=s;obtain⟨O,v,Q,R,fp1,p,rfl,S⟩:=um K g rfl k E z o;exact⟨O,_,Q,R,fp1,p,rfl,S⟩
  |ret=>
   obtain⟨st,z,o⟩:=s;obtain⟨O,v,Q,R,fp1,p,rfl,S⟩:=um K g rfl k E z o;exact⟨O,_,Q,R,fp1,p,rfl,S⟩
  |exit i=>obtain⟨st,z,o⟩:=s;cases o
  |_=>exact s.elim
 ·cases h
end
end Go.Pev
namespace Go.Pev
def kW {S:Type} (step:Nat->S->Option S):List Nat->S->Option S
 |[],s=>some s
 |i::r,s=>(match step i s with|some s'=>kW step r s'|none=>none)
def qj {S:Type} {step:Nat->S->Option S} {a:Nat->Nat->Bool} (g:∀i j s b d,a i j=true->step i s=some b->step j b=some d->∃c,step j s=some c/\step i c=some d) {x:Nat} {q:List Nat}:(p:List Nat)->(∀i∈p,a i x=true)-> {s r:S}->kW step (p++x::q) s=some r->∃b,step x s=some b/\kW step (p++q) b=some r
 |[],_,s,r,h=>by
  simp only[a1s,kW]at h⊢;split at h
  ·rename_i e f;exact⟨e,f,h⟩
  ·cases h
 |i::p,hp,s,r,h=>by
  simp only[a5i,kW]at h;split at h
  ·rename_i e f
   obtain⟨b,k,l⟩:=qj g p (λj m=>hp j (by simp[m])) h;obtain⟨d,n,o⟩:=g i x s e b (hp i (by simp)) f k;refine⟨d,n,?_⟩;simp only[a5i,kW,o];exact l
  ·cases h
def wR {S:Type} {step a:Nat->S->Option S}: {l:List Nat}->(∀j∈l,∀t,step j t=a j t)-> {s:S}->kW step l s=kW a l s
 |[],_,_=>rfl
 |i::r,h,s=>by
  simp only[kW];rw[h i (by simp)]
  cases a i s with
  |none=>rfl
  |some s'=>exact wR λj b=>h j (by simp[b])
def wS (a:List Nat) (o:Oper) (i:Nat) (h:(nU a o).testBit i=true):∃e∈o.after,Region.binds .any e=true/\(i=e.on\/(a.getD e.on 0).testBit i=true):=by
 have b:∀(l:List Edge) (m:Nat),(l.foldl (λm e=>if Region.binds .any e then m|||(1<<<e.on)|||a.getD e.on 0 else m) m).testBit i=true->m.testBit i=true\/∃e∈l,Region.binds .any e=true/\(i=e.on\/(a.getD e.on 0).testBit i=true):=by
  intro l
  induction l with
  |nil=>intro m h;exact .inl h
  |cons e l ih=>
   intro m h;simp only[a1t]at h;rcases ih _ h with h1|⟨e',he',h2⟩
   ·split at h1
    ·rename_i c
     simp only[Nat.testBit_or,a4d]at h1;rcases h1 with(h1|h1)|h1
     ·exact .inl h1
     ·right
      refine⟨e,by simp,c,.inl ?_⟩;rw[Nat.shiftLeft_eq,a2w,Nat.testBit_two_pow]at h1;exact(a0w h1).symm
     ·exact .inr ⟨e,by simp,c,.inr h1⟩
    ·exact .inl h1
   ·exact .inr ⟨e',by simp[he'],h2⟩
 rcases b o.after.toList 0 h with h1|⟨e,he,h2⟩
 ·simp at h1
 ·exact⟨e,by simpa using he,h2⟩
def ot:(l:List Oper)->(a:List Nat)->(j:Nat)->(j<a.length->(gy l a)[j]?=a[j]?)/\(∀o,l[j]?=some o->∃p,(gy l a)[a.length+j]?=some (nU p o)/\∀i,i<a.length+j->p.getD i 0=(gy l a).getD i 0)
 |[],a,j=>⟨λ_=>rfl,λo h=>by simp at h⟩
 |o::r,a,j=>by
  have ih:=ot r (a++[nU a o]);have f:gy (o::r) a=gy r (a++[nU a o]):=rfl;rw[f];refine⟨λg=> ?_,λk b=> ?_⟩
  ·rw[(ih j).1 (by simp;omega),a1l g]
  ·cases j with
   |zero=>
    simp only[a1r,a0l]at b;subst b;refine⟨a,?_,λi m=> ?_⟩
    ·rw[(ih _).1 (by simp),a0y (by omega)];simp
    ·have:=(ih i).1 (by simp;omega)
     simp only[List.getD,this];rw[a1l (by omega)]
   |succ j=>
    obtain⟨p,c,d⟩:=(ih j).2 k (by simpa using b);have e:(a++[nU a o]).length+j=a.length+(j+1):=by simp;omega
    rw[e]at c d;exact⟨p,c,d⟩
def ou:(l:List Oper)->(k:Nat)->Oj k l=true->∀j o,l[j]?=some o->∀e∈o.after,Region.binds .any e=true->e.on<k+j
 |[],_,_,_,_,h,_,_,_=>by simp at h
 |o::r,k,hu,j,o',h,e,he,hb=>by
  simp only[Oj,a0e]at hu
  cases j with
  |zero=>
   simp only[a1r,a0l]at h;subst h;have:=a1g.1 hu.1 e (by simpa using he);simpa [hb]using this
  |succ j=>
   have:=ou r (k+1) hu.2 j o' (by simpa using h) e he hb;omega
section
variable {P:Program} {ops:Array Oper} {Q:Exit->Act->World->Prop}
def qk {S:Type} {step:Nat->S->Option S} {R:S->Act->World->Prop} {g:Nat->Nat->Bool} (hc:∀i j s H s2,g i j=true->step i s=some H->step j H=some s2->∃I,step j s=some I/\step i I=some s2)
 (R0:∀i s s' a w,i<ops.size->step i s=some s'->R s a w->∀K:Act->World->Prop,(∀X Y,R s' X Y->K X Y)->wpOp P ops Q i K a w) (J:lS ops g=true) {sF:S} (u:∀a w,R sF a w->Q .normal a w):
 ∀(d:Nat) (b:Array Bool) (s:S) (a:Act) (w:World),b.size=ops.size->((List.range ops.size).filter λi=> !b.getD i true).length<=d->
  (∀j,b.getD j false=true->∀i,((gy ops.toList []).getD j 0).testBit i=true->b.getD i false=true)->
  kW step ((List.range ops.size).filter λi=> !b.getD i true) s=some sF->R s a w->wpAny P .any ops Q d b a w:=by
 simp only[lS,a0e]at J;obtain⟨L,R1⟩:=J;have A:∀b:Array Bool,b.size=ops.size->Region.ready .any ops b=[]->((List.range ops.size).filter λi=> !b.getD i true)=[]:=by
  intro b q M
  cases hx:((List.range ops.size).filter λi=> !b.getD i true)with
  |nil=>rfl
  |cons i0 rest=>
   exfalso;have v:∀i,i∈((List.range ops.size).filter λi=> !b.getD i true)↔i<ops.size/\b.getD i true=false:=by intro i;simp
   have B:=(v i0).1 (by rw[hx];simp);have N:∀i,i<i0->b.getD i true=true:=by
    intro i Z
    cases hl:b.getD i true with
    |true=>rfl
    |false=>
     exfalso;have R2:i∈i0::rest:=by rw[<-hx];exact(v i).2 ⟨by omega,hl⟩
     have l:(i0::rest).Pairwise (·<·):=by rw[<-hx];exact List.Pairwise.filter _ a7y
     rcases a1j.1 R2 with h|h
     ·omega
     ·have:=a7j l h;omega
   have O:i0∈Region.ready .any ops b:=by
    rw[mem_ready];refine⟨B.2,ops[i0],by simp[B.1],λe he hb=> ?_⟩;have:=ou ops.toList 0 L i0 ops[i0] (by simp[B.1]) e he hb;have C:=N e.on (by omega);have t:e.on<b.size:=by omega
    simpa [Array.getD,t]using C
   rw[M]at O
   cases O
 intro d
 induction d with
 |zero=>
  intro b s a w q m D c hR;have x:((List.range ops.size).filter λi=> !b.getD i true)=[]:=a0s (by omega);rw[x]at c
  cases c
  refine⟨?_,u a w hR⟩
  cases M:Region.ready .any ops b with
  |nil=>rfl
  |cons i r=>
   have Z:i∈Region.ready .any ops b:=by rw[M];simp
   obtain⟨h1,o,C,_⟩:=mem_ready.1 Z;have:i∈((List.range ops.size).filter λi=> !b.getD i true):=a4v.2 ⟨a2f.2 (a1b.1 C).1,by rw[h1];rfl⟩;rw[x]at this
   cases this
 |succ d ih=>
  intro b s a w q m D c hR;refine⟨λM=> ?_,λi Z=> ?_⟩
  ·rw[A b q M]at c
   cases c
   exact u a w hR
  ·obtain⟨h1,o,C,h3⟩:=mem_ready.1 Z
   have t:=(a1b.1 C).1;have n:∀j,((gy ops.toList []).getD i 0).testBit j=true->b.getD j false=true:=by
    intro j f;obtain⟨p,y,G⟩:=(ot ops.toList [] i).2 o (by simpa using C);simp only[a0g,a1p]at y G;have e3:(gy ops.toList []).getD i 0=nU p o:=by simp[List.getD,y]
    rw[e3]at f;obtain⟨e,he,hb,h4⟩:=wS p o j f;have h5:=h3 e he hb;rcases h4 with rfl|h4
    ·exact h5
    ·have:=ou ops.toList 0 L i o (by simpa using C) e he hb
     rw[G e.on (by omega)]at h4;exact D e.on h5 j h4
   have T:∀j,b.getD j true=false->b.getD j false=true->False:=by
    intro j y G;by_cases f:j<b.size
    ·simp[Array.getD,f]at y G;rw[y]at G;cases G
    ·simp[Array.getD,f]at y
   have k:List.range ops.size=List.range i++i::List.range' (i+1) (ops.size-i-1):=by
    have y:ops.size=i+(ops.size-i):=by omega
    rw[a3x,a3x]
    conv=>lhs;rw[y]
    rw[<-List.range'_append_1]
    congr 1
    rw[show ops.size-i=(ops.size-i-1)+1 by omega,a7s];simp
   have z:∀j,j≠i->(b.setIfInBounds i true).getD j true=b.getD j true:=λj f=>getD_set_ne true (Ne.symm f)
   have E:(b.setIfInBounds i true).getD i true=true:=by
    have:i<b.size:=by omega
    simp[Array.getD,this]
   have hp:∀j∈(List.range i).filter (λj=> !b.getD j true),g j i=true:=by
    intro j f;obtain⟨F,R3⟩:=a4v.1 f;have F:=a2f.1 F;have:=a1g.1 (a1g.1 R1 i (a2f.2 t)) j (a2f.2 F);rcases a4d _ _▸this with h4|h4
    ·exact(T j (by simpa using R3) (n j h4)).elim
    ·exact h4
   have R4:((List.range ops.size).filter λi=> !b.getD i true)=(List.range i).filter (λj=> !b.getD j true)++i::(List.range' (i+1) (ops.size-i-1)).filter (λj=> !b.getD j true):=by
    rw[k,a6g,a5x,h1];rfl
   have U:((List.range ops.size).filter λj=> !(b.setIfInBounds i true).getD j true)=(List.range i).filter (λj=> !b.getD j true)++(List.range' (i+1) (ops.size-i-1)).filter (λj=> !b.getD j true):=by
    rw[k,a6g,a5x,E]
    congr 1
    ·refine a6p λj f=> ?_
     rw[z j (by have:=a2f.1 f;omega)]
    ·refine a6p λj f=> ?_
     rw[z j (by have:=a7o.1 f;omega)]
   rw[R4]at c m;obtain⟨H,q1,q2⟩:=qj hc _ hp c;refine R0 i s H a w t q1 hR _ λX Y R5=>ih _ H X Y (by simpa using q) (by rw[U];simp at m⊢;omega) (λj f i' V=> ?_) (by rw[U];exact q2) R5
   by_cases W:j=i
   ·subst W
    exact getD_set_true (n i' V)
   ·rw[getD_set_ne false (Ne.symm W)]at f
    exact getD_set_true (D j f i' V)
def D5 {S O:Type} {step:O->Nat->S->Option S} {R:S->Act->World->Prop} {g:Nat->Nat->Bool} (hc:∀(B:Nat->O) i j s l s2,g i j=true->step (B i) i s=some l->step (B j) j l=some s2->∃u,step (B j) j s=some u/\step (B i) i u=some s2)
 (R6:∀i s a w,i<ops.size->(∀o,∃s',step o i s=some s')->R s a w->∀K:Act->World->Prop,(∀o s' a' w',step o i s=some s'->R s' a' w'->K a' w')->wpOp P ops Q i K a w) (U:lS ops g=true) {Fin:S->Prop} (y:∀sF a w,Fin sF->R sF a w->Q .normal a w) (o0:O):
 ∀(f:Nat) (b:Array Bool) (s:S) (a:Act) (w:World),b.size=ops.size->((List.range ops.size).filter λi=> !b.getD i true).length<=f->
  (∀j,b.getD j false=true->∀i,((gy ops.toList []).getD j 0).testBit i=true->b.getD i false=true)->
  (∀B:Nat->O,∃sF,kW (λi=>step (B i) i) ((List.range ops.size).filter λi=> !b.getD i true) s=some sF/\Fin sF)->R s a w->wpAny P .any ops Q f b a w:=by
 simp only[lS,a0e]at U;obtain⟨V,R7⟩:=U;have G:∀b:Array Bool,b.size=ops.size->Region.ready .any ops b=[]->((List.range ops.size).filter λi=> !b.getD i true)=[]:=by
  intro b v W
  cases hx:((List.range ops.size).filter λi=> !b.getD i true)with
  |nil=>rfl
  |cons i0 rest=>
   exfalso;have z:∀i,i∈((List.range ops.size).filter λi=> !b.getD i true)↔i<ops.size/\b.getD i true=false:=by intro i;simp
   have H:=(z i0).1 (by rw[hx];simp);have X:∀i,i<i0->b.getD i true=true:=by
    intro i hi
    cases hl:b.getD i true with
    |true=>rfl
    |false=>
     exfalso;have R8:i∈i0::rest:=by rw[<-hx];exact(z i).2 ⟨by omega,hl⟩
     have m:(i0::rest).Pairwise (·<·):=by rw[<-hx];exact List.Pairwise.filter _ a7y
     rcases a1j.1 R8 with h|h
     ·omega
     ·have:=a7j m h;omega
   have Y:i0∈Region.ready .any ops b:=by
    rw[mem_ready];refine⟨H.2,ops[i0],by simp[H.1],λe he hb=> ?_⟩;have:=ou ops.toList 0 V i0 ops[i0] (by simp[H.1]) e he hb;have I:=X e.on (by omega);have x:e.on<b.size:=by omega
    simpa [Array.getD,x]using I
   rw[W]at Y
   cases Y
 intro f
 induction f with
 |zero=>
  intro b s a w v n J c hR;have A:((List.range ops.size).filter λi=> !b.getD i true)=[]:=a0s (by omega);obtain⟨sF,c,Z⟩:=c λ_=>o0
  rw[A]at c
  cases c
  refine⟨?_,y _ a w Z hR⟩
  cases W:Region.ready .any ops b with
  |nil=>rfl
  |cons i r=>
   have hi:i∈Region.ready .any ops b:=by rw[W];simp
   obtain⟨h1,o,I,_⟩:=mem_ready.1 hi;have:i∈((List.range ops.size).filter λi=> !b.getD i true):=a4v.2 ⟨a2f.2 (a1b.1 I).1,by rw[h1];rfl⟩;rw[A]at this
   cases this
 |succ f ih=>
  intro b s a w v n J c hR;refine⟨λW=> ?_,λi hi=> ?_⟩
  ·obtain⟨sF,c,Z⟩:=c λ_=>o0
   rw[G b v W]at c
   cases c
   exact y _ a w Z hR
  ·obtain⟨h1,o,I,h3⟩:=mem_ready.1 hi
   have x:=(a1b.1 I).1;have q:∀j,((gy ops.toList []).getD i 0).testBit j=true->b.getD j false=true:=by
    intro j d;obtain⟨p,C,N⟩:=(ot ops.toList [] i).2 o (by simpa using I);simp only[a0g,a1p]at C N;have e3:(gy ops.toList []).getD i 0=nU p o:=by simp[List.getD,C]
    rw[e3]at d;obtain⟨e,he,hb,h4⟩:=wS p o j d;have h5:=h3 e he hb;rcases h4 with rfl|h4
    ·exact h5
    ·have:=ou ops.toList 0 V i o (by simpa using I) e he hb
     rw[N e.on (by omega)]at h4;exact J e.on h5 j h4
   have R0:∀j,b.getD j true=false->b.getD j false=true->False:=by
    intro j C N;by_cases d:j<b.size
    ·simp[Array.getD,d]at C N;rw[C]at N;cases N
    ·simp[Array.getD,d]at C
   have k:List.range ops.size=List.range i++i::List.range' (i+1) (ops.size-i-1):=by
    have C:ops.size=i+(ops.size-i):=by omega
    rw[a3x,a3x]
    conv=>lhs;rw[C]
    rw[<-List.range'_append_1]
    congr 1
    rw[show ops.size-i=(ops.size-i-1)+1 by omega,a7s];simp
   have D:∀j,j≠i->(b.setIfInBounds i true).getD j true=b.getD j true:=λj d=>getD_set_ne true (Ne.symm d)
   have L:(b.setIfInBounds i true).getD i true=true:=by
    have:i<b.size:=by omega
    simp[Array.getD,this]
   have hp:∀j∈(List.range i).filter (λj=> !b.getD j true),g j i=true:=by
    intro j d;obtain⟨M,R9⟩:=a4v.1 d;have M:=a2f.1 M;have:=a1g.1 (a1g.1 R7 i (a2f.2 x)) j (a2f.2 M);rcases a4d _ _▸this with h4|h4
    ·exact(R0 j (by simpa using R9) (q j h4)).elim
    ·exact h4
   have Sa:((List.range ops.size).filter λi=> !b.getD i true)=(List.range i).filter (λj=> !b.getD j true)++i::(List.range' (i+1) (ops.size-i-1)).filter (λj=> !b.getD j true):=by
    rw[k,a6g,a5x,h1];rfl
   have R1:((List.range ops.size).filter λj=> !(b.setIfInBounds i true).getD j true)=(List.range i).filter (λj=> !b.getD j true)++(List.range' (i+1) (ops.size-i-1)).filter (λj=> !b.getD j true):=by
    rw[k,a6g,a5x,L]
    congr 1
    ·refine a6p λj d=> ?_
     rw[D j (by have:=a2f.1 d;omega)]
    ·refine a6p λj d=> ?_
     rw[D j (by have:=a7o.1 d;omega)]
   rw[Sa]at c n;have Sb:i∉(List.range i).filter (λj=> !b.getD j true)++(List.range' (i+1) (ops.size-i-1)).filter (λj=> !b.getD j true):=by
    intro hm;rcases a0k.1 hm with hm|hm
    ·have:=a2f.1 (a4v.1 hm).1;omega
    ·have:=a7o.1 (a4v.1 hm).1;omega
   have R2:∀o,∃l,step o i s=some l/\∀B:Nat->O,∃sF,kW (λi=>step (B i) i) ((List.range i).filter (λj=> !b.getD j true)++(List.range' (i+1) (ops.size-i-1)).filter (λj=> !b.getD j true)) l=some sF/\Fin sF:=by
    intro T;have E:∀B:Nat->O,∃l,step T i s=some l/\∃sF,kW (λi=>step (B i) i) ((List.range i).filter (λj=> !b.getD j true)++(List.range' (i+1) (ops.size-i-1)).filter (λj=> !b.getD j true)) l=some sF/\Fin sF:=by
     intro B;obtain⟨sF,hs,Z⟩:=c λj=>if j=i then T else B j
     obtain⟨l,F,q2⟩:=qj (hc _) _ hp hs;simp only[a1z]at F;refine⟨l,F,sF,?_,Z⟩;rw[<-q2];exact wR λj d t=>by
      have:j≠i:=λe=>Sb (e▸d)
      simp only[a0d this]
    obtain⟨l,F,_⟩:=E λ_=>o0
    refine⟨l,F,λB=> ?_⟩;obtain⟨u,R3,q2⟩:=E B;rw[F]at R3
    cases R3
    exact q2
   refine R6 i s a w x (λT=>(R2 T).imp λ_ h=>h.1) hR _ λT l a' w' Sc Sd=>ih _ l a' w' (by simpa using v) (by rw[R1];simp at n⊢;omega) (λj d i' R4=> ?_) (λB=>by
    obtain⟨u,F,q2⟩:=R2 T;rw[Sc]at F
    cases F
    rw[R1];exact q2 B) Sd
   by_cases R5:j=i
   ·subst R5
    exact getD_set_true (q i' R4)
   ·rw[getD_set_ne false (Ne.symm R5)]at d
    exact getD_set_true (J j d i' R4)
end
variable {d j b:Nat} {h:Array Obj} {ow ow':OW} {v:Value} {K:List Nat} {s:SV} {G G':Gh}
def dQ (K:List Nat):(l:OW)->(i n:Nat)->(aL K i l)[n]?=(l[n]?).map λx=>if K.contains (i+n)then x else B7
 |[],_,_=>rfl
 |a::r,i,0=>by simp[aL]
 |a::r,i,n+1=>by
  simp only[aL,a5f];rw[dQ K r (i+1) n];have:i+1+n=i+(n+1):=by omega
  rw[this]
def dJ (K:List Nat):(l s:OW)->(i n:Nat)->(bU K i l s)[n]?=(l[n]?).map λx=>if K.contains (i+n)then(s[n]?).getD x else x
 |[],_,_,_=>rfl
 |a::r,s,i,0=>by cases s<;>simp[bU]
 |a::r,s,i,n+1=>by
  simp only[bU,a5f];rw[dJ K r s.tail (i+1) n];have:i+1+n=i+(n+1):=by omega
  rw[this]
  cases s<;>simp
def GK {a:List Nat} (h:∀d,K.contains d=true->a.contains d=false) (l s:OW):aL a 0 (bU K 0 l s)=aL a 0 l:=by
 apply a2e;intro n;rw[dQ,dQ,dJ]
 cases l[n]? with
 |none=>rfl
 |some x=>
  simp only[a1w,a1p]
  cases hk:K.contains n with
  |true=>rw[h n hk];simp only[a0t,a1y]
  |false=>simp only[a0t,a1y]
def GL {a:List Nat} (h:∀d,K.contains d=true->a.contains d=false) (l s b:OW):bU a 0 (bU K 0 l s) b=bU K 0 (bU a 0 l b) s:=by
 apply a2e;intro n;simp only[dJ,a1p]
 cases l[n]? with
 |none=>rfl
 |some x=>
  simp only[a1w,a0l]
  cases hk:K.contains n with
  |true=>rw[h n hk];simp only[a0t,a1y,a1z]
  |false=>simp only[a0t,a1y]
def un:cW ow=true↔∀(n:Nat) (l:List (Option OB)),ow[n]?=some l->l.length<=16:=by
 unfold cW;rw[a1g];constructor
 ·intro h n l a
  have:=h l (a3n a);simpa using this
 ·intro h l a
  obtain⟨n,b⟩:=a8b.1 a;simpa using h n l b
def D6 {l s:OW} (b:cW l=true) (c:cW s=true):cW (bU K 0 l s)=true:=by
 rw[un]at b c⊢;intro n x a;rw[dJ]at a
 cases h1:l[n]? with
 |none=>rw[h1]at a;cases a
 |some y=>
  rw[h1]at a;simp only[a1w,a0l]at a;subst a;split
  ·cases h2:s[n]? with
   |none=>simpa using b n y h1
   |some z=>simpa using c n z h2
  ·exact b n y h1
def uo (K:List Nat):(l:OW)->(i:Nat)->qK K i l=true->∀n x,l[n]?=some x->(if K.contains (i+n)then x.all (PT K)else x.all (·.isNone)&& x.length==16)=true
 |[],_,_,_,_,h=>by simp at h
 |a::r,i,hf,0,x,h=>by
  simp only[a1r,a0l]at h;subst h;simp only[qK,a0e]at hf;exact hf.1
 |a::r,i,hf,n+1,x,h=>by
  simp only[qK,a0e]at hf;have:=uo K r (i+1) hf.2 n x (by simpa using h);have e:i+1+n=i+(n+1):=by omega
  rw[e]at this;exact this
def Cs (K:List Nat) (l s:OW):(bU K 0 l s).length=l.length:=by
 have b:∀(l s:OW) (i:Nat),(bU K i l s).length=l.length:=by
  intro l
  induction l with
  |nil=>intro s i;rfl
  |cons a r ih=>intro s i;simp[bU,ih]
 exact b l s 0
def D7 (K:List Nat) (l:OW):(aL K 0 l).length=l.length:=by
 have b:∀(l:OW) (i:Nat),(aL K i l).length=l.length:=by
  intro l
  induction l with
  |nil=>intro i;rfl
  |cons a r ih=>intro i;simp[aL,ih]
 exact b l 0
section
variable {F:Nat->Prop} {G G1:Gh} {ow ow1:OW} {w w1:World} {K:List Nat}
def gl (a:K.contains d=true) (j:Nat):ak (aL K 0 ow) d j=ak ow d j:=by
 unfold ak;rw[dQ]
 cases ow[d]? with
 |none=>rfl
 |some l=>simp only[a1w,a1p,a,a1z]
def AO:B7[j]?=if j<16 then some none else none:=by
 unfold B7;rw[a6h]
def hU (a:K.contains d=false) (j:Nat):ak (aL K 0 ow) d j=none\/ak (aL K 0 ow) d j=some none:=by
 unfold ak;rw[dQ]
 cases ow[d]? with
 |none=>exact .inl rfl
 |some l=>
  simp only[a1w,a1p,a,a0t,a1y,a0c];rw[AO];split
  ·exact .inr rfl
  ·exact .inl rfl
def sB (b:cW ow=true) (c:K.contains d=false) (a:ak ow d j≠none):ak (aL K 0 ow) d j=some none:=by
 unfold ak at a⊢;rw[dQ]
 cases hl:ow[d]? with
 |none=>rw[hl]at a;exact absurd rfl a
 |some l=>
  rw[hl]at a;simp only[a0c]at a;have e:j<l.length:=by
   rcases a3y j l.length with h|h
   ·exact h
   ·exact absurd (a1f h) a
  have:=un.1 b d l hl;simp only[a1w,a1p,c,a0t,a1y,a0c];rw[AO,ifPosQ]
def u7 (b:ow1.length=ow.length) (a:K.contains d=true) (j:Nat):ak (bU K 0 ow ow1) d j=ak ow1 d j:=by
 unfold ak;rw[dJ];rcases a3y d ow.length with h|h
 ·simp only[a0a h,a0a (show d<ow1.length by omega),a1w,a1p,a,a1z,a2r]
 ·rw[a1f h,a1f (show ow1.length<=d by omega)];rfl
def sC (a:K.contains d=false) (j:Nat):ak (bU K 0 ow ow1) d j=ak ow d j:=by
 unfold ak;rw[dJ]
 cases ow[d]? with
 |none=>rfl
 |some l=>simp only[a1w,a1p,a,a0t,a1y]
def IE (b:cW ow=true) (d j:Nat):EC (ak ow d j) (ak (aL K 0 ow) d j):=by
 cases hd:K.contains d with
 |true=>rw[gl hd];exact .refl _
 |false=>
  by_cases a:ak ow d j=none
  ·rw[a];trivial
  ·rw[sB b hd a];exact .dead
def FM (F:Nat->Prop) (G:Gh) (ow:OW) (K:List Nat) (b:Nat):Prop:=F b\/∃d j i o,K.contains d=false/\bB (ak ow d j)/\G d j i=some (b,o)
def wT (h:ci G (aL K 0 ow) b):∃d j i o,K.contains d=true/\bB (ak ow d j)/\G d j i=some (b,o):=by
 obtain⟨d,j,i,o,a,c⟩:=aK.1 h
 cases hd:K.contains d with
 |true=>rw[gl hd]at a;exact⟨d,j,i,o,hd,a,c⟩
 |false=>rcases hU (ow:=ow) hd j with h|h<;>rw[h]at a<;>exact a.elim
def gm (h:ci G (aL K 0 ow) b):ci G ow b:=by
 obtain⟨d,j,i,o,_,a,c⟩:=wT h;exact aK.2 ⟨d,j,i,o,a,c⟩
def Pw (a:bx F G ow w.heap) (c:∀b,F b->b<w.heap.size) (h:FM F G ow K b):b<w.heap.size:=by
 rcases h with h|⟨d,j,i,o,_,h1,h2⟩
 ·exact c b h
 ·exact ci.lt a (aK.2 ⟨d,j,i,o,h1,h2⟩)
def IF (h:cU F G ow b):cU (FM F G ow K) G (aL K 0 ow) b:=by
 refine⟨λa=> ?_,λc=>h.2 (gm c)⟩;rcases a with a|⟨d,j,i,o,_,h1,h2⟩
 ·exact h.1 a
 ·exact h.2 (aK.2 ⟨d,j,i,o,h1,h2⟩)
def o8 (c:cW ow=true) (e:Sv F G ow h s v):Sv (FM F G ow K) G (aL K 0 ow) h s v:=cn.mono (λ_ _ _=>rfl) (IE c) (λb r d a=>⟨IF d,a⟩) (λb r a=>⟨r,a,rfl⟩) e
def ka (v:cW ow=true) (e:bx F G ow h):bx (FM F G ow K) G (aL K 0 ow) h:=by
 have c:∀d j,bB (ak (aL K 0 ow) d j)->K.contains d=true/\bB (ak ow d j):=by
  intro d j f
  cases a:K.contains d with
  |true=>rw[gl a]at f;exact⟨rfl,f⟩
  |false=>rcases hU (ow:=ow) a j with h|h<;>rw[h]at f<;>exact f.elim
 refine⟨λd j o g=> ?_,λd j i d' j' l b o m n p q s=> ?_,λb k t=> ?_⟩
 ·cases a:K.contains d with
  |true=>
   rw[gl a]at g;exact df.mono (λ_ _ _=>rfl) (IE v) (λb r k u=>⟨IF k,u⟩) (λb r u=>⟨r,u,rfl⟩) rfl (λ_ _ _ _ _=>rfl) (e.obs d j o g)
  |false=>rcases hU (ow:=ow) a j with h|h<;>rw[h]at g<;>cases g
 ·exact e.apart d j i d' j' l b o m (c d j n).2 (c d' j' p).2 q s
 ·obtain⟨d,j,i,o,a,n,p⟩:=wT k
  rcases t with t|⟨d',j',l,m,hd',q,s⟩
  ·exact e.notF b (gm k) t
  ·obtain⟨rfl,_⟩:=e.apart d j i d' j' l b o m n q p s
   rw[a]at hd';cases hd'
def GM (K:List Nat) (G a:Gh):Gh:=λd j=>if K.contains d then a d j else G d j
def Qz (a:K.contains d=true) (j:Nat):GM K G G1 d j=G1 d j:=by simp only[GM,a,a1z]
def PY (a:K.contains d=false) (j:Nat):GM K G G1 d j=G d j:=by simp only[GM,a,a0t,a1y]
def cX.same {off:Nat} {len:Option Nat} (b:ak ow' d j=ak ow d j) (c:G' d j=G d j) (a:cX h G ow d j off len v):cX h G' ow' d j off len v:=by
 unfold cX nZ at a⊢;rw[b,c];exact a
def QA {ok ok':Nat->Prop} (n:∀d j,K.contains d=true->ak ow' d j=ak ow d j) (o:∀d j,K.contains d=true->G' d j=G d j) (k:∀b r,ok b->am h b=some r->ok' b/\am h b=some r) (e:cn h ok G ow s v):∀f,jT K f s=true->cn h ok' G' ow' s v:=by
 induction e with
 |v hk hx=>intro f _;exact .v hk (ct.mono k _ hx)
 |lb b=>intro f _;exact .lb b
 |dead v=>intro f _;exact .dead v
 |nils=>intro f _;exact .nils
 |agg hl _ ih=>
  intro f g
  cases f with
  |zero=>cases g
  |succ f=>
   simp only[jT,a1g]at g;exact .agg hl λi l m=>ih i l m f (g _ (a0n _))
 |tup hl _ ih=>
  intro f g
  cases f with
  |zero=>cases g
  |succ f=>
   simp only[jT,a1g]at g;exact .tup hl λi l m=>ih i l m f (g _ (a0n _))
 |fn l m _ _ ih1 ih2=>
  intro f g
  cases f with
  |zero=>cases g
  |succ f=>
   simp only[jT,a0e,a1g]at g;exact .fn l m (λi a b=>ih1 i a b f (g.1 _ (a0n _))) (λi a b=>ih2 i a b f (g.2 _ (a0n _)))
 |wh hv=>
  intro f g
  cases f with
  |zero=>cases g
  |succ f=>exact .wh (hv.same (n _ _ g) (o _ _ g))
 |os hv=>
  intro f g
  cases f with
  |zero=>cases g
  |succ f=>exact .os (hv.same (n _ _ g) (o _ _ g))
 | @bp d j c val hv=>
  intro f g
  cases f with
  |zero=>cases g
  |succ f=>
   refine .bp ?_
   rw[n d j g,o d j g];exact hv
 | @rp d j ver e c val hv=>
  intro f g
  cases f with
  |zero=>cases g
  |succ f=>
   refine .rp ?_
   rw[n d j g,o d j g];exact hv
 |ip hk hb hr hs hx=>
  intro f _;obtain⟨p,q⟩:=k _ _ hb hr;exact .ip hk p q hs (ct.mono k _ hx)
def Jw (p:bx F G ow w.heap) (i:cW ow=true) (k:∀b r,am w.heap b=some r->∃o,am w1.heap b=some o/\o.size=r.size) {ow2:OW} {l:Gh}
 (g:∀s v,Sv (FM F G ow K) G (aL K 0 ow) w.heap s v->Sv (FM F G ow K) G1 ow1 w1.heap s v)
 (f:∀d j,K.contains d=true->ak ow2 d j=ak ow1 d j/\l d j=G1 d j) (a:∀d j,K.contains d=false->ak ow2 d j=ak ow d j/\l d j=G d j)
 (h:∀b r,cU F G ow b->am w.heap b=some r->cU F l ow2 b/\am w1.heap b=some r) (e:Sv F G ow w.heap s v):Sv F l ow2 w1.heap s v:=by
 induction e with
 |v hk hx=>exact .v hk (ct.mono h _ hx)
 |lb b=>exact .lb b
 |dead v=>exact .dead v
 |nils=>exact .nils
 |agg hl _ ih=>exact .agg hl ih
 |tup hl _ ih=>exact .tup hl ih
 |fn h1 h2 _ _ ih1 ih2=>exact .fn h1 h2 ih1 ih2
 | @wh d j ver val hv=>
  cases hd:K.contains d with
  |true=>
   have:=g _ _ (o8 i (.wh (ver:=ver) hv))
   cases this with
   |wh hv=>exact .wh (hv.same (f d j hd).1 (f d j hd).2)
  |false=>exact .wh (hv.mono (λ_=>by rw[(a d j hd).2]) (by rw[(a d j hd).1];exact .refl _) k)
 | @os d j ver off len val hv=>
  cases hd:K.contains d with
  |true=>
   have:=g _ _ (o8 i (.os (ver:=ver) hv))
   cases this with
   |os hv=>exact .os (hv.same (f d j hd).1 (f d j hd).2)
  |false=>exact .os (hv.mono (λ_=>by rw[(a d j hd).2]) (by rw[(a d j hd).1];exact .refl _) k)
 | @bp d j c val hv=>
  cases hd:K.contains d with
  |true=>
   have:=g _ _ (o8 i (.bp (c:=c) hv))
   cases this with
   |bp hv=>
    refine .bp ?_
    rw[(f d j hd).1,(f d j hd).2];exact hv
  |false=>
   refine .bp ?_
   rw[(a d j hd).1,(a d j hd).2];exact hv
 | @rp d j ver e c val hv=>
  cases hd:K.contains d with
  |true=>
   have:=g _ _ (o8 i (.rp (ver:=ver) hv))
   cases this with
   |rp hv=>
    refine .rp ?_
    rw[(f d j hd).1,(f d j hd).2];exact hv
  |false=>
   refine .rp ?_
   rw[(a d j hd).1,(a d j hd).2];exact hv
 |ip hk hb hr i hx=>
  obtain⟨m,n⟩:=h _ _ hb hr;exact .ip hk m n i (ct.mono h _ hx)
def df.same {y:Array Obj} {ok ok':Nat->Prop} {o:OB} (t:G' d j=G d j) (u:bB (some (some o))->∀i b c,G d j i=some (b,c)->y[b]?=h[b]?) (q:∀b r,ok b->am h b=some r->ok' b/\am y b=some r) (z:∀s∈Is o,∀v,cn h ok G ow s v->cn y ok' G' ow' s v) (e:df h ok G ow d j o):df y ok' G' ow' d j o:=by
 cases o with
 |box m=>
  obtain⟨H,b,o,r,et,a,g,I,w⟩:=e;exact⟨by rw[t];exact H,b,o,r,et,by rw[t,a],by rw[u trivial 0 b o a,g],I,λi A g=>z _ (a0n _) _ (w i A g)⟩
 |row k ver l=>
  obtain⟨H,B,e⟩:=e;refine⟨by rw[t];exact H,B,?_⟩;rw[t]
  cases a:G d j 0 with
  |none=>simpa [a]using e
  |some p=>
   obtain⟨b,o⟩:=p;simp only[a]at e;obtain⟨r,et,g,C⟩:=e;exact⟨r,et,by rw[u trivial 0 b o a,g],C.mono λx cs J=>ct.mono q _ J⟩
 |frow k ver l=>
  obtain⟨B,e⟩:=e;refine⟨B,?_⟩;rw[t]
  cases a:G d j 0 with
  |none=>simpa [a]using e
  |some p=>
   obtain⟨b,o⟩:=p;simp only[a]at e;rcases e with e|⟨u,r,g,C⟩
   ·exact .inl e
   ·obtain⟨f,K⟩:=q b r u g
    exact .inr ⟨f,r,K,C.mono λx cs J=>ct.mono q _ J⟩
 |nrow k l foc=>
  obtain⟨B,fps,N,e⟩:=e;refine⟨B,fps,by rw[t];exact N,?_⟩;rw[t];have D:∀b∈fps.flatten,y[b]?=h[b]?:=λb L=>by
   obtain⟨i,A,rfl⟩:=a2h.1 L;exact u trivial (i+1) _ 0 (by rw[N,a0a A];rfl)
  cases a:G d j 0 with
  |none=>simpa [a]using e
  |some p=>
   obtain⟨b,o⟩:=p;simp only[a]at e;obtain⟨r,et,g,I,O,P,C,Q⟩:=e;exact⟨r,et,by rw[u trivial 0 b o a,g],I,O,λF f=>by rw[D F f];exact P F f,λi A E M=>ck.mono q k (λF f=>D F (iB E f)) (C i A E M),λR m w=>by
    obtain⟨S,T,U⟩:=Q R m w;subst w;exact⟨S,T,λc w g=>z _ (a0n _) _ (U c w g)⟩⟩
 |lrow n=>trivial
def lW (I:bx F G ow w.heap) (Y:∀b,F b->b<w.heap.size) (O:cW ow=true) (q:Tr (FM F G ow K) G (aL K 0 ow) w G1 ow1 w1) (T:DH K ow1=true):Tr F G ow w (GM K G G1) (bU K 0 ow ow1) w1/\∀s v f,jT K f s=true->Sv (FM F G ow K) G1 ow1 w1.heap s v->Sv F (GM K G G1) (bU K 0 ow ow1) w1.heap s v:=by
 have M:ow1.length=ow.length:=by rw[q.len,D7]
 simp only[DH,a0e]at T;have k:∀d j,K.contains d=true->ak (bU K 0 ow ow1) d j=ak ow1 d j/\GM K G G1 d j=G1 d j:=λd j g=>⟨u7 M g j,Qz g j⟩
 have a:∀d j,K.contains d=false->ak (bU K 0 ow ow1) d j=ak ow d j/\GM K G G1 d j=G d j:=λd j g=>⟨sC g j,PY g j⟩
 have u:∀b,ci (GM K G G1) (bU K 0 ow ow1) b->(ci G1 ow1 b)\/(∃d j i o,K.contains d=false/\bB (ak ow d j)/\G d j i=some (b,o)):=by
  intro b t;obtain⟨d,j,i,o,p,n⟩:=aK.1 t
  cases g:K.contains d with
  |true=>rw[(k d j g).1]at p;rw[(k d j g).2]at n;exact .inl (aK.2 ⟨d,j,i,o,p,n⟩)
  |false=>rw[(a d j g).1]at p;rw[(a d j g).2]at n;exact .inr ⟨d,j,i,o,g,p,n⟩
 have x:fh (ci G ow) w w1:=⟨q.kept.size,λb t U=>q.kept.heap b t λh=>U (gm h),q.kept.cells,q.kept.os,q.kept.output,q.kept.tape⟩;have B:∀b r,cU F G ow b->am w.heap b=some r->cU F (GM K G G1) (bU K 0 ow ow1) b/\am w1.heap b=some r:=by
  intro b r t A;have R:=cB A;refine⟨⟨t.1,λh=> ?_⟩,?_⟩
  ·rcases u b h with h|⟨d,j,i,o,_,p,n⟩
   ·rcases q.own b h with h|h
    ·exact t.2 (gm h)
    ·omega
   ·exact t.2 (aK.2 ⟨d,j,i,o,p,n⟩)
  ·unfold am
   rw[x.heap b R t.2];exact A
 have C:∀b r,cU (FM F G ow K) G1 ow1 b->am w1.heap b=some r->cU F (GM K G G1) (bU K 0 ow ow1) b/\am w1.heap b=some r:=by
  intro b r t A;refine⟨⟨λh=>t.1 (.inl h),λh=> ?_⟩,A⟩;rcases u b h with h|h
  ·exact t.2 h
  ·exact t.1 (.inr h)
 have S:∀b r,am w.heap b=some r->∃P,am w1.heap b=some P/\P.size=r.size:=by
  intro b r A;unfold am at A;split at A
  ·rename_i c et f V
   cases A
   obtain⟨P,p,n⟩:=q.kept.cells b _ _ _ V;exact⟨P,by unfold am;rw[p],n⟩
  ·cases A
 have N:∀s v,Sv F G ow w.heap s v->Sv F (GM K G G1) (bU K 0 ow ow1) w1.heap s v:=λs v e=>Jw I O S q.sv k a B e
 have D:∀s v f,jT K f s=true->Sv (FM F G ow K) G1 ow1 w1.heap s v->Sv F (GM K G G1) (bU K 0 ow ow1) w1.heap s v:=λs v f Q e=>
  QA (λd j g=>(k d j g).1) (λd j g=>(k d j g).2) C e f Q
 have H:∀d j i b o,K.contains d=false->bB (ak ow d j)->G d j i=some (b,o)->w1.heap[b]?=w.heap[b]?:=by
  intro d j i b o g p n;refine q.kept.heap b (ci.lt I (aK.2 ⟨d,j,i,o,p,n⟩)) λh=> ?_
  obtain⟨d',j',J,L,m,E,z⟩:=wT h;obtain⟨rfl,_⟩:=I.apart d j i d' j' J b o L p E n z;rw[g]at m;cases m
 refine⟨⟨⟨λd j o y=> ?_,λd j i d' j' J b o L p n E z=> ?_,λb t Q=> ?_⟩,N,x,λb t=> ?_,Cs K ow ow1⟩,D⟩
 ·cases g:K.contains d with
  |true=>
   rw[(k d j g).1]at y;refine df.same (k d j g).2 (λ_ _ _ _ _=>rfl) C (λs O v e=>D s v 8 ?_ e) (q.hrep.obs d j o y);unfold ak at y
   cases hl:ow1[d]? with
   |none=>rw[hl]at y;cases y
   |some l=>
    rw[hl]at y;simp only[a0c]at y;have:=uo K ow1 0 T.1 d l hl;simp only[a1p,g,a1z,a1g]at this;have:=this _ (a3n y);simp only[PT,a1g]at this;exact this s O
  |false=>
   rw[(a d j g).1]at y;exact df.same (a d j g).2 (λW i b c X=>H d j i b c g (by rw[y];exact W) X) B (λs O v e=>N s v e) (I.obs d j o y)
 ·cases g:K.contains d with
  |true=>
   rw[(k d j g).1]at p;rw[(k d j g).2]at E
   cases m:K.contains d' with
   |true=>
    rw[(k d' j' m).1]at n;rw[(k d' j' m).2]at z;exact q.hrep.apart d j i d' j' J b o L p n E z
   |false=>
    rw[(a d' j' m).1]at n;rw[(a d' j' m).2]at z;exact absurd (.inr ⟨d',j',J,L,m,n,z⟩) (q.hrep.notF b (aK.2 ⟨d,j,i,o,p,E⟩))
  |false=>
   rw[(a d j g).1]at p;rw[(a d j g).2]at E
   cases m:K.contains d' with
   |true=>
    rw[(k d' j' m).1]at n;rw[(k d' j' m).2]at z;exact absurd (.inr ⟨d,j,i,o,g,p,E⟩) (q.hrep.notF b (aK.2 ⟨d',j',J,L,n,z⟩))
   |false=>
    rw[(a d' j' m).1]at n;rw[(a d' j' m).2]at z;exact I.apart d j i d' j' J b o L p n E z
 ·rcases u b t with h|⟨d,j,i,o,_,p,n⟩
  ·exact q.hrep.notF b h (.inl Q)
  ·exact I.notF b (aK.2 ⟨d,j,i,o,p,n⟩) Q
 ·rcases u b t with h|⟨d,j,i,o,_,p,n⟩
  ·rcases q.own b h with h|h
   ·exact .inl (gm h)
   ·exact .inr h
  ·exact .inl (aK.2 ⟨d,j,i,o,p,n⟩)
def GN (K:List Nat) (ow:OW):bU K 0 ow (aL K 0 ow)=ow:=by
 apply a2e;intro n;rw[dJ,dQ]
 cases ow[n]? with
 |none=>rfl
 |some x=>
  simp only[a1w,a1p,a2r]
  cases hk:K.contains n with
  |true=>simp only[a1z]
  |false=>simp only[a0t,a1y]
def Ox (K:List Nat) (G:Gh):GM K G G=G:=by
 funext d j
 unfold GM;split<;>rfl
def ox (a:bx F G ow w.heap) (c:∀b,F b->b<w.heap.size) (d:cW ow=true) (e:Tr (FM F G ow K) G (aL K 0 ow) w G (aL K 0 ow) w1) (g:DH K (aL K 0 ow)=true):Tr F G ow w G ow w1/\∀s v f,jT K f s=true->Sv (FM F G ow K) G (aL K 0 ow) w1.heap s v->Sv F G ow w1.heap s v:=by
 have:=lW a c d e g;rw[GN,Ox]at this;exact this
end
end Go.Pev
namespace Go.Pev
variable {ow:OW} {s:SV} {C:gI} {sl:List SV}
def ba.out {β:Type}:ba β->Option β
 | .ret b=>some b
 | .fail=>none
 | .chk c t=>if c then t.out else none
 | .bnd _ m f=>m.bind λy=>(f y).out
 | .amb _ _ _=>none
 | .ite c f g=>if c then f.out else g.out
def ba.outB {β:Type}:ba β->Option (Nat->Bool)->Option β
 | .ret b,_=>some b
 | .fail,_=>none
 | .chk c t,o=>if c then t.outB o else none
 | .bnd _ m f,o=>m.bind λy=>(f y).outB o
 | .amb c f g,o=>(match o with|none=>none|some s=>if c then(if s 0 then f.outB (some λn=>s (n+1))else g.outB (some λn=>s (n+1)))else g.outB (some s))
 | .ite c f g,o=>if c then f.outB o else g.outB o
def ba.outB_none {β:Type}:(c:ba β)->c.outB none=c.out
 | .ret _=>rfl
 | .fail=>rfl
 | .chk c t=>by cases c with|false=>rfl|true=>exact ba.outB_none t
 | .bnd _ m f=>by cases m with|none=>rfl|some y=>exact ba.outB_none (f y)
 | .amb _ _ _=>rfl
 | .ite c f g=>by cases c with|false=>exact ba.outB_none g|true=>exact ba.outB_none f
def ba.outB_bind {β γ:Type} {f:β->ba γ} {r:γ}:(c:ba β)-> {o:Option (Nat->Bool)}->(c.bind f).outB o=some r->∃b,c.outB o=some b/\∃a,(f b).outB a=some r
 | .ret b,o,h=>⟨b,rfl,o,h⟩
 | .fail,_,h=>by cases h
 | .chk c t,_,h=>by
  cases c with
  |false=>cases h
  |true=>exact ba.outB_bind t h
 | .bnd _ m g,_,h=>by
  cases m with
  |none=>cases h
  |some y=>exact ba.outB_bind (g y) h
 | .amb c f1 g1,o,h=>by
  cases o with
  |none=>cases h
  |some s=>
   simp only[ba.bind,ba.outB]at h⊢
   cases c with
   |false=>exact ba.outB_bind g1 h
   |true=>
    simp only[a1z]at h⊢
    cases hs:s 0 with
    |false=>rw[hs]at h;exact ba.outB_bind g1 h
    |true=>rw[hs]at h;exact ba.outB_bind f1 h
 | .ite c f g,_,h=>by
  cases c with
  |false=>exact ba.outB_bind g h
  |true=>exact ba.outB_bind f h
def AP (b:Bool) (o:Nat->Bool):Nat->Bool
 |0=>b
 |n+1=>o n
def ba.outB_amb {β:Type} {f g:ba β} {o:Nat->Bool}:(ba.amb true f g).outB (some (AP true o))=f.outB (some o)/\(ba.amb true f g).outB (some (AP false o))=g.outB (some o):=⟨rfl,rfl⟩
def ba.outB_can {β:Type}:(c:ba β)->(∀o,∃b,c.outB (some o)=some b)->c.can λx=>∃o,c.outB (some o)=some x
 | .ret b,_=>⟨λ_=>true,rfl⟩
 | .fail,h=>by obtain⟨b,h⟩:=h λ_=>true;cases h
 | .chk c t,h=>by
  cases c with
  |false=>obtain⟨b,h⟩:=h λ_=>true;cases h
  |true=>exact⟨rfl,ba.outB_can t h⟩
 | .bnd _ m f,h=>by
  cases m with
  |none=>obtain⟨b,h⟩:=h λ_=>true;cases h
  |some y=>exact⟨y,rfl,ba.outB_can (f y) h⟩
 | .amb c f g,h=>by
  simp only[ba.can]
  cases c with
  |false=>
   simp only[a0t,a1y];exact ba.outB_can g h
  |true=>
   simp only[a1z];have e:=ba.outB_can f λo=>by obtain⟨b,a⟩:=h (AP true o);exact⟨b,a⟩
   have i:=ba.outB_can g λo=>by obtain⟨b,a⟩:=h (AP false o);exact⟨b,a⟩
   exact⟨ba.can_mono (λx ⟨o,d⟩=>⟨AP true o,by rw[ba.outB_amb.1];exact d⟩) f e,ba.can_mono (λx ⟨o,d⟩=>⟨AP false o,by rw[ba.outB_amb.2];exact d⟩) g i⟩
 | .ite c f g,h=>by
  cases c with
  |false=>exact ba.outB_can g h
  |true=>exact ba.outB_can f h
def ba.run_outB {α β:Type} {n:Nat} {k:β->Option α} {r:α}:(c:ba β)->c.run n k=some r->∀o,∃b,c.outB (some o)=some b/\k b=some r
 | .ret b,h,_=>⟨b,rfl,h⟩
 | .fail,h,_=>by cases h
 | .chk c t,h,o=>by
  rw[ba.run,ek]at h
  cases c with
  |false=>cases h
  |true=>exact ba.run_outB t h o
 | .bnd _ m f,h,o=>by
  rw[ba.run,DE]at h
  cases m with
  |none=>cases h
  |some y=>exact ba.run_outB (f y) h o
 | .amb c f g,h,o=>by
  rw[ba.run,ek]at h;simp only[ba.outB]
  cases c with
  |false=>exact ba.run_outB g h o
  |true=>
   obtain⟨a,d⟩:=wk h;simp only[a1z]
   cases o 0 with
   |false=>exact ba.run_outB g d _
   |true=>exact ba.run_outB f a _
 | .ite c f g,h,o=>by
  rw[ba.run,ek]at h
  cases c with
  |false=>exact ba.run_outB g h o
  |true=>exact ba.run_outB f h o
def ba.runA_out {α β:Type} {n:Nat} {k:β->Option α} {r:α}:(c:ba β)->c.runA n k=some r->∃b,c.out=some b/\k b=some r
 | .ret b,h=>⟨b,rfl,h⟩
 | .fail,h=>by cases h
 | .chk c t,h=>by
  rw[ba.runA,ek]at h
  cases c with
  |false=>cases h
  |true=>exact ba.runA_out t h
 | .bnd _ m f,h=>by
  rw[ba.runA,DE]at h
  cases m with
  |none=>cases h
  |some y=>exact ba.runA_out (f y) h
 | .amb _ _ _,h=>by cases h
 | .ite c f g,h=>by
  rw[ba.runA,ek]at h
  cases c with
  |false=>exact ba.runA_out g h
  |true=>exact ba.runA_out f h
def ba.out_can {β:Type} {b:β}:(c:ba β)->c.out=some b->c.can λx=>x=b
 | .ret _,h=>a1e h
 | .fail,h=>by cases h
 | .chk c t,h=>by
  cases c with
  |false=>cases h
  |true=>exact⟨rfl,ba.out_can t h⟩
 | .bnd _ m f,h=>by
  cases m with
  |none=>cases h
  |some y=>exact⟨y,rfl,ba.out_can (f y) h⟩
 | .amb _ _ _,h=>by cases h
 | .ite c f g,h=>by
  cases c with
  |false=>exact ba.out_can g h
  |true=>exact ba.out_can f h
def dz (src:Bool) (s:SV):SV:=if src then(match s with| .v .bool b=> .lb b|s=>s)else s
def q8 {α:Type} {n:Nat} {src:Bool} {k:SV->Option α}:split n src s k=k (dz src s):=by
 unfold split dz
 cases src with
 |false=>rfl
 |true=>
  simp only[a1z];split
  ·rename_i b;rw[ek];cases b<;>rfl
  ·rename_i h
   split
   ·rename_i b;exact absurd rfl (h b)
   ·rfl
def wU {P:Program} {o:Op} {ρ e:Operand->SV} (h:∀x∈o.operands,ρ x=e x):py P o ρ ow=py P o e ow:=by
 cases o with
 |call c=>
  have i:∀x∈c.args,ρ x=e x:=λx d=>h x (by simp[Op.operands,Call.operands,d])
  have g:c.args.toList.map ρ=c.args.toList.map e:=a3d λx d=>i x (by simpa using d)
  simp only[py,g];split
  ·split
   ·rename_i x t ts d m
    rw[i x (by rw[<-a5b,d];simp)]
   ·rfl
  ·rfl
  ·rfl
  ·rfl
 |build t ps=>
  have:(ps.toList.map λx=>(x.1,ρ x.2))=ps.toList.map λx=>(x.1,e x.2):=a3d λp j=>by
   rw[h p.2 (by simp only[Op.operands,a7u,a4q];exact⟨p,j,rfl⟩)]
  simp only[py,this]
 |makeFunc f a b=>
  have k:a.toList.map ρ=a.toList.map e:=a3d λx d=>h x (by simp only[Op.operands,a5j];exact .inl (by simpa using d))
  have l:b.toList.map ρ=b.toList.map e:=a3d λx d=>h x (by simp only[Op.operands,a5j];exact .inr (by simpa using d))
  simp only[py,k,l]
 |slice t x lo hi mx=>
  cases lo<;>cases hi<;>cases mx<;>simp_all[py,Op.operands]
 |typeAssert x a b c=>cases c<;>simp_all[py,Op.operands]
 |_=>first|rfl|(simp_all[py,Op.operands];done)
def AQ {o:Op} {ρ a:Operand->SV} (h:∀x∈o.operands,ρ x=a x):AA C o ρ ow=AA C o a ow:=by
 unfold AA;split
 ·rename_i f args b
  have c:ρ f=a f:=h f (by simp[Op.operands,Call.operands]);have d:args.toList.map ρ=args.toList.map a:=a3d λx e=>h x (by simp only[Op.operands,Call.operands,a5j];exact .inr (by simpa using e))
  rw[c,d]
 ·exact wU h
def q9 (C:gI) (a:Array Oper) (ow:OW) (o:Oper) (i:Nat) (b:List SV):Option SV:=
 match dD a o b with
 |none=>none
 |some false=>some (.tup [])
 |some true=>(AA C o.op (iU b) ow).out.map (dz (dZ a i))
def ky (C:gI) (a:Array Oper) (ow:OW) (i:Nat) (b:List SV):Option (List SV):=
 match a[i]? with
 |some o=>(q9 C a ow o i b).map (bn b o.dst)
 |none=>none
def wV {a:Array Oper} {o:Oper} {i:Nat} {b:List SV} (h:∀d∈kp a o,sl[d]?=b[d]?):q9 C a ow o i sl=q9 C a ow o i b:=by
 have e:dD a o sl=dD a o b:=by
  unfold dD
  cases hg:o.guard with
  |none=>rfl
  |some g=>
   obtain⟨j,c⟩:=g;simp only
   cases hd:(a[j]?).bind (·.dst)with
   |none=>rfl
   |some d=>
    simp only;rw[h d (by simp[kp,hg,hd])]
 have k:AA C o.op (iU sl) ow=AA C o.op (iU b) ow:=AQ λx l=>by
  cases x with
  |tmp t=>
   have:=h t (by
    simp only[kp,a0k];exact .inl (List.mem_filterMap.2 ⟨.tmp t,by simpa using l,rfl⟩))
   simp only[iU,this]
  |const v=>rfl
  |global g=>rfl
  |func f=>rfl
 unfold q9;rw[e,k]
def lX {d:Option Tmp} {x:Nat} (h:d≠some x):(bn sl d s)[x]?=sl[x]?:=by
 cases d with
 |none=>rfl
 |some d=>exact a2z (λe=>h (by rw[e]))
def wW {d d':Option Tmp} {a:SV} (h:∀x,d=some x->d'≠some x):bn (bn sl d s) d' a=bn (bn sl d' a) d s:=by
 cases d with
 |none=>rfl
 |some d=>
  cases d' with
  |none=>rfl
  |some d'=>exact List.set_comm _ _ (λe=>h d rfl (by rw[e]))
def wX {a:Array Oper} (i j:Nat) (s k l:List SV) (c:iA a i j=true) (f:ky C a ow i s=some k) (g:ky C a ow j k=some l):∃h,ky C a ow j s=some h/\ky C a ow i h=some l:=by
 unfold iA at c;unfold ky at f g⊢
 cases hi:a[i]? with
 |none=>rw[hi]at f;cases f
 |some x=>
  cases hj:a[j]? with
  |none=>rw[hj]at g;cases g
  |some y=>
   rw[hi]at f c;rw[hj]at g c;simp only at f g c⊢;unfold Gp at c;simp only[a0e]at c;obtain⟨a1,m⟩:=c;have n:∀d,x.dst=some d->d∉kp a y/\y.dst≠some d:=by
    intro d b;rw[b]at a1;simpa using a1
   have p:∀d,y.dst=some d->d∉kp a x:=by
    intro d b;rw[b]at m;simpa using m
   rw[a2j]at f g;obtain⟨v,q,rfl⟩:=f;obtain⟨u,o,rfl⟩:=g;have c1:q9 C a ow y j (bn s x.dst v)=q9 C a ow y j s:=wV λd b=>lX λe=>(n d e).1 b
   rw[c1]at o;have c2:q9 C a ow x i (bn s y.dst u)=q9 C a ow x i s:=wV λd b=>lX λe=>p d e b
   refine⟨bn s y.dst u,by rw[o];rfl,?_⟩;rw[c2,q];simp only[a1w];rw[wW λd b=>(n d b).2]
def sD {α:Type} {C:gI} {b:Array Oper} {ow:OW} {k:List SV->Option α} {r:α}:(l:List (Oper×Nat))->(∀p∈l,b[p.2]?=some p.1)-> {c:List SV}->wg C b ow l c k=some r->∃a,kW (ky C b ow) (l.map (·.2)) c=some a/\k a=some r
 |[],_,c,h=>⟨c,rfl,h⟩
 |(o,i)::l,hl,c,h=>by
  have f:=hl (o,i) (by simp);simp only at f;have d:∀p∈l,b[p.2]?=some p.1:=λp m=>hl p (by simp[m])
  unfold wg at h;simp only[a2g,kW];split at h
  ·cases h
  ·rename_i g
   obtain⟨a,j,e⟩:=sD l d h;refine⟨a,?_,e⟩;simp only[ky,f,q9,g,a1w];exact j
  ·rename_i g
   obtain⟨s,j,e⟩:=ba.runA_out _ h;rw[q8]at e;obtain⟨a,n,q⟩:=sD l d e;refine⟨a,?_,q⟩;simp only[ky,f,q9,g,j,a1w];exact n
def GO {L:List (Nat×Obj)} (hC:C.Holds L) (hm:C.P.follows .mixedOrders=true):wP C L:=by
 intro α nt fr F fp w0 vs id b st a w k r S Y h T he Q hQ;obtain⟨hl,hr⟩:=im b Y;obtain⟨B,Z,h2⟩:=sD _ (λp hp=>(hl p hp).1) he;rw[hr]at Z;have hD:∀(i:Nat) (o:Oper),b[i]?=some o->∀d,o.dst=some d->fr d=true/\∃o∈b.toList,o.dst=some d:=by
  intro i o x d y;have g:o∈b.toList:=by
   obtain⟨q,rfl⟩:=a1b.1 x;simp
  refine⟨?_,o,g,y⟩;have:=a1g.1 Y o g;rw[y]at this;simpa using this
 let R:List SV->Act->World->Prop:=λJ a w=>nG nt fr F fp w0 vs ⟨J,st.ow⟩ a w/\∀d,¬(∃o∈b.toList,o.dst=some d)->J[d]?=st.sl[d]?
 refine wp_region_any hm (qk (step:=ky C b st.ow) (R:=R) (λi j s s1 s2=>wX i j s s1 s2) ?_ T (sF:=B) (λa' c M=>hQ B a' c h2 M.1 M.2) b.size _ st.sl a _ (by simp) ?_ ?_ ?_ ?_)
 ·intro i J R0 a w hi l M K hK
  obtain⟨D,U⟩:=M;unfold ky at l
  cases x:b[i]? with
  |none=>rw[x]at l;cases l
  |some o=>
   rw[x]at l;simp only[a2j]at l;obtain⟨v,A,rfl⟩:=l;have t:=hD i o x;have m:∀d,¬(∃o∈b.toList,o.dst=some d)->(bn J o.dst v)[d]?=st.sl[d]?:=λd hn=>by
    rw[lX λe=>hn (t d e).2];exact U d hn
   obtain⟨G,N,g2,g3⟩:=D.ex;unfold wpOp;rw[x];simp only;unfold q9 at A;split at A
   ·cases A
   ·rename_i V
    cases A
    rw[cC N V];exact hK _ _ ⟨D.slot (λ_=>kx) (λd y=>(t d y).1),m⟩
   ·rename_i V
    rw[cC N V];simp only[a1z];left;rw[a2j]at A;obtain⟨s,l,rfl⟩:=A;have W:=fT hC (op:=o) rfl g2 (S.wideAt D.kept) (S.laidAt D.kept g3) (ep N) (ba.out_can _ l);refine u6.wp ?_
    have conv:∀u c,(∃O,O=s/\Tr F G st.ow w G st.ow c/\Sv F G st.ow c.heap O u)->K (a.put o.dst u) c:=by
     rintro u c ⟨O,rfl,ht,X⟩
     obtain⟨s2,e2,E⟩:=lj (n:=C.fuel) (src:=dZ b i) X (k:=λz=>some z) (r:=dz (dZ b i) O) (by rw[q8])
     cases e2
     exact hK _ _ ⟨D.op S N g3 ht E (λd y=>(t d y).1),m⟩
    rcases W with⟨u,c,H,I⟩|⟨c,H,I⟩|⟨f,args,H,I⟩
    ·exact .inl ⟨u,c,H,conv u c I⟩
    ·exact .inr (.inl ⟨c,H,conv undef c I⟩)
    ·exact .inr (.inr ⟨f,args,H,I.mono λe c ⟨u,q3,q4⟩=>⟨u,q3,conv u c q4⟩⟩)
 ·refine a5m (a5p _ _) (by simp)
 ·intro j hj
  exfalso;by_cases q:j<b.size
  ·simp[Array.getD,q]at hj
  ·simp[Array.getD,q]at hj
 ·have:((List.range b.size).filter λi=> !(Array.replicate b.size false).getD i true)=List.range b.size:=by
   rw[a6b];intro i hi;have:=a2f.1 hi;simp[Array.getD,this]
  rw[this];exact Z
 ·exact⟨⟨h.ex,⟨h.kept.size,h.kept.heap,h.kept.cells,h.kept.os,h.kept.output,h.kept.tape⟩,h.defers,h.args,h.size⟩,λ_ _=>rfl⟩
def ba.out_bind {β γ:Type} {f:β->ba γ} {r:γ}:(c:ba β)->(c.bind f).out=some r->∃b,c.out=some b/\(f b).out=some r
 | .ret b,h=>⟨b,rfl,h⟩
 | .fail,h=>by cases h
 | .chk c t,h=>by
  cases c with
  |false=>cases h
  |true=>exact ba.out_bind t h
 | .bnd _ m g,h=>by
  cases m with
  |none=>cases h
  |some y=>exact ba.out_bind (g y) h
 | .amb _ _ _,h=>by cases h
 | .ite c f g,h=>by
  cases c with
  |false=>exact ba.out_bind g h
  |true=>exact ba.out_bind f h
def cu {F:Nat->Prop} {G:Gh} {w:World} {src:Bool} {v:Value} (b:Sv F G ow w.heap s v):Sv F G ow w.heap (dz src s) v:=by
 obtain⟨d,c,a⟩:=lj (n:=0) (src:=src) b (k:=λz=>some z) (r:=dz src s) (by rw[q8])
 cases c
 exact a
end Go.Pev
section
namespace Go.Pev
variable {ow ow':OW} {C:gI} {o:Op} {ρ ρ':Operand->SV} {d j:Nat} {ops:Array Oper} {s:SV} {c c':ba (SV×OW)} {q:List Nat×Bool} {b:Option (Nat->Bool)} {r:Option (List Nat×OW)} {E:Oper->(Operand->SV)->OW->ba (SV×OW)} {dk:Oper->Nat} {ks:List (List Nat×Bool)} {K:List Nat} {B:Nat->Option (Nat->Bool)}
def Oy (C:gI) (E:Oper->(Operand->SV)->OW->ba (SV×OW)) (dk:Oper->Nat) (b:Option (Nat->Bool)) (a:Array Oper) (q:List Nat×Bool) (o:Oper) (i:Nat) (c:List SV) (ow:OW):Option (SV×Option (List Nat×OW)):=
 match dD a o c with
 |none=>none
 |some false=>some (.tup [],none)
 |some true=>if cW ow then((p6 C (E o (iU c) (aL q.1 0 ow)) o.op q (iU c) (aL q.1 0 ow) (dk o)).outB b).map λx=>(dz (dZ a i) x.1,x.2)else none
def iH (C:gI) (E:Oper->(Operand->SV)->OW->ba (SV×OW)) (dk:Oper->Nat) (B:Nat->Option (Nat->Bool)) (a:Array Oper) (ks:List (List Nat×Bool)) (i:Nat) (st:St):Option St:=
 match a[i]? with
 |some o=>
  (match dD a o st.sl with
  |some false=>some ⟨bn st.sl o.dst (.tup []),st.ow⟩
  |_=>
   (match ks[i]? with
   |some q=>(Oy C E dk (B i) a q o i st.sl st.ow).map λx=>⟨bn st.sl o.dst x.1,mq st.ow x.2⟩
   |none=>none))
 |none=>none
def fq {o:Oper} {b a:List SV} (h:∀d∈kp ops o,b[d]?=a[d]?):dD ops o b=dD ops o a:=by
 unfold dD
 cases hg:o.guard with
 |none=>rfl
 |some g=>
  obtain⟨j,c⟩:=g;simp only
  cases hd:(ops[j]?).bind (·.dst)with
  |none=>rfl
  |some d=>
   simp only;rw[h d (by simp[kp,hg,hd])]
def ef {o:Oper} {b a:List SV} (h:∀d∈kp ops o,b[d]?=a[d]?):∀x∈o.op.operands,iU b x=iU a x:=λx c=>by
 cases x with
 |tmp t=>
  have:=h t (by
   simp only[kp,a0k];exact .inl (List.mem_filterMap.2 ⟨.tmp t,by simpa using c,rfl⟩))
  simp only[iU,this]
 |const v=>rfl
 |global g=>rfl
 |func f=>rfl
def gp (h:∀x∈o.operands,ρ x=ρ' x):nj C o ρ ow d=nj C o ρ' ow d:=by
 unfold nj;split
 ·rfl
 ·rw[h _ (by simp[Op.operands])]
 ·rename_i t n ps
  have:(ps.toList.map λx=>(x.1,ρ x.2))=ps.toList.map λx=>(x.1,ρ' x.2):=a3d λp i=>by
   rw[h p.2 (by simp only[Op.operands,a7u,a4q];exact⟨p,i,rfl⟩)]
  simp only[this]
 ·rw[h _ (by simp[Op.operands]),h _ (by simp[Op.operands])]
 ·rw[h _ (by simp[Op.operands]),h _ (by simp[Op.operands])]
 ·rename_i args b
  have e:∀x∈args,ρ x=ρ' x:=λx c=>h x (by simp[Op.operands,Call.operands,c])
  split
  ·rename_i s x t tx a g
   rw[e s (by rw[<-a5b,a];simp),e x (by rw[<-a5b,a];simp)]
  ·rfl
 ·rename_i f args b
  have a:ρ f=ρ' f:=h f (by simp[Op.operands,Call.operands]);have g:args.toList.map ρ=args.toList.map ρ':=a3d λx c=>h x (by simp only[Op.operands,Call.operands,a5j];exact .inr (by simpa using c))
  rw[a,g]
 ·rw[wU h]
def ql (h:∀x∈o.operands,ρ x=ρ' x):zp C o ρ ow d=zp C o ρ' ow d:=by
 unfold zp;split
 ·rw[h _ (by simp[Op.operands]),gp h]
 ·rw[h _ (by simp[Op.operands]),h _ (by simp[Op.operands]),gp h]
 ·rename_i t n ps
  have:(ps.toList.map λx=>(x.1,ρ x.2))=ps.toList.map λx=>(x.1,ρ' x.2):=a3d λp c=>by
   rw[h p.2 (by simp only[Op.operands,a7u,a4q];exact⟨p,c,rfl⟩)]
  rw[this,gp h]
 ·rw[h _ (by simp[Op.operands]),h _ (by simp[Op.operands]),gp h]
 ·rename_i e
  have a:∀x∈e.args,ρ x=ρ' x:=λx f=>h x (by simp[Op.operands,Call.operands,f])
  split
  ·rename_i s x t tx g b i
   rw[a s (by rw[<-a5b,b];simp),a x (by rw[<-a5b,b];simp),gp h]
  ·exact gp h
 ·exact gp h
def D8 (h:∀x∈o.operands,ρ x=ρ' x):tM C o ρ ow d=tM C o ρ' ow d:=by
 unfold tM;split
 ·rename_i f args a
  have b:ρ f=ρ' f:=h f (by simp[Op.operands,Call.operands]);have c:args.toList.map ρ=args.toList.map ρ':=a3d λx e=>h x (by simp only[Op.operands,Call.operands,a5j];exact .inr (by simpa using e))
  rw[b,c,ql h]
 ·exact ql h
def gU {P:Program} (h:∀x∈o.operands,ρ x=ρ' x):f8 P o ρ ow=f8 P o ρ' ow:=by
 unfold f8;split
 ·rw[h _ (by simp[Op.operands])]
 ·rw[h _ (by simp[Op.operands])]
 ·rw[h _ (by simp[Op.operands])]
 ·rfl
def sE (h:iT ow d j=true):∃a,cj ow d j=some (.box a):=by
 unfold iT at h;split at h
 ·rename_i a b;exact⟨a,b⟩
 ·cases h
def io (m:∀d j n,cj ow d j=some n->cj ow' d j=some n) (h:f8 C.P o ρ ow=some s):(AA C o ρ ow').can λx=>x=s:=by
 have e:∀d j,iT ow d j=true->iT ow' d j=true:=by
  intro d j g;obtain⟨b,k⟩:=sE g;simp[iT,m d j _ k]
 unfold f8 at h;split at h
 ·rename_i t a
  split at h
  ·rename_i d j c i
   split at h
   ·rename_i b k
    simp only[AA,py,i,se,m d j _ k,h];exact rfl
   ·cases h
  ·cases h
 ·rename_i t a f
  split at h
  ·rename_i d j c q i l
   split at h
   ·cases h
   ·rename_i p
    split at h
    ·rename_i g
     cases h
     simp only[AA,py,i,k8,l,a0d p,e d j g,a1z];exact rfl
    ·cases h
  ·cases h
 ·rename_i a
  split at h
  ·rename_i d j c i
   split at h
   ·rename_i g
    cases h
    simp only[AA,py,i,mn,e d j g,a1z];exact rfl
   ·cases h
  ·cases h
 ·cases h
def AR {x:SV} (h:AC o ρ=some x):(AA C o ρ ow).can λs=>s=x:=by
 unfold AC at h;split at h
 ·cases h;exact rfl
 ·cases h;exact rfl
 ·rename_i t i
  split at h
  ·rename_i l a
   simp only[AA,py,a,h];exact rfl
  ·cases h
 ·cases h
def sG:(l:List (Option OB))-> {j:Nat}-> {x:OB}->(nV l)[j]?=some (some x)->l[j]?=some (some x)
 |[],_,_,h=>by cases h
 |o::r,j,x,h=>by
  unfold nV at h;split at h
  ·simp at h
  ·cases j with
   |zero=>simpa using h
   |succ j=>exact sG r (by simpa using h)
def D9 {a:List SV} (h:cj (zq ow) d j=some (.box a)):∃b,cj ow d j=some (.box b)/\a=b.map Q5:=by
 unfold cj zq at h;unfold cj;simp only[a5r]at h
 cases h1:ow[d]? with
 |none=>rw[h1]at h;cases h
 |some l=>
  rw[h1]at h;simp only[a1w]at h⊢;have e:(nV (l.map Qw))[j]?=some (some (.box a)):=by
   split at h
   ·rename_i o f;rw[f,h]
   ·cases h
  have c:=sG _ e;rw[a5r]at c
  cases h2:l[j]? with
  |none=>rw[h2]at c;cases c
  |some o=>
   rw[h2]at c;simp only[a1w,a0l]at c⊢;unfold Qw at c;split at c
   ·rename_i b
    cases c
    exact⟨b,rfl,rfl⟩
   ·cases c
def Ea (h:iT (zq ow) d j=true):iT ow d j=true:=by
 obtain⟨a,b⟩:=sE h;obtain⟨c,b,_⟩:=D9 b;simp[iT,b]
def wY (h:f8 C.P o ρ (zq ow)=some s) (l:Mg s=true):f8 C.P o ρ ow=some s:=by
 unfold f8 at h⊢;split at h
 ·rename_i t a
  split at h
  ·rename_i d j c m
   split at h
   ·rename_i e n
    obtain⟨b,g,rfl⟩:=D9 n;rw[g];simp only;unfold dy at h⊢;split at h
    ·cases h
    ·split at h
     ·split at h
      ·cases h;cases l
      ·cases h
     ·rename_i i
      rw[a0d i];rw[<-List.map_drop]at h
      cases hd:b.drop c with
      |nil=>rw[hd]at h;cases h
      |cons x r=>
       rw[hd]at h;simp only[a2g,a0l]at h;subst h
       cases x<;>first|rfl|(simp[Q5,Mg]at l)
   ·cases h
  ·cases h
 ·rename_i t a f
  split at h
  ·rename_i d j c u m p
   split at h
   ·cases h
   ·rename_i q
    rw[a0d q];split at h
    ·rename_i k
     rw[a0f (Ea k)];exact h
    ·cases h
  ·cases h
 ·rename_i a
  split at h
  ·rename_i d j c m
   split at h
   ·rename_i k
    rw[a0f (Ea k)];exact h
   ·cases h
  ·cases h
 ·cases h
def AS {a:List SV} (h:cj (nW ow) d j=some (.box a)):(∃c,cj ow d j=some (.box c))/\a=[]:=by
 unfold cj nW at h;unfold cj;simp only[a5r]at h
 cases h1:ow[d]? with
 |none=>rw[h1]at h;cases h
 |some l=>
  rw[h1]at h;simp only[a1w]at h⊢;have e:(nV (l.map Mf))[j]?=some (some (.box a)):=by
   split at h
   ·rename_i o f;rw[f,h]
   ·cases h
  have b:=sG _ e;rw[a5r]at b
  cases h2:l[j]? with
  |none=>rw[h2]at b;cases b
  |some o=>
   rw[h2]at b;simp only[a1w,a0l]at b⊢;unfold Mf at b;split at b
   ·cases b
    exact⟨⟨_,rfl⟩,rfl⟩
   ·cases b
def AT (h:iT (nW ow) d j=true):iT ow d j=true:=by
 obtain⟨a,b⟩:=sE h;obtain⟨⟨c,b⟩,_⟩:=AS b;simp[iT,b]
def uq (h:f8 C.P o ρ (nW ow)=some s):f8 C.P o ρ ow=some s:=by
 unfold f8 at h⊢;split at h
 ·rename_i t a
  split at h
  ·rename_i d j c g
   split at h
   ·rename_i b i
    obtain⟨_,rfl⟩:=AS i;unfold dy at h;split at h
    ·cases h
    ·split at h
     ·split at h
      ·rename_i k;simp at k;omega
      ·cases h
     ·simp at h
   ·cases h
  ·cases h
 ·rename_i t a f
  split at h
  ·rename_i d j c n g l
   split at h
   ·cases h
   ·rename_i m
    rw[a0d m];split at h
    ·rename_i e
     rw[a0f (AT e)];exact h
    ·cases h
  ·cases h
 ·rename_i a
  split at h
  ·rename_i d j c g
   split at h
   ·rename_i e
    rw[a0f (AT e)];exact h
   ·cases h
  ·cases h
 ·cases h
def i5 {b:OB} (h:cj (aL K 0 ow) d j=some b):cj ow d j=some b:=by
 have a:=aG h
 cases hd:K.contains d with
 |true=>rw[gl hd]at a;rw[lU,a];rfl
 |false=>rcases hU (ow:=ow) hd j with e|e<;>rw[e]at a<;>cases a
def Eb (h:∀x∈o.operands,ρ x=ρ' x):AD C o ρ=AD C o ρ':=by
 unfold AD;split
 ·rename_i f args a
  rw[h f (by simp[Op.operands,Call.operands])]
 ·rfl
def Ec (h:∀x∈o.operands,ρ x=ρ' x):tL C o ρ ow d=tL C o ρ' ow d:=by
 unfold tL;split
 ·rename_i f args a
  have b:ρ f=ρ' f:=h f (by simp[Op.operands,Call.operands]);have c:args.toList.map ρ=args.toList.map ρ':=a3d λx e=>h x (by simp only[Op.operands,Call.operands,a5j];exact .inr (by simpa using e))
  rw[b,c]
 ·rfl
def Ed (h:∀x∈o.operands,ρ x=ρ' x):AC o ρ=AC o ρ':=by
 unfold AC;split
 ·rw[h _ (by simp[Op.operands])]
 ·rw[h _ (by simp[Op.operands])]
 ·rw[h _ (by simp[Op.operands])]
 ·rfl
def Jx: {a b:SV}->QX a b=true->a=b
 | .wh _ _ _ _,.wh _ _ _ _,h=>by simp only[QX,a0e,a3b]at h;obtain⟨⟨⟨rfl,rfl⟩,rfl⟩,rfl⟩:=h;rfl
 | .bp _ _ _,.bp _ _ _,h=>by simp only[QX,a0e,a3b]at h;obtain⟨⟨rfl,rfl⟩,rfl⟩:=h;rfl
 | .dead,.dead,_=>rfl
def AU: {a b:List SV}->QY a b=true->a=b
 |[],[],_=>rfl
 |_::_,_::_,h=>by simp only[QY,a0e]at h;rw[Jx h.1,AU h.2]
def Jy: {a b:Option OB}->Rp a b=true->a=b
 |some (.box _),some (.box _),h=>by rw[AU h]
 |none,none,_=>rfl
def wZ: {a b:List (Option OB)}->Ol a b=true->a=b
 |[],[],_=>rfl
 |_::_,_::_,h=>by simp only[Ol,a0e]at h;rw[Jy h.1,wZ h.2]
def Ee (a:p5 q=true) (b:q.2=false) (e:zq ow=zq ow') (h:∀x∈o.operands,ρ x=ρ' x):p6 C c o q ρ ow d=p6 C c' o q ρ' ow' d:=by
 unfold p6;rw[b,a,e,gU h];rfl
def AV (a:p5 q=false) (b:vD q=true) (e:q.2=false) (f:nW ow=nW ow') (h:∀x∈o.operands,ρ x=ρ' x):p6 C c o q ρ ow d=p6 C c' o q ρ' ow' d:=by
 unfold p6;rw[e,a,b,f,gU h (ow:=nW ow')];rfl
def o9 (a:c=c') (h:∀x∈o.operands,ρ x=ρ' x):p6 C c o q ρ ow d=p6 C c' o q ρ' ow d:=by
 unfold p6;rw[a,AQ h,gU h (ow:=ow),gU h (ow:=zq ow),gU h (ow:=nW ow),Eb h,Ec h,Ed h]
def GP (h:AD C o ρ=true):Mh o=true:=by
 unfold AD at h;split at h
 ·rfl
 ·cases h
def Ct (h:(p6 C c o q ρ ow d).outB b=some (s,r)):∀z,r=some z->z.1=Qr d o q/\DH q.1 z.2=true:=by
 intro z a;unfold p6 at h;split at h
 ·rename_i i
  obtain⟨x,j,_,e⟩:=ba.outB_bind _ h;split at e
  ·rename_i f
   simp only[ba.outB,a0l,a0z]at e;simp only[a0e]at f;rw[<-e.2]at a
   cases a
   exact⟨by unfold Qr;rw[a0f i],f.1.1.1⟩
  ·cases e
 ·rename_i i
  split at h
  ·split at h
   ·split at h
    ·simp only[ba.outB,a0l,a0z]at h
     rw[<-h.2]at a;cases a
    ·cases h
   ·cases h
  split at h
  ·split at h
   ·simp only[ba.outB,a0l,a0z]at h
    rw[<-h.2]at a;cases a
   ·cases h
  split at h
  ·simp only[ba.outB,a0l,a0z]at h
   rw[<-h.2]at a;cases a
  ·split at h
   ·simp only[ba.outB,a0l,a0z]at h
    rw[<-h.2]at a;cases a
   ·split at h
    ·rename_i g
     obtain⟨x,j,_,e⟩:=ba.outB_bind _ h;split at e
     ·rename_i f
      simp only[ba.outB,a0l,a0z]at e;simp only[a0e]at f;rw[<-e.2]at a
      cases a
      exact⟨by unfold Qr;rw[a0d i,a0f (GP g)],f.1.1⟩
     ·cases e
    ·obtain⟨x,j,_,e⟩:=ba.outB_bind _ h
     split at e
     ·simp only[ba.outB,a0l,a0z]at e
      rw[<-e.2]at a;cases a
     ·cases e
def MA (h:(p6 C c o q ρ ow d).outB b=some (s,r)) (f:q.2=true) (g:we q=true):∃z,r=some (q.1,z)/\B8 q.1 d ow z=true:=by
 unfold p6 at h;rw[a0f f]at h;obtain⟨x,i,_,e⟩:=ba.outB_bind _ h;split at e
 ·rename_i a
  simp only[ba.outB,a0l,a0z]at e;simp only[a0e,g,a0o,a5s]at a;exact⟨x.2,e.2.symm,a.1.2⟩
 ·cases e
def Jz (h:(p6 C c o q ρ ow d).outB b=some (s,r)) (f:q.2=true) (g:qL q=true):∃z,r=some (q.1,z)/\vC q.1 d ow z=true:=by
 unfold p6 at h;rw[a0f f]at h;obtain⟨x,i,_,e⟩:=ba.outB_bind _ h;split at e
 ·rename_i a
  simp only[ba.outB,a0l,a0z]at e;simp only[a0e,g,a0o,a5s]at a;exact⟨x.2,e.2.symm,a.2⟩
 ·cases e
def w7 (e:Option OB->Option OB) {b:List Nat} {z:OW} (f:wd e b d (aL b 0 ow) z=true) (g:K.contains d=false):((aL K 0 (bU b 0 ow z)).map λl=>nV (l.map e))=(aL K 0 ow).map λl=>nV (l.map e):=by
 apply a2e;intro n;simp only[a5r];rw[dQ,dQ,dJ]
 cases ho:ow[n]? with
 |none=>rfl
 |some x=>
  simp only[a1w,a1p,a0l]
  cases hk:K.contains n with
  |false=>rfl
  |true=>
   cases hx:b.contains n with
   |false=>rfl
   |true=>
    have c:n≠d:=λe=>by rw[e,g]at hk;cases hk
    have a:=a1g.1 f n (by simpa using hx);have h:(n==d)=false:=by simpa using c
    rw[h,a5s,dQ,ho]at a;simp only[a1w,a1p,hx,a1z]at a
    cases hz:z[n]? with
    |none=>rw[hz]at a;cases a
    |some y=>
     rw[hz]at a;simp only[a1z,a2r];exact(wZ a).symm
def GQ (a:cW ow=true) (b:∀z,r=some z->cW z.2=true):cW (mq ow r)=true:=by
 cases r with
 |none=>exact a
 |some z=>exact D6 a (b z rfl)
def Cu (E:Oper->(Operand->SV)->OW->ba (SV×OW)):Prop:=∀(o:Oper) (ρ a:Operand->SV) (ow:OW),(∀x∈o.op.operands,ρ x=a x)->E o ρ ow=E o a ow
def kz {i:Nat} {st a:St} (h:iH C E dk B ops ks i st=some a):∃o,ops[i]?=some o/\
 ((dD ops o st.sl=some false/\a=⟨bn st.sl o.dst (.tup []),st.ow⟩)\/
 (dD ops o st.sl=some true/\∃q s r,ks[i]?=some q/\cW st.ow=true/\(p6 C (E o (iU st.sl) (aL q.1 0 st.ow)) o.op q (iU st.sl) (aL q.1 0 st.ow) (dk o)).outB (B i)=some (s,r)/\a=⟨bn st.sl o.dst (dz (dZ ops i) s),mq st.ow r⟩)):=by
 unfold iH at h
 cases ho:ops[i]? with
 |none=>rw[ho]at h;cases h
 |some o=>
  rw[ho]at h;refine⟨o,rfl,?_⟩;simp only at h
  cases hw:dD ops o st.sl with
  |none=>
   rw[hw]at h;simp only at h
   cases hk:ks[i]? with
   |none=>rw[hk]at h;cases h
   |some q=>rw[hk]at h;simp[Oy,hw]at h
  |some b=>
   cases b with
   |false=>
    rw[hw]at h;simp only[a0l]at h;exact .inl ⟨rfl,h.symm⟩
   |true=>
    rw[hw]at h;simp only at h
    cases hk:ks[i]? with
    |none=>rw[hk]at h;cases h
    |some q=>
     rw[hk]at h;simp only[Oy,hw,a2j]at h;obtain⟨x,c,rfl⟩:=h;split at c
     ·rename_i d
      rw[a2j]at c;obtain⟨⟨s,r⟩,e,rfl⟩:=c;exact .inr ⟨rfl,q,s,r,rfl,d,e,rfl⟩
     ·cases c
def er {i:Nat} {st:St} {o:Oper} (b:ops[i]?=some o):
 (dD ops o st.sl=some false->iH C E dk B ops ks i st=some ⟨bn st.sl o.dst (.tup []),st.ow⟩)/\
 (dD ops o st.sl=some true->∀q s r,ks[i]?=some q->cW st.ow=true->(p6 C (E o (iU st.sl) (aL q.1 0 st.ow)) o.op q (iU st.sl) (aL q.1 0 st.ow) (dk o)).outB (B i)=some (s,r)->iH C E dk B ops ks i st=some ⟨bn st.sl o.dst (dz (dZ ops i) s),mq st.ow r⟩):=by
 refine⟨λa=>by simp[iH,b,a],λa q s r c d e=>by simp[iH,b,a,c,Oy,d,e]⟩
def w8 (X:Cu E) (i j:Nat) (s s1 s2:St) (Y:p7 dk ops ks i j=true) (h1:iH C E dk B ops ks i s=some s1) (Z:iH C E dk B ops ks j s1=some s2):∃T,iH C E dk B ops ks j s=some T/\iH C E dk B ops ks i T=some s2:=by
 obtain⟨x,O,h1⟩:=kz h1;obtain⟨y,P,Z⟩:=kz Z;unfold p7 iA at Y;rw[O,P]at Y;simp only[a0e]at Y;obtain⟨I,p⟩:=Y;unfold Gp at I;simp only[a0e]at I;obtain⟨a1,a2⟩:=I;have k1:∀d,x.dst=some d->d∉kp ops y/\y.dst≠some d:=by
  intro d f;rw[f]at a1;simpa using a1
 have k2:∀d,y.dst=some d->d∉kp ops x:=by
  intro d f;rw[f]at a2;simpa using a2
 have t:∀(q:List SV) (u:SV),∀d∈kp ops y,(bn q x.dst u)[d]?=q[d]?:=λq u d f=>lX λe=>(k1 d e).1 f
 have w:∀(q:List SV) (u:SV),∀d∈kp ops x,(bn q y.dst u)[d]?=q[d]?:=λq u d f=>lX λe=>k2 d e f
 have l:∀(q:List SV) (u v:SV),bn (bn q x.dst u) y.dst v=bn (bn q y.dst v) x.dst u:=λq u v=>wW λd f=>(k1 d f).2
 rcases h1 with⟨w1,rfl⟩|⟨w1,H,A,J,e1,K,Q,rfl⟩
 ·rcases Z with⟨L,rfl⟩|⟨L,F,D,m,e2,U,R,rfl⟩
  ·have g:dD ops y s.sl=some false:=by rw[<-fq (t s.sl (.tup []))];exact L
   refine⟨_,(er P).1 g,?_⟩;have k:dD ops x (bn s.sl y.dst (.tup []))=some false:=by rw[fq (w s.sl (.tup []))];exact w1
   rw[(er O).1 k];simp only[l]
  ·have g:dD ops y s.sl=some true:=by rw[<-fq (t s.sl (.tup []))];exact L
   have G:(p6 C (E y (iU s.sl) (aL F.1 0 s.ow)) y.op F (iU s.sl) (aL F.1 0 s.ow) (dk y)).outB (B j)=some (D,m):=by rw[<-o9 (X _ _ _ _ (ef (t s.sl (.tup [])))) (ef (t s.sl (.tup [])))];exact R
   refine⟨_,(er P).2 g F D m e2 U G,?_⟩;have k:dD ops x (bn s.sl y.dst (dz (dZ ops j) D))=some false:=by rw[fq (w s.sl _)];exact w1
   rw[(er O).1 k];simp only[l]
 ·rcases Z with⟨L,rfl⟩|⟨L,F,D,m,e2,U,R,rfl⟩
  ·have g:dD ops y s.sl=some false:=by rw[<-fq (t s.sl (dz (dZ ops i) A))];exact L
   refine⟨_,(er P).1 g,?_⟩;have k:dD ops x (bn s.sl y.dst (.tup []))=some true:=by rw[fq (w s.sl (.tup []))];exact w1
   have M:(p6 C (E x (iU (bn s.sl y.dst (.tup []))) (aL H.1 0 s.ow)) x.op H (iU (bn s.sl y.dst (.tup []))) (aL H.1 0 s.ow) (dk x)).outB (B i)=some (A,J):=by rw[o9 (X _ _ _ _ (ef (w s.sl (.tup [])))) (ef (w s.sl (.tup [])))];exact Q
   have N:=(er (C:=C) (E:=E) (dk:=dk) (ks:=ks) (st:=⟨bn s.sl y.dst (.tup []),s.ow⟩) O).2 k H A J e1 K M;refine N.trans ?_
   simp only[l]
  ·rw[e1,e2]at p
   simp only[O,P,a0e]at p;have p1:=Ct Q;have p2:=Ct R;have dj:∀ {a b:List Nat},Mi a b=true->∀d,a.contains d=true->b.contains d=false:=λ {a b} h d f=>by
    have:=a1g.1 h d (by simpa using f);simpa using this
   have clear:∀ {b:Option (Nat->Bool)} {d:Nat} {o:Op} {c:ba (SV×OW)} {S n:List Nat×Bool} {ρ:Operand->SV} {v:SV} {r:Option (List Nat×OW)} (W:OW),aL S.1 0 W=aL S.1 0 s.ow->B9 d o S n=true->(p6 C c o S ρ (aL S.1 0 s.ow) d).outB b=some (v,r)->aL n.1 0 (mq W r)=aL n.1 0 W\/(p5 n=true/\n.2=false/\zq (aL n.1 0 (mq W r))=zq (aL n.1 0 W))\/(p5 n=false/\vD n=true/\n.2=false/\nW (aL n.1 0 (mq W r))=nW (aL n.1 0 W)):=by
    intro b d o c S n ρ v r W hW hc ho;have pa:=Ct ho;unfold B9 at hc;rw[a4d,a4d]at hc;rcases hc with(hc|hc)|hc
    ·left
     cases r with
     |none=>rfl
     |some z=>exact GK (λd f=>dj hc d (by rw[<-(pa z rfl).1];exact f)) _ _
    ·right
     simp only[a0e,a2o]at hc;obtain⟨⟨⟨⟨c1,c2⟩,c3⟩,c4⟩,c5⟩:=hc;obtain⟨z,rfl,V⟩:=MA ho c1 c2;rw[<-hW]at V;exact .inl ⟨c3,c4,w7 Qw V c5⟩
    ·right
     simp only[a0e,a2o]at hc;obtain⟨⟨⟨⟨⟨c1,c2⟩,c0⟩,c3⟩,c4⟩,c5⟩:=hc;obtain⟨z,rfl,V⟩:=Jz ho c1 c2;rw[<-hW]at V;exact .inr ⟨c0,c3,c4,w7 Mf V c5⟩
   have R0:mq (mq s.ow J) m=mq (mq s.ow m) J:=by
    cases J with
    |none=>cases m<;>rfl
    |some z1=>
     cases m with
     |none=>rfl
     |some z2=>exact GL (λd f=>by rw[(p2 z2 rfl).1];exact dj p.2 d (by rw[<-(p1 z1 rfl).1];exact f)) _ _ _
   have R1:∀z,m=some z->cW z.2=true:=λz hz=>by
    have:=(p2 z hz).2;simp only[DH,a0e]at this;exact this.2
   have g:dD ops y s.sl=some true:=by rw[<-fq (t s.sl (dz (dZ ops i) A))];exact L
   have G:(p6 C (E y (iU s.sl) (aL F.1 0 s.ow)) y.op F (iU s.sl) (aL F.1 0 s.ow) (dk y)).outB (B j)=some (D,m):=by
    rcases clear s.ow rfl p.1.1 Q with hm2|⟨hw,hq,hm2⟩|⟨h0,hw,hq,hm2⟩
    ·rw[<-o9 (X _ _ _ _ (ef (t s.sl (dz (dZ ops i) A)))) (ef (t s.sl (dz (dZ ops i) A))),<-hm2];exact R
    ·rw[<-R];exact a1v (λc=>ba.outB c (B j)) (Ee hw hq hm2.symm (λx hx=>(ef (t s.sl (dz (dZ ops i) A)) x hx).symm))
    ·rw[<-R];exact a1v (λc=>ba.outB c (B j)) (AV h0 hw hq hm2.symm (λx hx=>(ef (t s.sl (dz (dZ ops i) A)) x hx).symm))
   refine⟨_,(er P).2 g F D m e2 K G,?_⟩;have k:dD ops x (bn s.sl y.dst (dz (dZ ops j) D))=some true:=by rw[fq (w s.sl _)];exact w1
   have M:(p6 C (E x (iU (bn s.sl y.dst (dz (dZ ops j) D))) (aL H.1 0 (mq s.ow m))) x.op H (iU (bn s.sl y.dst (dz (dZ ops j) D))) (aL H.1 0 (mq s.ow m)) (dk x)).outB (B i)=some (A,J):=by
    rcases clear s.ow rfl p.1.2 G with hm1|⟨hw,hq,hm1⟩|⟨h0,hw,hq,hm1⟩
    ·rw[o9 (X _ _ _ _ (ef (w s.sl _))) (ef (w s.sl _)),hm1];exact Q
    ·rw[<-Q];exact a1v (λc=>ba.outB c (B i)) (Ee hw hq hm1 (ef (w s.sl _)))
    ·rw[<-Q];exact a1v (λc=>ba.outB c (B i)) (AV h0 hw hq hm1 (ef (w s.sl _)))
   have N:=(er (C:=C) (E:=E) (dk:=dk) (ks:=ks) (st:=⟨bn s.sl y.dst (dz (dZ ops j) D),mq s.ow m⟩) O).2 k H A J e1 (GQ K R1) M;refine N.trans ?_
   simp only[l,R0]
def Ef (d:Cu E) (B:Nat->Nat->Bool) (i j:Nat) (s b c:St) (e:p7 dk ops ks i j=true) (f:iH C E dk (λ_=>some (B i)) ops ks i s=some b) (g:iH C E dk (λ_=>some (B j)) ops ks j b=some c):∃a,iH C E dk (λ_=>some (B j)) ops ks j s=some a/\iH C E dk (λ_=>some (B i)) ops ks i a=some c:=w8 (B:=λn=>some (B n)) d i j s b c e f g
def mG {b:Option (Nat->Bool)} {args:List SV} {ow:OW} {d:Nat} {x:SV×OW}:(a:List iR)->(mo args ow d a).outB b=some x->∃c,bX ow d c=some x.2
 |[],h=>by cases h
 |sg::r,h=>by
  unfold mo at h;split at h
  ·split at h
   ·simp only[ba.outB,a2k]at h
    obtain⟨y,_,h⟩:=h;split at h
    ·rename_i ow' e
     simp only[ba.outB,a0l]at h;rw[<-h];exact⟨_,e⟩
    ·cases h
   ·exact mG r h
  ·exact mG r h
def w9 {x:SV×OW} (h:(tL C o ρ ow d).outB b=some x):∃a,bX ow d a=some x.2:=by
 unfold tL at h;split at h
 ·split at h
  ·exact mG _ h
  ·cases h
 ·cases h
def AW {b:List OB} {z:OW} (h:bX (aL K 0 ow) d b=some z) (c:K.contains d=true):bU [d] 0 ow z=bU K 0 ow z:=by
 have f:∀n,n≠d->z[n]?=(aL K 0 ow)[n]?:=by
  intro n a;unfold bX at h;split at h
  ·rw[<-a1e h]
  ·split at h
   ·rw[<-a1e h,a2z (λe=>a e.symm)]
   ·cases h
 apply a2e;intro n;rw[dJ,dJ]
 cases ho:ow[n]? with
 |none=>rfl
 |some x=>
  simp only[a1w,a0l,a1p];by_cases a:n=d
  ·subst a
   have g:([n]:List Nat).contains n=true:=by simp
   rw[g,c]
  ·have i:([d]:List Nat).contains n=false:=by simp[a]
   rw[i]
   cases hk:K.contains n with
   |false=>rfl
   |true=>
    rw[f n a,dQ,ho];simp only[a1w,a1p,hk,a1z,a2r];rfl
def L0 (C:gI) (o:Oper) (ρ:Operand->SV) (ow:OW):ba (SV×OW):=tM C o.op ρ ow (o.dst.getD 0)
def JA (C:gI):Cu (L0 C):=λo ρ a ow h=>D8 h
def QB (C:gI) (a:Option Nat->Nat) (o:Oper) (ρ:Operand->SV) (ow:OW):ba (SV×OW):=zp C o.op ρ ow (a o.dst)
def JB (C:gI) (a:Option Nat->Nat):Cu (QB C a):=λo ρ b ow h=>ql h
def qm {α:Type} {C:gI} {a:Array Oper} {ks:List (List Nat×Bool)} {k:St->Option α} {r:α} (B:Nat->Nat->Bool):(l:List (Oper×Nat))->(∀p∈l,a[p.2]?=some p.1)-> {st:St}->sn C a ks l st k=some r->∃c,kW (iH C (L0 C) qM (λi=>some (B i)) a ks) (l.map (·.2)) st=some c/\k c=some r
 |[],_,st,h=>⟨st,rfl,h⟩
 |(o,i)::l,hl,st,h=>by
  have f:=hl (o,i) (by simp);simp only at f;have d:∀p∈l,a[p.2]?=some p.1:=λp n=>hl p (by simp[n])
  unfold sn at h;simp only[a2g,kW];split at h
  ·cases h
  ·rename_i g
   obtain⟨b,j,e⟩:=qm B l d h;rw[(er (E:=L0 C) (dk:=qM) (B:=λi=>some (B i)) f).1 g];exact⟨b,j,e⟩
  ·rename_i g
   split at h
   ·rename_i q t
    split at h
    ·rename_i m
     obtain⟨s,j,e⟩:=ba.run_outB _ h (B i);rw[q8]at e;obtain⟨b,u,v⟩:=qm B l d e;rw[(er (E:=L0 C) (dk:=qM) (B:=λi=>some (B i)) f).2 g q s.1 s.2 t m j];exact⟨b,u,v⟩
    ·cases h
   ·cases h
