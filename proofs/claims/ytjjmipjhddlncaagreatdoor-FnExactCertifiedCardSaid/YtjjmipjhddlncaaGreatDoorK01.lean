/-
  PEV, part 15: packing and unpacking.
-/
import Derived.Test.YtjjmipjhddlncaaGreatDoorK00
import Derived.LoopN
import Derived.Orders
set_option linter.all false
namespace Go.Pev
variable {F:Nat->Prop} {G:Gh} {ow ow1 ow2:OW} {w:World}
def Gc {b:Nat}:FP F [] b↔F b:=by simp[FP]
def If {b:Nat} (h:cR F G ow b):cR (FP F []) G ow b:=⟨λa=>h.1 (Gc.1 a),h.2⟩
def mr {f1 f2:List Nat} {b:Nat}:FP (FP F f1) f2 b↔FP F (f1++f2) b:=by simp[FP,or_assoc]
def N3 {c:Nat} {f2:List Nat} {b:Nat}:FP (FP F [c]) f2 b↔FP F (c::f2) b:=by simp[FP,or_assoc]
def fQ {a:Nat->Prop} (c:∀b,a b->F b) {b:Nat} (h:cR F G ow b):cR a G ow b:=⟨λd=>h.1 (c b d),h.2⟩
def Sv.fn_inv {f:Fn} {a b:List SV} {v:Value} (h:Sv F G ow w.heap (.fn f a b) v):∃xs ys,v= .func f xs.toArray ys.toArray/\dn F G ow w.heap a xs/\dn F G ow w.heap b ys:=by
 cases h with
 |fn h1 h2 h3 h4=>exact⟨_,_,rfl,⟨h1,h3⟩,⟨h2,h4⟩⟩
def dn.single {l:List SV} {v:Value} (h:dn F G ow w.heap l [v]):∃s,l=[s]/\Sv F G ow w.heap s v:=by
 obtain⟨a,h⟩:=h
 match l,a,h with
 |[s],_,h=>exact⟨s,rfl,h 0 (by simp) (by simp)⟩
def dn.single' {s:SV} {vs:List Value} (h:dn F G ow w.heap [s] vs):∃v,vs=[v]/\Sv F G ow w.heap s v:=by
 obtain⟨v,a,rfl,b,c⟩:=h.uncons;have:a=[]:=a0s c.1.symm;subst this;exact⟨v,rfl,b⟩
def B7 {k:Kd} {s:SV} {l:List k.T} (e:qq k s ow=some (l,ow1)):∃d j r,jH s=some (d,j)/\kY ow s=some r/\nz ow d j=true/\r=⟨k,l⟩/\ow1=bw ow d j none:=by
 unfold qq at e;split at e
 ·rename_i d j r c f
  split at e
  ·rename_i g
   split at e
   ·rename_i b
    obtain⟨i,h⟩:=r;dsimp only at b e;subst b;simp only[a0k,a0y]at e;obtain⟨a,rfl⟩:=e;have a:h=l:=a;subst a;exact⟨d,j,_,c,f,g,rfl,rfl⟩
   ·cases e
  ·cases e
 ·cases e
def px (K:bz F G ow w.heap) {k:Kd} {s:SV} {v:Value} (O:Sv F G ow w.heap s v) {l:List k.T} (e:qq k s ow=some (l,ow1)):∃z,dt ow ow1/\ju G ow ow1 z/\z.Nodup/\rN w.heap (cR (FP F z) G ow1) k l v z:=by
 obtain⟨d,j,r,P,B,n,rfl,rfl⟩:=B7 e;obtain⟨g,⟨ver,l0,A⟩,a,c,rfl,q,p⟩:=qG K O P B n;have C:aj ow d j≠none:=by rw[A];simp
 have D:=rR (ow:=ow) (d:=d) (j:=j) (by rw[A];trivial);have i:=λd' j'=>aW (o:=none) (d':=d') (j':=j') C
 have t:=(K.obs d j _ A).1;rcases p with⟨Q,R,S,U⟩|⟨b,o,L,E,et,M,V,H,I,u⟩
 ·refine⟨[],D,λb=> ?_,a2j,g,a,c,rfl,q,.inl ⟨R,S,U,rfl⟩⟩
  constructor
  ·intro h;simp at h
  ·rintro⟨d',j',y,L,n,m,f⟩
   rw[i]at f;split at f
   ·rename_i e
    rw[e.1,e.2]at m
    cases y with
    |zero=>rw[Q]at m;cases m
    |succ y=>rw[t]at m;cases m
   ·rw[f]at n;exact n.elim
 ·have N:ju G ow (bw ow d j none) [b]:=by
   intro W;constructor
   ·intro J
    have:W=b:=by simpa using J
    subst this;exact⟨d,j,0,L,by rw[A];trivial,M,by rw[i];simp⟩
   ·rintro⟨d',j',y,Y,n,m,f⟩
    rw[i]at f;split at f
    ·rename_i e
     rw[e.1,e.2]at m
     cases y with
     |zero=>rw[M]at m;cases m;simp
     |succ y=>rw[t]at m;cases m
    ·rw[f]at n;exact n.elim
  refine⟨[b],D,N,by simp,g,a,c,rfl,q,.inr ⟨b,o,E,et,V,rfl,H,I.mono λx cs X=>cz.mono (λb r H B=>⟨eC D N H,B⟩) _ X,u⟩⟩
def cC:(s:Sh)-> {F:Nat->Prop}-> {ow ow1:OW}->(∀b,F b->b<w.heap.size)->bz F G ow w.heap-> {h:List SV}-> {vs:List Value}->dn F G ow w.heap h vs-> {x:s.T}->pk s h ow=some (x,ow1)->∃A,dt ow ow1/\ju G ow ow1 A/\A.Nodup/\cq w.heap (cR (FP F A) G ow1) s x vs A
 | .pur kd,F,ow,ow1,hF,hh,h,vs,m,x,e=>by
  match h,m,e with
  |[],_,e=>simp[pk]at e
  |[s],m,e=>
   simp only[pk]at e;obtain⟨v,rfl,p⟩:=m.single';exact⟨[],(tr e).taken,(tr e).fpOk,a2j,v,rfl,rfl,(IT hh hF p e).mono λb r Y hr=>⟨If Y,hr⟩⟩
  |_::_::_,_,e=>simp[pk]at e
 | .own k,F,ow,ow1,hF,hh,h,vs,m,x,e=>by
  match h,m,e with
  |[],_,e=>simp[pk]at e
  |[s],m,e=>
   simp only[pk]at e;obtain⟨v,rfl,p⟩:=m.single';split at e
   ·split at e
    ·rename_i R
     simp only[a0k,a0y]at e;obtain⟨rfl,rfl⟩:=e
     cases p
     exact⟨[],.refl _,.refl _ _,a2j,_,rfl,R,none,0,rfl,a1l _,.inl ⟨rfl,rfl,rfl,rfl⟩⟩
    ·cases e
   ·obtain⟨A,u,t,E,H⟩:=px hh p e
    exact⟨A,u,t,E,v,rfl,H⟩
  |_::_::_,_,e=>simp[pk]at e
 | .row k,F,ow,ow1,hF,hh,h,vs,m,x,e=>by
  match h,m,e with
  |[],_,e=>simp[pk]at e
  |[s],m,e=>
   simp only[pk]at e;obtain⟨v,rfl,p⟩:=m.single';split at e
   ·obtain⟨A,u,t,E,H⟩:=px hh p e
    exact⟨A,u,t,E,v,rfl,H⟩
   ·cases e
  |_::_::_,_,e=>simp[pk]at e
 | .rows s,F,ow,ow1,hF,hh,h,vs,m,x,e=>by
  match h,m,e with
  |[],_,e=>simp[pk]at e
  |[s0],m,e=>
   simp only[pk]at e;obtain⟨v,rfl,p⟩:=m.single';split at e
   ·split at e
    ·rename_i R
     simp only[a0k,a0y]at e;obtain⟨rfl,rfl⟩:=e
     cases p
     exact⟨[],.refl _,.refl _ _,a2j,_,rfl,R,none,0,rfl,a1l _,.inl ⟨rfl,rfl,rfl,rfl⟩⟩
    ·cases e
   ·split at e
    ·rename_i d j R
     split at e
     ·rename_i Ql h0
      exact AA hh p R h0 e λh vs m x ow1 e=>cC s hF hh m e
     ·cases e
    ·cases e
  |_::_::_,_,e=>simp[pk]at e
 | .nrw s,F,ow,ow1,hF,hh,h,vs,m,x,e=>by
  match h,m,e with
  |[],_,e=>simp[pk]at e
  |[s0],m,e=>
   simp only[pk]at e;obtain⟨v,rfl,p⟩:=m.single';split at e
   ·rename_i d j ver Qu
    split at e
    ·rename_i Ql h0
     exact AA hh p (d:=d) (j:=j) rfl h0 e λh vs m x ow1 e=>cC s hF hh m e
    ·cases e
   ·cases e
  |_::_::_,_,e=>simp[pk]at e
 | .box l,F,ow,ow1,hF,hh,h,vs,m,x,e=>by
  match h,m,e with
  |[],_,e=>simp[pk]at e
  |[s],m,e=>
   obtain⟨v,rfl,p⟩:=m.single'
   cases s with
   |bp d j c=>
    simp only[pk]at e;split at e
    ·rename_i K L
     split at e
     ·rename_i S
      have M:=aH L;have Qm:aj ow d j≠none:=by rw[M];simp
      obtain⟨Qn,b,o,r,et,hG,Y,Qv,hc⟩:=hh.obs d j _ M
      cases p with
      |bp p=>
      simp only[M]at p;obtain⟨q,o',U,rfl⟩:=p;rw[hG]at U;cases U
      obtain⟨rfl,S⟩:=S;have Z:=rR (ow:=ow) (d:=d) (j:=j) (by rw[M];trivial);have J:=λd' j'=>aW (o:=none) (d':=d') (j':=j') Qm
      have hf:ju G ow (bw ow d j none) [b]:=by
       intro q;constructor
       ·intro hb'
        have:q=b:=by simpa using hb'
        subst this;exact⟨d,j,0,o,by rw[M];trivial,hG,by rw[J];simp⟩
       ·rintro⟨d',j',i',o2,hi,L,N⟩
        rw[J]at N;split at N
        ·rename_i e
         rw[e.1,e.2]at L
         cases i' with
         |zero=>rw[hG]at L;cases L;simp
         |succ i'=>rw[Qn]at L;cases L
        ·rw[N]at hi;exact hi.elim
      obtain⟨O,C⟩:=cM hh Z hf;have Qo:b<w.heap.size:=(a1b.1 Y).1;have P:∀q,FP F [b] q->q<w.heap.size:=by
       intro q hb';rcases hb' with hb'|hb'
       ·exact hF q hb'
       ·have:q=b:=by simpa using hb'
        subst this;exact Qo
      have I:dn (FP F [b]) G (bw ow d j none) w.heap K (bP r o l.len):=by
       refine⟨by rw[aY (by omega)];omega,λi u t=> ?_⟩;have e1:(bP r o l.len)[i]=r[o+i]'(by omega):=by
        have:=aM (r:=r) (o:=o) (n:=l.len) (i:=i) (by omega);rw[a0a t,a1n (by omega)]at this;exact a1h this
       rw[e1];exact C _ _ (hc i (by omega) (by omega))
      obtain⟨Q,u,t,E,H⟩:=cC l P O I e;have Qp:b∉Q:=λB=>(hf.notOwn hh Z (by simp:b∈[b])) (t.own B)
      refine⟨b::Q,Z.trans u,λx=> ?_,a4s.2 ⟨Qp,E⟩,b,o,r,et,Q,rfl,rfl,Y,by omega,?_⟩
      ·rw[F9.trans Z u,<-hf x,<-t x]
       simp
      ·exact cq.mono (λq r' hb' D=>⟨fQ (λV B=>N3.2 B) hb',D⟩) l (λ_ _=>rfl) H
     ·cases e
    ·cases e
   |_=>simp[pk]at e
  |_::_::_,_,e=>simp[pk]at e
 | .agg l,F,ow,ow1,hF,hh,h,vs,m,x,e=>by
  match h,m,e with
  |[],_,e=>simp[pk]at e
  |[s],m,e=>
   obtain⟨v,rfl,p⟩:=m.single'
   cases s with
   |agg cs=>
    simp only[pk]at e;obtain⟨us,rfl,Qq⟩:=p.agg_inv;obtain⟨A,u,t,E,H⟩:=cC l hF hh Qq e;exact⟨A,u,t,E,us,rfl,H⟩
   |_=>simp[pk]at e
  |_::_::_,_,e=>simp[pk]at e
 | .fn f n l,F,ow,ow1,hF,hh,h,vs,m,x,e=>by
  match h,m,e with
  |[],_,e=>simp[pk]at e
  |[s],m,e=>
   obtain⟨v,rfl,p⟩:=m.single'
   cases s with
   |fn g a b=>
    simp only[pk]at e;split at e
    ·rename_i hc
     obtain⟨rfl,M⟩:=hc;obtain⟨xs,ys,rfl,B,W⟩:=p.fn_inv;obtain⟨A,u,t,E,H⟩:=cC l hF hh (B.append W) e;exact⟨A,u,t,E,xs,ys,rfl,by rw[<-B.1,M],H⟩
    ·cases e
   |_=>simp[pk]at e
  |_::_::_,_,e=>simp[pk]at e
 | .ign,F,ow,ow1,hF,hh,h,vs,m,x,e=>by
  match h,m,e with
  |[],_,e=>simp[pk]at e
  |[s],m,e=>
   simp only[pk,a0k,a0y]at e;obtain⟨v,rfl,p⟩:=m.single';rw[<-e.2];exact⟨[],.refl _,.refl _ _,a2j,v,rfl,rfl⟩
  |_::_::_,_,e=>simp[pk]at e
 | .nl,F,ow,ow1,hF,hh,h,vs,m,x,e=>by
  match h,m,e with
  |[],_,e=>simp[pk]at e
  |[s],m,e=>
   obtain⟨v,rfl,p⟩:=m.single'
   cases s with
   |nils=>
    simp only[pk,a0k,a0y]at e
    cases p
    rw[<-e.2];exact⟨[],.refl _,.refl _ _,a2j,rfl,rfl⟩
   |_=>simp[pk]at e
  |_::_::_,_,e=>simp[pk]at e
 | .nil,F,ow,ow1,hF,hh,h,vs,m,x,e=>by
  match h,m,e with
  |[],m,e=>
   simp only[pk,a0k,a0y]at e;have:vs=[]:=a0s m.1.symm;subst this;rw[<-e.2];exact⟨[],.refl _,.refl _ _,a2j,rfl,rfl⟩
  |_::_,_,e=>simp[pk]at e
 | .cons a b,F,ow,ow1,hF,hh,h,vs,m,x,e=>by
  match h,m,e with
  |[],_,e=>simp[pk]at e
  |s::r,m,e=>
   simp only[pk]at e;split at e
   ·rename_i y W
    split at e
    ·rename_i z hz
     cases e
     obtain⟨v,Qr,rfl,p,X⟩:=m.uncons;obtain⟨f1,t1,o1,n1,r1⟩:=cC a (x:=y.1) (ow1:=y.2) hF hh (.cons p .nil) W;obtain⟨O,C⟩:=cM hh t1 o1;have P:∀q,FP F f1 q->q<w.heap.size:=by
      intro q hb';rcases hb' with hb'|hb'
      ·exact hF q hb'
      ·exact cm.lt hh (o1.own hb')
     obtain⟨f2,t2,o2,n2,r2⟩:=cC b (x:=z.1) (ow1:=z.2) P O ⟨X.1,λi u t=>C _ _ (X.2 i u t)⟩ hz;refine⟨f1++f2,t1.trans t2,λx=> ?_,a2d.2 ⟨n1,n2,λx B y W Qt=> ?_⟩,v,Qr,f1,f2,rfl,rfl,?_,?_⟩
     ·rw[F9.trans t1 t2,<-o1 x,<-o2 x,a0l]
     ·subst Qt
      exact o1.notOwn hh t1 B (o2.own W)
     ·exact cq.mono (λq r' hb' D=>⟨fQ (λV B=>mr.2 B) (eC t2 o2 hb'),D⟩) a (λ_ _=>rfl) r1
     ·exact cq.mono (λq r' hb' D=>⟨fQ (λV B=>mr.2 B) hb',D⟩) b (λ_ _=>rfl) r2
    ·cases e
   ·cases e
def mt (h:Array Obj) (ok:Nat->Prop) (G:Gh) (ow:OW) (l:List SV) (vs:List Value):Prop:=l.length=vs.length/\∀i (a:i<l.length) (b:i<vs.length),ct h ok G ow l[i] vs[i]
section
variable {h:Array Obj} {ok:Nat->Prop}
def mt.nil:mt h ok G ow [] []:=⟨rfl,λi h=>by simp at h⟩
def mt.cons {s:SV} {l:List SV} {v:Value} {vs:List Value} (c:ct h ok G ow s v) (b:mt h ok G ow l vs):mt h ok G ow (s::l) (v::vs):=⟨by simp[b.1],λi a d=>by
 cases i with
 |zero=>exact c
 |succ i=>exact b.2 i (by simpa using a) (by simpa using d)⟩
def mt.append {l d:List SV} {vs a:List Value} (b:mt h ok G ow l vs) (c:mt h ok G ow d a):mt h ok G ow (l++d) (vs++a):=by
 refine⟨by simp[b.1,c.1],λi e f=> ?_⟩;rcases a3y i l.length with h|h
 ·rw[a1j h,a1j (b.1▸h)]
  exact b.2 _ _ _
 ·rw[a1z h,a1z (b.1▸h)]
  simp only[b.1];exact c.2 _ _ _
def mt.take {l:List SV} {vs:List Value} (a:mt h ok G ow l vs) (n:Nat):mt h ok G ow (l.take n) (vs.take n):=⟨by simp[a.1],λi b c=>by simp only[a5d];exact a.2 _ _ _⟩
def mt.drop {l:List SV} {vs:List Value} (a:mt h ok G ow l vs) (n:Nat):mt h ok G ow (l.drop n) (vs.drop n):=⟨by simp[a.1],λi b c=>by simp only[a6k];exact a.2 _ _ _⟩
def tv:(k:Kd)-> {x:k.T}-> {cs:List Value}->(k.leafy=true)->cz h ok k x cs->mt h ok G ow (ma k x) cs
 | .nil,_,_,_,e=>by cases e;exact .nil
 | .cons a b,x,cs,hk,e=>by
  simp only[Kd.leafy,a0f,a2p]at hk;obtain⟨v,r,rfl,c,d⟩:=qI hk.1 e;exact .cons (.v hk.1 c) (tv b hk.2 d)
 | .int _,_,_,hk,_=>by cases hk
 | .bool,_,_,hk,_=>by cases hk
 | .str,_,_,hk,_=>by cases hk
 | .err,_,_,hk,_=>by cases hk
 | .any,_,_,hk,_=>by cases hk
 | .sl _ _,_,_,hk,_=>by cases hk
 | .tree _,_,_,hk,_=>by cases hk
def Md {k:Kd} {x:k.T} {v:Value} (e:nK h ok k x v):ct h ok G ow (O5 k x) v:=by
 obtain⟨b,c,d⟩:=e;unfold O5;split
 ·rename_i a
  obtain⟨⟨cs,rfl⟩,f⟩:=c a;have:=tv (G:=G) (ow:=ow) k f b;have:=ct.agg this.1 this.2;simpa [Value.cells]using this
 ·rename_i a
  have a:k.isSt=false:=by simpa using a
  have:=ix (d a);rw[this]at b;exact .v a b
abbrev Pl:=Option (Nat×Nat)×List Nat
def Pl.pos (p:Pl):Nat->Option (Nat×Nat)
 |0=>p.1
 |i+1=>(p.2[i]?).map λb=>(b,0)
def Pl.fp (p:Pl):List Nat:=(p.1.map (·.1)).toList++p.2
def Pl.mem {p:Pl} {b:Nat}:b∈p.fp↔∃i o,p.pos i=some (b,o):=by
 obtain⟨q,l⟩:=p;simp only[Pl.fp,a0l,Option.mem_toList,a2k];constructor
 ·rintro(⟨⟨a,o⟩,rfl,rfl⟩|h)
  ·exact⟨0,o,rfl⟩
  ·obtain⟨i,c,rfl⟩:=a2f.1 h
   exact⟨i+1,0,by simp[Pl.pos,c]⟩
 ·rintro⟨i,o,h⟩
  cases i with
  |zero=>exact .inl ⟨(b,o),h,rfl⟩
  |succ i=>
   simp only[Pl.pos,a2k,a0y]at h;obtain⟨a,h,rfl,_⟩:=h;exact .inr (a3w h)
def Pl.inj {p:Pl} (f:p.fp.Nodup) {i j b o s:Nat} (g:p.pos i=some (b,o)) (d:p.pos j=some (b,s)):i=j:=by
 obtain⟨q,l⟩:=p;simp only[Pl.fp,a2d]at f;obtain⟨_,t,m⟩:=f;have a:∀ {k o},(Pl.pos (q,l) (k+1))=some (b,o)->∃w:k<l.length,l[k]=b:=by
  intro k o h;simp only[Pl.pos,a2k,a0y]at h;obtain⟨x,h,rfl,_⟩:=h;exact a0t.1 h
 have c:∀ {o},(Pl.pos (q,l) 0)=some (b,o)->b∈(q.map (·.1)).toList:=by
  intro o h;have h:q=some (b,o):=h;subst h;simp
 cases i with
 |zero=>
  cases j with
  |zero=>rfl
  |succ j=>
   obtain⟨n,e⟩:=a d;exact absurd rfl (m b (c g) b (by rw[<-e];exact a0h n))
 |succ i=>
  obtain⟨u,r⟩:=a g
  cases j with
  |zero=>exact absurd rfl (m b (c d) b (by rw[<-r];exact a0h u))
  |succ j=>
   obtain⟨n,v⟩:=a d;rw[(List.getElem_inj t).1 (r.trans v.symm)]
def nV:(l:List Pl)->(l.flatMap Pl.fp).Nodup->∀i j (a:i<l.length) (d:j<l.length) (b:Nat),b∈l[i].fp->b∈l[j].fp->i=j/\l[i].fp.Nodup
 |[],_,i,_,a,_,_,_,_=>by simp at a
 |p::l,hn,i,j,a,d,b,h1,h2=>by
  rw[a6m,a2d]at hn;obtain⟨k,m,f⟩:=hn;have c:∀q (g:q<l.length),b∈l[q].fp->b∈l.flatMap Pl.fp:=λq g h=>a3s.2 ⟨l[q],a0h g,h⟩
  cases i with
  |zero=>
   cases j with
   |zero=>exact⟨rfl,k⟩
   |succ j=>exact absurd rfl (f b h1 b (c j (by simpa using d) h2))
  |succ i=>
   cases j with
   |zero=>exact absurd rfl (f b h2 b (c i (by simpa using a) h1))
   |succ j=>
    obtain⟨e,h⟩:=nV l m i j (by simpa using a) (by simpa using d) b h1 h2;exact⟨by rw[e],h⟩
def k9 (G:Gh) (ow:OW) (d j:Nat) (a:List OB) (ps:List Pl):Prop:=∀i o,a[i]?=some o->aj ow d (j+i)=some (some o)/\∃p,ps[i]?=some p/\G d (j+i)=p.pos
def k9.left {d j:Nat} {a f:List OB} {b g:List Pl} (k:b.length=a.length) (h:k9 G ow d j (a++f) (b++g)):k9 G ow d j a b:=by
 intro i o e;have c:i<a.length:=(a0t.1 e).1;have:=h i o (by rw[a1k c];exact e);rw[a1k (by omega)]at this;exact this
def k9.right {d j:Nat} {a c:List OB} {b e:List Pl} (h:b.length=a.length) (f:k9 G ow d j (a++c) (b++e)):k9 G ow d (j+a.length) c e:=by
 intro i o g;have:=f (a.length+i) o (by rw[a0w (by omega)];simpa using g);rw[a0w (by omega),show a.length+i-b.length=i by omega,<-a2o]at this;exact this
def AB {k:Kd} {l:List k.T} {v:Value} {q:List Nat} (e:rN h ok k l v q) (d j:Nat):∃p:Pl,p.fp=q/\∀(G:Gh) (ow:OW),aj ow d j=some (some (.row k 0 l))->G d j=p.pos->ct h ok G ow (.wh d j 0 []) v/\db h ok G ow d j (.row k 0 l):=by
 obtain⟨s,a,c,rfl,g,e⟩:=e;rcases e with⟨rfl,rfl,rfl,rfl⟩|⟨b,o,r,et,rfl,rfl,t,m,u⟩
 ·refine⟨(none,[]),rfl,λG ow n f=>⟨.wh ?_,by rw[f];exactλi=>rfl,s,by rw[f];rfl⟩⟩
  simp only[cV,n,a2q];exact⟨by simp,_,_,rfl,g,.inl ⟨by rw[f];rfl,rfl,rfl⟩⟩
 ·refine⟨(some (b,o),[]),rfl,λG ow n f=>⟨.wh ?_,by rw[f];exactλi=>rfl,s,by rw[f];exact⟨r,et,t,m⟩⟩⟩
  simp only[cV,n,a2q];exact⟨by omega,_,_,rfl,g,.inr ⟨b,o,o,r,by rw[f];rfl,rfl,aO t,λ_=>by simp,u⟩⟩
def gR:(s:Sh)-> {x:s.T}-> {vs:List Value}-> {w:List Nat}->cq h ok s x vs w->(d j:Nat)->∃ps:List Pl,ps.length=(bH d s x j).2.length/\ps.flatMap Pl.fp=w/\∀(G:Gh) (ow:OW),k9 G ow d j (bH d s x j).2 ps->mt h ok G ow (bH d s x j).1 vs/\∀i o,(bH d s x j).2[i]?=some o->db h ok G ow d (j+i) o/\bB (some (some o))
 | .pur kd,x,vs,w,e,d,j=>by
  obtain⟨v,rfl,rfl,e⟩:=e;exact⟨[],rfl,rfl,λG ow _=>⟨.cons (Md e) .nil,λi o c=>by simp[bH]at c⟩⟩
 | .own k,x,vs,w,e,d,j=>by
  obtain⟨v,rfl,e⟩:=e;obtain⟨p,D,z⟩:=AB e d j;refine⟨[p],rfl,by simpa using D,λG ow g=> ?_⟩;obtain⟨A,C,t,u⟩:=g 0 _ (by simp[bH];rfl);obtain rfl:p=C:=by simpa using t
  obtain⟨m,y⟩:=z G ow A u;refine⟨.cons m .nil,λi o c=> ?_⟩
  cases i with
  |zero=>simp[bH]at c;subst c;exact⟨y,trivial⟩
  |succ i=>simp[bH]at c
 | .row k,x,vs,w,e,d,j=>by
  obtain⟨v,rfl,e⟩:=e;obtain⟨p,D,z⟩:=AB e d j;refine⟨[p],rfl,by simpa using D,λG ow g=> ?_⟩;obtain⟨A,C,t,u⟩:=g 0 _ (by simp[bH];rfl);obtain rfl:p=C:=by simpa using t
  obtain⟨m,y⟩:=z G ow A u;refine⟨.cons m .nil,λi o c=> ?_⟩
  cases i with
  |zero=>simp[bH]at c;subst c;exact⟨y,trivial⟩
  |succ i=>simp[bH]at c
 | .rows s,x,vs,w,e,d,j| .nrw s,x,vs,w,e,d,j=>by
  obtain⟨v,rfl,e⟩:=e;obtain⟨q,J,D,z⟩:=IU (s:=s) (v:=v) ⟨v,rfl,e⟩ d j;refine⟨[(q,J)],rfl,by simpa [Pl.fp]using D,λG ow g=> ?_⟩;obtain⟨A,C,t,u⟩:=g 0 _ (by simp[bH];rfl);obtain rfl:(q,J)=C:=by simpa using t
  have u:G d j=Pl.pos (q,J):=u;obtain⟨m,y⟩:=z G ow A (by rw[u];rfl) (λi=>by rw[u];rfl);refine⟨.cons m .nil,λi o c=> ?_⟩
  cases i with
  |zero=>simp[bH]at c;subst c;exact⟨y,trivial⟩
  |succ i=>simp[bH]at c
 | .box l,x,vs,w,e,d,j=>by
  obtain⟨b,o,r,et,S,rfl,rfl,U,O,e⟩:=e;obtain⟨ps,E,F,z⟩:=gR l e d (j+1);refine⟨(some (b,o),[])::ps,by simp[bH,E],by simp[F,Pl.fp],λG ow g=> ?_⟩;obtain⟨A,C,t,u⟩:=g 0 _ (by simp[bH];rfl);obtain rfl:(some (b,o),[])=C:=by simpa using t
  have B:k9 G ow d (j+1) (bH d l x (j+1)).2 ps:=by
   intro i K c;have:=g (i+1) K (by simpa [bH]using c);rw[a5g,show j+(i+1)=j+1+i by omega]at this;exact this
  obtain⟨m,y⟩:=z G ow B;have H:G d j 0=some (b,o):=by rw[show G d j=_ from u];rfl
  have L:∀i,G d j (i+1)=none:=by rw[show G d j=_ from u];exactλi=>rfl
  refine⟨.cons (.bp (by rw[show aj ow d j=_ from A];exact⟨b,o,H,rfl⟩)) .nil,λi K c=> ?_⟩
  cases i with
  |zero=>
   simp[bH]at c;subst c;have P:(bH d l x (j+1)).1.length=l.len:=by rw[m.1,aY O]
   refine⟨⟨L,b,o,r,et,H,U,by omega,λi c V=> ?_⟩,trivial⟩;have I:i<(bP r o l.len).length:=by rw[aY O];omega
   have M:(bP r o l.len)[i]=r[o+i]:=by
    have:=aM (r:=r) (o:=o) (n:=l.len) (i:=i) (by omega);rw[a0a I,a1n (by omega)]at this;exact a1h this
   rw[<-M];exact m.2 i c I
  |succ i=>
   have:=y i K (by simpa [bH]using c);rw[show j+(i+1)=j+1+i by omega];exact this
 | .agg l,x,vs,w,e,d,j=>by
  obtain⟨cs,rfl,e⟩:=e;obtain⟨ps,E,F,z⟩:=gR l e d j;refine⟨ps,E,F,λG ow g=> ?_⟩;obtain⟨m,y⟩:=z G ow g;exact⟨.cons (.agg m.1 m.2) .nil,y⟩
 | .fn f n l,x,vs,w,e,d,j=>by
  obtain⟨xs,ys,rfl,B,e⟩:=e;obtain⟨ps,E,F,z⟩:=gR l e d j;refine⟨ps,E,F,λG ow g=> ?_⟩;obtain⟨m,y⟩:=z G ow g;have A:=m.take n;have u:=m.drop n;rw[List.take_left' B]at A;rw[List.drop_left' B]at u;exact⟨.cons (.fn A.1 u.1 A.2 u.2) .nil,y⟩
 | .ign,x,vs,w,e,d,j=>by
  obtain⟨v,rfl,rfl⟩:=e;exact⟨[],rfl,rfl,λG ow _=>⟨.cons (.dead v) .nil,λi o c=>by simp[bH]at c⟩⟩
 | .nl,x,vs,w,e,d,j=>by
  obtain⟨rfl,rfl⟩:=e;exact⟨[],rfl,rfl,λG ow _=>⟨.cons .nils .nil,λi o c=>by simp[bH]at c⟩⟩
 | .nil,x,vs,w,e,d,j=>by
  obtain⟨rfl,rfl⟩:=e;exact⟨[],rfl,rfl,λG ow _=>⟨.nil,λi o c=>by simp[bH]at c⟩⟩
 | .cons a b,x,vs,w,e,d,j=>by
  obtain⟨v,r,f1,f2,rfl,rfl,M,W⟩:=e;obtain⟨Q,l1,X,m⟩:=gR a M d j;obtain⟨R,l2,Y,y⟩:=gR b W d (j+(bH d a x.1 j).2.length);refine⟨Q++R,by simp[bH,l1,l2],by simp[X,Y],λG ow g=> ?_⟩;have g:k9 G ow d j ((bH d a x.1 j).2++(bH d b x.2 (j+(bH d a x.1 j).2.length)).2) (Q++R):=g;obtain⟨Z,o1⟩:=m G ow (g.left l1);obtain⟨s2,o2⟩:=y G ow (g.right l1);refine⟨Z.append s2,λi o c=> ?_⟩;have c:((bH d a x.1 j).2++(bH d b x.2 (j+(bH d a x.1 j).2.length)).2)[i]?=some o:=c;by_cases N:i<(bH d a x.1 j).2.length
  ·rw[a1k N]at c
   exact o1 i o c
  ·rw[a0w (by omega)]at c
   have:=o2 _ o c;rw[a2o,show(bH d a x.1 j).2.length+(i-(bH d a x.1 j).2.length)=i by omega]at this;exact this
end
def rS {m:List Nat} (A:bz (FP F m) G ow w.heap) {s:Sh} {x:s.T} {vs:List Value} (e:cq w.heap (cR (FP F m) G ow) s x vs m) (X:m.Nodup) (Y:∀b∈m,¬F b) {d:Nat} (J:bV ow d (bH d s x 0).2=some ow2):∃c,bz F c ow2 w.heap/\dn F c ow2 w.heap (bH d s x 0).1 vs/\(∀s v,Sv (FP F m) G ow w.heap s v->Sv F c ow2 w.heap s v)/\(∀b,cm c ow2 b↔cm G ow b\/b∈m)/\(∀d' j,d'≠d->c d' j=G d' j):=by
 obtain⟨ps,hl,Z,g⟩:=gR s e d 0;obtain⟨Qu,t,Ql⟩:=fj J;by_cases N:(bH d s x 0).2=[]
 ·
  have Qm:ps=[]:=a0s (by rw[hl,N];rfl);subst Qm;have Qn:m=[]:=by simpa using Z.symm
  subst Qn;have Qo:ow2=ow:=by rw[N]at J;simp[bV]at J;exact J.symm
  subst Qo;have Qp:∀b,cR (FP F []) G ow2 b->cR F G ow2 b:=λb hb=>fQ (λb' hx=>Gc.2 hx) hb
  have K:∀b r,cR (FP F []) G ow2 b->ap w.heap b=some r->cR F G ow2 b/\ap w.heap b=some r:=λb r hb g=>⟨Qp b hb,g⟩
  have y:∀s v,Sv (FP F []) G ow2 w.heap s v->Sv F G ow2 w.heap s v:=λs v h=>ct.mono (λ_ _ _=>rfl) (λ_ _=> .refl _) K (λb r g=>⟨r,g,rfl⟩) h
  obtain⟨O,_⟩:=g G ow2 (λi o k=>by rw[N]at k;simp at k);refine⟨G,⟨λd j o J=> ?_,A.apart,λb hb hx=>A.notF b hb (Gc.2 hx)⟩,⟨O.1,λi B C=>y _ _ (O.2 i B C)⟩,y,λb=>by simp,λ_ _ _=>rfl⟩;exact db.mono (λ_ _ _=>rfl) (λ_ _=> .refl _) K (λb r g=>⟨r,g,rfl⟩) rfl (λ_ _ _ _ _=>rfl) (A.obs d j o J)
 ·have t:ow[d]?=some []:=by
   rcases t with h|h
   ·exact absurd h N
   ·exact h
  have a:∀d' j,aj ow2 d' j=if d'=d then(bH d s x 0).2[j]?.map some else aj ow d' j:=λd' j=>by rw[Ql];simp[N]
  let c:Gh:=G.new d λj=>(match ps[j]? with|some p=>p.pos|none=>λ_=>none)
  have D:∀d' j,d'≠d->c d' j=G d' j:=λd' j f=>by simp[c,Gh.new,f]
  have gd:∀j,c d j=(match ps[j]? with|some p=>p.pos|none=>λ_=>none):=λj=>by simp[c,Gh.new]
  have H:∀ {j i b o},c d j i=some (b,o)->∃L:j<ps.length,ps[j].pos i=some (b,o):=by
   intro j i b o l;rw[gd]at l
   cases E:ps[j]? with
   |none=>rw[E]at l;cases l
   |some p=>
    rw[E]at l;obtain⟨L,rfl⟩:=a0t.1 E;exact⟨L,l⟩
  have z:k9 c ow2 d 0 (bH d s x 0).2 ps:=by
   intro i o k;have Qv:i<(bH d s x 0).2.length:=(a0t.1 k).1;rw[a1o,a,a0e rfl,k,gd];refine⟨rfl,ps[i]'(by omega),a0a (by omega),?_⟩;rw[a0a (by omega)]
  obtain⟨O,r2⟩:=g c ow2 z;have n:∀b,(∃j i o,bB (aj ow2 d j)/\c d j i=some (b,o))↔b∈m:=by
   intro b;rw[<-Z];simp only[a3s];constructor
   ·rintro⟨j,i,o,_,l⟩
    obtain⟨L,hp⟩:=H l;exact⟨ps[j],a0h L,Pl.mem.2 ⟨i,o,hp⟩⟩
   ·rintro⟨p,hp,Qq⟩
    obtain⟨j,L,rfl⟩:=a4c hp;obtain⟨i,o,E⟩:=Pl.mem.1 Qq;have P:j<(bH d s x 0).2.length:=by omega
    refine⟨j,i,o,?_,?_⟩
    ·rw[a,a0e rfl,a0a P]
     exact(r2 j _ (a0a P)).2
    ·rw[gd,a0a L];exact E
  have u:∀b,cm c ow2 b↔cm G ow b\/b∈m:=by
   intro b;rw[aJ,aJ];constructor
   ·rintro⟨d',j,i,o,k,l⟩
    by_cases f:d'=d
    ·subst f
     exact .inr ((n b).1 ⟨j,i,o,k,l⟩)
    ·rw[a,a0c f]at k
     rw[D _ _ f]at l;exact .inl ⟨d',j,i,o,k,l⟩
   ·rintro(⟨d',j,i,o,k,l⟩|hb)
    ·have f:d'≠d:=by
      intro f;subst f;rw[cX t]at k;exact k
     exact⟨d',j,i,o,by rw[a,a0c f];exact k,by rw[D _ _ f];exact l⟩
    ·obtain⟨j,i,o,k,l⟩:=(n b).2 hb
     exact⟨d,j,i,o,k,l⟩
  have Qr:∀b,cR (FP F m) G ow b->cR F c ow2 b:=λb hb=>⟨λhx=>hb.1 (.inl hx),λhx=>by
   rcases(u b).1 hx with hx|hx
   ·exact hb.2 hx
   ·exact hb.1 (.inr hx)⟩
  have K:∀b r,cR (FP F m) G ow b->ap w.heap b=some r->cR F c ow2 b/\ap w.heap b=some r:=λb r hb g=>⟨Qr b hb,g⟩
  have Q:∀d' j,aj ow d' j≠none->c d' j=G d' j:=by
   intro d' j hx;refine D _ _ λf=> ?_
   subst f;exact hx (cX t j)
  have hE:∀d' j,EC (aj ow d' j) (aj ow2 d' j):=by
   intro d' j;by_cases f:d'=d
   ·subst f;rw[cX t];trivial
   ·rw[a,a0c f];exact .refl _
  have y:∀s v,Sv (FP F m) G ow w.heap s v->Sv F c ow2 w.heap s v:=λs v h=>ct.mono (λd' j hx=>a8y (Q d' j hx) 0) hE K (λb r g=>⟨r,g,rfl⟩) h
  have R:∀b r,cR (FP F m) G ow b->ap w.heap b=some r->cR F c ow2 b/\ap w.heap b=some r:=K;refine⟨c,⟨λd' j o hx=> ?_,λd1 j1 i1 d2 j2 i2 b o1 o2 B C S U=> ?_,λb hb=> ?_⟩,⟨O.1,λi B C=>ct.mono (λ_ _ _=>rfl) (λ_ _=> .refl _) R (λb r g=>⟨r,g,rfl⟩) (O.2 i B C)⟩,y,u,D⟩
  ·by_cases f:d'=d
   ·subst f
    have I:(bH d' s x 0).2[j]?=some o:=by
     rw[a,a0e rfl]at hx
     cases E:(bH d' s x 0).2[j]? with
     |none=>simp[E]at hx
     |some q=>simp[E]at hx;rw[hx]
    have:=(r2 j o I).1;rw[a1o]at this;exact db.mono (λ_ _ _=>rfl) (λ_ _=> .refl _) R (λb r g=>⟨r,g,rfl⟩) rfl (λ_ _ _ _ _=>rfl) this
   ·have I:aj ow d' j=some (some o):=by rw[a,a0c f]at hx;exact hx
    exact db.mono (λd' j hx=>a8y (Q d' j hx) 0) hE K (λb r g=>⟨r,g,rfl⟩) (D _ _ f) (λ_ _ _ _ _=>rfl) (A.obs d' j o I)
  ·have V:∀ {d' j' i' o'},d'≠d->bB (aj ow2 d' j')->c d' j' i'=some (b,o')->cm G ow b:=by
    intro d' j' i' o' f k l;rw[a,a0c f]at k;rw[D _ _ f]at l;exact aJ.2 ⟨d',j',i',o',k,l⟩
   by_cases W:d1=d
   ·by_cases M:d2=d
    ·subst W;subst M
     obtain⟨k1,p1⟩:=H S;obtain⟨k2,p2⟩:=H U;obtain⟨e,Qt⟩:=nV ps (by rw[Z];exact X) j1 j2 k1 k2 b (Pl.mem.2 ⟨_,_,p1⟩) (Pl.mem.2 ⟨_,_,p2⟩);subst e;exact⟨rfl,rfl,Pl.inj Qt p1 p2⟩
    ·subst W
     have hb:=(n b).1 ⟨j1,i1,o1,B,S⟩;exact absurd (.inr hb) (A.notF b (V M C U))
   ·by_cases M:d2=d
    ·subst M
     have hb:=(n b).1 ⟨j2,i2,o2,C,U⟩;exact absurd (.inr hb) (A.notF b (V W B S))
    ·rw[a,a0c W]at B
     rw[a,a0c M]at C;rw[D _ _ W]at S;rw[D _ _ M]at U;exact A.apart d1 j1 i1 d2 j2 i2 b o1 o2 B C S U
  ·rcases(u b).1 hb with hb|hb
   ·exactλhx=>A.notF b hb (.inl hx)
   ·exact Y b hb
end Go.Pev
namespace Go.Pev
def Gh.put (G:Gh) (d j:Nat) (p:Nat->Option (Nat×Nat)):Gh:=λd' j'=>if d'=d/\j'=j then p else G d' j'
def fm (G:Gh) (d j:Nat) (a:List Nat):Nat->Option (Nat×Nat)
 |0=>G d j 0
 |i+1=>(a[i]?).map λb=>(b,0)
section
variable {F F1 F2:Nat->Prop} {G:Gh} {ow ow1:OW} {h:Array Obj}
def bY {d j:Nat} {a:List Nat} (g:∀i,G d j (i+1)=(a[i]?).map λb=>(b,0)) {b:Nat}:(∃i o,G d j (i+1)=some (b,o))↔b∈a:=by
 constructor
 ·rintro⟨i,o,c⟩
  rw[g]at c;simp only[a2k,a0y]at c;obtain⟨k,f,rfl,_⟩:=c;exact a3w f
 ·intro f
  obtain⟨i,h,e⟩:=a2f.1 f;exact⟨i,0,by rw[g,a0a h,e];rfl⟩
def B8 (w:bz F1 G ow h) {d j:Nat} {Q ob':OB} (Z:aj ow d j=some (some Q)) (hi:bB (some (some Q))) (R:bB (some (some ob'))) (S:EC (some (some Q)) (some (some ob')))
 {c nest':List Nat} (H:∀i,G d j (i+1)=(c[i]?).map λb=>(b,0)) (u:∀d' j',aj ow1 d' j'=if d'=d/\j'=j then some (some ob')else aj ow d' j')
 (h1:∀b∈nest',b∈c\/F1 b) (T:nest'.Nodup) (h0:∀b o,G d j 0=some (b,o)->b∉nest') (h3:∀b,F2 b->b∉nest'/\(F1 b\/b∈c))
 (U:(∀b r,cR F1 G ow b->ap h b=some r->cR F2 (G.put d j (fm G d j nest')) ow1 b/\ap h b=some r)->(∀s v,Sv F1 G ow h s v->Sv F2 (G.put d j (fm G d j nest')) ow1 h s v)->db h (cR F2 (G.put d j (fm G d j nest')) ow1) (G.put d j (fm G d j nest')) ow1 d j ob'):
 bz F2 (G.put d j (fm G d j nest')) ow1 h/\(∀s v,Sv F1 G ow h s v->Sv F2 (G.put d j (fm G d j nest')) ow1 h s v)/\(∀b,cm (G.put d j (fm G d j nest')) ow1 b↔(cm G ow b/\b∉c)\/b∈nest')/\∀d' j',G.put d j (fm G d j nest') d' j' 0=G d' j' 0:=by
 have k:bB (aj ow d j):=by rw[Z];exact hi
 generalize I:G.put d j (fm G d j nest')=G1 at*
 have gd:G1 d j=fm G d j nest':=by rw[<-I];simp[Gh.put]
 have z:∀d' j',¬(d'=d/\j'=j)->G1 d' j'=G d' j':=λd' j' hx=>by rw[<-I];simp[Gh.put,hx]
 have x:∀d' j',G1 d' j' 0=G d' j' 0:=λd' j'=>by
  by_cases hx:d'=d/\j'=j
  ·rw[hx.1,hx.2,gd];rfl
  ·rw[z _ _ hx]
 have F:∀i,G1 d j (i+1)=(nest'[i]?).map λb=>(b,0):=λi=>by rw[gd];rfl
 have J:bB (aj ow1 d j):=by rw[u];simpa using R
 have a:∀d' j',¬(d'=d/\j'=j)->aj ow1 d' j'=aj ow d' j':=λd' j' hx=>by rw[u,a0c hx]
 have f:∀b∈c,cm G ow b:=λb hb=>by
  obtain⟨i,o,l⟩:=(bY H).2 hb;exact aJ.2 ⟨d,j,i+1,o,k,l⟩
 have p:∀b,cm G1 ow1 b↔(cm G ow b/\b∉c)\/b∈nest':=by
  intro b;rw[aJ];constructor
  ·rintro⟨d',j',i,o,g,l⟩
   by_cases hx:d'=d/\j'=j
   ·obtain⟨rfl,rfl⟩:=hx
    cases i with
    |zero=>
     rw[x]at l;refine .inl ⟨aJ.2 ⟨d',j',0,o,k,l⟩,λhb=> ?_⟩;obtain⟨i,K,A⟩:=(bY H).2 hb;obtain⟨_,_,e⟩:=w.apart _ _ _ _ _ _ _ _ _ k k l A
     cases e
    |succ i=>exact .inr ((bY F).1 ⟨i,o,l⟩)
   ·rw[a _ _ hx]at g
    rw[z _ _ hx]at l;refine .inl ⟨aJ.2 ⟨d',j',i,o,g,l⟩,λhb=> ?_⟩;obtain⟨O,K,A⟩:=(bY H).2 hb;obtain⟨B,C,_⟩:=w.apart _ _ _ _ _ _ _ _ _ g k l A;exact hx ⟨B,C⟩
  ·rintro(⟨hb,D⟩|hb)
   ·obtain⟨d',j',i,o,g,l⟩:=aJ.1 hb
    by_cases hx:d'=d/\j'=j
    ·obtain⟨rfl,rfl⟩:=hx
     cases i with
     |zero=>exact⟨d',j',0,o,J,by rw[x];exact l⟩
     |succ i=>exact absurd ((bY H).1 ⟨i,o,l⟩) D
    ·exact⟨d',j',i,o,by rw[a _ _ hx];exact g,by rw[z _ _ hx];exact l⟩
   ·obtain⟨i,o,l⟩:=(bY F).2 hb
    exact⟨d,j,i+1,o,J,l⟩
 have E:∀b r,cR F1 G ow b->ap h b=some r->cR F2 G1 ow1 b/\ap h b=some r:=by
  intro b r hb L;refine⟨⟨λhx=> ?_,λhx=> ?_⟩,L⟩
  ·rcases(h3 b hx).2 with hx|hx
   ·exact hb.1 hx
   ·exact hb.2 (f b hx)
  ·rcases(p b).1 hx with⟨hx,_⟩|hx
   ·exact hb.2 hx
   ·rcases h1 b hx with hx|hx
    ·exact hb.2 (f b hx)
    ·exact hb.1 hx
 have hE:∀d' j',EC (aj ow d' j') (aj ow1 d' j'):=by
  intro d' j';rw[u];split
  ·rename_i e
   rw[e.1,e.2,Z];exact S
  ·exact .refl _
 have M:∀s v,Sv F1 G ow h s v->Sv F2 G1 ow1 h s v:=λs v e=>ct.mono (λd' j' _=>x d' j') hE E (λb r L=>⟨r,L,rfl⟩) e
 refine⟨⟨λd' j' o hx=> ?_,λd1 j1 V d2 j2 N b o1 o2 W X m n=> ?_,λb hb hx=> ?_⟩,M,p,x⟩
 ·by_cases y:d'=d/\j'=j
  ·obtain⟨rfl,rfl⟩:=y
   rw[u]at hx;simp at hx;subst hx;exact U E M
  ·rw[a _ _ y]at hx
   exact db.mono (λd' j' _=>x d' j') hE E (λb r L=>⟨r,L,rfl⟩) (z _ _ y) (λ_ _ _ _ _=>rfl) (w.obs d' j' o hx)
 ·
  have t:∀ {d' j' O K i o},¬(d'=d/\j'=j)->bB (aj ow1 d' j')->G1 d' j' O=some (b,K)->G1 d j i=some (b,o)->False:=by
   intro d' j' O K i o y P q Y;rw[a _ _ y]at P;rw[z _ _ y]at q
   cases i with
   |zero=>
    rw[x]at Y;obtain⟨B,C,_⟩:=w.apart _ _ _ _ _ _ _ _ _ P k q Y;exact y ⟨B,C⟩
   |succ i=>
    rcases h1 b ((bY F).1 ⟨i,o,Y⟩)with hb|hb
    ·obtain⟨i3,o3,q3⟩:=(bY H).2 hb
     obtain⟨B,C,_⟩:=w.apart _ _ _ _ _ _ _ _ _ P k q q3;exact y ⟨B,C⟩
    ·exact w.notF b (aJ.2 ⟨d',j',O,K,P,q⟩) hb
  by_cases c1:d1=d/\j1=j
  ·by_cases c2:d2=d/\j2=j
   ·obtain⟨rfl,rfl⟩:=c1
    obtain⟨rfl,rfl⟩:=c2;refine⟨rfl,rfl,?_⟩
    cases V with
    |zero=>
     cases N with
     |zero=>rfl
     |succ N=>rw[x]at m;exact absurd ((bY F).1 ⟨N,o2,n⟩) (h0 b o1 m)
    |succ V=>
     cases N with
     |zero=>rw[x]at n;exact absurd ((bY F).1 ⟨V,o1,m⟩) (h0 b o2 n)
     |succ N=>
      rw[F]at m n;simp only[a2k,a0y]at m n;obtain⟨b1,m,rfl,_⟩:=m;obtain⟨b2,n,rfl,_⟩:=n;obtain⟨l1,B⟩:=a0t.1 m;obtain⟨l2,C⟩:=a0t.1 n;rw[(List.getElem_inj T).1 (B.trans C.symm)]
   ·obtain⟨rfl,rfl⟩:=c1
    exact(t c2 X n m).elim
  ·by_cases c2:d2=d/\j2=j
   ·obtain⟨rfl,rfl⟩:=c2
    exact(t c1 W m n).elim
   ·rw[a _ _ c1]at W
    rw[a _ _ c2]at X;rw[z _ _ c1]at m;rw[z _ _ c2]at n;exact w.apart _ _ _ _ _ _ _ _ _ W X m n
 ·obtain⟨h4,h5⟩:=h3 b hx
  rcases(p b).1 hb with⟨hb,D⟩|hb
  ·rcases h5 with h5|h5
   ·exact w.notF b hb h5
   ·exact D h5
  ·exact h4 hb
end
section
variable {F:Nat->Prop} {G:Gh} {ow ow1:OW} {w:World}
def jN (hF:∀b,F b->b<w.heap.size) (C:bz F G ow w.heap) {s:Sh} {d j:Nat} (e0:f8 s (pk s) ow d j=some ow1):∃W,bz F W ow1 w.heap/\(∀s v,Sv F G ow w.heap s v->Sv F W ow1 w.heap s v)/\(∀b,cm W ow1 b->cm G ow b)/\ow1.length=ow.length/\∃l,aj ow1 d j=some (some (.nrow s l none)):=by
 rcases tu e0 with⟨l,K,rfl⟩|⟨l,p,y,l2,Qv,K,X,t,rfl⟩
 ·exact⟨G,C,λ_ _ h=>h,λ_ h=>h,rfl,l,K⟩
 ·obtain⟨e,a⟩:=p
  obtain⟨Y,fps,U,B⟩:=C.obs d j _ K
  cases hg:G d j 0 with
  |none=>simp only[hg]at B;cases B.2.1
  |some q=>
   obtain⟨b,o⟩:=q;simp only[hg]at B;obtain⟨r,et,hb,Z,Ql,hj,L,M⟩:=B;obtain⟨q1,q2,q4⟩:=M e a rfl;have Qm:e<fps.length:=by omega
   have Qw:e*s.w+s.w<=l.length*s.w:=by
    have:(e+1)*s.w<=l.length*s.w:=a0p _ q1;rw[a6q]at this;exact this
   have Qn:dn F G ow w.heap a (bP r (o+e*s.w) s.w):=by
    refine⟨by rw[aY (by omega),q2],λc h1 h2=> ?_⟩;have e1:(bP r (o+e*s.w) s.w)[c]=r[o+e*s.w+c]'(by omega):=by
     have:=aM (r:=r) (o:=o+e*s.w) (n:=s.w) (i:=c) (by omega);rw[a0a h2,a1n (by omega)]at this;exact a1h this
    rw[e1];exact q4 c h1 (by omega)
   obtain⟨f,E,u,Qo,hS⟩:=cC s (x:=y.1) (ow1:=y.2) hF C Qn X;have N:aj y.2 d j=aj ow d j:=by
    rcases E.names d j with e|⟨_,e⟩|hz
    ·exact e
    ·rw[t]at e;cases e
    ·have:=hz.not.1;rw[t]at this;exact absurd trivial this
   rw[K,t]at N
   cases N
   have O:aj y.2 d j≠none:=by rw[t];simp
   obtain⟨Qp,P⟩:=cM C E u;have Q:bB (aj ow d j):=by rw[K];trivial
   obtain⟨n1,n2⟩:=iU C Q U;have z:=wg fps f Qm;have D:∀x∈f,(∀i o,G d j i≠some (x,o)):=by
    intro x hx i2 o2 Qq;obtain⟨d',j',i',J,H,g,R⟩:=(u x).1 hx;obtain⟨rfl,rfl,_⟩:=C.apart _ _ _ _ _ _ _ _ _ H Q g Qq;rw[t]at R
    cases R
   have k:∀x,x∈(fps.set e f++[fps[e]]).flatten↔x∈f\/x∈fps.flatten:=λx=>by rw[z.mem_iff,a0l]
   have A:∀x∈fps.flatten,cm G y.2 x:=by
    intro x hx;obtain⟨i,J,g⟩:=(bY U).2 hx;exact aJ.2 ⟨d,j,i+1,J,by rw[t];trivial,g⟩
   obtain⟨r1,r2,r3,_⟩:=B8 (F1:=FP F f) (F2:=F) (ob':= .nrow s (l.set e y.1) none) (ow1:=bw y.2 d j (some (.nrow s (l.set e y.1) none))) (nest':=(fps.set e f++[fps[e]]).flatten) Qp t trivial trivial (show EC (some (some (OB.nrow s l (some (e,a))))) (some (some (.nrow s (l.set e y.1) none)))from⟨rfl,by simp⟩) U (λd' j'=>aW O)
    (λx hx=>by
     rcases(k x).1 hx with hx|hx
     ·exact .inr (.inr hx)
     ·exact .inl hx)
    (z.nodup_iff.2 (a2d.2 ⟨Qo,n1,λx hx y X Qr=>by
     subst Qr;obtain⟨i,J,g⟩:=(bY U).2 X;exact D x hx _ _ g⟩))
    (λm J g hx=>by
     rcases(k m).1 hx with hx|hx
     ·exact D m hx 0 J g
     ·exact n2 m J g hx)
    (λm hb'=>⟨λhx=>by
     rcases(k m).1 hx with hx|hx
     ·exact C.notF m (u.own hx) hb'
     ·exact C.notF m (E.own (A m hx)) hb',.inl (.inl hb')⟩)
    (λS Qy=>by
     refine⟨Y,fps.set e f++[fps[e]],λi=>by simp[Gh.put,fm],?_⟩;have:(G.put d j (fm G d j (fps.set e f++[fps[e]]).flatten)) d j 0=some (b,o):=by simp[Gh.put,fm,hg]
     rw[this];refine⟨r,et,hb,by simpa using Z,by simp at Ql⊢;omega,λm hb'=> ?_,λi hi hf _=> ?_,λe a hc=>by cases hc⟩
     ·rcases(k m).1 hb' with hb'|hb'
      ·exact cq.cells s hS m hb'
      ·exact hj m hb'
     ·have T:i<(fps.set e f).length:=by simp at hi⊢;omega
      rw[a1j T];by_cases I:i=e
      ·subst I
       simp only[a3k];exact cq.mono S s (λ_ _=>rfl) hS
      ·simp only[a3b (Ne.symm I)]
       have H:i<l.length:=by simpa using hi
       have Qt:i<fps.length:=by simpa using T
       refine cq.mono (λm r' hb' Qu=>S m r' (eC E u hb') Qu) s (λ_ _=>rfl) (L i H Qt (λV hc=>by cases hc;exact I rfl)))
   refine⟨_,r1,λs v h=>r2 s v (P s v h),λm=> ?_,by rw[bE,E.len],l.set e y.1,by rw[aW O];simp⟩;rw[r3]
   rintro(⟨hx,_⟩|hx)
   ·exact E.own hx
   ·rcases(k m).1 hx with hx|hx
    ·exact u.own hx
    ·exact E.own (A m hx)
def DF (hh:bz F G ow w.heap) {s:Sh} {d j:Nat} {l:List s.T} (hn:aj ow d j=some (some (.nrow s l none))) {e:Nat} {x:s.T} (hx:l[e]?=some x) {dk:Nat} {ow2:OW}
 (D:bV (bw ow d j (some (.nrow s l (some (e,List.replicate s.w .dead))))) dk (bH dk s x 0).2=some ow2):
 ∃G3 b o r,bz F G3 (bw ow2 d j (some (.nrow s l (some (e,(bH dk s x 0).1))))) w.heap/\(∀s' v,Sv F G ow w.heap s' v->Sv F G3 (bw ow2 d j (some (.nrow s l (some (e,(bH dk s x 0).1))))) w.heap s' v)/\
  (∀b,cm G3 (bw ow2 d j (some (.nrow s l (some (e,(bH dk s x 0).1))))) b->cm G ow b)/\(bw ow2 d j (some (.nrow s l (some (e,(bH dk s x 0).1))))).length=ow.length/\
  G d j 0=some (b,o)/\ap w.heap b=some r/\o+l.length*s.w<=r.size/\dn F G3 (bw ow2 d j (some (.nrow s l (some (e,(bH dk s x 0).1))))) w.heap (bH dk s x 0).1 (bP r (o+e*s.w) s.w):=by
 obtain⟨t,rfl⟩:=a0t.1 hx;obtain⟨Qw,fps,hG,J⟩:=hh.obs d j _ hn
 cases hg:G d j 0 with
 |none=>simp only[hg]at J;rw[J.1]at t;simp at t
 |some q=>
  obtain⟨b,o⟩:=q;simp only[hg]at J;obtain⟨r,et,hb,P,Qy,hj,M,_⟩:=J;have Ql:e<fps.length:=by omega
  have Q4:e*s.w+s.w<=l.length*s.w:=by
   have:(e+1)*s.w<=l.length*s.w:=a0p _ t;rw[a6q]at this;exact this
  have Qm:aj ow d j≠none:=by rw[hn];simp
  have Qn:bB (aj ow d j):=by rw[hn];trivial
  obtain⟨n1,n2⟩:=iU hh Qn hG;have u:fps.flatten.Perm (fps[e]++(fps.set e []).flatten):=by
   have:=oM (fps.set e []) e fps[e] (by simp[Ql]);rw[List.set_set,a8f]at this;exact this
  obtain⟨m1,m2,m3⟩:=a2d.1 (u.nodup_iff.1 n1);have g:∀z∈(fps.set e []).flatten,z∈fps.flatten:=λz hz=>u.mem_iff.2 (a0l.2 (.inr hz))
  have m:∀z∈fps[e],z∈fps.flatten:=λz hz=>u.mem_iff.2 (a0l.2 (.inl hz))
  have a:∀z∈fps.flatten,cm G ow z:=by
   intro z hz;obtain⟨i,K,f⟩:=(bY hG).2 hz;exact aJ.2 ⟨d,j,i+1,K,Qn,f⟩
  obtain⟨a1,a2,a3,a4⟩:=B8 (F1:=F) (F2:=FP F fps[e]) (ob':= .nrow s l (some (e,List.replicate s.w .dead))) (ow1:=bw ow d j (some (.nrow s l (some (e,List.replicate s.w .dead))))) (nest':=(fps.set e []).flatten) hh hn trivial trivial
   (show EC (some (some (OB.nrow s l none))) (some (some (.nrow s l (some (e,List.replicate s.w .dead)))))from⟨rfl,rfl⟩) hG (λd' j'=>aW Qm)
   (λz hz=> .inl (g z hz)) m2 (λC K f hz=>n2 C K f (g C hz))
   (λz hz=>by
    rcases hz with hz|hz
    ·exact⟨λh=>hh.notF z (a z (g z h)) hz,.inl hz⟩
    ·exact⟨λh=>m3 z hz z h rfl,.inr (m z hz)⟩)
   (λQ y=>by
    refine⟨Qw,fps.set e [],λi=>by simp[Gh.put,fm],?_⟩;have:(G.put d j (fm G d j (fps.set e []).flatten)) d j 0=some (b,o):=by simp[Gh.put,fm,hg]
    rw[this];refine⟨r,et,hb,P,by simpa using Qy,λC B=>hj C (g C B),λi hi hf R=> ?_,λe' p k=> ?_⟩
    ·have S:i≠e:=λh=>R _ (by rw[h])
     simp only[a3b (Ne.symm S)];exact cq.mono Q s (λ_ _=>rfl) (M i hi (by simpa using hf) (λp k=>by cases k))
    ·cases k
     exact⟨t,by simp,λc k hr=>by simp only[a4u];exact .dead _⟩)
  generalize Q6:G.put d j (fm G d j (fps.set e []).flatten)=Ga at a1 a2 a3 a4
  generalize N:bw ow d j (some (.nrow s l (some (e,List.replicate s.w .dead))))=owA at a1 a2 a3 a4 D
  have Qz:∀d' j',aj owA d' j'=if d'=d/\j'=j then some (some (.nrow s l (some (e,List.replicate s.w .dead))))else aj ow d' j':=λd' j'=>by rw[<-N,aW Qm]
  have A:aj owA d j=some (some (.nrow s l (some (e,List.replicate s.w .dead)))):=by rw[Qz];simp
  have hS:cq w.heap (cR (FP F fps[e]) Ga owA) s l[e] (bP r (o+e*s.w) s.w) fps[e]:=by
   refine cq.mono (λC r' B Q0=>⟨⟨λhx=> ?_,λhx=> ?_⟩,Q0⟩) s (λ_ _=>rfl) (M e t Ql (λp k=>by cases k))
   ·rcases hx with hx|hx
    ·exact B.1 hx
    ·exact B.2 (a C (m C hx))
   ·rcases(a3 C).1 hx with⟨hx,_⟩|hx
    ·exact B.2 hx
    ·exact B.2 (a C (g C hx))
  obtain⟨G2,c1,c2,c3,c4,c5⟩:=rS a1 hS m1 (λz hz hF=>hh.notF z (a z (m z hz)) hF) D;obtain⟨U,Qo,Qp⟩:=fj D;have E:aj ow2 d j=some (some (.nrow s l (some (e,List.replicate s.w .dead)))):=by
   rw[Qp];split
   ·rename_i k
    rcases Qo with h|h
    ·exact absurd h k.2
    ·rw[<-k.1]at h;rw[cX h]at A;cases A
   ·exact A
  have Q7:G2 d j=Ga d j\/(bH dk s l[e] 0).2=[]:=by
   by_cases k:d=dk
   ·right
    rcases Qo with h|h
    ·exact h
    ·rw[<-k]at h;rw[cX h]at A;cases A
   ·exact .inl (c5 d j k)
  have Qq:aj ow2 d j≠none:=by rw[E];simp
  obtain⟨Qr,H,L,O⟩:=c1.obs d j _ E;have I:bB (aj ow2 d j):=by rw[E];trivial
  obtain⟨k1,k2⟩:=iU c1 I L;have Qt:G2 d j 0=some (b,o):=by
   by_cases k:d=dk
   ·
    have y:=c3 (.rp d j 0 [] e 0) (.pointer (some ⟨b,o+e*s.w+0,none⟩)) (by
     refine .rp ?_
     rw[A];exact⟨t,b,o,by rw[a4,hg],rfl⟩)
    have Q5:=c3 (.wh d j 0 []) (.slice (some ⟨b,o,none⟩) l.length l.length) (by
     refine .wh ?_
     simp only[cV,A,a2q];exact⟨by omega,_,_,rfl,a1l _,.inr ⟨b,o,o,r,by rw[a4,hg],rfl,aO hb,λ_=>by simp,P⟩⟩)
    cases y with
    |rp y=>
    rw[E]at y;obtain⟨_,C,K,f,hv⟩:=y;simp only[a4d,Value.pointer.injEq,a0k,Addr.mk.injEq]at hv;obtain⟨rfl,hv,_⟩:=hv;have:K=o:=by omega
    rw[this]at f;exact f
   ·rw[c5 d j k,a4,hg]
  simp only[Qt]at O;obtain⟨V,Q1,W,Qu,Qv,Q2,X,Y⟩:=O;have:V=r:=by
   rw[hb]at W
   cases W
   rfl
  subst this;obtain⟨q1,q2,q4⟩:=Y e _ rfl;have Z:(bH dk s l[e] 0).1.length=s.w:=by rw[c2.1,aY (by omega)]
  obtain⟨f1,f2,f3,f4⟩:=B8 (F1:=F) (F2:=F) (ob':= .nrow s l (some (e,(bH dk s l[e] 0).1))) (ow1:=bw ow2 d j (some (.nrow s l (some (e,(bH dk s l[e] 0).1))))) (nest':=H.flatten) c1 E trivial trivial
   (show EC (some (some (OB.nrow s l (some (e,List.replicate s.w .dead))))) (some (some (.nrow s l (some (e,(bH dk s l[e] 0).1)))))from⟨rfl,rfl⟩) L (λd' j'=>aW Qq)
   (λz hz=> .inl hz) k1 k2
   (λz hz=>⟨λh=>by
    obtain⟨i,K,f⟩:=(bY L).2 h;exact c1.notF z (aJ.2 ⟨d,j,i+1,K,I,f⟩) hz,.inl hz⟩)
   (λQ y=>by
    refine⟨Qr,H,λi=>by simp[Gh.put,fm],?_⟩;have:(G2.put d j (fm G2 d j H.flatten)) d j 0=some (b,o):=by simp[Gh.put,fm,Qt]
    rw[this];refine⟨V,Q1,W,Qu,Qv,Q2,λi hi hf R=> ?_,λe' p k=> ?_⟩
    ·have S:i≠e:=λh=>R _ (by rw[h])
     exact cq.mono Q s (λ_ _=>rfl) (X i hi hf (λp k=>by cases k;exact S rfl))
    ·cases k
     refine⟨t,Z,λc k hr=> ?_⟩;have h2:c<(bP V (o+e*s.w) s.w).length:=by rw[aY (by omega)];omega
     have:=y _ _ (c2.2 c k h2);have e1:(bP V (o+e*s.w) s.w)[c]=V[o+e*s.w+c]'hr:=by
      have:=aM (r:=V) (o:=o+e*s.w) (n:=s.w) (i:=c) (by omega);rw[a0a h2,a1n hr]at this;exact a1h this
     rw[e1]at this;exact this)
  refine⟨_,b,o,V,f1,λs' v h=>f2 s' v (c3 s' v (a2 s' v h)),λz hz=> ?_,by rw[bE,U,<-N,bE],rfl,aO hb,P,⟨c2.1,λi h1 h2=>f2 _ _ (c2.2 i h1 h2)⟩⟩;have Q3:cm G2 ow2 z:=by
   rcases(f3 z).1 hz with⟨hz,_⟩|hz
   ·exact hz
   ·obtain⟨i,K,f⟩:=(bY L).2 hz
    exact aJ.2 ⟨d,j,i+1,K,I,f⟩
  rcases(c4 z).1 Q3 with hz|hz
  ·rcases(a3 z).1 hz with⟨hz,_⟩|hz
   ·exact hz
   ·exact a z (g z hz)
  ·exact a z (m z hz)
def Gd (e:∀b,F b->b<w.heap.size) (a:bz F G ow w.heap) (v:SV):∃c,Tr F G ow w c (vf ow v) w/\∀b,cm c (vf ow v) b->cm G ow b:=by
 unfold vf;split
 ·split
  ·split
   ·rename_i f
    obtain⟨c,g,i,d,j,_⟩:=jN e a f;exact⟨c,⟨g,i,.refl _ _,λb k=> .inl (d b k),j⟩,d⟩
   ·exact⟨G,.refl a,λ_ h=>h⟩
  ·exact⟨G,.refl a,λ_ h=>h⟩
 ·exact⟨G,.refl a,λ_ h=>h⟩
def tw (e:∀b,F b->b<w.heap.size) (c:bz F G ow w.heap) (l:List SV):∃a,Tr F G ow w a (kb l ow) w/\∀b,cm a (kb l ow) b->cm G ow b:=by
 unfold kb
 generalize l.flatMap Dn=vs
 induction vs generalizing G ow with
 |nil=>exact⟨G,.refl c,λ_ h=>h⟩
 |cons v r ih=>
  obtain⟨a,d,f⟩:=Gd e c v;obtain⟨g,i,j⟩:=ih d.hrep;exact⟨g,d.trans i,λb k=>f b (j b k)⟩
end
variable {F:Nat->Prop} {G:Gh} {ow ow1:OW} {w:World} {P:Program}
def nW {a:Gh} (c:bz F a ow1 w.heap) (d:∀s v,Sv F G ow w.heap s v->Sv F a ow1 w.heap s v) (e:∀b,cm a ow1 b->cm G ow b) (f:ow1.length=ow.length):Tr F G ow w a ow1 w:=⟨c,d,.refl _ _,λb g=> .inl (e b g),f⟩
def zA {t:TypeId} (M:bz F G ow w.heap) (N:∀b,F b->b<w.heap.size) {p:SV} {E:Value} (O:Sv F G ow w.heap p E) {d j e c:Nat} {s:Sh} (f:Pb ow p=some (d,j,e,c,s)) {dk:Nat} {Q:SV×OW->Prop} (h:(BO P t p d j e c s ow dk).can Q):∃x ow' v H,Q (x,ow')/\(Instr.loadAt t E).run P w= .ok v w/\Tr F G ow w H ow' w/\Sv F H ow' w.heap x v:=by
 have q:∃ver,p= .rp d j ver [] e c:=by
  unfold Pb at f;split at f
  ·split at f
   ·cases f;exact⟨_,rfl⟩
   ·cases f
  ·cases f
 obtain⟨ver,rfl⟩:=q;unfold BO at h;split at h
 ·exact h.elim
 ·rename_i ow1 R
  obtain⟨I,u,J,S,T,_⟩:=jN N M R;have g:Tr F G ow w I ow1 w:=nW u J S T;have a:=J _ _ O;split at h
  ·exact h.elim
  ·rename_i r U
   obtain⟨_,K⟩:=hX U;split at h
   ·have h:=aX.can_bind _ h
    obtain⟨x,v,V,i,y⟩:=mi u a h;exact⟨x,ow1,v,I,V,i,g,y⟩
   ·obtain⟨x,y,h⟩:=h
    dsimp only at h;split at h
    ·rename_i ow2 k
     split at h
     ·rename_i v W
      obtain⟨X,b,o,rr,f1,f2,Y,Z,hg,z,Ql,l⟩:=DF u K y k
      cases a with
      |rp a=>
      simp only[K]at a;obtain⟨A,b',o',m,rfl⟩:=a;rw[hg]at m
      cases m
      have B:(e+1)*r.1.w<=r.2.length*r.1.w:=a0p _ A;rw[a1d,a2x]at B;have Qm:(bH dk r.1 x 0).1.length=r.1.w:=by rw[l.1,aY (by omega)]
      obtain⟨⟨d',hu⟩,L,C,D⟩:=eK (l.drop c) W;simp only[a2u]at C;refine⟨_,_,_,X,h,eW hu z rfl (by omega),g.trans (nW f1 f2 Y Z),?_⟩;rw[gw (n:=r.1.w) (by omega)];exact D
     ·exact h.elim
    ·exact h.elim
def Ge (E:bz F G ow w.heap) (hF:∀b,F b->b<w.heap.size) {d j:Nat} {s:Sh} {l:List s.T} {e:Nat} {a:List SV} (J:aj ow d j=some (some (.nrow s l (some (e,a))))) {c:Nat} {f:List SV} {vs:List Value} (t:dn F G ow w.heap f vs)
 {b o:Nat} (H:G d j 0=some (b,o)) {r:Array Value} {et:TypeId} (S:w.heap[b]?=some (.cells r et (0,0))) (U:c+f.length<=a.length):
 o+e*s.w+c+vs.length<=r.size/\Tr F G ow w G (bw ow d j (some (.nrow s l (some (e,a.take c++f++a.drop (c+f.length)))))) (w.setCells b (o+e*s.w+c) vs):=by
 obtain⟨K,fps,x,y⟩:=E.obs d j _ J;simp only[H]at y;obtain⟨r',Ql,g,L,M,hj,z,A⟩:=y;rw[S]at g
 cases g
 obtain⟨V,q2,W⟩:=A e a rfl;have X:e*s.w+s.w<=l.length*s.w:=by
  have:(e+1)*s.w<=l.length*s.w:=a0p _ V;rw[a6q]at this;exact this
 have Y:f.length=vs.length:=t.1;have k:o+e*s.w+c+vs.length<=r.size:=by omega
 refine⟨k,qH (ob':= .nrow s l (some (e,a.take c++f++a.drop (c+f.length)))) E hF J trivial ⟨rfl,rfl⟩ trivial H S k λN m B=> ?_⟩;have v:bB (aj ow d j):=by rw[J];trivial
 have n:∀u∈fps.flatten,(w.setCells b (o+e*s.w+c) vs).heap[u]?=w.heap[u]?:=by
  intro u g;obtain⟨i,o',C⟩:=(bY x).2 g;refine World.heap_setCells_other w b _ _ (cm.lt E (aJ.2 ⟨d,j,i+1,o',v,C⟩)) λO=> ?_
  subst O;obtain⟨_,_,e⟩:=E.apart _ _ _ _ _ _ _ _ _ v v C H
  cases e
 refine⟨K,fps,x,?_⟩;simp only[H];refine⟨_,et,N,by rw[bN k];exact L,M,λu g=>by rw[n u g];exact hj u g,λi hi Z P=> ?_,λe' I Q=> ?_⟩
 ·have R:i≠e:=λh=>P _ (by rw[h])
  have h1:=z i hi Z (λa U=>by cases U;exact R rfl);have p:bP (nh r (o+e*s.w+c) vs) (o+i*s.w) s.w=bP r (o+i*s.w) s.w:=by
   rcases a3y i e with hlt|hge
   ·have:(i+1)*s.w<=e*s.w:=a0p _ hlt
    rw[a1d,a2x]at this;exact b8 k (by omega)
   ·have:(e+1)*s.w<=i*s.w:=a0p _ (by omega)
    rw[a1d,a2x]at this;exact iz k (by omega)
  rw[p];exact cq.mono B s (λu g=>n u (iw Z g)) h1
 ·cases Q
  refine⟨V,by simp;omega,λq hq hr=> ?_⟩;have p:=iy k (o+e*s.w+q);rw[a1n hr]at p;simp only[a0m,a1m,a2u]at hq;by_cases h2:q<c
  ·rw[a0c (by omega),a1n (by omega)]at p
   have D:(a.take c++f++a.drop (c+f.length))[q]=a[q]'(by omega):=by
    simp only[a1r];rw[a1j (by simp;omega),a5d]
   rw[a1h p,D];exact m _ _ (W q (by omega) (by omega))
  ·by_cases h3:q<c+vs.length
   ·rw[a0e (by omega),a0a (by omega)]at p
    have D:(a.take c++f++a.drop (c+f.length))[q]=f[q-c]'(by omega):=by
     rw[a1j (by simp;omega),a1z (by simp;omega)]
     congr 1
     simp;omega
    have e3:o+e*s.w+q-(o+e*s.w+c)=q-c:=by omega
    simp only[e3]at p;rw[a1h p,D];exact m _ _ (t.2 (q-c) (by omega) (by omega))
   ·rw[a0c (by omega),a1n (by omega)]at p
    have D:(a.take c++f++a.drop (c+f.length))[q]=a[q]'(by omega):=by
     rw[a1z (by simp;omega),a6k]
     congr 1
     simp;omega
    rw[a1h p,D];exact m _ _ (W q (by omega) (by omega))
def Me {f1 a b c d e:List Nat} (h:(a++c).Perm (d++e)):((f1++a)++(b++c)).Perm ((b++d)++(f1++e)):=by
 refine a3l.2 λx=> ?_
 have:=a3l.1 h x;simp only[a6l]at this⊢;omega
def pS:(s:Sh)-> {F:Nat->Prop}-> {ow ow1:OW}->(∀b,F b->b<w.heap.size)->bz F G ow w.heap-> {y:s.T}-> {vs:List Value}-> {n:List Nat}->cq w.heap (cR F G ow) s y vs n->(c:Nat)-> {d:List SV}-> {g:List Value}->dn F G ow w.heap d g->
 {y':s.T}->jK s y c d ow=some (y',ow1)->
 ∃o B C,dt ow ow1/\ju G ow ow1 o/\o.Nodup/\c+g.length<=vs.length/\cq w.heap (cR (FP F o) G ow1) s y' (vs.take c++g++vs.drop (c+g.length)) B/\(B++C).Perm (n++o)
 | .cons a b,F,ow,ow1,hF,hh,y,vs,n,e,0,d,g,hn,y',h=>by
  obtain⟨D,E,f1,f2,rfl,rfl,Q,O⟩:=e
  match d,hn,h with
  |[],hn,h=>
   simp only[jK,a0k,a0y]at h;obtain⟨rfl,rfl⟩:=h;have:g=[]:=a0s hn.1.symm;subst this;exact⟨[],f1++f2,[],.refl _,.refl _ _,a2j,by simp,cq.mono (λp P hb' f=>⟨If hb',f⟩) (.cons a b) (λ_ _=>rfl) (by simpa using⟨D,E,f1,f2,rfl,rfl,Q,O⟩),by simp⟩
  |s0::sr,hn,h=>
   simp only[jK]at h;obtain⟨u,H,rfl,I,J⟩:=hn.uncons;split at h
   ·rename_i x t
    split at h
    ·rename_i z R
     simp only[a0k,a0y]at h;obtain⟨rfl,rfl⟩:=h;obtain⟨m,q,r,K,L⟩:=cC a (x:=x.1) (ow1:=x.2) hF hh (.cons I .nil) t;obtain⟨S,M⟩:=cM hh q r;have U:∀p,FP F m p->p<w.heap.size:=by
      intro p hb';rcases hb' with hb'|hb'
      ·exact hF p hb'
      ·exact cm.lt hh (r.own hb')
     obtain⟨V,l,C,v,A,n2,Y,N,j⟩:=pS b U S (cq.mono (λp P hb' f=>⟨eC q r hb',f⟩) b (λ_ _=>rfl) O) 0 (y':=z.1) (ow1:=z.2) ⟨J.1,λi Z h2=>M _ _ (J.2 i Z h2)⟩ R;refine⟨m++V,m++l,f1++C,q.trans v,λx=> ?_,a2d.2 ⟨K,n2,λx t y hy W=> ?_⟩,by simp at Y⊢;omega,⟨u,H++E.drop H.length,m,l,by simp,rfl,?_,?_⟩,Me j⟩
     ·rw[F9.trans q v,<-r x,<-A x,a0l]
     ·subst W
      exact r.notOwn hh q t (A.own hy)
     ·exact cq.mono (λp P hb' f=>⟨fQ (λX t=>mr.2 t) (eC v A hb'),f⟩) a (λ_ _=>rfl) L
     ·have N:=cq.mono (λp P hb' f=>⟨fQ (λX t=>mr.2 t) hb',f⟩) b (λ_ _=>rfl) N
      simpa using N
    ·cases h
   ·cases h
 | .cons a b,F,ow,ow1,hF,hh,y,vs,n,e,c+1,d,g,hn,y',h=>by
  obtain⟨D,E,f1,f2,rfl,rfl,Q,O⟩:=e;simp only[jK]at h;split at h
  ·rename_i z R
   simp only[a0k,a0y]at h;obtain⟨rfl,rfl⟩:=h;obtain⟨V,l,C,v,A,n2,Y,N,j⟩:=pS b hF hh O c (y':=z.1) (ow1:=z.2) hn R;refine⟨V,f1++l,C,v,A,n2,by simp;omega,⟨D,E.take c++g++E.drop (c+g.length),f1,l,by simp[show c+1+g.length=c+g.length+1 by omega],rfl,?_,N⟩,?_⟩
   ·exact cq.mono (λp P hb' f=>⟨eC v A hb',f⟩) a (λ_ _=>rfl) Q
   ·simp only[a1r]
    exact j.append_left f1
  ·cases h
 | .nil,F,ow,ow1,hF,hh,y,vs,n,e,c,d,g,hn,y',h=>by
  obtain⟨rfl,rfl⟩:=e
  match c,d,hn,h with
  |0,[],hn,h=>
   simp only[jK,a0k,a0y]at h;obtain⟨_,rfl⟩:=h;have:g=[]:=a0s hn.1.symm;subst this;exact⟨[],[],[],.refl _,.refl _ _,a2j,by simp,⟨rfl,rfl⟩,by simp⟩
  |0,_::_,_,h=>simp[jK]at h
  |_+1,_,_,h=>simp[jK]at h
 | .own k,F,ow,ow1,hF,hh,y,vs,n,e,c,d,g,hn,y',h=>by
  obtain⟨D,rfl,e⟩:=e
  match c,d,hn,h with
  |0,[s0],hn,h=>
   obtain⟨u,rfl,I⟩:=hn.single';obtain⟨m,q,r,K,L⟩:=cC (.own k) (x:=y') (ow1:=ow1) hF hh (.cons I .nil) h;exact⟨m,m,n,q,r,K,by simp,by simpa using L,a6r⟩
  |0,[],_,h=>simp[jK]at h
  |0,_::_::_,_,h=>simp[jK]at h
  |_+1,_,_,h=>simp[jK]at h
 | .rows s,F,ow,ow1,hF,hh,y,vs,n,e,c,d,g,hn,y',h=>by
  obtain⟨D,rfl,e⟩:=e
  match c,d,hn,h with
  |0,[s0],hn,h=>
   obtain⟨u,rfl,I⟩:=hn.single';obtain⟨m,q,r,K,L⟩:=cC (.rows s) (x:=y') (ow1:=ow1) hF hh (.cons I .nil) h;exact⟨m,m,n,q,r,K,by simp,by simpa using L,a6r⟩
  |0,[],_,h=>simp[jK]at h
  |0,_::_::_,_,h=>simp[jK]at h
  |_+1,_,_,h=>simp[jK]at h
 | .pur _,_,_,_,_,_,_,_,_,_,_,_,_,_,_,h=>by simp[jK]at h
 | .row _,_,_,_,_,_,_,_,_,_,_,_,_,_,_,h=>by simp[jK]at h
 | .nrw _,_,_,_,_,_,_,_,_,_,_,_,_,_,_,h=>by simp[jK]at h
 | .box _,_,_,_,_,_,_,_,_,_,_,_,_,_,_,h=>by simp[jK]at h
 | .agg _,_,_,_,_,_,_,_,_,_,_,_,_,_,_,h=>by simp[jK]at h
 | .fn _ _ _,_,_,_,_,_,_,_,_,_,_,_,_,_,_,h=>by simp[jK]at h
 | .ign,_,_,_,_,_,_,_,_,_,_,_,_,_,_,h=>by simp[jK]at h
 | .nl,_,_,_,_,_,_,_,_,_,_,_,_,_,_,h=>by simp[jK]at h
def lc {h:Array Obj} (q:bz F G ow h) {d j i b o:Nat} (a:bB (aj ow d j)) (c:G d j i=some (b,o)):∃r et,h[b]?=some (Obj.cells r et (0,0)):=by
 have g:∀e,aj ow d j=some (some e)->bB (some (some e))->∃r et,h[b]?=some (Obj.cells r et (0,0)):=by
  intro e m a;have:=q.obs d j e m
  cases e with
  |box cells=>
   obtain⟨n,t,u,r,et,f,p,_⟩:=this
   cases i with
   |zero=>rw[c]at f;cases f;exact⟨r,et,p⟩
   |succ i=>rw[n]at c;cases c
  |row k ver l=>
   obtain⟨n,_,this⟩:=this
   cases i with
   |zero=>
    simp only[c]at this;obtain⟨r,et,p,_⟩:=this;exact⟨r,et,p⟩
   |succ i=>rw[n]at c;cases c
  |nrow k l foc=>exact v8 this c
  |frow _ _ _=>exact a.elim
  |lrow _=>exact a.elim
 generalize s:aj ow d j=x at a
 match x,a with
 |some (some e),a=>exact g e s a
def DG {d j:Nat} {a b:Option OB}:bw (bw ow d j a) d j b=bw ow d j b:=by
 unfold bw
 cases h:ow[d]? with
 |none=>simp[h]
 |some l=>
  obtain⟨c,_⟩:=a0t.1 h;simp[c]
def Mf {p:SV} {d j e c:Nat} {s:Sh} (a:Pb ow p=some (d,j,e,c,s)):(∃ver,p= .rp d j ver [] e c)/\∃l b,aj ow d j=some (some (.nrow s l b)):=by
 unfold Pb at a;split at a
 ·split at a
  ·rename_i f
   cases a
   exact⟨⟨_,rfl⟩,_,_,aH f⟩
  ·cases a
 ·cases a
def zB {a d b:List SV} {c:Nat} (h:js a c d=some b):c+d.length<=a.length/\b=a.take c++d++a.drop (c+d.length):=by
 unfold js at h;split at h
 ·rename_i e
  cases h
  exact⟨e,rfl⟩
 ·cases h
def wl {t:TypeId} (hh:bz F G ow w.heap) (hF:∀b,F b->b<w.heap.size) {p x:SV} {pv xv:Value} (hp:Sv F G ow w.heap p pv) (hx:Sv F G ow w.heap x xv) {d j e c:Nat} {s:Sh} (ht:Pb ow p=some (d,j,e,c,s)) {Q:OW->Prop} (h:(vM P t x d j e c s ow).can Q):∃ow' w' G',Q ow'/\(Instr.storeAt t pv xv).run P w= .ok () w'/\Tr F G ow w G' ow' w':=by
 obtain⟨⟨ver,rfl⟩,_⟩:=Mf ht;unfold vM at h;split at h
 ·exact h.elim
 rename_i Q2 Qu;obtain⟨i,hi⟩:=nS Qu;obtain⟨vs,Q3,N,h1,hl⟩:=fI hx Qu;have Rw:Q2.length=vs.length:=N.1;split at h
 ·rename_i ow1 h0
  have h0:=BQ h0;obtain⟨M,g1,g2,g3,g4,_⟩:=jN hF hh h0;have Ri:Tr F G ow w M ow1 w:=nW g1 g2 g3 g4;have Qm:=g2 _ _ hp;have Q4:dn F M ow1 w.heap Q2 vs:=⟨N.1,λi h1 h2=>g2 _ _ (N.2 i h1 h2)⟩;split at h
  ·exact h.elim
  ·rename_i r hr
   obtain⟨_,hn⟩:=hX hr;obtain⟨rs,l⟩:=r;obtain⟨y,hy,h⟩:=h;dsimp only at h hn hy;split at h
   ·rename_i z hz
    split at h
    ·rename_i r2 Rj
     split at h
     ·rename_i Q5
      obtain⟨_,C⟩:=hX Rj;obtain⟨a,l2⟩:=r2;dsimp only at Q5 C;subst Q5;obtain⟨O,rfl⟩:=a0t.1 hy
      cases Qm with
      |rp Qm=>
      simp only[hn]at Qm;obtain⟨_,b,o,hG,rfl⟩:=Qm;obtain⟨Q6,fps,Qn,I⟩:=g1.obs d j _ hn;simp only[hG]at I;obtain⟨r,et,hb,Q7,Rz,hj,R,_⟩:=I;have Q8:e<fps.length:=by omega
      have Rx:e*a.w+a.w<=l.length*a.w:=by
       have:(e+1)*a.w<=l.length*a.w:=a0p _ O;rw[a6q]at this;exact this
      have Q9:bB (aj ow1 d j):=by rw[hn];trivial
      obtain⟨n1,n2⟩:=iU g1 Q9 Qn;obtain⟨S,g,H,hT,hf,Rk,Rl,hS,T⟩:=pS a hF g1 (R e O Q8 (λu B=>by cases B)) c Q4 (y':=z.1) (ow1:=z.2) hz;rw[aY (by omega)]at Rl;have Ra:aj z.2 d j=aj ow1 d j:=by
       rcases hT.names d j with e|⟨_,e⟩|hz
       ·exact e
       ·rw[C]at e;cases e
       ·have:=hz.not.1;rw[C]at this;exact absurd trivial this
      rw[hn,C]at Ra;obtain rfl:l=l2:=by simpa using Ra.symm
      obtain⟨Rm,Rb⟩:=cM g1 hT hf;have Qv:∀x∈S,(∀i o,M d j i≠some (x,o)):=by
       intro x hx i2 o2 Rn;obtain⟨d',j',i',o',L,m,Rc⟩:=(hf x).1 hx;obtain⟨rfl,rfl,_⟩:=g1.apart _ _ _ _ _ _ _ _ _ L Q9 m Rn;rw[C]at Rc
       cases Rc
      have J:∀x∈fps.flatten,cm M z.2 x:=by
       intro x hx;obtain⟨i,o',m⟩:=(bY Qn).2 hx;exact aJ.2 ⟨d,j,i+1,o',by rw[C];trivial,m⟩
      have Rd:(fps.set e g++[H]).flatten.Perm (S++fps.flatten):=by
       have h1:=wg fps g Q8;refine a3l.2 λx=> ?_
       have h1:=a3l.1 h1 x;have h2:=a3l.1 T x;simp only[a4r,a3f,a7w,a2b,a6l]at h1 h2⊢;omega
      have A:∀x,x∈(fps.set e g++[H]).flatten↔x∈S\/x∈fps.flatten:=λx=>by rw[Rd.mem_iff,a0l]
      have D:∀x∈(fps.set e g++[H]).flatten,∃r et,w.heap[x]?=some (Obj.cells r et (0,0)):=by
       intro x hx;rcases(A x).1 hx with hx|hx
       ·have Ro:x∈g++H:=T.mem_iff.2 (a0l.2 (.inr hx))
        rcases a0l.1 Ro with hx'|hx'
        ·exact cq.cells a hS x hx'
        ·
         obtain⟨d',j',i',o',L,m,_⟩:=(hf x).1 hx;exact lc g1 L m
       ·exact hj x hx
      have Re:aj z.2 d j≠none:=by rw[C];simp
      let ob1:OB:= .nrow a l (some (e,List.replicate a.w .dead))
      have Qz:∀(ok:Nat->Prop) (GG:Gh) (Rf:OW) (c:Nat) (B:c<(List.replicate a.w SV.dead).length) (hr:o+e*a.w+c<r.size),ct w.heap ok GG Rf (List.replicate a.w SV.dead)[c] r[o+e*a.w+c]:=λok GG Rf c B hr=>by
       simp only[a4u];exact .dead _
      have U:∀(i:Nat) (hi:i<l.length) (hf:i<(fps.set e g++[H]).length) (Qo:i≠e),∃Qp:i<fps.length,(fps.set e g++[H])[i]=fps[i]:=λi hi hf Qo=>by
       have Q0:i<(fps.set e g).length:=by simp;omega
       refine⟨by omega,?_⟩;rw[a1j Q0,a3b (Ne.symm Qo)]
      obtain⟨a1,a2,a3,a4⟩:=B8 (F1:=FP F S) (F2:=F) (ob':=ob1) (ow1:=bw z.2 d j (some ob1)) (nest':=(fps.set e g++[H]).flatten) Rm C trivial trivial
       (show EC (some (some (OB.nrow a l none))) (some (some ob1))from⟨rfl,rfl⟩) Qn (λd' j'=>aW Re)
       (λx hx=>by
        rcases(A x).1 hx with hx|hx
        ·exact .inr (.inr hx)
        ·exact .inl hx)
       (Rd.nodup_iff.2 (a2d.2 ⟨Rk,n1,λx hx y hy Rp=>by
        subst Rp;obtain⟨i,o',m⟩:=(bY Qn).2 hy;exact Qv x hx _ _ m⟩))
       (λk o' m hx=>by
        rcases(A k).1 hx with hx|hx
        ·exact Qv k hx 0 o' m
        ·exact n2 k o' m hx)
       (λk f=>⟨λhx=>by
        rcases(A k).1 hx with hx|hx
        ·exact g1.notF k (hf.own hx) f
        ·exact g1.notF k (hT.own (J k hx)) f,.inl (.inl f)⟩)
       (λRq N=>by
        refine⟨Q6,fps.set e g++[H],λi=>by simp[Gh.put,fm],?_⟩;have:(M.put d j (fm M d j (fps.set e g++[H]).flatten)) d j 0=some (b,o):=by simp[Gh.put,fm,hG]
        rw[this];refine⟨r,et,hb,Q7,by simp;omega,D,λi hi Qq Qo=> ?_,λe' u B=> ?_⟩
        ·have V:i≠e:=λh=>Qo _ (by rw[h])
         obtain⟨Qp,e1⟩:=U i hi Qq V;rw[e1];exact cq.mono (λk W f K=>Rq k W (eC hT hf f) K) a (λ_ _=>rfl) (R i hi Qp (λu B=>by cases B))
        ·cases B
         exact⟨O,by simp,λc B hr=>Qz _ _ _ c B hr⟩)
      have X:∀i,(M.put d j (fm M d j (fps.set e g++[H]).flatten)) d j (i+1)=((fps.set e g++[H]).flatten[i]?).map λb=>(b,0):=λi=>by simp[Gh.put,fm]
      generalize R0:M.put d j (fm M d j (fps.set e g++[H]).flatten)=G2 at a1 a2 a3 a4 X
      generalize Y:bw z.2 d j (some ob1)=owA at a1 a2 a3 a4
      have Rg:aj owA d j=some (some ob1):=by rw[<-Y,aW Re];simp
      have Z:bB (aj owA d j):=by rw[Rg];trivial
      have Rr:Tr F M ow1 w G2 owA w:=nW a1 (λs' v h=>a2 s' v (Rb s' v h)) (λk f=>by
       rcases(a3 k).1 f with⟨hx,_⟩|hx
       ·exact hT.own hx
       ·rcases(A k).1 hx with hx|hx
        ·exact hf.own hx
        ·exact hT.own (J k hx)) (by rw[<-Y,bE,hT.len])
      have Qw:∀k W,cR (FP F S) M z.2 k->ap w.heap k=some W->cR F G2 owA k/\ap w.heap k=some W:=λk W f K=>⟨⟨λhx=>f.1 (.inl hx),λhx=>by
       rcases(a3 k).1 hx with⟨hx,_⟩|hx
       ·exact f.2 hx
       ·rcases(A k).1 hx with hx|hx
        ·exact f.1 (.inr hx)
        ·exact f.2 (J k hx)⟩,K⟩
      have Q1:G2 d j 0=some (b,o):=by rw[a4,hG]
      have E:o+e*a.w+c+vs.length<=r.size:=by omega
      have Ql:∀k∈(fps.set e g++[H]).flatten,(w.setCells b (o+e*a.w+c) vs).heap[k]?=w.heap[k]?:=by
       intro k f;obtain⟨i,o',m⟩:=(bY X).2 f;refine World.heap_setCells_other w b _ _ (cm.lt a1 (aJ.2 ⟨d,j,i+1,o',Z,m⟩)) λRs=> ?_
       subst Rs;obtain⟨_,_,e⟩:=a1.apart _ _ _ _ _ _ _ _ _ Z Z m Q1
       cases e
      have hW:Tr F G2 owA w G2 (bw owA d j (some (.nrow a (l.set e z.1) none))) (w.setCells b (o+e*a.w+c) vs):=qH (ob':= .nrow a (l.set e z.1) none) a1 hF Rg trivial ⟨rfl,by simp⟩ trivial Q1 hb E λRt Ry Qy=>by
       refine⟨Q6,fps.set e g++[H],X,?_⟩;simp only[Q1];refine⟨_,et,Rt,by rw[bN E];simpa using Q7,by simp;omega,λk f=>by rw[Ql k f];exact D k f,λi hi Qq _=> ?_,λe' u B=>by cases B⟩;have L:i<l.length:=by simpa using hi
       have Qr:∀k∈(fps.set e g++[H])[i],(w.setCells b (o+e*a.w+c) vs).heap[k]?=w.heap[k]?:=λk f=>Ql k (iw Qq f)
       by_cases V:i=e
       ·subst V
        have Q0:i<(fps.set i g).length:=by simp;omega
        have e1:(fps.set i g++[H])[i]=g:=by rw[a1j Q0];simp
        rw[e1]at Qr⊢;simp only[a3k];have e2:bP (nh r (o+i*a.w+c) vs) (o+i*a.w) a.w=(bP r (o+i*a.w) a.w).take c++vs++(bP r (o+i*a.w) a.w).drop (c+vs.length):=by
         refine a2g λq=> ?_
         by_cases hq:q<a.w
         ·rw[aM hq,iy E]
          have hs:=aM (r:=r) (o:=o+i*a.w) (n:=a.w) (i:=q) hq;have Ru:(bP r (o+i*a.w) a.w).length=a.w:=aY (by omega);by_cases h2:q<c
          ·rw[a0c (by omega),a1r,a1k (by simp;omega),a4i,a0e h2,hs]
          ·by_cases h3:q<c+vs.length
           ·rw[a0e (by omega),a1k (by simp;omega),a0w (by simp;omega)]
            congr 1
            simp;omega
           ·rw[a0c (by omega),a0w (by simp;omega),a2v]
            have:c+vs.length+(q-((bP r (o+i*a.w) a.w).take c++vs).length)=q:=by simp;omega
            rw[this,hs]
         ·rw[kn (by omega),a1g]
          have Ru:(bP r (o+i*a.w) a.w).length=a.w:=aY (by omega);simp;omega
        rw[e2];exact cq.mono (λk W f K=>by
         obtain⟨k1,k2⟩:=Qw k W f K;exact Qy k W k1 k2) a Qr hS
       ·simp only[a3b (Ne.symm V)]
        obtain⟨Qp,e1⟩:=U i L Qq V;rw[e1]at Qr⊢;have e2:bP (nh r (o+e*a.w+c) vs) (o+i*a.w) a.w=bP r (o+i*a.w) a.w:=by
         rcases a3y i e with O|hge
         ·have:(i+1)*a.w<=e*a.w:=a0p _ O
          rw[a1d,a2x]at this;exact b8 E (by omega)
         ·have:(e+1)*a.w<=i*a.w:=a0p _ (by omega)
          rw[a1d,a2x]at this;exact iz E (by omega)
        rw[e2];exact cq.mono (λk W f K=>by
         obtain⟨k1,k2⟩:=Qw k W (eC hT hf f) K;exact Qy k W k1 k2) a Qr (R i L Qp (λu B=>by cases B))
      have Rv:bw owA d j (some (.nrow a (l.set e z.1) none))=bw z.2 d j (some (.nrow a (l.set e z.1) none)):=by
       rw[<-Y,DG]
      rw[Rv]at hW;exact⟨_,_,G2,h,fY hi hb Q3 h1 hl E,(Ri.trans Rr).trans hW⟩
     ·exact h.elim
    ·exact h.elim
   ·exact h.elim
 ·split at h
  ·rename_i s' l p' hg
   obtain⟨B,h⟩:=h;have B:e=p'.1:=by simpa using B
   obtain⟨e0,u⟩:=p';have B:e=e0:=B;subst B;split at h
   ·rename_i Rh Qt
    obtain⟨E,rfl⟩:=zB Qt;have hn:=aH hg
    cases hp with
    |rp hp=>
    simp only[hn]at hp;obtain⟨_,b,o,hG,rfl⟩:=hp;have I:=hh.obs d j _ hn;obtain⟨_,fps,_,I⟩:=I;simp only[hG]at I;obtain⟨r,et,hb,_⟩:=I;obtain⟨k1,k2⟩:=Ge hh hF hn N hG hb E;exact⟨_,_,G,h,fY hi hb Q3 h1 hl k1,k2⟩
   ·exact h.elim
  ·exact h.elim
end Go.Pev
namespace Go.Pev
variable {F:Nat->Prop} {G:Gh} {ow ow1 ow2:OW} {w:World} {P:Program}
def pT (k:bz F G ow w.heap) {w1:World} (n:w1.heap=w.heap) (c:Obj):bz (FP F [w.heap.size]) G ow (w1.alloc c).heap/\(∀s v,Sv F G ow w.heap s v->Sv (FP F [w.heap.size]) G ow (w1.alloc c).heap s v)/\∀b r,cR F G ow b->ap w.heap b=some r->cR (FP F [w.heap.size]) G ow b/\ap (w1.alloc c).heap b=some r:=by
 have l:∀b,b<w.heap.size->(w1.alloc c).heap[b]?=w.heap[b]?:=λb g=>by rw[cu w1 c (by rw[n];exact g),n]
 have a:∀b r,ap w.heap b=some r->ap (w1.alloc c).heap b=some r:=λb r f=>by
  unfold ap at f⊢;rw[l b (cE f)];exact f
 have h:∀b r,cR F G ow b->ap w.heap b=some r->cR (FP F [w.heap.size]) G ow b/\ap (w1.alloc c).heap b=some r:=λb r g f=>⟨⟨λhx=>by
  rcases hx with hx|hx
  ·exact g.1 hx
  ·have:=cE f
   have:b=w.heap.size:=by simpa using hx
   omega,g.2⟩,a b r f⟩
 have m:∀b r,ap w.heap b=some r->∃p,ap (w1.alloc c).heap b=some p/\p.size=r.size:=λb r f=>⟨r,a b r f,rfl⟩
 refine⟨⟨λd j o q=> ?_,k.apart,λb g hx=> ?_⟩,λs v e=>ct.mono (λ_ _ _=>rfl) (λ_ _=> .refl _) h m e,h⟩
 ·exact db.mono (λ_ _ _=>rfl) (λ_ _=> .refl _) h m rfl (λt i b u x=>l b (cm.lt k (aJ.2 ⟨d,j,i,u,by rw[q];exact t,x⟩))) (k.obs d j o q)
 ·rcases hx with hx|hx
  ·exact k.notF b g hx
  ·have:=cm.lt k g
   have:b=w.heap.size:=by simpa using hx
   omega
def Gf (l:bz F G ow w.heap) {b p:Nat} {vs:List Value} {r:Array Value} {et:TypeId} (m:F b) (x:w.heap[b]?=some (.cells r et (0,0))) (y:p+vs.length<=r.size):bz F G ow (w.setCells b p vs).heap/\(∀s v,Sv F G ow w.heap s v->Sv F G ow (w.setCells b p vs).heap s v)/\∀a c,cR F G ow a->ap w.heap a=some c->cR F G ow a/\ap (w.setCells b p vs).heap a=some c:=by
 have u:=cS vs p w x y;have f:∀a c,cR F G ow a->ap w.heap a=some c->cR F G ow a/\ap (w.setCells b p vs).heap a=some c:=λa c h g=>⟨h,by
  unfold ap;rw[World.heap_setCells_other w b _ _ (cE g) λe=>h.1 (e▸m)];exact g⟩
 have n:∀k t,ap w.heap k=some t->∃c,ap (w.setCells b p vs).heap k=some c/\c.size=t.size:=λk t g=>by
  by_cases e:k=b
  ·subst e
   rw[aO x]at g
   cases g
   exact⟨_,aO u,bN y⟩
  ·refine⟨t,?_,rfl⟩
   unfold ap;rw[World.heap_setCells_other w b _ _ (cE g) e];exact g
 refine⟨⟨λd j o z=> ?_,l.apart,l.notF⟩,λs v e=>ct.mono (λ_ _ _=>rfl) (λ_ _=> .refl _) f n e,f⟩;exact db.mono (λ_ _ _=>rfl) (λ_ _=> .refl _) f n rfl (λA i k B C=>by
  have q:cm G ow k:=aJ.2 ⟨d,j,i,B,by rw[z];exact A,C⟩;exact World.heap_setCells_other w b _ _ (cm.lt l q) λe=>l.notF k q (e▸m)) (l.obs d j o z)
def rT {F1 F2:Nat->Prop} {h:Array Obj} (k:∀b,F2 b->F1 b) (g:bz F1 G ow h):bz F2 G ow h/\(∀s v,Sv F1 G ow h s v->Sv F2 G ow h s v)/\∀b r,cR F1 G ow b->ap h b=some r->cR F2 G ow b/\ap h b=some r:=by
 have a:∀b r,cR F1 G ow b->ap h b=some r->cR F2 G ow b/\ap h b=some r:=λb r f c=>⟨⟨λi=>f.1 (k b i),f.2⟩,c⟩
 refine⟨⟨λd j o l=> ?_,g.apart,λb f i=>g.notF b f (k b i)⟩,λs v e=>ct.mono (λ_ _ _=>rfl) (λ_ _=> .refl _) a (λb r c=>⟨r,c,rfl⟩) e,a⟩;exact db.mono (λ_ _ _=>rfl) (λ_ _=> .refl _) a (λb r c=>⟨r,c,rfl⟩) rfl (λ_ _ _ _ _=>rfl) (g.obs d j o l)
def nX (m:dt ow ow1) {a:World} {c:List Nat} (o:bz (FP F c) G ow1 a.heap) (e:∀s v,Sv F G ow w.heap s v->Sv (FP F c) G ow1 a.heap s v) (p:fh (cm G ow) w a)
 (f:∀b∈c,¬F b/\(cm G ow b\/w.heap.size<=b)) (j:c.Nodup) {s:Sh} {l:List s.T} {v:Value} (q:cq a.heap (cR (FP F c) G ow1) (.rows s) l [v] c) {d:Nat} (n:bV ow1 d [.nrow s l none]=some ow2):
 ∃i,Tr F G ow w i ow2 a/\Sv F i ow2 a.heap (.wh d 0 0 []) v:=by
 obtain⟨i,c1,c2,r,t,y⟩:=rS (s:= .rows s) (x:=l) o q j (λb hb=>(f b hb).1) (d:=d) n;obtain⟨g,_,_⟩:=fj n;refine⟨i,⟨c1,λs v h=>r s v (e s v h),p,λb hb=> ?_,by rw[g,m.len]⟩,?_⟩
 ·rcases(t b).1 hb with hb|hb
  ·exact .inl (m.own hb)
  ·exact(f b hb).2
 ·obtain⟨u,k,h⟩:=c2.single'
  have k:v=u:=by simpa using k
  rw[k];exact h
def iA {e:TypeId} {s:Sh} (h:k0 P e s=true):s.elem=true/\0<s.w/\s.w=cP P e/\0<c7 P e/\∃i z,P.info? e=some i/\i.zero=some z/\i.size=s.w/\c7 P e=i.bytes/\z.cells.size=s.w:=by
 unfold k0 at h;simp only[a0f,a0u]at h;obtain⟨⟨⟨⟨d,f⟩,c⟩,g⟩,a⟩:=h;refine⟨d,f,c,g,?_⟩;split at a
 ·rename_i z b
  cases hi:P.info? e with
  |none=>simp[hi]at b
  |some i=>
   simp[hi]at b;exact⟨i,z,rfl,b,by rw[c];simp[cP,Program.cellsOf,hi],by simp[c7,Program.bytesOf,hi],by simpa using a⟩
 ·cases a
def AC {e:TypeId} {s:Sh}:(g:List SV)-> {F:Nat->Prop}-> {ow ow1:OW}->(∀b,F b->b<w.heap.size)->bz F G ow w.heap-> {vs:List Value}->dn F G ow w.heap g vs-> {l:List s.T}->PF P e s g ow=some (l,ow1)->∃fps:List (List Nat),dt ow ow1/\ju G ow ow1 fps.flatten/\fps.flatten.Nodup/\l.length=vs.length/\fps.length=l.length/\∀i (d:i<l.length) (m:i<vs.length) (J:i<fps.length),cq w.heap (cR (FP F fps.flatten) G ow1) s l[i] vs[i].cells.toList fps[i]
 |[],F,ow,ow1,hF,hh,vs,hs,l,h=>by
  simp only[PF,a0k,a0y]at h;obtain⟨rfl,rfl⟩:=h;have:vs=[]:=a0s hs.1.symm;subst this;exact⟨[],.refl _,.refl _ _,a2j,rfl,rfl,λi d=>by simp at d⟩
 |v::r,F,ow,ow1,hF,hh,vs,hs,l,h=>by
  simp only[PF]at h;obtain⟨u,R,rfl,K,j⟩:=hs.uncons;split at h
  ·rename_i cs p
   split at h
   ·rename_i x a
    split at h
    ·rename_i y q
     simp only[a0k,a0y]at h;obtain⟨rfl,rfl⟩:=h;obtain⟨S,t,A,_,_⟩:=fI K p;obtain⟨f1,n,o,L,M⟩:=cC s (x:=x.1) (ow1:=x.2) hF hh A a;obtain⟨B,k⟩:=cM hh n o;have C:∀f,FP F f1 f->f<w.heap.size:=by
      intro f hb';rcases hb' with hb'|hb'
      ·exact hF f hb'
      ·exact cm.lt hh (o.own hb')
     obtain⟨fps,D,E,n2,l2,N,O⟩:=AC r (l:=y.1) (ow1:=y.2) C B ⟨j.1,λi d m=>k _ _ (j.2 i d m)⟩ q;refine⟨f1::fps,n.trans D,λz=> ?_,?_,by simp[l2],by simp[N],λi d m J=> ?_⟩
     ·rw[F9.trans n D,<-o z,<-E z,a3f,a0l]
     ·rw[a3f]
      refine a2d.2 ⟨L,n2,λx a y q H=> ?_⟩;subst H;exact o.notOwn hh n a (E.own q)
     ·cases i with
      |zero=>
       simp only[a7z,t];exact cq.mono (λf Q hb' c=>⟨fQ (λI a=>by rw[a3f]at a;exact mr.2 a) (eC D E hb'),c⟩) s (λ_ _=>rfl) M
      |succ i=>
       simp only[a8a];exact cq.mono (λf Q hb' c=>⟨fQ (λI a=>by rw[a3f]at a;exact mr.2 a) hb',c⟩) s (λ_ _=>rfl) (O i (by simpa using d) (by simpa using m) (by simpa using J))
    ·cases h
   ·cases h
  ·cases h
def wm {t e:TypeId} {i:TypeInfo} {z:Value} {n:Nat} {vps:List (Nat×Value)} (F:P.underlying t=some (.slice e)) (u:P.info? e=some i) (H:i.zero=some z) (c:0<i.size) (b:vps.map (·.1)=List.range n) (G:n*i.size<=16777216) (m:∀v∈vps.map (·.2),v.cells.size=i.size):∃r,(Instr.buildSlice t n vps.toArray).run P w= .ok (.slice (some ⟨w.heap.size,0,none⟩) n n) (w.alloc (.cells r e))/\r.size=n*i.size/\∀j (y:j<(vps.map (·.2)).length),bP r (j*i.size) i.size=((vps.map (λx:Nat×Value=>x.2))[j]'y).cells.toList:=by
 have g:vps.length=n:=by
  have:=a1v List.length b;simpa using this
 have A:vps=((vps.map (·.2)).zipIdx 0).map λx=>(x.2,x.1):=rP vps 0 (by rw[b,g,a3x])
 have o:∀p:Array Value,∃r,Instr.fill (λj=>some (j*i.size,i.size)) ((Array.range (n*i.size)).map (p[· % p.size]!)) vps=some r/\r.size=n*i.size/\∀j (y:j<(vps.map (·.2)).length),bP r (j*i.size) i.size=((vps.map (λx:Nat×Value=>x.2))[j]'y).cells.toList:=by
  intro p;obtain⟨r,b,a,B⟩:=Great.fill_dense c (vps.map (·.2)) 0 ((Array.range (n*i.size)).map (p[· % p.size]!)) m (by simp[g]);rw[<-A]at b;simp only[Array.size_map,Array.size_range]at a;refine⟨r,b,a,λj h=> ?_⟩;have C:(j+1)*i.size<=n*i.size:=a0p _ (by simp at h;omega);rw[a1d,a2x]at C;apply a2g;intro q;have s:=m _ (a0h h);by_cases D:q<i.size
  ·rw[aM D,B]
   simp only[a7a,a4q,a1o,true_and,a3a,g];rw[a0e (by omega)];have I:(j*i.size+q)/i.size=j:=by rw[a6f,Nat.mul_add_div c,Nat.div_eq_of_lt D];rfl
   have J:(j*i.size+q) % i.size=q:=by rw[a6f,Nat.mul_add_mod,a7u D]
   rw[I,J,a8d,a0a h];simp
  ·rw[a1g (by rw[aY (by rw[a];omega)];omega),a1g (by simp only[a6b];rw[s];omega)]
 by_cases E:n*i.size=0
 ·obtain⟨r,b,a,k⟩:=o #[]
  refine⟨r,?_,a,k⟩;simp only[E]at b;have d:∀f:Nat->Value,(Array.range 0).map f= #[]:=λf=>by simp
  rw[d]at b;simp only[Instr.buildSlice,Sem.run_bind,run_underlying F,Result.andThen_ok,sizeOf,typeInfo,run_program,u,Sem.run_pure,E,a2c];simp only[d,b];simp[newRow]
 ·obtain⟨r,b,a,k⟩:=o z.cells
  refine⟨r,?_,a,k⟩;have l:¬(16777216<n*i.size):=by omega
  simp only[Instr.buildSlice,Sem.run_bind,run_underlying F,Result.andThen_ok,sizeOf,typeInfo,run_program,u,Sem.run_pure];simp[E,l,fP u H,b,newRow]
def Mg {f:List Nat} {b:Nat}:FP (FP F f) [b]=FP F (b::f):=by
 funext x
 exact propext ⟨λh=>by
  rcases h with(h|h)|h
  ·exact .inl h
  ·exact .inr (a2z _ h)
  ·exact .inr (by simpa using Or.inl h),λh=>by
  rcases h with h|h
  ·exact .inl (.inl h)
  ·rcases a1s.1 h with h|h
   ·exact .inr (by simpa using h)
   ·exact .inl (.inr h)⟩
def wn (I:Nat->Prop) {w1:World} (d:w1.heap=w.heap) (g:w1.os=w.os) (e:w1.output=w.output) (a:w1.tape=w.tape) (c:Obj):fh I w (w1.alloc c):=⟨by simp[d],λb i _=>by rw[cu w1 c (by rw[d];exact i),d],λb r et f h=>⟨r,by rw[cu w1 c (by rw[d];exact(a1b.1 h).1),d];exact h,rfl⟩,g,e,a⟩
def wo {t:TypeId} {n d:Nat} {ps:List (Nat×SV)} {vps:List (Nat×Value)} {s:Sh} (o:bz F G ow w.heap) (X:∀b,F b->b<w.heap.size) (Y:ps.map (·.1)=vps.map (·.1)) (h2:dn F G ow w.heap (ps.map (·.2)) (vps.map (·.2))) {Q:SV×OW->Prop} (h:(vN P t n ps s ow d).can Q):Dk P F G ow w Q (Instr.buildSlice t n vps.toArray):=by
 unfold vN at h;split at h
 ·exact h.elim
 rename_i e he;split at h
 ·rename_i hc
  obtain⟨Z,q,D⟩:=hc;obtain⟨E,Ql,H,I,i,z,hi,hz,a,Qm,_⟩:=iA D;split at h
  ·rename_i y hy
   split at h
   ·rename_i ow' hn
    have hu:=fw he;obtain⟨fps,hT,J,K,c,L,k⟩:=AC (P:=P) _ (l:=y.1) (ow1:=y.2) X o h2 hy;have M:vps.length=n:=by
     have:=a1v List.length Z;simp at this;have h3:=a1v List.length Y;simp at h3;omega
    have N:y.1.length=n:=by rw[c];simp[M]
    have O:∀v∈vps.map (·.2),v.cells.size=i.size:=by
     intro v hv;obtain⟨j,p,rfl⟩:=a4c hv;have:=cq.length s (k j (by rw[c];exact p) p (by rw[L,c];exact p));rw[a,<-this];simp
    obtain⟨r,u,R,f⟩:=wm (w:=w) hu hi hz (by omega) (by rw[<-Y];exact Z) (by rw[a,H];exact q) O;obtain⟨S,x⟩:=cM o hT J;obtain⟨a1,a2,a3⟩:=pT S (w1:=w) rfl (.cells r e);have A:(w.alloc (.cells r e)).heap[w.heap.size]?=some (.cells r e):=cI _ _;rw[Mg]at a1;have g:∀b∈fps.flatten,cm G ow b:=λb hb=>J.own hb
    have m:∀b∈fps.flatten,(w.alloc (.cells r e)).heap[b]?=w.heap[b]?:=λb hb=>cu w _ (cm.lt o (g b hb))
    have hS:cq (w.alloc (.cells r e)).heap (cR (FP F (w.heap.size::fps.flatten)) G y.2) (.rows s) y.1 [.slice (some ⟨w.heap.size,0,none⟩) n n] (w.heap.size::fps.flatten):=by
     refine⟨_,rfl,E,_,n,by rw[N],by omega,.inr ⟨w.heap.size,0,r,e,fps,rfl,rfl,A,by rw[R,a];omega,by omega,λb hb=> ?_,λj p B=> ?_⟩⟩
     ·rw[m b hb]
      obtain⟨d',j',i',o',T,U,_⟩:=(J b).1 hb;exact lc o T U
     ·have C:j<(vps.map (·.2)).length:=by rw[<-c];exact p
      have e1:=f j C;rw[a]at e1;rw[a1o,e1];refine cq.mono (λb' r' V W=> ?_) s (λb hb=>m b (iw B hb)) (k j p C B);have:=a3 b' r' V W;rw[Mg]at this;exact this
    obtain⟨G2,k1,k2⟩:=nX (F:=F) hT a1 (λs v h=>by have:=a2 s v (x s v h);rw[Mg]at this;exact this) (wn _ rfl rfl rfl rfl _) (λb hb=>by
     rcases a1s.1 hb with rfl|hb
     ·exact⟨λhx=>a6u _ (X _ hx),.inr (a1l _)⟩
     ·exact⟨o.notF b (g b hb),.inl (g b hb)⟩) (a4s.2 ⟨λhb=>a6u _ (cm.lt o (g _ hb)),K⟩) hS hn
    exact⟨_,_,_,_,_,h,u,k1,k2⟩
   ·exact h.elim
  ·exact h.elim
 ·exact h.elim
def cq.one {h:Array Obj} {ok:Nat->Prop}:(s:Sh)->s.elem=true-> {x:s.T}-> {vs:List Value}-> {d:List Nat}->cq h ok s x vs d->∀u∈vs,u.oneCell'=true
 | .pur kd,hs,_,_,_,e=>by
  obtain⟨v,rfl,_,_,_,f⟩:=e;have g:kd.isSt=false:=by simpa using(a0f _ _▸hs:kd.noOwn=true/\(!kd.isSt)=true).2
  intro u hu;have:u=v:=by simpa using hu
  rw[this];exact f g
 | .own _,_,_,_,_,e=>by
  obtain⟨v,rfl,_,a,c,rfl,_⟩:=e;intro u hu;rw[a1c]at hu;subst hu;rfl
 | .rows _,_,_,_,_,e=>by
  obtain⟨v,rfl,_,a,c,rfl,_⟩:=e;intro u hu;rw[a1c]at hu;subst hu;rfl
 | .nil,_,_,_,_,e=>by rw[e.1];intro u hu;simp at hu
 | .cons a b,hs,_,_,_,e=>by
  simp only[Sh.elem,a0f]at hs;obtain⟨v,r,f1,f2,rfl,rfl,i,j⟩:=e;intro u hu;rcases a1s.1 hu with rfl|hu
  ·exact cq.one a hs.1.2 i _ (by simp)
  ·exact cq.one b hs.2 j u hu
 | .row _,hs,_,_,_,_=>by simp[Sh.elem]at hs
 | .nrw _,hs,_,_,_,_=>by simp[Sh.elem]at hs
 | .box _,hs,_,_,_,_=>by simp[Sh.elem]at hs
 | .agg _,hs,_,_,_,_=>by simp[Sh.elem]at hs
 | .fn _ _ _,hs,_,_,_,_=>by simp[Sh.elem]at hs
 | .ign,hs,_,_,_,_=>by simp[Sh.elem]at hs
 | .nl,hs,_,_,_,_=>by simp[Sh.elem]at hs
structure P7 (h:Array Obj) (ok:Nat->Prop) (s:Sh) (l:List s.T) (v:Value) (fp:List Nat) (cs:List Value) (fps:List (List Nat)) (junk:List Nat):Prop where
 val:∃a c,v= .slice a l.length c/\l.length<=c/\((a=none/\l=[]/\c=0/\fp=[]/\fps=[]/\junk=[])\/∃b o r et,a=some ⟨b,o,none⟩/\h[b]?=some (.cells r et (0,0))/\o+c*s.w<=r.size/\cs=bP r o (l.length*s.w)/\fp.Perm (b::(fps.flatten++junk)))
 len:fps.length=l.length
 clen:cs.length=l.length*s.w
 el:∀i (hi:i<l.length) (hf:i<fps.length),cq h ok s l[i] ((cs.drop (i*s.w)).take s.w) fps[i]
def Ig {h:Array Obj} {ok:Nat->Prop} {s:Sh} {l:List s.T} {v:Value} {q:List Nat} (e:cq h ok (.rows s) l [v] q):∃cs fps f,P7 h ok s l v q cs fps f:=by
 obtain⟨t,k,u,a,c,g,d,e⟩:=e;have k:v=t:=by simpa using k
 subst k;rcases e with⟨rfl,rfl,rfl,rfl⟩|⟨b,o,r,et,fps,rfl,rfl,x,y,B,C,z⟩
 ·exact⟨[],[],[],⟨_,_,g,d,.inl ⟨rfl,rfl,rfl,rfl,rfl,rfl⟩⟩,rfl,by simp,λi j=>by simp at j⟩
 ·have A:l.length*s.w<=c*s.w:=a0p _ d
  have m:(bP r o (l.length*s.w)).length=l.length*s.w:=aY (by omega);refine⟨bP r o (l.length*s.w),fps.take l.length,(fps.drop l.length).flatten,⟨_,_,g,d,.inr ⟨b,o,r,et,rfl,x,y,rfl,?_⟩⟩,by simp;omega,m,λi j D=> ?_⟩
  ·rw[<-a4r,a3t]
  ·have p:(i+1)*s.w<=l.length*s.w:=a0p _ j
   rw[a1d,a2x]at p;have:=z i j (by omega);rw[gw (n:=l.length*s.w) (by omega)]at this;simpa using this
def py {h:Array Obj} {ok:Nat->Prop} {s:Sh} (d:s.elem=true) {l:List s.T} {b o c:Nat} {r:Array Value} {et:TypeId} (k:h[b]?=some (.cells r et (0,0))) (a:l.length<=c) (m:o+c*s.w<=r.size) {fps:List (List Nat)} (p:l.length<=fps.length)
 (q:∀t∈fps.flatten,∃r et,h[t]?=some (Obj.cells r et (0,0))) {cs:List Value} (e:bP r o (l.length*s.w)=cs) (u:∀i (f:i<l.length) (j:i<fps.length),cq h ok s l[i] ((cs.drop (i*s.w)).take s.w) fps[i]):
 cq h ok (.rows s) l [.slice (some ⟨b,o,none⟩) l.length c] (b::fps.flatten):=by
 have v:l.length*s.w<=c*s.w:=a0p _ a;refine⟨_,rfl,d,_,_,rfl,a,.inr ⟨b,o,r,et,fps,rfl,rfl,k,m,p,q,λi f j=> ?_⟩⟩;have g:(i+1)*s.w<=l.length*s.w:=a0p _ f;rw[a1d,a2x]at g;rw[gw (n:=l.length*s.w) (by omega),e];exact u i f j
def tz {h:Array Obj} {ok:Nat->Prop} {s:Sh} {l1 l2:List s.T} {c1 c2:List Value} {f1 f2:List (List Nat)} (n:f1.length=l1.length) (j:c1.length=l1.length*s.w)
 (k:∀i (c:i<l1.length) (d:i<f1.length),cq h ok s l1[i] ((c1.drop (i*s.w)).take s.w) f1[i]) (l:∀i (c:i<l2.length) (d:i<f2.length),cq h ok s l2[i] ((c2.drop (i*s.w)).take s.w) f2[i]) (a:List (List Nat)) (n2:f2.length=l2.length):
 ∀i (c:i<(l1++l2).length) (d:i<(f1++f2++a).length),cq h ok s (l1++l2)[i] (((c1++c2).drop (i*s.w)).take s.w) (f1++f2++a)[i]:=by
 intro i c d;rw[a0m]at c;have f:(f1++f2++a)[i]=(f1++f2)[i]'(by simp;omega):=a1j (by simp;omega);rw[f];by_cases b:i<l1.length
 ·have g:(i+1)*s.w<=l1.length*s.w:=a0p _ b
  rw[a1d,a2x]at g;rw[a1j b,a1j (by omega)];have e:((c1++c2).drop (i*s.w)).take s.w=(c1.drop (i*s.w)).take s.w:=by
   rw[List.drop_append_of_le_length (by omega),List.take_append_of_le_length (by simp;omega)]
  rw[e];exact k i b (by omega)
 ·rw[a1z (by omega),a1z (by omega)]
  have e:(c1++c2).drop (i*s.w)=c2.drop ((i-l1.length)*s.w):=by
   have:i*s.w=c1.length+(i-l1.length)*s.w:=by rw[j,<-a1d];congr 1;omega
   rw[this,List.drop_length_add_append]
  have m:i-f1.length=i-l1.length:=by omega
  simp only[e,m];exact l (i-l1.length) (by omega) (by omega)
def pU {h:Array Obj} {ok:Nat->Prop} {s:Sh} (d:s.elem=true) (a:0<s.w) {l:List s.T} {cs:List Value} {fps:List (List Nat)} (k:cs.length=l.length*s.w) (m:fps.length=l.length) (e:∀i (n:i<l.length) (o:i<fps.length),cq h ok s l[i] ((cs.drop (i*s.w)).take s.w) fps[i]):∀u∈cs,u.oneCell'=true:=by
 intro u f;obtain⟨q,g,rfl⟩:=a2f.1 f;have b:q/s.w<l.length:=(Nat.div_lt_iff_lt_mul a).2 (by omega);have j:=Nat.div_add_mod q s.w;have c:=Nat.mod_lt q a;refine cq.one s d (e (q/s.w) b (by omega)) _ (a8g.2 ⟨q % s.w,?_⟩);rw[a4i,a0e c,a2v,a6f,j,a0a g]
def N4 {r:Array Value} (o m k:Nat):bP r o (m+k)=bP r o m++bP r (o+m) k:=by
 simp[bP,List.take_add,a4n]
def nY {t tx ty e e':TypeId} {f:Sh} {d:Nat} (hh:bz F G ow w.heap) (hF:∀b,F b->b<w.heap.size) (O:P.underlying t=some (.slice e)) (Ra:P.underlying tx=some (.slice e')) (Q0:k0 P e f=true)
 {F1:Nat->Prop} {k ow':OW} (hT:dt ow k) (X:bz F1 G k w.heap) (B:∀s v,Sv F G ow w.heap s v->Sv F1 G k w.heap s v) (Y:∀b,F b->F1 b)
 {l1 l2:List f.T} {c1 c2:List Value} {f1 f2 J:List (List Nat)} (k1:c1.length=l1.length*f.w) (k2:c2.length=l2.length*f.w) (C:l1.length+l2.length<=(f1++f2++J).length)
 (hE:∀i (R:i<(l1++l2).length) (hf:i<(f1++f2++J).length),cq w.heap (cR F1 G k) f (l1++l2)[i] (((c1++c2).drop (i*f.w)).take f.w) (f1++f2++J)[i])
 (S:(f1++f2++J).flatten.Nodup) (U:∀b∈(f1++f2++J).flatten,F1 b/\cm G ow b) {a1:Option Addr} {cap1:Nat} {xv:Value}
 (Z:(a1=none/\l1=[]/\cap1=0)\/∃b o r et,a1=some ⟨b,o,none⟩/\w.heap[b]?=some (.cells r et (0,0))/\o+cap1*f.w<=r.size/\c1=bP r o (l1.length*f.w)/\F1 b/\cm G ow b/\b∉(f1++f2++J).flatten)
 (Q8:l1.length<=cap1) (D:Src P f.w tx xv l2.length c2 w) (Qn:(l1.length+l2.length)*c7 P e<=ai) (hn:bV k d [.nrow f (l1++l2) none]=some ow') {Q:SV×OW->Prop} (h:Q (.wh d 0 0 [],ow')):
 Dk P F G ow w Q (Builtin.append_ #[t,tx] ty #[.slice a1 l1.length cap1,xv]):=by
 obtain⟨Ql,Q9,Rb,E,i,z,R,hz,y,Q1,Q2⟩:=iA Q0;have n:∀b∈(f1++f2++J).flatten,∃r et,w.heap[b]?=some (Obj.cells r et (0,0)):=λb hb=>by
  obtain⟨d',j',i',o',Q3,Q4⟩:=aJ.1 (U b hb).2;exact lc hh Q3 Q4
 have Qo:∀(b:Nat),(b=w.heap.size\/F1 b)->∀x,FP F (b::(f1++f2++J).flatten) x->FP F1 [w.heap.size] x:=λb hb x hx=>by
  rcases hx with hx|hx
  ·exact .inl (Y x hx)
  ·rcases a1s.1 hx with rfl|hx
   ·rcases hb with hb|hb
    ·exact .inr (by simp[hb])
    ·exact .inl hb
   ·exact .inl (U x hx).1
 have V:∀(b:Nat),(b=w.heap.size\/cm G ow b)->∀x∈b::(f1++f2++J).flatten,¬F x/\(cm G ow x\/w.heap.size<=x):=λb hb x hx=>by
  rcases a1s.1 hx with rfl|hx
  ·rcases hb with rfl|hb
   ·exact⟨λhx=>a6u _ (hF _ hx),.inr (a1l _)⟩
   ·exact⟨hh.notF _ hb,.inl hb⟩
  ·exact⟨hh.notF _ (U x hx).2,.inl (U x hx).2⟩
 by_cases H:a1=none/\l2.length=0
 ·obtain⟨rfl,Q5⟩:=H
  have Q6:l2=[]:=a0s Q5;subst Q6;have Q7:c2=[]:=a0s (by rw[k2];simp);subst Q7;rcases Z with⟨_,rfl,rfl⟩|⟨b,o,r,et,h0,_⟩
  ·obtain⟨d1,d2,d3⟩:=rT (F1:=F1) (F2:=FP F []) (λb hb=>by
    rcases hb with hb|hb
    ·exact Y b hb
    ·simp at hb) X
   have hS:cq w.heap (cR (FP F []) G k) (.rows f) [] [.slice none 0 0] []:=⟨_,rfl,Ql,none,0,rfl,a1l _,.inl ⟨rfl,rfl,rfl,rfl⟩⟩;obtain⟨G2,q1,q2⟩:=nX (F:=F) hT d1 (λs v h=>d2 s v (B s v h)) (.refl _ _) (λb hb=>by simp at hb) a2j hS hn;exact⟨_,_,_,_,_,h,g5 O R none (by rw[y];exact D),q1,q2⟩
  ·cases h0
 by_cases g:l1.length+l2.length<=cap1
 ·rcases Z with⟨rfl,rfl,rfl⟩|⟨b,o,r,et,rfl,hb,W,M,Qp,Qq,Qr⟩
  ·exact absurd ⟨rfl,by simpa using g⟩ H
  ·have Qt:(l1.length+l2.length)*f.w<=cap1*f.w:=a0p _ g
   rw[a1d]at Qt;have I:o+l1.length*f.w+c2.length<=r.size:=by rw[k2];omega
   have m:=run_append_room_src (P:=P) w t tx ty e i O R b o l1.length cap1 _ l2.length c2 (by rw[y];exact D) g
    (λj hj=>by rw[y,bL (aO hb)];simp;omega)
    (λj hj=>by unfold World.frozen?;rw[hb];simp)
   rw[y]at m;obtain⟨q1,q2,q3⟩:=Gf (p:=o+l1.length*f.w) (vs:=c2) X Qp hb I;obtain⟨d1,d2,d3⟩:=rT (F2:=FP F (b::(f1++f2++J).flatten)) (λx hx=>by
    rcases hx with hx|hx
    ·exact Y x hx
    ·rcases a1s.1 hx with rfl|hx
     ·exact Qp
     ·exact(U x hx).1) q1
   have K:=cS c2 (o+l1.length*f.w) w hb I;have a:∀x∈(f1++f2++J).flatten,(w.setCells b (o+l1.length*f.w) c2).heap[x]?=w.heap[x]?:=λx hx=>
    World.heap_setCells_other w b _ _ (cm.lt hh (U x hx).2) λe=>Qr (e▸hx)
   have hS:=py (ok:=cR (FP F (b::(f1++f2++J).flatten)) G k) Ql (l:=l1++l2) (b:=b) (o:=o) (c:=cap1) (fps:=f1++f2++J) (cs:=c1++c2) K (by simpa using g) (by rw[bN I];exact W) (by simpa using C)
    (λx hx=>by rw[a x hx];exact n x hx) (by
     rw[a0m,a1d,<-k2,N4,b8 I (a1l _),eL I,<-M])
    (λi R hf=>cq.mono (λb' r' K Qm=>by
     obtain⟨m1,N⟩:=q3 b' r' K Qm;exact d3 b' r' m1 N) f (λx hx=>a x (iw hf hx)) (hE i R hf))
   obtain⟨G2,m1,N⟩:=nX (F:=F) hT d1 (λs v h=>d2 s v (q2 s v (B s v h))) (gQ Qq w _ _) (V b (.inr Qq)) (a4s.2 ⟨Qr,S⟩) hS hn;rw[a0m]at N;exact⟨_,_,_,_,_,h,m,m1,N⟩
 ·have L:cap1<l1.length+l2.length:=by omega
  have Qu:(Builtin.firstCells i.size l1.length (.slice a1 l1.length cap1)).run P w.drew= .ok c1.toArray w.drew:=by
   rcases Z with⟨rfl,rfl,rfl⟩|⟨b,o,r,et,rfl,hb,W,M,_⟩
   ·have:c1=[]:=a0s (by rw[k1];simp)
    rw[this];exact run_firstCells_none w.drew i.size 0 0 0
   ·refine run_firstCells_some w.drew i.size l1.length _ _ _ _ (by rw[y];exact k1) (λj u O=> ?_)
    rw[Addr.add_mid];show w.cell? _=_;rw[M]at O;rw[bL (aO hb),<-O,aM];rcases a3y j (l1.length*f.w)with h|h
    ·exact h
    ·rw[a1g (by rw[<-M,k1];exact h)]at O;cases O
  rw[Q1]at Qn E;unfold ai at Qn;have h3:l1.length+l2.length<=(l1.length+l2.length)*i.bytes:=a4m _ E;have Qv:=na (l1.length+l2.length) cap1 L;have Qw:Builtin.nextslicecap (l1.length+l2.length) cap1*i.bytes<=281474976710656:=by
   have:=a0p i.bytes Qv;rw[Nat.mul_assoc]at this;omega
  have m:=run_append_grow_src (P:=P) w t tx ty e i z O R hz a1 l1.length cap1 c1 Qu _ l2.length c2 (by rw[y];exact D) L (by omega) Qw;have Qy:=grownCap_ge w (l1.length+l2.length) cap1 e
  generalize Rc:grownCap w (l1.length+l2.length) cap1 e=cc at m Qy
  obtain⟨q1,q2,q3⟩:=pT X (w1:=w.drew) rfl (.cells ((c1++c2).toArray++Builtin.zeroCells z.cells (cc-(l1.length+l2.length))) e);obtain⟨d1,d2,d3⟩:=rT (F2:=FP F (w.heap.size::(f1++f2++J).flatten)) (Qo _ (.inl rfl)) q1;have Qz:(w.drew.alloc (.cells ((c1++c2).toArray++Builtin.zeroCells z.cells (cc-(l1.length+l2.length))) e)).heap[w.heap.size]?=some (.cells ((c1++c2).toArray++Builtin.zeroCells z.cells (cc-(l1.length+l2.length))) e):=cI w.drew _;have a:∀x∈(f1++f2++J).flatten,(w.drew.alloc (.cells ((c1++c2).toArray++Builtin.zeroCells z.cells (cc-(l1.length+l2.length))) e)).heap[x]?=w.heap[x]?:=λx hx=>cu w.drew _ (cm.lt hh (U x hx).2)
  have q:(c1++c2).length=(l1.length+l2.length)*f.w:=by rw[a0m,k1,k2,a1d]
  have hS:=py (ok:=cR (FP F (w.heap.size::(f1++f2++J).flatten)) G k) Ql (l:=l1++l2) (b:=w.heap.size) (o:=0) (c:=cc) (fps:=f1++f2++J) (cs:=c1++c2) Qz (by simpa using Qy) (by
   simp only[a3e,a2t,q,dV,Q2];rw[<-a1d,a1o];exact a0p _ (by omega)) (by simpa using C)
   (λx hx=>by rw[a x hx];exact n x hx) (by
    rw[a0m,<-q]
    generalize c1++c2=A
    simp[bP])
   (λi R hf=>cq.mono (λb' r' K Qm=>by
    obtain⟨m1,N⟩:=q3 b' r' K Qm;exact d3 b' r' m1 N) f (λx hx=>a x (iw hf hx)) (hE i R hf))
  obtain⟨G2,m1,N⟩:=nX (F:=F) hT d1 (λs v h=>d2 s v (q2 s v (B s v h))) (wn (w:=w) (w1:=w.drew) _ rfl rfl rfl rfl _) (V _ (.inl rfl)) (a4s.2 ⟨λhx=>a6u _ (cm.lt hh (U _ hx).2),S⟩) hS hn;rw[a0m]at N;exact⟨_,_,_,_,_,h,m,m1,N⟩
def uF {t tx ty:TypeId} {s x:SV} {sv xv:Value} {U:Sh} {d:Nat} (V:bz F G ow w.heap) (hF:∀b,F b->b<w.heap.size) (hs:Sv F G ow w.heap s sv) (hx:Sv F G ow w.heap x xv) (Qw:f9 P tx=true) {Q:SV×OW->Prop} (h:(rJ P t s x U ow d).can Q):Dk P F G ow w Q (Builtin.append_ #[t,tx] ty #[sv,xv]):=by
 obtain⟨e',K⟩:=gP Qw;unfold rJ at h;split at h
 ·exact h.elim
 rename_i e he;have W:=fw he;split at h
 ·rename_i y1 Qy
  split at h
  ·rename_i y2 X
   split at h
   ·rename_i Y
    obtain⟨n,h⟩:=h;have n:=a0x n;obtain⟨Z,C,Rc,Qz,i,z,hi,hz,Ql,Rd,Re⟩:=iA Y;split at h
    ·rename_i ow' hn
     obtain⟨l1,Rf⟩:=y1;obtain⟨l2,Q0⟩:=y2;dsimp only at X n hn h;obtain⟨f,t1,o1,n1,r1⟩:=cC (.rows U) hF V (.cons hs .nil) Qy;obtain⟨Qm,D⟩:=cM V t1 o1;have Q1:∀b',FP F f b'->b'<w.heap.size:=by
      intro b' hb';rcases hb' with hb'|hb'
      ·exact hF b' hb'
      ·exact cm.lt V (o1.own hb')
     obtain⟨E,t2,o2,n2,r2⟩:=cC (.rows U) Q1 Qm (.cons (D _ _ hx) .nil) X;obtain⟨Q2,Qn⟩:=cM Qm t2 o2;have hT:=t1.trans t2;have Q3:cq w.heap (cR (FP (FP F f) E) G Q0) (.rows U) l1 [sv] f:=cq.mono (λb' r' hb' Q4=>⟨eC t2 o2 hb',Q4⟩) (.rows U) (λ_ _=>rfl) r1;obtain⟨c1,f1,H,y⟩:=Ig Q3;obtain⟨c2,f2,I,g⟩:=Ig r2;obtain⟨a1,cap1,rfl,Qo,L⟩:=y.val;obtain⟨a2,Qp,rfl,Ra,M⟩:=g.val;have c:∀b,b∈f\/b∈E->cm G ow b:=λb hb=>by
      rcases hb with hb|hb
      ·exact o1.own hb
      ·exact t1.own (o2.own hb)
     have k:∀b∈f,b∉E:=λb hb Q5=>o1.notOwn V t1 hb (o2.own Q5)
     have Qv:∀b,b∈f\/b∈E->∃r et,w.heap[b]?=some (Obj.cells r et (0,0)):=λb hb=>by
      obtain⟨d',j',i',o',Q6,Q7⟩:=aJ.1 (c b hb);exact lc V Q6 Q7
     have l:∀b,b∈f1.flatten++H->b∈f:=λb hb=>by
      rcases L with⟨_,_,_,rfl,rfl,rfl⟩|⟨b1,o,r,et,_,_,_,_,A⟩
      ·simp at hb
      ·exact A.mem_iff.2 (a2z _ hb)
     have a:∀b,b∈f2.flatten++I->b∈E:=λb hb=>by
      rcases M with⟨_,_,_,rfl,rfl,rfl⟩|⟨b1,o,r,et,_,_,_,_,A⟩
      ·simp at hb
      ·exact A.mem_iff.2 (a2z _ hb)
     have Qq:(f1.flatten++H).Nodup:=by
      rcases L with⟨_,_,_,rfl,rfl,rfl⟩|⟨b1,o,r,et,_,_,_,_,A⟩
      ·simp
      ·exact(a4s.1 (A.nodup_iff.1 n1)).2
     have Qr:(f2.flatten++I).Nodup:=by
      rcases M with⟨_,_,_,rfl,rfl,rfl⟩|⟨b1,o,r,et,_,_,_,_,A⟩
      ·simp
      ·exact(a4s.1 (A.nodup_iff.1 n2)).2
     have N:(f1++f2++[H,I]).flatten.Perm ((f1.flatten++H)++(f2.flatten++I)):=by
      refine a3l.2 λq=> ?_
      simp only[a4r,a3f,a7w,a2b,a6l];omega
     have Qt:(f1++f2++[H,I]).flatten.Nodup:=N.nodup_iff.2 (a2d.2 ⟨Qq,Qr,λp A q hq Q8=>by
      subst Q8;exact k p (l p A) (a p hq)⟩)
     have O:∀b∈(f1++f2++[H,I]).flatten,b∈f\/b∈E:=λb hb=>by
      rcases a0l.1 (N.mem_iff.1 hb)with hb|hb
      ·exact .inl (l b hb)
      ·exact .inr (a b hb)
     have R:l1.length+l2.length<=(f1++f2++[H,I]).length:=by simp only[a0m,y.len,g.len];omega
     have hE:=tz y.len y.clen y.el g.el [H,I] g.len;have Q9:∀u∈c1,u.oneCell'=true:=pU Z C y.clen y.len y.el;have S:∀u∈c2,u.oneCell'=true:=pU Z C g.clen g.len g.el;have J:Src P i.size tx (.slice a2 l2.length Qp) l2.length c2 w:=by
      rw[Ql];rcases M with⟨rfl,rfl,rfl,_⟩|⟨b,o,r,et,rfl,hb,Rb,B,_⟩
      ·have:c2=[]:=a0s (by rw[g.clen];simp)
       rw[this];exact Src.ofNil w K 0
      ·refine Src.ofSlice w K _ _ _ _ g.clen (λj u W=> ?_) S
       rw[B]at W;rw[Addr.add_mid,bL (aO hb),<-W,aM];rcases a3y j (l2.length*U.w)with h|h
       ·exact h
       ·rw[a1g (by rw[<-B,g.clen];exact h)]at W;cases W
     have Rg:∀b,FP (FP F f) E b↔F b\/b∈f\/b∈E:=λb=>by simp[FP,or_assoc]
     rw[Ql]at J;refine nY (ty:=ty) V hF W K Y hT Q2 (λs v h=>Qn s v (D s v h)) (λb hb=> .inl (.inl hb)) y.clen g.clen R hE Qt (λb hb=> ?_) ?_ Qo J n hn h
     ·rcases O b hb with hb|hb
      ·exact⟨.inl (.inr hb),c b (.inl hb)⟩
      ·exact⟨.inr hb,c b (.inr hb)⟩
     ·rcases L with⟨h1,h2,h3,_⟩|⟨b,o,r,et,h1,hb,Qu,B,m⟩
      ·exact .inl ⟨h1,h2,h3⟩
      ·have T:b∈f:=m.mem_iff.2 (by simp)
       refine .inr ⟨b,o,r,et,h1,hb,Qu,B,.inl (.inr T),c b (.inl T),λhx=> ?_⟩;rcases a0l.1 (N.mem_iff.1 hx)with hx|hx
       ·exact(a4s.1 (m.nodup_iff.1 n1)).1 hx
       ·exact k b T (a b hx)
    ·exact h.elim
   ·exact h.elim
  ·exact h.elim
 ·exact h.elim
def B9 {l1 l2:List (List Nat)} (h:l1.Sublist l2):l1.flatten.Sublist l2.flatten:=by
 induction h with
 |slnil=>exact a7n _
 |cons a h ih=>rw[a3f];exact ih.trans (List.sublist_append_right _ _)
 |cons_cons a h ih=>rw[a3f,a3f];exact(a7n a).append ih
def IV {α:Type} (l:List α) {a b c n2:Nat} (h:a+b<=c):(aQ l a b++aQ l c n2).Sublist l:=by
 have d:l.drop a=(l.drop a).take b++l.drop (a+b):=by rw[<-a4n,a3t]
 have e:(l.drop c).Sublist (l.drop (a+b)):=by
  have:l.drop c=(l.drop (a+b)).drop (c-(a+b)):=by rw[a4n];congr 1;omega
  rw[this];exact a7o _ _
 have:(aQ l a b++aQ l c n2).Sublist (l.drop a):=by
  rw[d];exact(a7n _).append ((List.take_sublist _ _).trans e)
 exact this.trans (a7o _ _)
def Ca {t tx ty:TypeId} {s x:SV} {sv xv:Value} {sh:Sh} {d:Nat} (hh:bz F G ow w.heap) (hF:∀b,F b->b<w.heap.size) (hs:Sv F G ow w.heap s sv) (hx:Sv F G ow w.heap x xv) (Q8:f9 P tx=true) {Q:SV×OW->Prop} (h:(FZ P t s x sh ow d).can Q):Dk P F G ow w Q (Builtin.append_ #[t,tx] ty #[sv,xv]):=by
 obtain⟨e',L⟩:=gP Q8;unfold FZ at h;split at h
 ·rename_i H I v1 Z C d2 j2 v2 o2 n2 e he
  have hu:=fw he;split at h
  ·rename_i Q9
   obtain⟨rfl,rfl⟩:=Q9;split at h
   ·rename_i ow1 h0
    obtain⟨G1,W,g2,g3,g4,_⟩:=jN hF hh h0;have Ra:Tr F G ow w G1 ow1 w:=nW W g2 g3 g4;split at h
    ·rename_i r hr
     obtain⟨_,hn⟩:=hX hr;obtain⟨g,l⟩:=r;dsimp only at h hn;split at h
     ·rename_i Rb
      subst Rb;split at h
      ·rename_i Ql
       obtain⟨aD,Qm,h⟩:=h;have aD:Z+C<=o2:=a0x aD;have Qm:(C+n2)*c7 P e<=ai:=a0x Qm;split at h
       ·rename_i ow' k
        have k:bV (bw ow1 H I none) d [.nrow g (aQ l Z C++aQ l o2 n2) none]=some ow':=k;have M:=g2 _ _ hs;have N:=g2 _ _ hx
        cases M with
        |os M=>
        cases N with
        |os N=>
        simp only[cV,hn,a2r]at M N;obtain⟨Qn,a1,cap1,rfl,D,Qt⟩:=M;obtain⟨Qo,a2,Qu,rfl,Qp,Qv⟩:=N;obtain⟨Rc,Qw,_⟩:=iA Ql;have O:bB (aj ow1 H I):=by rw[hn];trivial
        have Qy:aj ow1 H I≠none:=by rw[hn];simp
        have X:(aQ l Z C).length=C:=jv Qn;have s2:(aQ l o2 n2).length=n2:=jv Qo;obtain⟨_,fps,hG,R⟩:=W.obs H I _ hn;obtain⟨m1,m2⟩:=iU W O hG;have Qz:∀ {c:Sem Value},Dk P F G1 ow1 w Q c->Dk P F G ow w Q c:=λ⟨s,ow',v,w',G',q1,q2,q3,q4⟩=>⟨s,ow',v,w',G',q1,q2,Ra.trans q3,q4⟩
        refine Qz ?_
        cases hg:G1 H I 0 with
        |none=>
         simp only[hg]at R;obtain⟨rfl,_,rfl⟩:=R;have z1:C=0:=by simp at Qn;omega
         have z2:n2=0:=by simp at Qo;omega
         subst z1;subst z2;rcases Qt with⟨_,rfl,rfl⟩|⟨b,o,A,r',f,_⟩
         ·rcases Qv with⟨_,rfl,rfl⟩|⟨b,o,A,r',f,_⟩
          ·have hT:=rR O
           have Rd:ju G1 ow1 (bw ow1 H I none) []:=λx=>by
            constructor
            ·intro hx;simp at hx
            ·rintro⟨d',j',i',A,Q0,f,Qq⟩
             rw[aW Qy]at Qq;split at Qq
             ·rename_i e
              rw[e.1,e.2]at f
              cases i' with
              |zero=>rw[hg]at f;cases f
              |succ i'=>rw[hG]at f;simp at f
             ·rw[Qq]at Q0;exact Q0.elim
           obtain⟨k1,k2⟩:=cM W hT Rd;have Re:aQ ([]:List g.T) Z 0=[]:=by simp[aQ]
           have Rf:aQ ([]:List g.T) o2 0=[]:=by simp[aQ]
           rw[Re,Rf]at k;exact nY (ty:=ty) (l1:=[]) (l2:=[]) (c1:=[]) (c2:=[]) (f1:=[]) (f2:=[]) (J:=[]) W hF hu L Ql hT k1 k2 (λb S=> .inl S) (by simp) (by simp) (by simp) (λi hi=>by simp at hi) (by simp) (λb S=>by simp at S) (.inl ⟨rfl,rfl,rfl⟩) (a1l _) (Src.ofNil w L 0) (by simp[ai]) k h
          ·rw[hg]at f;cases f
         ·rw[hg]at f;cases f
        |some q=>
         obtain⟨b,o⟩:=q;simp only[hg]at R;obtain⟨r,et,S,Ro,Rp,hj,Q1,_⟩:=R;obtain⟨t1,t2,t3,t4⟩:=wk (ow1:=ow1) (ow2:=bw ow1 H I none) (fps':=fps) (fp1:=[]) W O hG (.refl _) (.refl _ _) a2j O bE (λd' j'=>aW Qy) (by simp) hg;obtain⟨k1,k2⟩:=cM W t1 t2;have Qr:=IV fps (n2:=n2) aD;have y:=B9 Qr;have Y:∀ {K B z:Nat} {a:Option Addr},K+B<=l.length->B<=z->((G1 H I 0=none/\a=none/\z=0)\/∃b o A r,G1 H I 0=some (b,o)/\a=some ⟨b,A,none⟩/\ap w.heap b=some r/\(0<z->A=o+K*g.w)/\A+z*g.w<=r.size)->∃A,a=some ⟨b,A,none⟩/\A+z*g.w<=r.size/\(bP r A (B*g.w)).length=B*g.w/\∀i (hi:i<(aQ l K B).length) (hf:i<(aQ fps K B).length),cq w.heap (cR (FP F (b::fps.flatten)) G1 (bw ow1 H I none)) g (aQ l K B)[i] (((bP r A (B*g.w)).drop (i*g.w)).take g.w) (aQ fps K B)[i]:=by
          intro K B z a Q2 Q3 hv;rcases hv with⟨h1,_⟩|⟨b',Rq,A,r',f,ha,U,Rg,Rh⟩
          ·rw[hg]at h1;cases h1
          ·rw[hg]at f
           cases f
           have:r'=r:=by
            rw[aO S]at U;exact(a1h U).symm
           subst this;have Rn:B*g.w<=z*g.w:=a0p _ Q3;refine⟨A,ha,Rh,aY (by omega),λi hi hf=> ?_⟩;have Ri:i<B:=by rw[jv Q2]at hi;exact hi
           have e1:=Rg (by omega);have Rj:(i+1)*g.w<=B*g.w:=a0p _ Ri;rw[a1d,a2x]at Rj;have e2:=gw (r:=r') (o:=A) (n:=B*g.w) (p:=i*g.w) (m:=g.w) (by omega);rw[<-e2,wj Q2,wj (l:=fps) (by omega),e1,show o+K*g.w+i*g.w=o+(K+i)*g.w by rw[a1d];omega];exact cq.mono (λb' r' Q4 U=>⟨t4 b' ⟨λhx=>by
            rcases hx with hx|hx
            ·exact Q4.1 hx
            ·simp at hx,Q4.2⟩,U⟩) g (λ_ _=>rfl) (Q1 (K+i) (by omega) (by omega) (λRk hc=>by cases hc))
         obtain⟨p1,rfl,Rl,Q5,Rm⟩:=Y Qn D Qt;obtain⟨p2,rfl,Rr,V,Q6⟩:=Y Qo Qp Qv;have q1:(aQ fps Z C).length=C:=jv (by omega);have q2:(aQ fps o2 n2).length=n2:=jv (by omega);have hE:=tz (by rw[q1,X]) (by rw[Q5,X]) Rm Q6 [] (by rw[q2,s2]);have Q7:=pU Rc Qw (by rw[V,s2]) (by rw[q2,s2]) Q6;have E:=nY (ty:=ty) (l1:=aQ l Z C) (l2:=aQ l o2 n2) (c1:=bP r p1 (C*g.w)) (c2:=bP r p2 (n2*g.w)) (f1:=aQ fps Z C) (f2:=aQ fps o2 n2) (J:=[]) (a1:=some ⟨b,p1,none⟩) (cap1:=cap1) (xv:= .slice (some ⟨b,p2,none⟩) n2 Qu) W hF hu L Ql t1 k1 k2 (λb S=> .inl S)
          (by rw[Q5,X]) (by rw[V,s2]) (by simp[X,s2,q1,q2]) hE (by rw[a2b];exact y.nodup m1)
          (λx hx=>by
           rw[a2b]at hx;have hx:=y.subset hx;exact⟨.inr (a2z _ hx),t2.own (a2z _ hx)⟩)
          (.inr ⟨b,p1,r,et,rfl,S,Rl,by rw[X],.inr (by simp),t2.own (by simp),λhx=>by
           rw[a2b]at hx;exact m2 b o hg (y.subset hx)⟩)
          (by rw[X];exact D) (by
           rw[s2];refine Src.ofSlice w L _ _ _ _ V (λj u hu=> ?_) Q7;rw[Addr.add_mid,bL (aO S),<-hu,aM];rcases a3y j (n2*g.w)with h|h
           ·exact h
           ·rw[a1g (by rw[V];exact h)]at hu;cases hu)
          (by rw[X,s2];exact Qm) k h
         rw[X]at E;exact E
       ·exact h.elim
      ·exact h.elim
     ·exact h.elim
    ·exact h.elim
   ·exact h.elim
  ·exact h.elim
 ·exact h.elim
def tC {vs:List Value} (h:BR vs=true):vs=[.slice none 0 0]:=by
 unfold BR at h;split at h
 ·rfl
 ·cases h
def nZ {h:Array Obj} {ok:Nat->Prop}:(s:Sh)->s.elem=true->(vs:List Value)->lJ s vs=true->cq h ok s s.z vs []
 | .pur kd,hs,vs,hz=>by
  have f:kd.isSt=false:=by simpa using(a0f _ _▸hs:kd.noOwn=true/\(!kd.isSt)=true).2
  match vs,hz with
  |[],hz=>simp[lJ]at hz
  |[v],hz=>
   simp only[lJ]at hz;have c:=jk (h:=h) (ok:=ok) kd [v] hz;have d:v.oneCell'=true:=by
    cases kd with
    |int k=>cases c;rfl
    |bool=>cases c;rfl
    |str=>cases c;rfl
    |err=>rcases c with⟨_,c⟩|⟨_,_,_,c⟩<;>(cases c;rfl)
    |any=>cases c;rfl
    |sl o e=>
     cases o with
     |true=>exact c.elim
     |false=>obtain⟨_,_,c,_⟩:=c;cases c;rfl
    |nil=>simp[Kd.isSt]at f
    |cons a b=>simp[Kd.isSt]at f
    |tree a=>obtain⟨i,c,g⟩:=c;cases c;obtain⟨_,_,rfl⟩:=g.ptr;rfl
   refine⟨v,rfl,rfl,?_,λh=>(by rw[f]at h;cases h),λ_=>d⟩;have:v.cells= #[v]:=ix d;rw[this];exact c
  |_::_::_,hz=>simp[lJ]at hz
 | .own k,_,vs,hz=>by
  simp only[lJ,a0f]at hz;rw[tC hz.1];exact⟨_,rfl,hz.2,none,0,rfl,a1l _,.inl ⟨rfl,rfl,rfl,rfl⟩⟩
 | .rows s,_,vs,hz=>by
  simp only[lJ,a0f]at hz;rw[tC hz.1];exact⟨_,rfl,hz.2,none,0,rfl,a1l _,.inl ⟨rfl,rfl,rfl,rfl⟩⟩
 | .nil,_,vs,hz=>by
  match vs,hz with
  |[],_=>exact⟨rfl,rfl⟩
  |_::_,hz=>simp[lJ]at hz
 | .cons a b,hs,vs,hz=>by
  simp only[Sh.elem,a0f]at hs
  match vs,hz with
  |[],hz=>simp[lJ]at hz
  |v::r,hz=>
   simp only[lJ,a0f]at hz;exact⟨v,r,[],[],rfl,rfl,nZ a hs.1.2 [v] hz.1,nZ b hs.2 r hz.2⟩
 | .row _,hs,_,_=>by simp[Sh.elem]at hs
 | .nrw _,hs,_,_=>by simp[Sh.elem]at hs
 | .box _,hs,_,_=>by simp[Sh.elem]at hs
 | .agg _,hs,_,_=>by simp[Sh.elem]at hs
 | .fn _ _ _,hs,_,_=>by simp[Sh.elem]at hs
 | .ign,hs,_,_=>by simp[Sh.elem]at hs
 | .nl,hs,_,_=>by simp[Sh.elem]at hs
def DH (m:Nat):(List.replicate m ([]:List Nat)).flatten=[]:=by
 induction m with
 |zero=>rfl
 |succ m ih=>simp[List.replicate_succ]
def Gg {t e:TypeId} {n c:Int} {s:Sh} {d:Nat} (I:bz F G ow w.heap) (J:∀b,F b->b<w.heap.size) (K:lH P t=some e) (r:k0 P e s=true) (u:BS P e s=true) (Y:0<=n) (L:n<=c) (B:c*c7 P e<=ai) {ow':OW} (g:bV ow d [.nrow s (List.replicate n.toNat s.z) none]=some ow') {Q:SV×OW->Prop} (h:Q (.wh d 0 0 [],ow')):Dk P F G ow w Q (Instr.makeSlice t (.int .i64 n) (.int .i64 c)):=by
 obtain⟨k,C,_,a,i,z,D,E,o,v,x⟩:=iA r;have y:lJ s z.cells.toList=true:=by simpa [BS,D,E]using u
 have M:=fw K;obtain⟨m,rfl⟩:∃m:Nat,c=(m:Int):=⟨c.toNat,by omega⟩;obtain⟨l,rfl⟩:∃l:Nat,n=(l:Int):=⟨n.toNat,by omega⟩;rw[v]at B a;have A:m*i.bytes<=ai:=by exact_mod_cast B
 have Z:m<=m*i.bytes:=a4m _ a;unfold ai at A;have H:((m*i.bytes:Nat):Int)<=281474976710656:=by omega
 have N:(i.bytes:Int)*(m:Int)<=281474976710656:=by rw[Int.mul_comm];rw[a6g]at H;exact H
 have f:=run_make (P:=P) w t e i z M D E .i64 .i64 l m (by omega) L N (by omega);simp only[a0g]at f g;obtain⟨O,R,q3⟩:=pT I (w1:=w) rfl (.cells (madeCells z.cells (m*i.size)) e);have p:(w.alloc (.cells (madeCells z.cells (m*i.size)) e)).heap[w.heap.size]?=some (.cells (madeCells z.cells (m*i.size)) e):=cI _ _;have S:cq (w.alloc (.cells (madeCells z.cells (m*i.size)) e)).heap (cR (FP F [w.heap.size]) G ow) (.rows s) (List.replicate l s.z) [.slice (some ⟨w.heap.size,0,none⟩) l m] [w.heap.size]:=by
  refine⟨_,rfl,k,_,m,by rw[a1p],by rw[a1p];omega,.inr ⟨w.heap.size,0,_,e,List.replicate l [],rfl,by rw[DH],p,by rw[size_madeCells,o];omega,by simp,λb q=>by rw[DH]at q;simp at q,λj T U=> ?_⟩⟩;simp only[a1p]at T;have:=pr (z:=z.cells) (m:=m) (i:=j) (by omega);rw[x]at this;rw[a1o,o,this];simp only[a4u];exact nZ s k _ y
 obtain⟨G2,V,W⟩:=nX (F:=F) (.refl ow) O R (wn (w:=w) (w1:=w) _ rfl rfl rfl rfl _) (λb q=>by
  have:b=w.heap.size:=by simpa using q
  subst this;exact⟨λX=>a6u _ (J _ X),.inr (a1l _)⟩) (by simp) S g
 exact⟨_,_,_,_,_,h,f,V,W⟩
def zC {t:TypeId} {n c:SV} {i j:Value} {s:Sh} {d:Nat} (k:bz F G ow w.heap) (l:∀b,F b->b<w.heap.size) (m:Sv F G ow w.heap n i) (o:Sv F G ow w.heap c j) {Q:SV×OW->Prop} (h:(BT P t n c s ow d).can Q):Dk P F G ow w Q (Instr.makeSlice t i j):=by
 unfold BT at h;split at h
 ·rename_i e n c p
  split at h
  ·rename_i f
   simp only[a0f]at f;obtain⟨a,h⟩:=h;have a:(0:Int)<=n/\(n:Int)<=c/\(c:Int)*c7 P e<=ai:=a0x a;split at h
   ·rename_i ow' g
    rw[m.int_inv,o.int_inv];exact Gg k l p f.1 f.2 a.1 a.2.1 a.2.2 g h
   ·exact h.elim
  ·exact h.elim
 ·exact h.elim
end Go.Pev
namespace Go.Pev
def iV (L:List (Nat×Obj)) (I:Nat->Prop) (h:Array Obj):Prop:=∀p∈L,¬I p.1/\h[p.1]?=some p.2
def Gi (l:List Value):Value:=match l with|[v]=>v|l=> .tuple l.toArray
def Ih (h:Array Obj):Value->List Nat->Option Value
 |v,[]=>some v
 | .pointer (some ⟨b,o,none⟩),i::r=>(match h[b]? with|some (.cells cs _ _)=>(match cs[o+i]? with|some v=>Ih h v r|none=>none)|_=>none)
 |_,_=>none
def Cb (h:Array Obj) (v:Value) (c:Nat) (p:List Nat):Option Value:=
 match v with
 | .func _ xs ys=>(match(xs.toList++ys.toList)[c]? with|some v=>Ih h v p|none=>none)
 |_=>none
def LC (h:Array Obj) (a:List (Nat×Nat×Nat×List Nat)) (vs:List Value):Prop:=∀q∈a,∃v t,vs[q.1]?=some v/\vs[q.2.1]?=some t/\Cb h t q.2.2.1 q.2.2.2=some v
def LC.nil {h:Array Obj} {vs:List Value}:LC h [] vs:=λq a=>by cases a
def wq {F:Nat->Prop} {G:Gh} {ow:OW} {h:Array Obj} (n:bz F G ow h):(p:List Nat)-> {s g:SV}-> {v:Value}->Sv F G ow h s v->rF ow s p=some g->∃k,Ih h v p=some k/\Sv F G ow h g k
 |[],s,g,v,hs,e=>by
  simp only[rF,a0k]at e;subst e;exact⟨v,rfl,hs⟩
 |i::r,s,g,v,hs,e=>by
  cases s with
  |bp d j c=>
   simp only[rF]at e;split at e
   ·rename_i l x
    split at e
    ·rename_i t y
     have q:=aH x
     cases hs with
     |bp hv=>
     rw[q]at hv;obtain⟨b,o,z,rfl⟩:=hv;obtain⟨_,A,B,C,et,f,a,u,D⟩:=n.obs d j _ q;rw[z]at f;obtain⟨rfl,rfl⟩:b=A/\o=B:=by simpa using f
     obtain⟨E,rfl⟩:=a0t.1 y;have w:o+(c+i)<C.size:=by omega
     have m:=D (c+i) E w;obtain⟨k,H,I⟩:=wq n r m e;refine⟨k,?_,I⟩;have J:o+c+i=o+(c+i):=by omega
     simp only[Ih,a,J,a1n w];exact H
    ·cases e
   ·cases e
  |_=>simp[rF]at e
def qJ {F:Nat->Prop} {G:Gh} {ow:OW} {h:Array Obj} (m:bz F G ow h) {s l:SV} {v:Value} (n:Sv F G ow h s v) {c:Nat} {p:List Nat} (e:nC ow s c p=some l):∃k,Cb h v c p=some k/\Sv F G ow h l k:=by
 cases s with
 |fn f a b=>
  simp only[nC]at e;split at e
  ·rename_i t o
   cases n with
   |fn l1 l2 h1 h2=>
   rename_i xs ys;have d:dn F G ow h (a++b) (xs++ys):=⟨by simp[l1,l2],λi q r=>by
    by_cases g:i<a.length
    ·rw[a1j g,a1j (by omega)]
     exact h1 i g (by omega)
    ·rw[a1z (by omega),a1z (by omega)]
     have e:i-xs.length=i-a.length:=by omega
     simp only[e];simp only[a0m]at q r;exact h2 (i-a.length) (by omega) (by omega)⟩
   obtain⟨g,rfl⟩:=a0t.1 o;have j:c<(xs++ys).length:=by rw[<-d.1];exact g
   obtain⟨k,u,w⟩:=wq m p (d.2 c g j) e;refine⟨k,?_,w⟩;simp only[Cb,a0a j];exact u
  ·cases e
 |_=>simp[nC]at e
def IW {F:Nat->Prop} {G:Gh} {ow:OW} {h:Array Obj} {s f:SV} {v l:Value} (m:Sv F G ow h s v) (g:Sv F G ow h f l) (e:vF ow s f=true):v=l:=by
 cases s with
 |bp d j c=>
  cases f with
  |bp d' j' c'=>
   simp only[vF,a0f,a2w]at e;obtain⟨⟨⟨rfl,rfl⟩,rfl⟩,i⟩:=e;unfold OT at i;split at i
   ·rename_i k n
    have p:=aH n
    cases m with
    |bp hv=>
    cases g with
    |bp hv'=>
    rw[p]at hv hv';obtain⟨b,o,q,rfl⟩:=hv;obtain⟨r,t,a,rfl⟩:=hv';rw[q]at a;obtain⟨rfl,rfl⟩:b=r/\o=t:=by simpa using a
    rfl
   ·cases i
  |_=>simp[vF]at e
 |_=>simp[vF]at e
def wr {F:Nat->Prop} {G:Gh} {ow:OW} {h:Array Obj} (m:bz F G ow h) {f:List SV} {vs:List Value} (b:dn F G ow h f vs) {g:List (Nat×Nat×Nat×List Nat)} (e:NO g f ow=true):LC h g vs:=by
 intro q n;have a:=(a1e.1 e) q n;unfold LL at a;split at a
 ·rename_i s t c d
  split at a
  ·rename_i u o
   obtain⟨i,rfl⟩:=a0t.1 c;obtain⟨j,rfl⟩:=a0t.1 d;have k:q.1<vs.length:=by rw[<-b.1];exact i
   have l:q.2.1<vs.length:=by rw[<-b.1];exact j
   obtain⟨v,p,r⟩:=qJ m (b.2 _ j l) o;have:=IW (b.2 _ i k) r a;exact⟨vs[q.1],vs[q.2.1],a0a k,a0a l,by rw[p,this]⟩
  ·cases a
 ·cases a
def tD {F:Nat->Prop} {G:Gh} {ow:OW} {h:Array Obj} (c:bz F G ow h) {vs:List Value}:(d:List (Nat×Nat×Nat×List Nat))-> {a:List SV}->dn F G ow h a vs->LC h d vs->dn F G ow h (LM ow d a) vs
 |[],a,hs,_=>hs
 |q::r,a,hs,ha=>by
  obtain⟨v,t,m,f,n⟩:=ha q (by simp);refine tD c r ?_ λo b=>ha o (by simp[b])
  split
  ·rename_i z p
   split
   ·rename_i s u
    obtain⟨g,rfl⟩:=a0t.1 p;have j:q.2.1<vs.length:=by rw[<-hs.1];exact g
    obtain⟨A,k,w⟩:=qJ c (hs.2 _ g j) u;rw[a0a j]at f;rw[a1h f,n]at k
    cases k
    refine⟨by simp[hs.1],λi x y=> ?_⟩;by_cases l:q.1=i
    ·subst l
     obtain⟨_,e⟩:=a0t.1 m;simp only[a3k,e];exact w
    ·rw[a3b l]
     exact hs.2 i (by simpa using x) y
   ·exact hs
  ·exact hs
def aA (P:Program) (L:List (Nat×Obj)) (f:FuncId) (c:jV):Prop:=
 (∃fn,P.funcs[f]?=some fn/\(fn.name== "runtime.NumGoroutine")=false/\fn.body.isNone=false)/\
 ∀(w:World) (F:Nat->Prop) (x:c.args.T) (vs:List Value) (d:List Nat) (y:c.res.T×c.args.Out),(∀b,F b->b<w.heap.size)->iV L (·∈d) w.heap->d.Nodup->(∀b∈d,¬F b)->
  cq w.heap (λb=>¬FP F d b) c.args x vs d->c.den x=some y->LC w.heap c.al vs->
  Calls P f vs.toArray w λe g=>∃h fp1 a,e= .returned (Gi h)/\cq g.heap (λb=>¬FP F (fp1++a) b) c.res y.1 h fp1/\gJ g.heap (λb=>¬FP F (fp1++a) b) c.args y.2 vs a/\(fp1++a).Nodup/\(∀b∈fp1++a,b∈d\/w.heap.size<=b)/\fh (·∈d) w g
def Calls.mono {P:Program} {f:FuncId} {args:Array Value} {w:World} {R b:Ending->World->Prop} (h:Calls P f args w R) (c:∀e a,R e a->b e a):Calls P f args w b:=λcs=>let⟨e,a,fr,r,s⟩:=h cs;⟨e,a,fr,c _ _ r,s⟩
def tE:(e c:OW)->(d j:Nat)->aj (nA e c) d j=(match aj e d j,aj c d j with|some o,some n=>some (it o n)|_,n=>n):=by
 have f:(a b:List (Option OB))->(j:Nat)->(vE a b)[j]?=(match a[j]?,b[j]? with|some o,some n=>some (it o n)|_,n=>n):=by
  intro a
  induction a with
  |nil=>intro b j;cases b<;>simp[vE]
  |cons o os ih=>
   intro b j
   cases b with
   |nil=>simp[vE]
   |cons n ns=>
    cases j with
    |zero=>simp[vE]
    |succ j=>simp[vE,ih]
 intro e
 induction e with
 |nil=>intro c d j;cases c<;>simp[nA,aj]
 |cons o os ih=>
  intro c d j
  cases c with
  |nil=>simp[nA,aj]
  |cons n ns=>
   cases d with
   |zero=>simp[nA,aj,f]
   |succ d=>simpa [nA,aj]using ih ns d j
def tF:(b a:OW)->(nA b a).length=a.length
 |[],a=>by cases a<;>simp[nA]
 |o::os,[]=>by simp[nA]
 |o::os,n::ns=>by simp[nA,tF os ns]
def Gj {ow ow1:OW} (f:dt ow ow1):dt ow (nA ow ow1)/\∀G b,F9 G ow (nA ow ow1) b↔F9 G ow ow1 b:=by
 have g:∀d j,aj (nA ow ow1) d j=aj ow d j\/(aj (nA ow ow1) d j=aj ow1 d j):=by
  intro d j;rw[tE];rcases f.names d j with e|⟨_,e⟩|⟨k,ver,l,e1,e2⟩|⟨s,l,k,l',e1,e2,_⟩|⟨cells,e1,e2⟩
  ·rw[e]
   cases h:aj ow d j with
   |none=>exact .inl rfl
   |some o=>
    left
    cases o with
    |none=>rfl
    |some x=>
     cases x with
     |nrow s l foc=>cases foc<;>rfl
     |_=>rfl
  ·right
   rw[e]
   cases h:aj ow d j with
   |none=>rfl
   |some o=>
    cases o with
    |none=>rfl
    |some x=>
     cases x with
     |nrow s l foc=>cases foc<;>rfl
     |_=>rfl
  ·left
   rw[e1,e2];rfl
  ·left
   rw[e1,e2];rfl
  ·right
   rw[e1,e2];rfl
 have a:∀d j,bB (aj ow d j)->(aj (nA ow ow1) d j=some none↔aj ow1 d j=some none):=by
  intro d j c;rw[tE];rcases f.names d j with e|⟨_,e⟩|⟨k,ver,l,e1,e2⟩|⟨s,l,k,l',e1,e2,_⟩|⟨cells,e1,e2⟩
  ·rw[e]
   generalize aj ow d j=x at c
   match x,c with
   |some (some (.box _)),_=>simp[it]
   |some (some (.row _ _ _)),_=>simp[it]
   |some (some (.nrow _ _ none)),_=>simp[it]
   |some (some (.nrow _ _ (some _))),_=>simp[it]
  ·rw[e]
   generalize aj ow d j=x at c
   match x,c with
   |some (some (.box _)),_=>simp[it]
   |some (some (.row _ _ _)),_=>simp[it]
   |some (some (.nrow _ _ none)),_=>simp[it]
   |some (some (.nrow _ _ (some _))),_=>simp[it]
  ·rw[e1,e2];simp[it]
  ·rw[e1,e2];simp[it]
  ·rw[e1,e2];simp[it]
 refine⟨⟨by rw[tF,f.len],λd j=> ?_⟩,λG b=> ?_⟩
 ·rcases g d j with e|e
  ·exact .inl e
  ·rw[e];exact f.names d j
 ·constructor
  ·rintro⟨d,j,i,o,c,m,n⟩
   exact⟨d,j,i,o,c,m,(a d j c).1 n⟩
  ·rintro⟨d,j,i,o,c,m,n⟩
   exact⟨d,j,i,o,c,m,(a d j c).2 n⟩
def nK.any {h:Array Obj} {ok ok':Nat->Prop} {k:Kd} (a:k.allOwn=true) {x:k.T} {v:Value} (e:nK h ok k x v):nK h ok' k x v:=⟨cz.any_heap k a e.1,e.2⟩
def rN.any {h:Array Obj} {ok ok':Nat->Prop} {k:Kd} (g:k.allOwn=true) {l:List k.T} {v:Value} {f:List Nat} (e:rN h ok k l v f):rN h ok' k l v f:=by
 obtain⟨i,a,c,j,d,e⟩:=e;refine⟨i,a,c,j,d,?_⟩;rcases e with e|⟨b,o,r,et,ha,hf,hb,hel,hs⟩
 ·exact .inl e
 ·exact .inr ⟨b,o,r,et,ha,hf,hb,hel.mono λx cs m=>cz.any_heap k g m,hs⟩
def cq.any {h:Array Obj} {ok ok':Nat->Prop}:(s:Sh)->s.fresh=true-> {x:s.T}-> {vs:List Value}-> {n:List Nat}->cq h ok s x vs n->cq h ok' s x vs n
 | .pur _,hs,_,_,_,e=>by obtain⟨v,d,f,e⟩:=e;exact⟨v,d,f,e.any hs⟩
 | .own _,hs,_,_,_,e=>by obtain⟨v,d,e⟩:=e;exact⟨v,d,e.any hs⟩
 | .row _,hs,_,_,_,e=>by obtain⟨v,d,e⟩:=e;exact⟨v,d,e.any hs⟩
 | .rows s,hs,_,_,_,e| .nrw s,hs,_,_,_,e=>by
  obtain⟨v,p,g,a,c,j,q,e⟩:=e;refine⟨v,p,g,a,c,j,q,?_⟩;rcases e with e|⟨b,o,r,et,fps,j,hf,hr,hc,hn,hj,he⟩
  ·exact .inl e
  ·exact .inr ⟨b,o,r,et,fps,j,hf,hr,hc,hn,hj,λi t k=>cq.any s hs (he i t k)⟩
 | .box l,hs,_,_,_,e=>by obtain⟨b,o,r,et,m,d,f,u,w,e⟩:=e;exact⟨b,o,r,et,m,d,f,u,w,cq.any l hs e⟩
 | .agg l,hs,_,_,_,e=>by obtain⟨cs,d,e⟩:=e;exact⟨cs,d,cq.any l hs e⟩
 | .fn _ _ l,hs,_,_,_,e=>by obtain⟨xs,ys,d,f,e⟩:=e;exact⟨xs,ys,d,f,cq.any l hs e⟩
 | .ign,_,_,_,_,e=>e
 | .nl,_,_,_,_,e=>e
 | .nil,_,_,_,_,e=>e
 | .cons a b,hs,_,_,_,e=>by
  simp only[Sh.fresh,a0f]at hs;obtain⟨v,r,f1,f2,d,f,y,z⟩:=e;exact⟨v,r,f1,f2,d,f,cq.any a hs.1 y,cq.any b hs.2 z⟩
def gJ.any {h:Array Obj} {ok ok':Nat->Prop}:(s:Sh)->s.freshOut=true-> {x:s.Out}-> {vs:List Value}-> {i:List Nat}->gJ h ok s x vs i->gJ h ok' s x vs i
 | .pur _,_,_,_,_,e=>e
 | .own _,_,_,_,_,e=>e
 | .rows _,_,_,_,_,e=>e
 | .row _,hs,_,_,_,e=>by obtain⟨v,c,e⟩:=e;exact⟨v,c,e.any hs⟩
 | .nrw s,hs,_,_,_,e=>cq.any (.nrw s) hs e
 | .box l,hs,_,_,_,e=>by obtain⟨b,o,r,et,g,c,d,j,k,e⟩:=e;exact⟨b,o,r,et,g,c,d,j,k,cq.any l hs e⟩
 | .agg l,hs,_,_,_,e=>by obtain⟨cs,c,e⟩:=e;exact⟨cs,c,gJ.any l hs e⟩
 | .fn _ _ l,hs,_,_,_,e=>by obtain⟨xs,ys,c,d,e⟩:=e;exact⟨xs,ys,c,d,gJ.any l hs e⟩
 | .ign,_,_,_,_,e=>e
 | .nl,_,_,_,_,e=>e
 | .nil,_,_,_,_,e=>e
 | .cons a b,hs,_,_,_,e=>by
  simp only[Sh.freshOut,a0f]at hs;obtain⟨v,r,f1,f2,c,d,f,m⟩:=e;refine⟨v,r,f1,f2,c,d,?_,gJ.any b hs.2 m⟩;rcases f with f|⟨h0,f⟩
  ·exact .inl f
  ·exact .inr ⟨h0,gJ.any a hs.1 f⟩
abbrev P8:=Nat×Nat×OB×Pl
def dB (a:List P8):List Nat:=a.flatMap λp=>p.2.2.2.fp
def cd (ps:List Pl):List Nat:=ps.flatMap Pl.fp
structure N5 (h:Array Obj) (ok:Nat->Prop) (G:Gh) (old:OW) (d:Nat) (fp:List Nat) (st st':OW×List OB) (puts:List P8) (ps:List Pl) (new:List OB):Prop where
 obs:st'.2=st.2++new
 plen:ps.length=new.length
 len:st'.1.length=st.1.length
 names:∀d' j',(∃p∈puts,p.1=d'/\p.2.1=j'/\aj st'.1 d' j'=some (some p.2.2.1))\/((∀p∈puts,¬(p.1=d'/\p.2.1=j'))/\aj st'.1 d' j'=aj st.1 d' j')
 old:∀p∈puts,bB (aj old p.1 p.2.1)/\EC (aj old p.1 p.2.1) (some (some p.2.2.1))/\bB (some (some p.2.2.1))
 place:∀p∈puts,p.2.2.2.1=G p.1 p.2.1 0/\(p.2.2.2.1=none->p.2.2.2.2=[])
 blocks:fp.Perm (dB puts++cd ps)
 rep:∀(G2:Gh) (ow2:OW),(∀p∈puts,G2 p.1 p.2.1=p.2.2.2.pos)->k9 G2 ow2 d st.2.length new ps->(∀p∈puts,db h ok G2 ow2 p.1 p.2.1 p.2.2.1)/\∀i o,new[i]?=some o->db h ok G2 ow2 d (st.2.length+i) o/\bB (some (some o))
def N5.none {h:Array Obj} {ok:Nat->Prop} {G:Gh} {b:OW} {d:Nat} (st:OW×List OB):N5 h ok G b d [] st st [] [] []:=⟨by simp,rfl,rfl,λ_ _=> .inr ⟨λp a=>by simp at a,rfl⟩,λp a=>by simp at a,λp a=>by simp at a,List.Perm.refl _,λ_ _ _ _=>⟨λp a=>by simp at a,λi o c=>by simp at c⟩⟩
def iW {F:Nat->Prop} {G:Gh} {L:OW} {w0:World} {h:Array Obj} {ok:Nat->Prop} (W:bz F G L w0.heap)
 (X:∀(b:Nat) (r:Array Value) (et:TypeId) (f:Nat×Nat),w0.heap[b]?=some (Obj.cells r et f)->∃r':Array Value,h[b]?=some (Obj.cells r' et f)/\r'.size=r.size) (d:Nat):
 (s:Sh)-> {t:List SV}-> {vs:List Value}->dn F G L w0.heap t vs-> {y:s.Out}-> {I:List Nat}->gJ h ok s y vs I-> {st x:OW×List OB}->(∀d' j',aj L d' j'≠none->aj st.1 d' j'≠none)->
 eU d L s t y st=some x->∃Qp ps Q6,N5 h ok G L d I st x Qp ps Q6
 | .pur _,t,vs,A,y,I,e,st,x,hne,hu=>by
  obtain⟨⟨v,rfl⟩,rfl⟩:=e;obtain⟨s,rfl,_⟩:=A.single;simp only[eU,a0k]at hu;subst hu;exact⟨_,_,_,.none st⟩
 | .own _,t,vs,A,y,I,e,st,x,hne,hu=>by
  obtain⟨⟨v,rfl⟩,rfl⟩:=e;obtain⟨s,rfl,_⟩:=A.single;simp only[eU,a0k]at hu;subst hu;exact⟨_,_,_,.none st⟩
 | .rows _,t,vs,A,y,I,e,st,x,hne,hu=>by
  obtain⟨⟨v,rfl⟩,rfl⟩:=e;obtain⟨s,rfl,_⟩:=A.single;simp only[eU,a0k]at hu;subst hu;exact⟨_,_,_,.none st⟩
 | .ign,t,vs,A,y,I,e,st,x,hne,hu=>by
  obtain⟨⟨v,rfl⟩,rfl⟩:=e;obtain⟨s,rfl,_⟩:=A.single;simp only[eU,a0k]at hu;subst hu;exact⟨_,_,_,.none st⟩
 | .nl,t,vs,A,y,I,e,st,x,hne,hu=>by
  obtain⟨⟨v,rfl⟩,rfl⟩:=e;obtain⟨s,rfl,_⟩:=A.single;simp only[eU,a0k]at hu;subst hu;exact⟨_,_,_,.none st⟩
 | .nil,t,vs,A,y,I,e,st,x,hne,hu=>by
  obtain⟨rfl,rfl⟩:=e;have:t=[]:=a0s A.1;subst this;simp only[eU,a0k]at hu;subst hu;exact⟨_,_,_,.none st⟩
 | .row k,t,vs,A,y,I,e,st,x,hne,hu=>by
  obtain⟨v,rfl,e⟩:=e;obtain⟨s,rfl,B⟩:=A.single
  cases s with
  |wh dd j ver path=>
   simp only[eU]at hu;split at hu
   ·rename_i N D l0 hg
    split at hu
    ·rename_i hk
     subst hk;simp only[a0k]at hu;subst hu;have M:=aH hg
     cases B with
     |wh B=>
     simp only[cV,M,a2q]at B;obtain⟨Ri,Q4,ho⟩:=W.obs dd j _ M;obtain⟨_,a,c,rfl,Q7,w⟩:=B;obtain⟨Y,a',c',P,Qq,e⟩:=e;have ha:a=a'/\l0.length=y.length/\c=c':=by simpa using P
     obtain⟨rfl,E,rfl⟩:=ha;have Q:aj st.1 dd j≠none:=hne dd j (by rw[M];simp);refine⟨[(dd,j,.row N (D+1) y,(G dd j 0,[]))],[],[],by simp,rfl,bE,λd' j'=> ?_,λp hp=> ?_,λp hp=> ?_,?_,λJ ow2 C _=>⟨λp hp=> ?_,λi o K=>by simp at K⟩⟩
     ·rw[aW Q]
      by_cases H:d'=dd/\j'=j
      ·exact .inl ⟨_,a1c.2 rfl,H.1.symm,H.2.symm,by rw[a0e H]⟩
      ·refine .inr ⟨λp hp m=> ?_,by rw[a0c H]⟩
       have:p=(dd,j,OB.row N (D+1) y,(G dd j 0,[])):=by simpa using hp
       subst this;exact H ⟨m.1.symm,m.2.symm⟩
     ·have:p=(dd,j,OB.row N (D+1) y,(G dd j 0,[])):=by simpa using hp
      subst this;simp only;rw[M];exact⟨trivial,⟨rfl,E⟩,trivial⟩
     ·have:p=(dd,j,OB.row N (D+1) y,(G dd j 0,[])):=by simpa using hp
      subst this;exact⟨rfl,λ_=>rfl⟩
     ·rcases e with⟨rfl,_,_,rfl⟩|⟨b,o,r,et,rfl,rfl,_⟩
      ·rcases w with⟨u,_⟩|⟨_,_,_,_,_,m,_⟩
       ·simp[dB,cd,Pl.fp,u]
       ·cases m
      ·rcases w with⟨_,m,_⟩|⟨b',o',Qr,r',u,m,_⟩
       ·cases m
       ·cases m
        simp[dB,cd,Pl.fp,u]
     ·have:p=(dd,j,OB.row N (D+1) y,(G dd j 0,[])):=by simpa using hp
      subst this;have C:=C _ (a1c.2 rfl);simp only at C⊢;have R:J dd j 0=G dd j 0:=by rw[C];rfl
      refine⟨by rw[C];exactλi=>rfl,Y,?_⟩;rw[R];rcases e with⟨rfl,hy,_,rfl⟩|⟨b,o,r,et,rfl,rfl,Z,T,A⟩
      ·rcases w with⟨u,_⟩|⟨_,_,_,_,_,m,_⟩
       ·rw[u];exact hy
       ·cases m
      ·rcases w with⟨_,m,_⟩|⟨b',o',Qr,r',u,m,Qt,Ql,_⟩
       ·cases m
       ·cases m
        rw[u];refine⟨r,et,Z,?_⟩;by_cases Qm:0<c
        ·have:=Ql Qm
         rw[a7a,a4d]at this;rw[<-this];exact T
        ·have hy:y=[]:=a0s (by omega)
         subst hy;refine⟨?_,λi K=>by simp at K⟩;simp only[u]at ho;obtain⟨r0,Q8,Qn,Qu⟩:=ho;obtain⟨r1,S,Qv⟩:=X _ _ _ _ Qn;rw[Z]at S
         cases S
         have:=Qu.1;simp;omega
    ·cases hu
   ·cases hu
  |_=>simp[eU]at hu
 | .nrw k,t,vs,A,y,I,e,st,x,hne,hu=>by
  obtain⟨s,Rj,B⟩:∃s v,t=[s]/\vs=[v]/\Sv F G L w0.heap s v:=by
   obtain⟨v,rfl,_⟩:=e;obtain⟨s,rfl,B⟩:=A.single;exact⟨s,v,rfl,rfl,B⟩
  obtain⟨rfl,rfl,B⟩:=B
  cases s with
  |wh dd j ver path=>
   simp only[eU]at hu;split at hu
   ·rename_i N l0 hg
    split at hu
    ·rename_i hk
     subst hk;simp only[a0k]at hu;subst hu;have M:=aH hg
     cases B with
     |wh B=>
     simp only[cV,M,a2q]at B;obtain⟨_,Rh,_,ho⟩:=W.obs dd j _ M;obtain⟨_,a,c,rfl,Q7,w⟩:=B;obtain⟨v',P,T,a',c',m,Qq,e⟩:=e;have P:=P.trans (a1v (λz=>[z]) m);have ha:a=a'/\l0.length=y.length/\c=c':=by simpa using P
     obtain⟨rfl,E,rfl⟩:=ha;have Q:aj st.1 dd j≠none:=hne dd j (by rw[M];simp);obtain⟨q,Q9,Qw⟩:∃q:List Nat,I=Pl.fp (G dd j 0,q)/\((G dd j 0=none->q=[])/\∀(J:Gh) (ow2:OW),J dd j=Pl.pos (G dd j 0,q)->db h ok J ow2 dd j (.nrow N y none)):=by
      rcases e with⟨rfl,hy,_,rfl⟩|⟨b,o,r,et,fps,rfl,rfl,Z,Rk,Ra,Rb,Qy⟩
      ·rcases w with⟨u,_⟩|⟨_,_,_,_,_,m,_⟩
       ·refine⟨[],by simp[Pl.fp,u],λ_=>rfl,λJ ow2 C=>⟨T,[],λi=>by rw[C];rfl,?_⟩⟩
        have R:J dd j 0=none:=by rw[C];exact u
        rw[R];exact⟨hy,rfl,rfl⟩
       ·cases m
      ·rcases w with⟨_,m,_⟩|⟨b',o',Qr,r',u,m,Qt,Ql,_⟩
       ·cases m
       ·cases m
        refine⟨fps.flatten,by simp[Pl.fp,u],λhz=>(by rw[u]at hz;cases hz),λJ ow2 C=>⟨T,fps,λi=>by rw[C];rfl,?_⟩⟩;have R:J dd j 0=some (b,o'):=by rw[C];exact u
        rw[R];simp only[u]at ho;obtain⟨r0,Q8,Qn,Rc,_⟩:=ho;obtain⟨r1,S,Qv⟩:=X _ _ _ _ Qn;rw[Z]at S
        cases S
        refine⟨r,et,Z,by rw[<-E,Qv];exact Rc,Ra,Rb,λi K hf _=> ?_,λe Rd hz=>by cases hz⟩;have:=Ql (by omega);rw[a7a,a4d]at this;rw[<-this];exact Qy i K hf
     refine⟨[(dd,j,.nrow N y none,(G dd j 0,q))],[],[],by simp,rfl,bE,λd' j'=> ?_,λp hp=> ?_,λp hp=> ?_,by simp[dB,cd,Q9],λJ ow2 C _=>⟨λp hp=> ?_,λi o K=>by simp at K⟩⟩
     ·rw[aW Q]
      by_cases H:d'=dd/\j'=j
      ·exact .inl ⟨_,a1c.2 rfl,H.1.symm,H.2.symm,by rw[a0e H]⟩
      ·refine .inr ⟨λp hp m=> ?_,by rw[a0c H]⟩
       have:p=(dd,j,OB.nrow N y none,(G dd j 0,q)):=by simpa using hp
       subst this;exact H ⟨m.1.symm,m.2.symm⟩
     ·have:p=(dd,j,OB.nrow N y none,(G dd j 0,q)):=by simpa using hp
      subst this;simp only;rw[M];exact⟨trivial,⟨rfl,E⟩,trivial⟩
     ·have:p=(dd,j,OB.nrow N y none,(G dd j 0,q)):=by simpa using hp
      subst this;exact⟨rfl,Qw.1⟩
     ·have:p=(dd,j,OB.nrow N y none,(G dd j 0,q)):=by simpa using hp
      subst this;exact Qw.2 J ow2 (C _ (a1c.2 rfl))
    ·cases hu
   ·cases hu
  |_=>simp[eU]at hu
 | .box l,t,vs,A,y,I,e,st,x,hne,hu=>by
  obtain⟨b,o,r,et,Rl,rfl,rfl,Z,Qz,e⟩:=e;obtain⟨s,rfl,B⟩:=A.single
  cases s with
  |bp dd j c=>
   simp only[eU]at hu;split at hu
   ·rename_i Q5 hg
    split at hu
    ·rename_i Qm
     subst Qm;simp only[a0k]at hu;subst hu;have M:=aH hg
     cases B with
     |bp B=>
     simp only[M]at B;obtain⟨b',o',u,m⟩:=B;have m:b=b'/\o=o':=by simpa using m
     obtain⟨rfl,rfl⟩:=m;have Q:aj st.1 dd j≠none:=hne dd j (by rw[M];simp);obtain⟨ps,hl,hf,hr⟩:=gR l e d st.2.length;refine⟨[(dd,j,.box (bH d l y st.2.length).1,(some (b,o),[]))],ps,(bH d l y st.2.length).2,rfl,hl,bE,λd' j'=> ?_,λp hp=> ?_,λp hp=> ?_,?_,λJ ow2 C hN=> ?_⟩
     ·rw[aW Q]
      by_cases H:d'=dd/\j'=j
      ·exact .inl ⟨_,a1c.2 rfl,H.1.symm,H.2.symm,by rw[a0e H]⟩
      ·refine .inr ⟨λp hp m=> ?_,by rw[a0c H]⟩
       have:p=(dd,j,OB.box (bH d l y st.2.length).1,(some (b,o),[])):=by simpa using hp
       subst this;exact H ⟨m.1.symm,m.2.symm⟩
     ·have:p=(dd,j,OB.box (bH d l y st.2.length).1,(some (b,o),[])):=by simpa using hp
      subst this;simp only;rw[M];exact⟨trivial,trivial,trivial⟩
     ·have:p=(dd,j,OB.box (bH d l y st.2.length).1,(some (b,o),[])):=by simpa using hp
      subst this;exact⟨u.symm,λh=>by cases h⟩
     ·simp[dB,cd,Pl.fp,hf]
     ·obtain⟨r1,r2⟩:=hr J ow2 hN
      refine⟨λp hp=> ?_,r2⟩;have:p=(dd,j,OB.box (bH d l y st.2.length).1,(some (b,o),[])):=by simpa using hp
      subst this;have C:=C _ (a1c.2 rfl);simp only at C⊢;have E:(bH d l y st.2.length).1.length=l.len:=by rw[r1.1,aY Qz]
      refine⟨by rw[C];exactλi=>rfl,b,o,r,et,by rw[C];rfl,Z,by omega,λi K Qt=> ?_⟩;have Q0:i<(bP r o l.len).length:=by rw[aY Qz];omega
      have e1:(bP r o l.len)[i]=r[o+i]:=by
       have:=aM (r:=r) (o:=o) (n:=l.len) (i:=i) (by omega);rw[a0a Q0,a1n (by omega)]at this;exact a1h this
      rw[<-e1];exact r1.2 i K Q0
    ·cases hu
   ·cases hu
  |_=>simp[eU]at hu
 | .agg l,t,vs,A,y,I,e,st,x,hne,hu=>by
  obtain⟨cs,rfl,e⟩:=e;obtain⟨s,rfl,B⟩:=A.single
  cases s with
  |agg ss=>
   simp only[eU]at hu;obtain⟨us,m,Qo⟩:=B.agg_inv;have m:cs=us:=by simpa using m
   subst m;exact iW W X d l Qo e hne hu
  |_=>simp[eU]at hu
 | .fn f n l,t,vs,A,y,I,e,st,x,hne,hu=>by
  obtain⟨xs,ys,rfl,_,e⟩:=e;obtain⟨s,rfl,B⟩:=A.single
  cases s with
  |fn g a b=>
   simp only[eU]at hu;obtain⟨us,zs,m,Qo,Re⟩:=B.fn_inv;have m:f=g/\xs=us/\ys=zs:=by simpa using m
   obtain⟨rfl,rfl,rfl⟩:=m;exact iW W X d l (Qo.append Re) e hne hu
  |_=>simp[eU]at hu
 | .cons a b,t,vs,A,y,I,e,st,x,hne,hu=>by
  obtain⟨v,r,f1,f2,rfl,rfl,e1,e2⟩:=e
  match t,A,hu with
  |[],A,_=>have:=A.1;simp at this
  |s::t,A,hu=>
   obtain⟨v',r',m,B,hr⟩:=A.uncons;simp only[a5e]at m;obtain⟨rfl,rfl⟩:=m;simp only[eU]at hu;rcases e1 with⟨h0,rfl⟩|⟨h0,e1⟩
   ·rw[a0e h0]at hu
    exact iW W X d b hr e2 hne hu
   rw[a0c (by rw[h0];simp)]at hu;split at hu
   ·rename_i Q1 h1
    obtain⟨p1,s1,n1,O⟩:=iW W X d a (.cons B .nil) e1 hne h1;obtain⟨p2,s2,n2,V⟩:=iW W X d b hr e2 (st:=Q1) (λd' j' m=>by
     rcases O.names d' j' with⟨p,_,_,_,e⟩|⟨_,e⟩
     ·rw[e];simp
     ·rw[e];exact hne d' j' m) hu
    refine⟨p1++p2,s1++s2,n1++n2,by rw[V.obs,O.obs,a1r],by simp[O.plen,V.plen],by rw[V.len,O.len],λd' j'=> ?_,λp hp=> ?_,λp hp=> ?_,?_,λJ ow2 C hN=> ?_⟩
    ·rcases V.names d' j' with⟨p,hp,U,e4,e5⟩|⟨Rf,U⟩
     ·exact .inl ⟨p,a0l.2 (.inr hp),U,e4,e5⟩
     ·rcases O.names d' j' with⟨p,hp,e4,e5,e6⟩|⟨Q2,e4⟩
      ·exact .inl ⟨p,a0l.2 (.inl hp),e4,e5,by rw[U,e6]⟩
      ·refine .inr ⟨λp hp=> ?_,by rw[U,e4]⟩
       rcases a0l.1 hp with hp|hp
       ·exact Q2 p hp
       ·exact Rf p hp
    ·rcases a0l.1 hp with hp|hp
     ·exact O.old p hp
     ·exact V.old p hp
    ·rcases a0l.1 hp with hp|hp
     ·exact O.place p hp
     ·exact V.place p hp
    ·have U:dB (p1++p2)=dB p1++dB p2:=by simp[dB]
     have e4:cd (s1++s2)=cd s1++cd s2:=by simp[cd]
     rw[U,e4];refine(O.blocks.append V.blocks).trans ?_
     rw[a1r,a1r];refine a8h _ ?_
     rw[<-a1r,<-a1r];exact List.Perm.append_right _ a6r
    ·obtain⟨a1,a2⟩:=O.rep J ow2 (λp hp=>C p (a0l.2 (.inl hp))) (hN.left O.plen)
     have Q3:=hN.right O.plen;have U:st.2.length+n1.length=Q1.2.length:=by rw[O.obs];simp
     rw[U]at Q3;obtain⟨b1,b2⟩:=V.rep J ow2 (λp hp=>C p (a0l.2 (.inr hp))) Q3;refine⟨λp hp=> ?_,λi o K=> ?_⟩
     ·rcases a0l.1 hp with hp|hp
      ·exact a1 p hp
      ·exact b1 p hp
     ·by_cases Rg:i<n1.length
      ·rw[a1k Rg]at K
       exact a2 i o K
      ·rw[a0w (by omega)]at K
       have:=b2 _ o K;rw[<-U,a2o,show n1.length+(i-n1.length)=i by omega]at this;exact this
   ·cases hu
def vl {h:Array Obj} {ok:Nat->Prop} {G:Gh} {ow:OW} {l:List SV} {vs:List Value} (c:mt h ok G ow l vs):ct h ok G ow (PC l) (Gi vs):=by
 obtain⟨d,c⟩:=c
 match l,vs,d,c with
 |[],[],d,c=>exact .tup (l:=[]) (vs:=[]) rfl c
 |[a],[v],_,c=>exact c 0 (by simp) (by simp)
 |a::b::l,v::u::vs,d,c=>exact .tup d c
def dt.ne {ow ow1:OW} (a:dt ow ow1) {d j:Nat} (h:aj ow d j≠none):aj ow1 d j≠none:=by
 rcases a.names d j with e|⟨_,e⟩|hz
 ·rw[e];exact h
 ·rw[e];simp
 ·obtain⟨_,e⟩:=hz.not.2.2
  rw[e];simp
def wt {F:Nat->Prop} {G:Gh} {ow t:OW} {w V:World} (hh:bz F G ow w.heap) (hF:∀b,F b->b<w.heap.size) {fp fps:List Nat} (hT:dt ow t) (hO:ju G ow t fp) (hK:fh (·∈fp) w V) (Q2:fps.Nodup)
 (Q:∀b∈fps,b∈fp\/w.heap.size<=b) {d:Nat} {u Q6:List OB} {R Qq:List Pl} {g:List P8} {Q7:List Nat} {m:OW×List OB} {yc:Nat->Prop}
 (W:N5 V.heap yc G ow d Q7 (t,u) m g Qq Q6) (Q8:R.length=u.length) (Q3:fps=cd R++Q7) {ow':OW} (Rd:bV m.1 d m.2=some ow')
 (Re:∀b r,yc b->ap V.heap b=some r->¬F b/\¬cm G t b/\b∉fps) {l:List SV} {vs:List Value}
 (hR:∀(G2:Gh) (ow2:OW),k9 G2 ow2 d 0 u R->mt V.heap yc G2 ow2 l vs/\∀i o,u[i]?=some o->db V.heap yc G2 ow2 d (0+i) o/\bB (some (some o))):
 ∃H,Tr F G ow w H ow' V/\dn F H ow' V.heap l vs:=by
 obtain⟨Q9,Rm,Rn⟩:=fj Rd;have Qr:m.2=u++Q6:=W.obs
 let ps:=R++Qq
 let H:Gh:=λd' j=>if m.2≠[]/\d'=d then(match ps[j]? with|some p=>p.pos|none=>λ_=>none)else
  (match g.find? (λp=>p.1==d'&& p.2.1==j)with|some p=>p.2.2.2.pos|none=>G d' j)
 have Ro:ps.length=m.2.length:=by simp[ps,Q8,W.plen,Qr]
 have Qt:m.2≠[]->∀j,aj ow d j=none:=by
  intro C j;have h1:m.1[d]?=some []:=by
   rcases Rm with h|h
   ·exact absurd h C
   ·exact h
  have N:=cX h1 j
  cases I:aj ow d j with
  |none=>rfl
  |some z=>
   have h3:aj t d j≠none:=hT.ne (by rw[I];simp);rcases W.names d j with⟨p,_,_,_,e⟩|⟨_,e⟩
   ·rw[N]at e;cases e
   ·rw[N]at e;exact absurd e.symm h3
 have Ra:Q7.Nodup:=by rw[Q3]at Q2;exact(a2d.1 Q2).2.1
 have Qm:(dB g).Nodup:=(a2d.1 (W.blocks.nodup_iff.1 Ra)).1;have Rf:∀p∈g,∀q∈g,p.1=q.1->p.2.1=q.2.1->p.2.2.2.pos=q.2.2.2.pos:=by
  intro p n q X e1 e2;obtain⟨a1,a2⟩:=W.place p n;obtain⟨b1,b2⟩:=W.place q X;rw[e1,e2]at a1
  cases D:G q.1 q.2.1 0 with
  |none=>
   rw[D]at a1 b1;have e:p.2.2.2=q.2.2.2:=Prod.ext (a1.trans b1.symm) ((a2 a1).trans (b2 b1).symm);rw[e]
  |some x=>
   obtain⟨bb,oo⟩:=x;rw[D]at a1 b1;obtain⟨i,B,rfl⟩:=a2f.1 n;obtain⟨k,hk,rfl⟩:=a2f.1 X;have e:=nV (g.map λp=>p.2.2.2) (by rw[List.flatMap_map];exact Qm) i k (by simpa using B) (by simpa using hk) bb (Pl.mem.2 ⟨0,oo,by rw[a4k];exact a1⟩) (Pl.mem.2 ⟨0,oo,by rw[a4k];exact b1⟩);have e:=e.1;subst e;rfl
 have g0:∀d' j,¬(m.2≠[]/\d'=d)->(∀p∈g,¬(p.1=d'/\p.2.1=j))->H d' j=G d' j:=by
  intro d' j hd Qn;simp only[H];rw[a0c hd];have:g.find? (λp=>p.1==d'&& p.2.1==j)=none:=by
   rw[a7d];intro p n;have:=Qn p n;simpa using this
  rw[this]
 have Rg:∀p∈g,¬(m.2≠[]/\p.1=d):=by
  intro p n h;have h1:=(W.old p n).1;rw[h.2,Qt h.1]at h1;exact h1
 have Qu:∀p∈g,H p.1 p.2.1=p.2.2.2.pos:=by
  intro p n;simp only[H];rw[a0c (Rg p n)]
  cases hfd:g.find? (λq=>q.1==p.1&& q.2.1==p.2.1)with
  |none=>
   rw[a7d]at hfd;have:=hfd p n;simp at this
  |some q=>
   have h1:=List.find?_some hfd;simp only[a0f,a2w]at h1;exact Rf q (List.mem_of_find?_eq_some hfd) p n h1.1 h1.2
 have Qv:∀d' j,aj ow d' j≠none->H d' j 0=G d' j 0:=by
  intro d' j I;have hd:¬(m.2≠[]/\d'=d):=λh=>I (by rw[h.2];exact Qt h.1 j)
  by_cases n:∃p∈g,p.1=d'/\p.2.1=j
  ·obtain⟨p,n,rfl,rfl⟩:=n
   rw[Qu p n];exact(W.place p n).1
  ·rw[g0 d' j hd (λp Rp h=>n ⟨p,Rp,h⟩)]
 have gd:m.2≠[]->∀j,H d j=(match ps[j]? with|some p=>p.pos|none=>λ_=>none):=λC j=>by
  show(if m.2≠[]/\d=d then _ else _)=_;rw[a0e ⟨C,rfl⟩]
 have O:∀d' j,(m.2≠[]/\d'=d/\aj ow' d' j=m.2[j]?.map some)\/(¬(m.2≠[]/\d'=d)/\((∃p∈g,p.1=d'/\p.2.1=j/\aj ow' d' j=some (some p.2.2.1))\/((∀p∈g,¬(p.1=d'/\p.2.1=j))/\aj ow' d' j=aj t d' j))):=by
  intro d' j;rw[Rn];by_cases hc:d'=d/\m.2≠[]
  ·rw[a0e hc];exact .inl ⟨hc.2,hc.1,rfl⟩
  ·rw[a0c hc]
   refine .inr ⟨λh=>hc ⟨h.2,h.1⟩,?_⟩;exact W.names d' j
 have y:∀ {d' j i b o:Nat},bB (aj ow' d' j)->H d' j i=some (b,o)->(m.2≠[]/\d'=d/\∃hj:j<ps.length,ps[j].pos i=some (b,o))\/(∃p∈g,p.1=d'/\p.2.1=j/\p.2.2.2.pos i=some (b,o))\/(bB (aj ow d' j)/\G d' j i=some (b,o)/\aj ow' d' j=aj t d' j):=by
  intro d' j i b o B D;rcases O d' j with⟨C,rfl,M⟩|⟨Qo,⟨p,n,rfl,rfl,M⟩|⟨Qn,M⟩⟩
  ·left
   refine⟨C,rfl,?_⟩;rw[gd C]at D
   cases X:ps[j]? with
   |none=>rw[X]at D;cases D
   |some q=>
    rw[X]at D;obtain⟨hj,rfl⟩:=a0t.1 X;exact⟨hj,D⟩
  ·right;left
   rw[Qu p n]at D;exact⟨p,n,rfl,rfl,D⟩
  ·right;right
   rw[M]at B;have e:=(hT.names d' j).own B;rw[e]at B;rw[g0 d' j Qo Qn]at D;exact⟨B,D,M⟩
 have J:∀ {j i b o:Nat} (hj:j<ps.length),ps[j].pos i=some (b,o)->b∈cd ps:=λhj h=>a3s.2 ⟨_,a0h hj,Pl.mem.2 ⟨_,_,h⟩⟩
 have A:∀p∈g,∀ {i b o},p.2.2.2.pos i=some (b,o)->b∈dB g:=λp n i b o D=>a3s.2 ⟨p,n,Pl.mem.2 ⟨i,o,D⟩⟩
 have K:(cd R++(dB g++cd Qq)).Nodup:=(a8h (cd R) W.blocks).nodup_iff.1 (by rw[Q3]at Q2;exact Q2);have Y:cd ps=cd R++cd Qq:=by simp[cd,ps]
 have Rh:(cd ps).Nodup:=by
  rw[Y];rw[a2d]at K⊢;exact⟨K.1,(a2d.1 K.2.1).2.1,λa ha b L=>K.2.2 a ha b (a0l.2 (.inr L))⟩
 have Qw:∀b,b∈cd ps->b∈dB g->False:=by
  intro b h1 N;rw[Y]at h1;rw[a2d]at K;rcases a0l.1 h1 with h1|h1
  ·exact K.2.2 b h1 b (a0l.2 (.inl N)) rfl
  ·exact(a2d.1 K.2.1).2.2 b N b h1 rfl
 have Z:∀b,b∈cd ps->b∈fps:=by
  intro b h1;rw[Y]at h1;rw[Q3];rcases a0l.1 h1 with h1|h1
  ·exact a0l.2 (.inl h1)
  ·exact a0l.2 (.inr (W.blocks.mem_iff.2 (a0l.2 (.inr h1))))
 have P:∀b,b∈dB g->b∈fps:=λb h1=>by
  rw[Q3];exact a0l.2 (.inr (W.blocks.mem_iff.2 (a0l.2 (.inl h1))))
 have S:∀ {d' j i b o:Nat},bB (aj ow' d' j)->aj ow' d' j=aj t d' j->G d' j i=some (b,o)->cm G t b:=λB he D=>aJ.2 ⟨_,_,_,_,by rw[<-he];exact B,D⟩
 have T:∀b,cm H ow' b->cm G t b\/b∈fps:=by
  intro b L;obtain⟨d',j,i,o,B,D⟩:=aJ.1 L;rcases y B D with⟨_,_,hj,h⟩|⟨p,n,rfl,rfl,h⟩|⟨h1,N,h3⟩
  ·exact .inr (Z b (J hj h))
  ·exact .inr (P b (A p n h))
  ·exact .inl (S B h3 N)
 have E:∀b∈fps,¬cm G t b:=by
  intro b L ho;rcases Q b L with h|h
  ·exact hO.notOwn hh hT h ho
  ·have:=cm.lt hh (hT.own ho);omega
 have Q4:∀b r,yc b->ap V.heap b=some r->cR F H ow' b/\ap V.heap b=some r:=by
  intro b r L hr;obtain⟨h1,N,h3⟩:=Re b r L hr;refine⟨⟨h1,λho=> ?_⟩,hr⟩;rcases T b ho with h|h
  ·exact N h
  ·exact h3 h
 have Ql:∀b,b<w.heap.size->b∉fp->V.heap[b]?=w.heap[b]?:=λb L M=>hK.heap b L M
 have Qy:∀b r,cR F G ow b->ap w.heap b=some r->cR F H ow' b/\ap V.heap b=some r:=by
  intro b r L hr;have U:=cE hr;have Qz:b∉fp:=λh=>L.2 (hO.own h)
  refine⟨⟨L.1,λho=> ?_⟩,by unfold ap;rw[Ql b U Qz];exact hr⟩;rcases T b ho with h|h
  ·exact L.2 (hT.own h)
  ·rcases Q b h with h|h
   ·exact Qz h
   ·omega
 have Ri:∀b r,ap w.heap b=some r->∃r',ap V.heap b=some r'/\r'.size=r.size:=by
  intro b r hr;unfold ap at hr;split at hr
  ·rename_i c et f L
   cases hr
   obtain⟨r',h1,N⟩:=hK.cells b _ et f L;exact⟨r',by unfold ap;rw[h1],N⟩
  ·cases hr
 have hE:∀d' j,EC (aj ow d' j) (aj ow' d' j):=by
  intro d' j;rcases O d' j with⟨C,rfl,M⟩|⟨Qo,⟨p,n,rfl,rfl,M⟩|⟨Qn,M⟩⟩
  ·rw[Qt C j];trivial
  ·rw[M];exact(W.old p n).2.1
  ·rw[M];exact(hT.names d' j).ec
 have Rq:∀s v,Sv F G ow w.heap s v->Sv F H ow' V.heap s v:=λs v e=>ct.mono Qv hE Qy Ri e
 have hN:k9 H ow' d 0 m.2 ps:=by
  intro i o B;have C:m.2≠[]:=by intro h;rw[h]at B;simp at B
  have U:i<ps.length:=by rw[Ro];exact(a0t.1 B).1
  rw[a1o];refine⟨?_,ps[i],a0a U,by rw[gd C,a0a U]⟩;rcases O d i with⟨_,_,M⟩|⟨Qo,_⟩
  ·rw[M,B];rfl
  ·exact absurd ⟨C,rfl⟩ Qo
 have Rj:k9 H ow' d 0 (u++Q6) (R++Qq):=by rw[<-Qr];exact hN
 obtain⟨r1,r2⟩:=hR H ow' (Rj.left Q8);have Rk:=Rj.right Q8;rw[a1o]at Rk;obtain⟨q1,q2⟩:=W.rep H ow' Qu Rk;have up:∀ {d' j:Nat} {o:OB},aj ow' d' j≠none->db V.heap yc H ow' d' j o->db V.heap (cR F H ow') H ow' d' j o:=λI e=>
  db.mono (λ_ _ _=>rfl) (λ_ _=> .refl _) Q4 (λb r hr=>⟨r,hr,rfl⟩) rfl (λ_ _ _ _ _=>rfl) e
 have Rr:Tr F G ow w H ow' V:=by
  refine⟨⟨λd' j o M=> ?_,λd1 j1 i1 d2 j2 i2 b o1 o2 h1 N g1 g2=> ?_,λb L=> ?_⟩,Rq,?_,λb L=> ?_,by rw[Q9,W.len,hT.len]⟩
  ·rcases O d' j with⟨C,rfl,I⟩|⟨Qo,⟨p,n,rfl,rfl,I⟩|⟨Qn,I⟩⟩
   ·have ho:m.2[j]?=some o:=by
     rw[M]at I
     cases X:m.2[j]? with
     |none=>simp[X]at I
     |some q=>simp[X]at I;rw[I]
    rw[Qr]at ho;refine up (by rw[M];simp) ?_
    by_cases U:j<u.length
    ·rw[a1k U]at ho
     have:=(r2 j o ho).1;rw[a1o]at this;exact this
    ·rw[a0w (by omega)]at ho
     have:=(q2 _ o ho).1;rw[show u.length+(j-u.length)=j by omega]at this;exact this
   ·rw[M]at I
    have I:o=p.2.2.1:=by simpa using I
    subst I;exact up (by rw[M];simp) (q1 p n)
   ·rw[M]at I
    have Rs:∀b,cm G t b->b∉fp:=λb L h=>hO.notOwn hh hT h L
    rcases hT.names d' j with e|⟨_,e⟩|hz
    ·have h0:aj ow d' j=some (some o):=by rw[<-e,<-I]
     refine db.mono Qv hE Qy Ri (g0 d' j Qo Qn) (λB i b c D=> ?_) (hh.obs d' j o h0);have Q0:cm G t b:=aJ.2 ⟨d',j,i,c,by rw[<-I];exact B,D⟩;exact Ql b (cm.lt hh (hT.own Q0)) (Rs b Q0)
    ·rw[e]at I;cases I
    ·have Qp:=hz.own
     have Q5:=hz.not.1;rw[<-I]at hz Q5
     generalize Q1:aj ow d' j=x at hz Qp
     match x,Qp,hz with
     |some (some ob),Qp,hz=>
      refine hz.rep (Qv d' j (by rw[Q1];simp)) Qy (λi b o1 D=> ?_) (hh.obs d' j ob Q1);have Q0:cm G ow b:=aJ.2 ⟨d',j,i,o1,by rw[Q1];exact Qp,D⟩;have U:=cm.lt hh Q0;have Rt:¬cm G t b:=by
       intro h;obtain⟨d2,j2,i2,o2,B,Rb⟩:=aJ.1 h;have e3:=(hT.names d2 j2).own B;obtain⟨rfl,rfl,_⟩:=hh.apart d2 j2 i2 d' j i b o2 o1 (by rw[<-e3];exact B) (by rw[Q1];exact Qp) Rb D;rw[<-I]at B;exact Q5 B
      have Qz:b∉fp:=by
       intro h;obtain⟨d2,j2,i2,o2,B,Rb,Rl⟩:=(hO b).1 h;obtain⟨rfl,rfl,_⟩:=hh.apart d2 j2 i2 d' j i b o2 o1 B (by rw[Q1];exact Qp) Rb D;rw[<-I]at Rl;cases Rl
      refine⟨⟨hh.notF b Q0,λh=> ?_⟩,Ql b U Qz⟩;rcases T b h with h|h
      ·exact Rt h
      ·rcases Q b h with h|h
       ·exact Qz h
       ·omega
  ·rcases y h1 g1 with⟨n1,rfl,k1,p1⟩|⟨p,n,rfl,rfl,p1⟩|⟨x1,k1,c1⟩
   ·rcases y N g2 with⟨n2,rfl,k2,p2⟩|⟨q,X,rfl,rfl,p2⟩|⟨x2,k2,c2⟩
    ·obtain⟨e,Rc⟩:=nV ps Rh j1 j2 k1 k2 b (Pl.mem.2 ⟨_,_,p1⟩) (Pl.mem.2 ⟨_,_,p2⟩)
     subst e;exact⟨rfl,rfl,Pl.inj Rc p1 p2⟩
    ·exact(Qw b (J k1 p1) (A q X p2)).elim
    ·exact absurd (S N c2 k2) (E b (Z b (J k1 p1)))
   ·rcases y N g2 with⟨n2,rfl,k2,p2⟩|⟨q,X,rfl,rfl,p2⟩|⟨x2,k2,c2⟩
    ·exact(Qw b (J k2 p2) (A p n p1)).elim
    ·obtain⟨i,B,rfl⟩:=a2f.1 n
     obtain⟨k,hk,rfl⟩:=a2f.1 X;obtain⟨e,Rc⟩:=nV (g.map λp=>p.2.2.2) (by rw[List.flatMap_map];exact Qm) i k (by simpa using B) (by simpa using hk) b (Pl.mem.2 ⟨_,_,by simpa using p1⟩) (Pl.mem.2 ⟨_,_,by simpa using p2⟩);subst e;exact⟨rfl,rfl,Pl.inj (by simpa using Rc) p1 p2⟩
    ·exact absurd (S N c2 k2) (E b (P b (A p n p1)))
   ·rcases y N g2 with⟨n2,rfl,k2,p2⟩|⟨q,X,rfl,rfl,p2⟩|⟨x2,k2,c2⟩
    ·exact absurd (S h1 c1 k1) (E b (Z b (J k2 p2)))
    ·exact absurd (S h1 c1 k1) (E b (P b (A q X p2)))
    ·exact hh.apart d1 j1 i1 d2 j2 i2 b o1 o2 x1 x2 k1 k2
  ·rcases T b L with h|h
   ·exact hh.notF b (hT.own h)
   ·rcases Q b h with h|h
    ·exact hh.notF b (hO.own h)
    ·intro hf
     have:=hF b hf;omega
  ·exact⟨hK.size,λb L M=>hK.heap b L λh=>M (hO.own h),hK.cells,hK.os,hK.output,hK.tape⟩
  ·rcases T b L with h|h
   ·exact .inl (hT.own h)
   ·rcases Q b h with h|h
    ·exact .inl (hO.own h)
    ·exact .inr h
 exact⟨H,Rr,r1.1,λi h1 N=>ct.mono (λ_ _ _=>rfl) (λ_ _=> .refl _) Q4 (λb r hr=>⟨r,hr,rfl⟩) (r1.2 i h1 N)⟩
section
variable {F:Nat->Prop} {G:Gh} {ow:OW} {w:World} {P:Program} {L:List (Nat×Obj)}
def DI (P:Program) (F:Nat->Prop) (G:Gh) (ow:OW) (w:World) (f:FuncId) (vs:List Value) (Q:SV×OW->Prop):Prop:=Calls P f vs.toArray w λe a=>∃s ow' v b,e= .returned v/\Q (s,ow')/\Tr F G ow w b ow' a/\Sv F b ow' a.heap s v
def DJ {f:FuncId} {a:jV} (Y:aA P L f a) (i:bz F G ow w.heap) (C:∀b,F b->b<w.heap.size) (S:iV L (cm G ow) w.heap) {args:List SV} {vs:List Value} (D:dn F G ow w.heap args vs) {d:Nat} {c:aX (SV×OW)} (k:LS a args ow d=some c) {Q:SV×OW->Prop} (h:c.can Q):DI P F G ow w f vs Q:=by
 unfold LS at k;split at k
 rotate_left
 ·cases k
 rename_i E;split at k
 ·cases k
 rename_i p Z
 cases k
 obtain⟨y,hy,h⟩:=h;dsimp only at h;split at h
 ·rename_i q j
  split at h
  ·rename_i ow' hn
   obtain⟨H,A,m,I,n⟩:=cC a.args (x:=p.1) (ow1:=p.2) C i D Z;have Ql:∀b∈H,b<w.heap.size:=λb hb=>cm.lt i (m.own hb)
   refine(Y.2 w (λb=>F b\/cm G p.2 b) p.1 vs H y ?_ (λq j=>⟨λhm=>(S q j).1 (m.own hm),(S q j).2⟩) I ?_ ?_ hy (wr i D E)).mono λe o ⟨T,fp1,t,h1,U,V,h4,h5,W⟩=> ?_
   ·intro b hb
    rcases hb with hb|hb
    ·exact C b hb
    ·exact cm.lt i (A.own hb)
   ·intro b hb hx
    rcases hx with hx|hx
    ·exact i.notF b (m.own hb) hx
    ·exact m.notOwn i A hb hx
   ·refine cq.mono (λb r hb J=>⟨λhx=> ?_,J⟩) _ (λ_ _=>rfl) n
    rcases hx with(hx|hx)|hx
    ·exact hb.1 (.inl hx)
    ·exact hb.2 hx
    ·exact hb.1 (.inr hx)
   ·
    have u:∀(g:OW) (yc:Nat->Prop),dt ow g->ju G ow g H->cq o.heap yc a.res y.1 T fp1->gJ o.heap yc a.args y.2 vs t->
     (∀b r,yc b->ap o.heap b=some r->¬F b/\¬cm G g b/\b∉fp1++t)->eU d ow a.args args y.2 (g,(bH d a.res y.1 0).2)=some q->
     ∃s ow' v B,e= .returned v/\Q (s,ow')/\Tr F G ow w B ow' o/\Sv F B ow' o.heap s v:=by
     intro g yc z K J M N hu;obtain⟨Qm,l1,f1,r1⟩:=gR a.res J d 0;obtain⟨X,Qn,Qo,hP⟩:=iW (F:=F) i W.cells d a.args D M (st:=(g,(bH d a.res y.1 0).2)) (λd' j' hx=>z.ne hx) hu;obtain⟨B,O,R⟩:=wt i C z K W h4 h5 hP l1 (by rw[<-f1];rfl) hn N (l:=(bH d a.res y.1 0).1) (vs:=T) r1;exact⟨_,_,_,B,h1,h,O,vl R⟩
    cases hfr:a.res.fresh&& a.args.freshOut with
    |true=>
     simp only[FY,hfr,a2c]at j;simp only[a0f]at hfr;obtain⟨t1,t2⟩:=Gj A;exact u (nA ow p.2) (λ_=>False) t1 (λb=>(m b).trans (t2 G b).symm) (cq.any _ hfr.1 U) (gJ.any _ hfr.2 V) (λb r hb=>hb.elim) j
    |false=>
     simp only[FY,hfr,a0r,a1y]at j;exact u p.2 _ A m U V (λb r hb _=>⟨λhx=>hb (.inl (.inl hx)),λhx=>hb (.inl (.inr hx)),λhx=>hb (.inr hx)⟩) j
  ·exact h.elim
 ·exact h.elim
def pz {f:FuncId}:(a:List jV)->(∀sg∈a,aA P L f sg)->bz F G ow w.heap->(∀b,F b->b<w.heap.size)->iV L (cm G ow) w.heap-> {args:List SV}-> {vs:List Value}->dn F G ow w.heap args vs-> {d:Nat}-> {Q:SV×OW->Prop}->(vg args ow d a).can Q->DI P F G ow w f vs Q
 |[],_,_,_,_,_,_,_,_,_,h=>h.elim
 |sg::r,hs,hh,hF,hL,args,vs,ha,d,Q,h=>by
  unfold vg at h;split at h
  ·rename_i c g
   exact DJ (hs sg (by simp)) hh hF hL ha g h
  ·exact pz r (λsg e=>hs sg (by simp[e])) hh hF hL ha h
def lN {h:Array Obj} {ok:Nat->Prop}:(s:Sh)->aI s=true-> {x:s.T}-> {vs:List Value}-> {a:List Nat}->cq h ok s x vs a->a=[]/\∀d j,(bH d s x j).2=[]
 | .nil,_,_,_,_,e=>⟨e.2,λ_ _=>rfl⟩
 | .cons (.pur _) b,hs,x,_,_,e=>by
  obtain⟨v,r,f1,f2,rfl,rfl,⟨_,_,c,_⟩,f⟩:=e;obtain⟨g,i⟩:=lN b (by simpa [aI]using hs) f;refine⟨by rw[c,g];rfl,λd j=> ?_⟩;show []++(bH d b x.2 (j+0)).2=[];rw[i];rfl
 | .cons (.own _) _,hs,_,_,_,_=>by simp[aI]at hs
 | .cons (.row _) _,hs,_,_,_,_=>by simp[aI]at hs
 | .cons (.nrw _) _,hs,_,_,_,_=>by simp[aI]at hs
 | .cons (.box _) _,hs,_,_,_,_=>by simp[aI]at hs
 | .cons (.agg _) _,hs,_,_,_,_=>by simp[aI]at hs
 | .cons (.fn _ _ _) _,hs,_,_,_,_=>by simp[aI]at hs
 | .cons .ign _,hs,_,_,_,_=>by simp[aI]at hs
 | .cons .nl _,hs,_,_,_,_=>by simp[aI]at hs
 | .cons .nil _,hs,_,_,_,_=>by simp[aI]at hs
 | .cons (.cons _ _) _,hs,_,_,_,_=>by simp[aI]at hs
 | .pur _,hs,_,_,_,_=>by simp[aI]at hs
 | .own _,hs,_,_,_,_=>by simp[aI]at hs
 | .row _,hs,_,_,_,_=>by simp[aI]at hs
 | .nrw _,hs,_,_,_,_=>by simp[aI]at hs
 | .box _,hs,_,_,_,_=>by simp[aI]at hs
 | .agg _,hs,_,_,_,_=>by simp[aI]at hs
 | .fn _ _ _,hs,_,_,_,_=>by simp[aI]at hs
 | .ign,hs,_,_,_,_=>by simp[aI]at hs
 | .nl,hs,_,_,_,_=>by simp[aI]at hs
def PH (P:Program) (F:Nat->Prop) (G:Gh) (ow:OW) (w:World) (f:FuncId) (vs:List Value) (Q:SV->Prop):Prop:=Calls P f vs.toArray w λe a=>∃s v,e= .returned v/\Q s/\Tr F G ow w G ow a/\Sv F G ow a.heap s v
def Mh (e:bz F G ow w.heap) (n:∀b,F b->b<w.heap.size) {f:World} (a:fh (λ_=>False) w f):Tr F G ow w G ow f:=by
 have g:fh (cm G ow) w f:=⟨a.size,λb k _=>a.heap b k (λh=>h),a.cells,a.os,a.output,a.tape⟩;exact tf e n (λ_ _ _=>rfl) (λ_ _=> .refl _) g (λb k=> .inl k)
  (λb r _ l=>⟨r,by unfold ap;rw[a.heap b (cE l) (λh=>h)];exact l,rfl⟩)
  (λd j o m=> .inl ⟨m,rfl,λp i b c q=>a.heap b (cm.lt e (aJ.2 ⟨d,j,i,c,by rw[m];exact p,q⟩)) (λh=>h)⟩) e.apart rfl
def mu {f:FuncId}:(k:List jV)->(∀sg∈k,aA P L f sg)->bz F G ow w.heap->(∀b,F b->b<w.heap.size)->iV L (cm G ow) w.heap-> {args:List SV}-> {vs:List Value}->dn F G ow w.heap args vs-> {Q:SV->Prop}->(vL args ow k).can Q->PH P F G ow w f vs Q
 |[],_,_,_,_,_,_,_,_,h=>h.elim
 |sg::r,hs,hh,hF,hL,args,vs,ha,Q,h=>by
  unfold vL at h;split at h
  ·rename_i g
   simp only[a0f]at g;obtain⟨g,c⟩:=g;have c:sg.al=[]:=List.isEmpty_iff.1 c;split at h
   ·rename_i p u
    obtain⟨y,v,h⟩:=h;obtain⟨M,z,N,l,a⟩:=cC sg.args (x:=p.1) (ow1:=p.2) hF hh ha u;obtain⟨rfl,_⟩:=lN _ g.1.1 a;refine((hs sg (by simp)).2 w (λb=>F b\/cm G p.2 b) p.1 vs [] y ?_ (λq A=>⟨λB=>by simp at B,(hL q A).2⟩) l (λb hb=>by simp at hb) ?_ v (by rw[c];exact LC.nil)).mono λe C ⟨O,fp1,D,E,s,R,S,T,j⟩=> ?_
    ·intro b hb
     rcases hb with hb|hb
     ·exact hF b hb
     ·exact cm.lt hh (z.own hb)
    ·refine cq.mono (λb r hb H=>⟨λhx=> ?_,H⟩) _ (λ_ _=>rfl) a
     rcases hx with(hx|hx)|hx
     ·exact hb.1 (.inl hx)
     ·exact hb.2 hx
     ·exact hb.1 (.inr hx)
    ·obtain⟨rfl,m⟩:=lN _ g.1.2 s
     have I:fh (λ_=>False) w C:=⟨j.size,λb hb _=>j.heap b hb (by simp),j.cells,j.os,j.output,j.tape⟩;have n:=Mh hh hF I;obtain⟨ps,l1,f1,J⟩:=gR sg.res (cq.any (ok':=cR F G ow) _ g.2 s) 0 0;obtain⟨K,_⟩:=J G ow (λi o t=>by rw[m]at t;simp at t);exact⟨_,_,E,h,n,vl K⟩
   ·exact mu r (λsg d=>hs sg (by simp[d])) hh hF hL ha h
  ·exact mu r (λsg d=>hs sg (by simp[d])) hh hF hL ha h
def pA:(s:Sh)->aI s=true->s.freshOut=true
 | .nil,_=>rfl
 | .cons (.pur k) b,hs=>by
  have:=pA b (by simpa [aI]using hs);simp[Sh.freshOut,this]
 | .cons (.own _) _,hs=>by simp[aI]at hs
 | .cons (.row _) _,hs=>by simp[aI]at hs
 | .cons (.nrw _) _,hs=>by simp[aI]at hs
 | .cons (.rows _) _,hs=>by simp[aI]at hs
 | .cons (.box _) _,hs=>by simp[aI]at hs
 | .cons (.agg _) _,hs=>by simp[aI]at hs
 | .cons (.fn _ _ _) _,hs=>by simp[aI]at hs
 | .cons .ign _,hs=>by simp[aI]at hs
 | .cons .nl _,hs=>by simp[aI]at hs
 | .cons .nil _,hs=>by simp[aI]at hs
 | .cons (.cons _ _) _,hs=>by simp[aI]at hs
 | .pur _,hs=>by simp[aI]at hs
 | .own _,hs=>by simp[aI]at hs
 | .rows _,hs=>by simp[aI]at hs
 | .row _,hs=>by simp[aI]at hs
 | .nrw _,hs=>by simp[aI]at hs
 | .box _,hs=>by simp[aI]at hs
 | .agg _,hs=>by simp[aI]at hs
 | .fn _ _ _,hs=>by simp[aI]at hs
 | .ign,hs=>by simp[aI]at hs
 | .nl,hs=>by simp[aI]at hs
def wv {d:Nat} {a:OW}:(s:Sh)->aI s=true-> {args:List SV}-> {ow:OW}-> {p:s.T×OW}->pk s args ow=some p-> {y:s.Out}-> {st:OW×List OB}->eU d a s args y st=some st
 | .nil,_,[],_,_,_,_,_=>rfl
 | .nil,_,_::_,_,_,e,_,_=>by simp[pk]at e
 | .cons (.pur k) b,hs,[],_,_,e,_,_=>by simp[pk]at e
 | .cons (.pur k) b,hs,v::r,ow,p,e,y,st=>by
  unfold pk at e;split at e
  ·rename_i x _
   split at e
   ·rename_i z c
    simp only[eU,Sh.noOuts,a2c];exact wv b (by simpa [aI]using hs) c
   ·cases e
  ·cases e
 | .cons (.own _) _,hs,_,_,_,_,_,_=>by simp[aI]at hs
 | .cons (.row _) _,hs,_,_,_,_,_,_=>by simp[aI]at hs
 | .cons (.nrw _) _,hs,_,_,_,_,_,_=>by simp[aI]at hs
 | .cons (.rows _) _,hs,_,_,_,_,_,_=>by simp[aI]at hs
 | .cons (.box _) _,hs,_,_,_,_,_,_=>by simp[aI]at hs
 | .cons (.agg _) _,hs,_,_,_,_,_,_=>by simp[aI]at hs
 | .cons (.fn _ _ _) _,hs,_,_,_,_,_,_=>by simp[aI]at hs
 | .cons .ign _,hs,_,_,_,_,_,_=>by simp[aI]at hs
 | .cons .nl _,hs,_,_,_,_,_,_=>by simp[aI]at hs
 | .cons .nil _,hs,_,_,_,_,_,_=>by simp[aI]at hs
 | .cons (.cons _ _) _,hs,_,_,_,_,_,_=>by simp[aI]at hs
 | .pur _,hs,_,_,_,_,_,_=>by simp[aI]at hs
 | .own _,hs,_,_,_,_,_,_=>by simp[aI]at hs
 | .rows _,hs,_,_,_,_,_,_=>by simp[aI]at hs
 | .row _,hs,_,_,_,_,_,_=>by simp[aI]at hs
 | .nrw _,hs,_,_,_,_,_,_=>by simp[aI]at hs
 | .box _,hs,_,_,_,_,_,_=>by simp[aI]at hs
 | .agg _,hs,_,_,_,_,_,_=>by simp[aI]at hs
 | .fn _ _ _,hs,_,_,_,_,_,_=>by simp[aI]at hs
 | .ign,hs,_,_,_,_,_,_=>by simp[aI]at hs
 | .nl,hs,_,_,_,_,_,_=>by simp[aI]at hs
def lA {f:FuncId} {d:Nat}:(j:List jV)->(∀sg∈j,aA P L f sg)->bz F G ow w.heap->(∀b,F b->b<w.heap.size)->iV L (cm G ow) w.heap-> {args:List SV}-> {vs:List Value}->dn F G ow w.heap args vs-> {Q:SV×OW->Prop}->(me args ow d j).can Q->DI P F G ow w f vs Q
 |[],_,_,_,_,_,_,_,_,h=>h.elim
 |sg::r,hs,hh,hF,hL,args,vs,ha,Q,h=>by
  unfold me at h;split at h
  ·rename_i c
   simp only[a0f]at c;obtain⟨c,g⟩:=c;have g:sg.al=[]:=List.isEmpty_iff.1 g;split at h
   ·rename_i p u
    obtain⟨y,C,h⟩:=h;dsimp only at h;split at h
    ·rename_i ow' D
     obtain⟨X,E,Y,k,a⟩:=cC sg.args (x:=p.1) (ow1:=p.2) hF hh ha u;obtain⟨rfl,_⟩:=lN _ c.1 a;refine((hs sg (by simp)).2 w (λb=>F b\/cm G p.2 b) p.1 vs [] y ?_ (λq H=>⟨λI=>by simp at I,(hL q H).2⟩) k (λb hb=>by simp at hb) ?_ C (by rw[g];exact LC.nil)).mono λe v ⟨z,fp1,m,J,K,M,N,O,A⟩=> ?_
     ·intro b hb
      rcases hb with hb|hb
      ·exact hF b hb
      ·exact cm.lt hh (E.own hb)
     ·refine cq.mono (λb r hb n=>⟨λhx=> ?_,n⟩) _ (λ_ _=>rfl) a
      rcases hx with(hx|hx)|hx
      ·exact hb.1 (.inl hx)
      ·exact hb.2 hx
      ·exact hb.1 (.inr hx)
     ·have n:cq v.heap (λ_=>False) sg.res y.1 z fp1:=cq.any _ c.2 K
      have o:gJ v.heap (λ_=>False) sg.args y.2 vs m:=gJ.any _ (pA _ c.1) M;obtain⟨R,l1,f1,S⟩:=gR sg.res n d 0;obtain⟨B,T,U,V⟩:=iW (F:=F) hh A.cells d sg.args ha o (st:=(ow,(bH d sg.res y.1 0).2)) (λd' j' hx=>hx) (wv _ c.1 u);obtain⟨W,s,t⟩:=wt hh hF (.refl _) (.refl _ _) A N O V l1 (by rw[<-f1];rfl) D (λb r hb=>hb.elim) (l:=(bH d sg.res y.1 0).1) (vs:=z) S;exact⟨_,_,_,W,J,h,s,vl t⟩
    ·exact h.elim
   ·exact lA r (λsg i=>hs sg (by simp[i])) hh hF hL ha h
  ·exact lA r (λsg i=>hs sg (by simp[i])) hh hF hL ha h
def uG (P:Program) (op:Oper) (b:Operand->Value) (w:World) (R:Value->World->Prop):Prop:=
 (∃v a,(execOp b op).run P w= .ok (.value v) a/\R v a)\/(∃a,(execOp b op).run P w= .ok .skip a/\R undef a)\/
 ∃f args,(execOp b op).run P w= .ok (.enter f args) w/\Calls P f args w λe a=>∃v,e= .returned v/\R v a
def uG.wp {op:Oper} {a:Act} {next:Act->World->Prop} {d:Exit->Act->World->Prop} (h:uG P op a.eval w λv c=>next (a.put op.dst v) c):op.wp P a w next d:=by
 unfold Oper.wp;rcases h with⟨v,c,b,h⟩|⟨c,b,h⟩|⟨f,args,b,h⟩
 ·rw[b];exact h
 ·rw[b];exact h
 ·rw[b]
  exact h.mono λe c ⟨v,g,h⟩=>by rw[g];exact h
def iB {op:Oper} {c:Call} {d:Operand} (f:op.op= .call c) (g:c.callee= .value d) {a:Operand->Value} {b:FuncId} {xs ys:List Value} (h:a d= .func (.func b) xs.toArray ys.toArray)
 (i:∃fn,P.funcs[b]?=some fn/\(fn.name== "runtime.NumGoroutine")=false/\fn.body.isNone=false):
 (execOp a op).run P w= .ok (.enter b (xs++c.args.toList.map a++ys).toArray) w:=by
 obtain⟨fn,j,k,l⟩:=i;have e:xs.toArray++c.args.map a++ys.toArray=(xs++c.args.toList.map a++ys).toArray:=by apply a4p;simp
 simp only[execOp,f,resolve,g,h,Deferred.ofValue,Sem.run_bind,Sem.run_pure,Result.andThen_ok,invoke,callFunc,run_program,j,k,l,a0r,a1y];rw[e]
end
section
variable {F:Nat->Prop} {G:Gh} {ow:OW} {w:World} {L:List (Nat×Obj)} {C:eB}
def eB.Holds (C:eB) (L:List (Nat×Obj)):Prop:=∀f,∀a∈C.sigsOf f,aA C.P L f a
def fR (l:C.Holds L) {o:Op} {op:Oper} (m:op.op=o) {ρ:Operand->SV} {g:Operand->Value} (i:bz F G ow w.heap) (n:∀b,F b->b<w.heap.size) (p:iV L (cm G ow) w.heap) (j:L7 F G ow w.heap ρ g) {Q:SV->Prop} (h:(Aq C o ρ ow).can Q):uG C.P op g w λv k=>∃s,Q s/\Tr F G ow w G ow k/\Sv F G ow k.heap s v:=by
 unfold Aq at h;split at h
 ·rename_i q args _
  split at h
  ·rename_i d a b r
   have f:=j q;rw[r]at f;obtain⟨xs,ys,f,t,u⟩:=f.fn_inv;have c:dn F G ow w.heap (a++args.toList.map ρ++b) (xs++args.toList.map g++ys):=(t.append (j.svs _)).append u
   cases hsg:C.sigsOf d with
   |nil=>rw[hsg]at h;exact h.elim
   |cons sg0 r0=>
    have x:=(l d sg0 (by rw[hsg];simp)).1;have:=mu (C.sigsOf d) (l d) i n p c h;exact .inr (.inr ⟨d,_,iB m rfl f x,this.mono λe k ⟨s,v,y,z,A,B⟩=>⟨v,y,s,z,A,B⟩⟩)
  ·exact h.elim
 ·obtain⟨s,v,D,E,H⟩:=v7 (P:=C.P) m i j h
  exact .inl ⟨v,w,E,s,D,.refl i,H⟩
def tG (l:C.Holds L) {o:Op} {op:Oper} (n:op.op=o) {ρ:Operand->SV} {j:Operand->Value} (p:bz F G ow w.heap) (q:∀b,F b->b<w.heap.size) (r:iV L (cm G ow) w.heap) (m:L7 F G ow w.heap ρ j) {d:Nat} {Q:SV×OW->Prop} (h:(s9 C o ρ ow d).can Q):uG C.P op j w λv k=>∃s ow' g,Q (s,ow')/\Tr F G ow w g ow' k/\Sv F g ow' k.heap s v:=by
 unfold s9 at h;split at h
 ·rename_i t args _
  split at h
  ·rename_i f a b u
   have i:=m t;rw[u]at i;obtain⟨xs,ys,i,x,y⟩:=i.fn_inv;have c:dn F G ow w.heap (a++args.toList.map ρ++b) (xs++args.toList.map j++ys):=(x.append (m.svs _)).append y
   cases hsg:C.sigsOf f with
   |nil=>rw[hsg]at h;exact h.elim
   |cons sg0 r0=>
    have z:=(l f sg0 (by rw[hsg];simp)).1;have:=lA (C.sigsOf f) (l f) p q r c h;exact .inr (.inr ⟨f,_,iB n rfl i z,this.mono λe k ⟨s,ow',v,g,A,B,D,E⟩=>⟨v,A,s,ow',g,B,D,E⟩⟩)
  ·exact h.elim
 ·exact h.elim
def uG.res {P:Program} {op:Oper} {d:Operand->Value} {Q:SV×OW->Prop} {c:Sem Value} (e:Dk P F G ow w Q c) (f:(execOp d op).run P w=(do pure (Next.value (<-c)):Sem Next).run P w):uG P op d w λv a=>∃s ow' b,Q (s,ow')/\Tr F G ow w b ow' a/\Sv F b ow' a.heap s v:=by
 obtain⟨s,ow',v,a,b,g,h,i,j⟩:=e;refine .inl ⟨v,a,?_,s,ow',b,g,i,j⟩;rw[f,Sem.run_bind,h];rfl
def gc (T:C.Holds L) {o:Op} {op:Oper} (k:op.op=o) {ρ:Operand->SV} {q:Operand->Value} (j:bz F G ow w.heap) (m:∀b,F b->b<w.heap.size) (U:iV L (cm G ow) w.heap) (c:L7 F G ow w.heap ρ q) {d:Nat} {Q:SV×OW->Prop} (h:(m0 C o ρ ow d).can Q):uG C.P op q w λv y=>∃s ow' A,Q (s,ow')/\Tr F G ow w A ow' y/\Sv F A ow' y.heap s v:=by
 unfold m0 at h;split at h
 ·split at h
  ·rename_i r D
   split at h
   ·rename_i ow' E
    exact uG.res (zt (P:=C.P) j m D E h) (by simp only[execOp,k])
   ·exact h.elim
  ·exact h.elim
 ·split at h
  ·rename_i r D
   split at h
   ·rename_i ow' E
    exact uG.res (Dz (P:=C.P) j m (c _) D E h) (by simp only[execOp,k])
   ·exact h.elim
  ·exact h.elim
 ·rename_i t n f
  refine uG.res (pR (P:=C.P) (vps:=f.toList.map λx=>(x.1,q x.2)) j m (by simp) (by simp only[a8w];exact(by simpa [a7m]using c.svs (f.toList.map (·.2)))) h) ?_
  simp only[execOp,k]
  congr 4
  apply a4p;simp
 ·have h:=aX.can_bind _ h
  obtain⟨ow',y,H,I,J⟩:=zw (P:=C.P) j m (c _) (c _) h;refine .inr (.inl ⟨y,?_,_,ow',G,H,J,.tup (l:=[]) (vs:=[]) rfl (λi h=>by simp at h)⟩);simp only[execOp,k,Sem.run_bind,I,Result.andThen_ok,Sem.run_pure]
 ·exact uG.res (qF (P:=C.P) j m (c _) (c _) h) (by simp only[execOp,k])
 ·rename_i args K
  split at h
  ·rename_i s x t tx W J
   split at h
   ·rename_i M
    refine uG.res (we (P:=C.P) (ty:=op.type) j m (c s) (c x) M h) ?_
    have X:args.map q= #[q s,q x]:=by apply a4p;simp[W]
    have Y:K= #[t,tx]:=by apply a4p;simp[J]
    simp only[execOp,k,resolve,Sem.run_bind,Sem.run_pure,Result.andThen_ok,invoke,builtin,X,Y]
   ·exact h.elim
  ·exact h.elim
 ·rename_i Z args _
  split at h
  ·rename_i z a b hf
   have B:=c Z;rw[hf]at B;obtain⟨xs,ys,B,N,hy⟩:=B.fn_inv;have g:dn F G ow w.heap (a++args.toList.map ρ++b) (xs++args.toList.map q++ys):=(N.append (c.svs _)).append hy
   cases hsg:C.sigsOf z with
   |nil=>rw[hsg]at h;exact h.elim
   |cons sg0 r0=>
    have h0:=(T z sg0 (by rw[hsg];simp)).1;obtain⟨G1,u,O⟩:=tw m j (a++args.toList.map ρ++b);have:=pz (C.sigsOf z) (T z) u.hrep m (λp V=>⟨λN=>(U p V).1 (O _ N),(U p V).2⟩) ⟨g.1,λi R S=>u.sv _ _ (g.2 i R S)⟩ h;exact .inr (.inr ⟨z,_,iB k rfl B h0,this.mono λe y ⟨s,ow',v,A,R,S,h3,h4⟩=>⟨v,R,s,ow',A,S,u.trans h3,h4⟩⟩)
  ·exact h.elim
 ·have h:=aX.can_bind _ h
  obtain⟨s,v,H,I,hs⟩:=v7 (P:=C.P) k j c h;exact .inl ⟨v,w,I,s,ow,G,H,.refl j,hs⟩
def mv (r:C.Holds L) {o:Op} {op:Oper} (k:op.op=o) {ρ:Operand->SV} {p:Operand->Value} (f:bz F G ow w.heap) (g:∀b,F b->b<w.heap.size) (u:iV L (cm G ow) w.heap) (a:L7 F G ow w.heap ρ p) {d:Nat} {Q:SV×OW->Prop} (h:(zg C o ρ ow d).can Q):uG C.P op p w λv D=>∃s ow' y,Q (s,ow')/\Tr F G ow w y ow' D/\Sv F y ow' D.heap s v:=by
 unfold zg at h;split at h
 ·split at h
  ·rename_i q E
   obtain⟨x,ow',v,y,H,I,J,M⟩:=zA (P:=C.P) f g (a _) (d:=q.1) (j:=q.2.1) (e:=q.2.2.1) (c:=q.2.2.2.1) (s:=q.2.2.2.2) E h;refine .inl ⟨v,w,?_,x,ow',y,H,J,M⟩;simp only[execOp,k,Sem.run_bind,I,Result.andThen_ok,Sem.run_pure]
  ·exact gc r k f g u a h
 ·split at h
  ·rename_i q E
   have h:=aX.can_bind _ h;obtain⟨ow',D,y,H,I,J⟩:=wl (P:=C.P) f g (a _) (a _) (d:=q.1) (j:=q.2.1) (e:=q.2.2.1) (c:=q.2.2.2.1) (s:=q.2.2.2.2) E h;refine .inr (.inl ⟨D,?_,_,ow',y,H,J,.tup (l:=[]) (vs:=[]) rfl (λi h=>by simp at h)⟩);simp only[execOp,k,Sem.run_bind,I,Result.andThen_ok,Sem.run_pure]
  ·exact gc r k f g u a h
 ·rename_i t n m
  split at h
  ·rename_i U N
   refine uG.res (wo (P:=C.P) (vps:=m.toList.map λx=>(x.1,p x.2)) f g (by simp) (by simp only[a8w];exact(by simpa [a7m]using a.svs (m.toList.map (·.2)))) h) ?_
   simp only[execOp,k]
   congr 4
   apply a4p;simp
  ·exact gc r k f g u a h
 ·split at h
  ·exact uG.res (zC (P:=C.P) f g (a _) (a _) h) (by simp only[execOp,k])
  ·exact gc r k f g u a h
 ·rename_i K
  split at h
  ·rename_i s x t tx z O R
   split at h
   ·split at h
    ·rename_i A
     have B:Dk C.P F G ow w Q (Builtin.append_ #[t,tx] op.type #[p s,p x]):=by
      split at h
      ·exact Ca (P:=C.P) (ty:=op.type) f g (a s) (a x) A h
      ·exact uF (P:=C.P) (ty:=op.type) f g (a s) (a x) A h
     refine uG.res B ?_
     have S:K.args.map p= #[p s,p x]:=by apply a4p;simp[O]
     have T:K.argTypes= #[t,tx]:=by apply a4p;simp[R]
     simp only[execOp,k,z,resolve,Sem.run_bind,Sem.run_pure,Result.andThen_ok,invoke,builtin,S,T]
    ·exact h.elim
   ·exact gc r k f g u a h
  ·exact gc r k f g u a h
 ·exact gc r k f g u a h
end
structure Gk (F:Nat->Prop) (fp:List Nat) (L:List (Nat×Obj)) (w0:World):Prop where
 wide:∀b,F b->b<w0.heap.size
 laid:iV L (·∈fp) w0.heap
 fpF:∀b∈fp,¬F b
structure ni (nt:Nat) (fr:Nat->Bool) (F:Nat->Prop) (fp:List Nat) (w0:World) (vs:List Value) (st:St) (a:Act) (w:World):Prop where
 ex:∃G,dn F G st.ow w.heap st.sl a.tmps.toList/\bz F G st.ow w.heap/\∀b,cm G st.ow b->b∈fp\/w0.heap.size<=b
 kept:fh (·∈fp) w0 w
 defers:a.defers=[]
 args:∀i,i<vs.length->fr i=false->a.tmps[i]?=vs[i]?
 size:a.tmps.size=nt
section
variable {F:Nat->Prop} {fp:List Nat} {L:List (Nat×Obj)} {w0:World} {vs:List Value} {C:eB} {nt:Nat} {fr:Nat->Bool}
def Gk.wideAt (a:Gk F fp L w0) {w:World} (c:fh (·∈fp) w0 w):∀b,F b->b<w.heap.size:=λb d=>a7b (a.wide b d) c.size
def Gk.laidAt (e:Gk F fp L w0) {w:World} (f:fh (·∈fp) w0 w) {G:Gh} {ow:OW} (g:∀b,cm G ow b->b∈fp\/w0.heap.size<=b):iV L (cm G ow) w.heap:=λp i=>by
 obtain⟨c,d⟩:=e.laid p i;have a:=(a1b.1 d).1;refine⟨λh=> ?_,by rw[f.heap p.1 a c];exact d⟩;rcases g _ h with h|h
 ·exact c h
 ·omega
def eD {G:Gh} {ow:OW} {w:World} {j:List SV} {a:Act} (k:dn F G ow w.heap j a.tmps.toList):L7 F G ow w.heap (iS j) a.eval:=by
 intro x
 cases x with
 |tmp t=>
  show Sv F G ow w.heap (match j[t]? with|some s=>s|none=> .dead) (a.tmps.getD t undef);split
  ·rename_i s h
   obtain⟨d,rfl⟩:=a0t.1 h;have c:t<a.tmps.toList.length:=by rw[<-k.1];exact d
   have e:a.tmps.getD t undef=a.tmps.toList[t]:=by
    have:t<a.tmps.size:=by simpa using c
    simp[Array.getD,this]
   rw[e];exact k.2 t d c
  ·exact .dead _
 |const v=>exact tc 4 v
 |global g=>exact .dead _
 |func f=>exact .fn (a:=[]) (b:=[]) (xs:=[]) (ys:=[]) rfl rfl (λi h=>by simp at h) (λi h=>by simp at h)
def vm {G:Gh} {ow:OW} {w:World} {c:List SV} {a:Act} (b:dn F G ow w.heap c a.tmps.toList) {s:SV} {v:Value} (h:Sv F G ow w.heap s v) (d:Option Tmp):dn F G ow w.heap (bn c d s) (a.put d v).tmps.toList:=by
 cases d with
 |none=>exact b
 |some d=>
  refine⟨by simp[bn,Act.put,b.1],λi f g=> ?_⟩;simp only[bn,Act.put,Array.toList_setIfInBounds]at f g⊢;by_cases e:d=i
  ·subst e
   simp only[a3k];exact h
  ·simp only[a3b e]
   exact b.2 i (by simpa using f) (by simpa using g)
def DK {a:Act} {d:Option Tmp} {v:Value} (h:∀i,i<vs.length->fr i=false->a.tmps[i]?=vs[i]?) (f:∀x,d=some x->fr x=true):∀i,i<vs.length->fr i=false->(a.put d v).tmps[i]?=vs[i]?:=by
 intro i c b
 cases d with
 |none=>exact h i c b
 |some d=>
  have:=f d rfl;simp only[Act.put];rw[Array.getElem?_setIfInBounds_ne (λe=>by rw[e]at this;rw[this]at b;cases b)];exact h i c b
def DL (a:Act) (d:Option Tmp) (v:Value):(a.put d v).tmps.size=a.tmps.size:=by cases d<;>simp[Act.put]
def mw (a:Act) (d:Option Tmp) (v:Value):(a.put d v).defers=a.defers:=by cases d<;>rfl
def ni.op (o:Gk F fp L w0) {st:St} {a:Act} {w:World} (h:ni nt fr F fp w0 vs st a w) {G:Gh} (g:dn F G st.ow w.heap st.sl a.tmps.toList) (j:∀b,cm G st.ow b->b∈fp\/w0.heap.size<=b) {e:Gh} {ow':OW} {f:World} (c:Tr F G st.ow w e ow' f) {s:SV} {v:Value} (k:Sv F e ow' f.heap s v) {d:Option Tmp} (l:∀x,d=some x->fr x=true):ni nt fr F fp w0 vs ⟨bn st.sl d s,ow'⟩ (a.put d v) f:=by
 refine⟨⟨e,vm ⟨g.1,λi h1 m=>c.sv _ _ (g.2 i h1 m)⟩ k d,c.hrep,λb n=> ?_⟩,h.kept.trans c.kept j,by rw[mw];exact h.defers,DK h.args l,by rw[DL];exact h.size⟩;rcases c.own b n with h1|h1
 ·exact j b h1
 ·exact .inr (a5p h.kept.size h1)
def ni.slot {st:St} {a:Act} {w:World} (h:ni nt fr F fp w0 vs st a w) {s:SV} {v:Value} (b:∀G,Sv F G st.ow w.heap s v) {d:Option Tmp} (c:∀x,d=some x->fr x=true):ni nt fr F fp w0 vs ⟨bn st.sl d s,st.ow⟩ (a.put d v) w:=by
 obtain⟨G,e,f,g⟩:=h.ex;exact⟨⟨G,vm e (b G) d,f,g⟩,h.kept,by rw[mw];exact h.defers,DK h.args c,by rw[DL];exact h.size⟩
def ko {G:Gh} {ow:OW} {h:Array Obj}:Sv F G ow h (.tup []) undef:= .tup (l:=[]) (vs:=[]) rfl (λi h=>by simp at h)
def cG {G:Gh} {ow:OW} {w:World} {r:List SV} {a:Act} (l:dn F G ow w.heap r a.tmps.toList) {k:Array Oper} {o:Oper} {b:Bool} (h:dG k o r=some b):Region.wanted o (yielded k a.tmps)=b:=by
 unfold dG at h;unfold Region.wanted;split at h
 ·rename_i m
  rw[m];exact a1h h
 ·rename_i j f m
  rw[m];simp only;unfold yielded;split at h
  ·rename_i n
   cases h
   rw[n];rfl
  ·rename_i g n
   rw[n];simp only[a0d];split at h
   ·rename_i t i
    cases h
    obtain⟨d,e⟩:=a0t.1 i;have c:g<a.tmps.toList.length:=by rw[<-l.1];exact d
    have:=l.2 g d c;rw[e]at this;have p:=this.lb_inv;have:a.tmps[g]?=some (.bool t):=by rw[<-p];simp[show g<a.tmps.size by simpa using c]
    rw[this]
    cases t<;>cases f<;>rfl
   ·rename_i i
    cases h
    obtain⟨d,e⟩:=a0t.1 i;have c:g<a.tmps.toList.length:=by rw[<-l.1];exact d
    have:=l.2 g d c;rw[e]at this;obtain⟨s,p,q⟩:=this.tup_inv;have:s=[]:=a0s q.1.symm;subst this;have:a.tmps[g]?=some (.tuple #[]):=by rw[<-p];simp[show g<a.tmps.size by simpa using c]
    rw[this]
    cases f<;>rfl
   ·cases h
def ld {α:Type} {n:Nat} {G:Gh} {ow:OW} {w:World} {src:Bool} {s:SV} {v:Value} (a:Sv F G ow w.heap s v) {k:SV->Option α} {r:α} (h:split n src s k=some r):∃c,k c=some r/\Sv F G ow w.heap c v:=by
 unfold split at h;split at h
 ·split at h
  ·rename_i b
   rw[a.bool_inv];rw[eA]at h
   cases b
   ·exact⟨_,h,.lb _⟩
   ·exact⟨_,h,.lb _⟩
  ·exact⟨_,h,a⟩
 ·exact⟨_,h,a⟩
def ww (C:eB) (L:List (Nat×Obj)):Prop:=∀ {F:Nat->Prop} {G:Gh} {ow:OW} {w:World} {o:Op} {op:Oper},op.op=o->∀ {ρ:Operand->SV} {a:Operand->Value},bz F G ow w.heap->(∀b,F b->b<w.heap.size)->iV L (cm G ow) w.heap->L7 F G ow w.heap ρ a->∀ {d:Nat} {Q:SV×OW->Prop},(ta C o ρ ow d).can Q->uG C.P op a w λv c=>∃s ow' e,Q (s,ow')/\Tr F G ow w e ow' c/\Sv F e ow' c.heap s v
def n3 {α:Type} (y:ww C L) (j:Gk F fp L w0) {b:Array Oper} {Q:Exit->Act->World->Prop} {k:St->Option α} {r:α}
 (z:∀m I c,k m=some r->ni nt fr F fp w0 vs m I c->Q .normal I c):
 (l:List (Oper×Nat))->(∀p∈l,b[p.2]?=some p.1/\∀d,p.1.dst=some d->fr d=true)-> {st:St}-> {a:Act}-> {w:World}->ni nt fr F fp w0 vs st a w->Aw C b l st k=some r->wpOps C.P b Q (l.map (·.2)) a w
 |[],_,st,a,w,h,e=>z _ _ _ e h
 |(o,i)::l,hl,st,a,w,h,e=>by
  obtain⟨M,J⟩:=hl (o,i) (by simp);have n:∀p∈l,b[p.2]?=some p.1/\∀d,p.1.dst=some d->fr d=true:=λp N=>hl p (by simp[N])
  obtain⟨G,x,O,g⟩:=h.ex;unfold Aw at e;simp only[a2i,wpOps];rw[M];simp only;split at e
  ·cases e
  ·rename_i A
   rw[cG x A];exact n3 y j z l n (h.slot (λ_=>ko) J) e
  ·rename_i A
   rw[cG x A];simp only[a2c];left;have q:=aX.can_of_run _ e;have B:=y rfl O (j.wideAt h.kept) (j.laidAt h.kept g) (eD x) q;refine uG.wp ?_
   have conv:∀v c,(∃s ow' D,(split C.fuel (d9 b i) s λK=>Aw C b l ⟨bn st.sl o.dst K,ow'⟩ k)=some r/\Tr F G st.ow w D ow' c/\Sv F D ow' c.heap s v)->wpOps C.P b Q (l.map (·.2)) (a.put o.dst v) c:=by
    rintro v c ⟨s,ow',D,E,R,H⟩
    obtain⟨K,E,H⟩:=ld H E;exact n3 y j z l n (h.op j x g R H J) E
   rcases B with⟨v,c,t,u⟩|⟨c,t,u⟩|⟨f,args,t,u⟩
   ·exact .inl ⟨v,c,t,conv v c u⟩
   ·exact .inr (.inl ⟨c,t,conv undef c u⟩)
   ·exact .inr (.inr ⟨f,args,t,u.mono λe c ⟨v,S,T⟩=>⟨v,S,conv v c T⟩⟩)
def pV {α:Type} (H:C.Holds L) (t:Gk F fp L w0) {b:Array Oper} {Q:Exit->Act->World->Prop} {ow:OW} {k:List SV->Option α} {r:α}
 {sl0:List SV} {D:Nat->Prop}
 (I:∀m R c,k m=some r->ni nt fr F fp w0 vs ⟨m,ow⟩ R c->(∀d,¬D d->m[d]?=sl0[d]?)->Q .normal R c):
 (l:List (Oper×Nat))->(∀p∈l,b[p.2]?=some p.1/\∀d,p.1.dst=some d->fr d=true/\D d)-> {n:List SV}-> {a:Act}-> {w:World}->ni nt fr F fp w0 vs ⟨n,ow⟩ a w->(∀d,¬D d->n[d]?=sl0[d]?)->IN C b ow l n k=some r->wpOps C.P b Q (l.map (·.2)) a w
 |[],_,n,a,w,h,hag,e=>I _ _ _ e h hag
 |(o,i)::l,hl,n,a,w,h,hag,e=>by
  obtain⟨U,u⟩:=hl (o,i) (by simp);have S:∀d,o.dst=some d->fr d=true:=λd J=>(u d J).1
  have g:∀s d,¬D d->(bn n o.dst s)[d]?=sl0[d]?:=by
   intro s d q
   cases J:o.dst with
   |none=>exact hag d q
   |some x=>
    have:x≠d:=λe=>q (e▸(u x J).2)
    simp only[bn];rw[a2y this];exact hag d q
  have y:∀p∈l,b[p.2]?=some p.1/\∀d,p.1.dst=some d->fr d=true/\D d:=λp V=>hl p (by simp[V])
  obtain⟨G,E,W,j⟩:=h.ex;unfold IN at e;simp only[a2i,wpOps];rw[U];simp only;split at e
  ·cases e
  ·rename_i K
   rw[cG E K];exact pV H t I l y (h.slot (λ_=>ko) S) (g _) e
  ·rename_i K
   rw[cG E K];simp only[a2c];left;have z:=aX.can_of_run _ e;have M:=fR H rfl W (t.wideAt h.kept) (t.laidAt h.kept j) (eD E) z;refine uG.wp ?_
   have conv:∀v c,(∃s,(split C.fuel (d9 b i) s λT=>IN C b ow l (bn n o.dst T) k)=some r/\Tr F G ow w G ow c/\Sv F G ow c.heap s v)->wpOps C.P b Q (l.map (·.2)) (a.put o.dst v) c:=by
    rintro v c ⟨s,N,X,O⟩
    obtain⟨T,N,O⟩:=ld O N;exact pV H t I l y (h.op t E j X O S) (g _) N
   rcases M with⟨v,c,A,B⟩|⟨c,A,B⟩|⟨f,args,A,B⟩
   ·exact .inl ⟨v,c,A,conv v c B⟩
   ·exact .inr (.inl ⟨c,A,conv undef c B⟩)
   ·exact .inr (.inr ⟨f,args,A,B.mono λe c ⟨v,Y,Z⟩=>⟨v,Y,conv v c Z⟩⟩)
def hZ (a:Array Oper) {fr:Nat->Bool} (h:(a.toList.all λo=>match o.dst with|some d=>fr d|none=>true)=true):(∀p∈a.toList.zipIdx,a[p.2]?=some p.1/\∀d,p.1.dst=some d->fr d=true)/\a.toList.zipIdx.map (·.2)=List.range a.size:=by
 refine⟨λp e=> ?_,by simp[a3x]⟩;have b:=List.mem_zipIdx' e;refine⟨by have:=b.2;rw[this];simp[show p.2<a.size by simpa using b.1],λd f=> ?_⟩;have c:=a1e.1 h p.1 (by rw[b.2];exact a0h _);rw[f]at c;simpa using c
end
section
variable {F:Nat->Prop} {G:Gh} {w:World}
def DM {st:St} {f1:List Nat} (n:bz (FP F f1) G st.ow w.heap) {tmps:List Value} (k:dn (FP F f1) G st.ow w.heap st.sl tmps) {a:Sh} {x:a.T} {v:Value} (e:cq w.heap (cR (FP F f1) G st.ow) a x [v] f1) (j:f1.Nodup) (o:∀b∈f1,¬F b)
 {s:Nat} (c:st.ow[s]?=some []) (l:tmps[s]?=some v):
 ∃f,bz F f (st.ow.set s ((bH s a x 0).2.map some)) w.heap/\dn F f (st.ow.set s ((bH s a x 0).2.map some)) w.heap (st.sl.set s ((bH s a x 0).1.headD .dead)) tmps/\∀b,cm f (st.ow.set s ((bH s a x 0).2.map some)) b↔cm G st.ow b\/b∈f1:=by
 have p:bV st.ow s (bH s a x 0).2=some (st.ow.set s ((bH s a x 0).2.map some)):=by
  unfold bV;split
  ·rename_i h
   rw[h]
   congr 1
   apply a2g;intro i;by_cases g:s=i
   ·subst g
    rw[a5n (a0t.1 c).1,c];rfl
   ·rw[a2y g]
  ·rw[c]
 obtain⟨f,q,r,t,y,_⟩:=rS n e j o p;refine⟨f,q,⟨by simp[k.1],λi z m=> ?_⟩,y⟩;obtain⟨u,A,d⟩:=r.single;have d:Sv F f (st.ow.set s ((bH s a x 0).2.map some)) w.heap ((bH s a x 0).1.headD .dead) v:=by rw[A];exact d
 by_cases g:s=i
 ·subst g
  rw[a3k];rw[a0a m]at l;rw[a1h l];exact d
 ·rw[a3b g]
  exact t _ _ (k.2 i (by simpa using z) m)
def tH (F:Nat->Prop) (w:World) (nt:Nat) {tmps:List Value} (g:tmps.length=nt):bz F (λ_ _ _=>none) (List.replicate nt []) w.heap/\dn F (λ_ _ _=>none) (List.replicate nt []) w.heap (List.replicate nt SV.dead) tmps/\∀b,¬cm (λ_ _ _=>none) (List.replicate nt []) b:=by
 refine⟨⟨λd j o a=> ?_,λd j i d' j' m b o n _ _ c _=>(by cases c),λb e=> ?_⟩,⟨by simp[g],λi k f=>by simp only[a4u];exact .dead _⟩,λb e=> ?_⟩
 ·unfold aj at a
  cases h:(List.replicate nt ([]:List (Option OB)))[d]? with
  |none=>rw[h]at a;cases a
  |some l=>
   rw[h]at a;have:l=[]:=by
    obtain⟨k,f⟩:=a0t.1 h;simpa using f.symm
   subst this;simp at a
 ·obtain⟨_,_,_,_,_,c⟩:=aJ.1 e;cases c
 ·obtain⟨_,_,_,_,_,c⟩:=aJ.1 e;cases c
def wx {nt:Nat} {tmps:List Value} (q:tmps.length=nt) {g:Nat->Prop}:(l:List (Nat×Sh))->pN nt l=true-> {F:Nat->Prop}-> {x:(gY l).T}-> {c:List Nat}->
 cq w.heap g (gY l) x (l.map λp=>tmps.getD p.1 undef) c->c.Nodup->(∀b∈c,¬F b)->(∀b,g b->¬F b/\b∉c)->
 ∃G,bz F G (qw nt l x).ow w.heap/\dn F G (qw nt l x).ow w.heap (qw nt l x).sl tmps/\(∀b,cm G (qw nt l x).ow b↔b∈c)/\∀d,d<nt->d∉l.map (·.1)->(qw nt l x).ow[d]?=some []
 |[],_,F,x,c,e,_,_,_=>by
  obtain⟨j,z,A⟩:=tH F w nt q;obtain⟨_,rfl⟩:=e;exact⟨_,j,z,λb=>⟨λh=>absurd h (A b),λh=>by simp at h⟩,λd m _=>by simp[qw,m]⟩
 |(s,sh)::r,hlv,F,x,c,e,hnd,hF,hok=>by
  simp only[pN,a0f,a0u,a2p]at hlv;obtain⟨⟨B,n⟩,C⟩:=hlv;obtain⟨v,N,f1,f2,j,rfl,D,E⟩:=e;simp only[a2i,a5e]at j;obtain⟨rfl,rfl⟩:=j;rw[a2d]at hnd;obtain⟨G,H,I,t,u⟩:=wx q r C (F:=FP F f1) (x:=x.2) E hnd.2.1
   (λb a hx=>by
    rcases hx with hx|hx
    ·exact hF b (a0l.2 (.inr a)) hx
    ·exact hnd.2.2 b hx b a rfl)
   (λb a=>by
    obtain⟨a1,k⟩:=hok b a;exact⟨λhx=>by
     rcases hx with hx|hx
     ·exact a1 hx
     ·exact k (a0l.2 (.inl hx)),λhx=>k (a0l.2 (.inr hx))⟩)
  have i:s∉r.map (·.1):=by simpa using n
  have J:tmps[s]?=some (tmps.getD s undef):=by simp[List.getD,show s<tmps.length by omega]
  obtain⟨y,K,L,M⟩:=DM (st:=qw nt r x.2) H I (cq.mono (λb O a o=>⟨⟨λhx=>by
   obtain⟨a1,k⟩:=hok b a;rcases hx with hx|hx
   ·exact a1 hx
   ·exact k (a0l.2 (.inl hx)),λhx=>(hok b a).2 (a0l.2 (.inr ((t b).1 hx)))⟩,o⟩) sh (λ_ _=>rfl) D) hnd.1 (λb a=>hF b (a0l.2 (.inl a))) (u s B i) J
  refine⟨y,K,L,λb=> ?_,λd m f=> ?_⟩
  ·rw[show cm y (qw nt ((s,sh)::r) x).ow b↔_ from M b,t b,a0l]
   exact Or.comm
  ·simp only[a2i,a1s,not_or]at f
   show((qw nt r x.2).ow.set s _)[d]?=some [];rw[a2y (Ne.symm f.1)];exact u d m f.2
def tI {nt:Nat} {tmps:List Value} (o:tmps.length=nt) {f:Nat->Prop}:(s:Sh)->s.chain=true->(i:Nat)->i+s.len<=nt-> {F:Nat->Prop}-> {x:s.T}-> {vs:List Value}-> {c:List Nat}->
 cq w.heap f s x vs c->(∀j,j<vs.length->tmps[i+j]?=vs[j]?)->c.Nodup->(∀b∈c,¬F b)->(∀b,f b->¬F b/\b∉c)->
 ∃G,bz F G (m4 nt s x i).ow w.heap/\dn F G (m4 nt s x i).ow w.heap (m4 nt s x i).sl tmps/\(∀b,cm G (m4 nt s x i).ow b↔b∈c)/\∀d,d<i->d<nt->(m4 nt s x i).ow[d]?=some []
 | .nil,_,i,_,F,x,vs,c,e,_,_,_,_=>by
  obtain⟨u,y,z⟩:=tH F w nt o;obtain⟨_,rfl⟩:=e;exact⟨_,u,y,λb=>⟨λh=>absurd h (z b),λh=>by simp at h⟩,λd _ p=>by simp[m4,p]⟩
 | .cons sh b,hc,i,hi,F,x,vs,c,e,hv,hnd,hF,hok=>by
  obtain⟨v,K,f1,f2,rfl,rfl,A,B⟩:=e;simp only[Sh.len]at hi;rw[a2d]at hnd;obtain⟨G,C,D,q,r⟩:=tI o b (by simpa [Sh.chain]using hc) (i+1) (by omega) (F:=FP F f1) (x:=x.2) B
   (λj E=>by have:=hv (j+1) (by simpa using E);rw[show i+(j+1)=i+1+j by omega]at this;simpa using this) hnd.2.1
   (λb a hx=>by
    rcases hx with hx|hx
    ·exact hF b (a0l.2 (.inr a)) hx
    ·exact hnd.2.2 b hx b a rfl)
   (λb a=>by
    obtain⟨a1,g⟩:=hok b a;exact⟨λhx=>by
     rcases hx with hx|hx
     ·exact a1 hx
     ·exact g (a0l.2 (.inl hx)),λhx=>g (a0l.2 (.inr hx))⟩)
  have k:tmps[i]?=some v:=by have:=hv 0 (by simp);simpa using this
  obtain⟨t,H,I,J⟩:=DM (st:=m4 nt b x.2 (i+1)) C D (cq.mono (λb L a l=>⟨⟨λhx=>by
   obtain⟨a1,g⟩:=hok b a;rcases hx with hx|hx
   ·exact a1 hx
   ·exact g (a0l.2 (.inl hx)),λhx=>(hok b a).2 (a0l.2 (.inr ((q b).1 hx)))⟩,l⟩) sh (λ_ _=>rfl) A) hnd.1 (λb a=>hF b (a0l.2 (.inl a))) (r i (by omega) (by omega)) k
  refine⟨t,H,I,λm=> ?_,λd p n=> ?_⟩
  ·rw[show cm t (m4 nt (.cons sh b) x i).ow m↔_ from J m,q m,a0l]
   exact Or.comm
  ·show((m4 nt b x.2 (i+1)).ow.set i _)[d]?=some []
   rw[a2y (by omega)];exact r d (by omega) n
 | .pur _,hc,_,_,_,_,_,_,_,_,_,_,_=>by simp[Sh.chain]at hc
 | .own _,hc,_,_,_,_,_,_,_,_,_,_,_=>by simp[Sh.chain]at hc
 | .row _,hc,_,_,_,_,_,_,_,_,_,_,_=>by simp[Sh.chain]at hc
 | .nrw _,hc,_,_,_,_,_,_,_,_,_,_,_=>by simp[Sh.chain]at hc
 | .box _,hc,_,_,_,_,_,_,_,_,_,_,_=>by simp[Sh.chain]at hc
 | .agg _,hc,_,_,_,_,_,_,_,_,_,_,_=>by simp[Sh.chain]at hc
 | .fn _ _ _,hc,_,_,_,_,_,_,_,_,_,_,_=>by simp[Sh.chain]at hc
 | .ign,hc,_,_,_,_,_,_,_,_,_,_,_=>by simp[Sh.chain]at hc
 | .nl,hc,_,_,_,_,_,_,_,_,_,_,_=>by simp[Sh.chain]at hc
end
section
variable {F:Nat->Prop} {fp:List Nat} {L:List (Nat×Obj)} {w0:World} {vs:List Value} {C:eB} {nt:Nat} {fr:Nat->Bool}
def Gl (r:Gk F fp L w0) {c:List (Nat×Sh)} (l:pN nt c=true) {st:St} {a:Act} {w:World} (h:ni nt fr F fp w0 vs st a w) {y:(gY c).T×OW} (e:pk (gY c) (c.map λp=>iS st.sl (.tmp p.1)) st.ow=some y):ni nt fr F fp w0 vs (qw nt c y.1) a w:=by
 obtain⟨G,s,o,j⟩:=h.ex;have t:=eD s;have d:dn F G st.ow w.heap (c.map λp=>iS st.sl (.tmp p.1)) (c.map λp=>a.tmps.toList.getD p.1 undef):=by
  refine⟨by simp,λi u C=> ?_⟩;simp only[a4k];have:=t (.tmp (c[i]'(by simpa using u)).1);simpa [Act.eval]using this
 obtain⟨f,D,q,m,k⟩:=cC (gY c) (x:=y.1) (ow1:=y.2) (r.wideAt h.kept) o d e;obtain⟨v,z,A,B,_⟩:=wx (nt:=nt) (tmps:=a.tmps.toList) (by simpa using h.size) c l (F:=F) k m (λb g=>o.notF b (q.own g)) (λb g=>⟨λn=>g.1 (.inl n),λn=>g.1 (.inr n)⟩);exact⟨⟨v,A,z,λb g=>j b (q.own ((B b).1 g))⟩,h.kept,h.defers,h.args,h.size⟩
def ni.alR {st:St} {a:Act} {w:World} (h:ni nt fr F fp w0 vs st a w) {b:List (Nat×Nat×Nat×List Nat)} (e:NO b st.sl st.ow=true):LC w.heap b a.tmps.toList:=by
 obtain⟨G,c,d,_⟩:=h.ex;exact wr d c e
def ni.fix {st:St} {a:Act} {w:World} (h:ni nt fr F fp w0 vs st a w) {c:List (Nat×Nat×Nat×List Nat)} (e:LC w.heap c a.tmps.toList):ni nt fr F fp w0 vs (LN c st) a w:=by
 obtain⟨G,f,d,b⟩:=h.ex;exact⟨⟨G,tD d c f e,d,b⟩,h.kept,h.defers,h.args,h.size⟩
def QK {α:Type} (nt:Nat) (fr:Nat->Bool) (F:Nat->Prop) (b:List Nat) (c:World) (vs:List Value) (K:Ks α) (r:α):Exit->Act->World->Prop
 | .normal,a,w=>∃st,ni nt fr F b c vs st a w/\K.normal st=some r
 | .exit i,a,w=>∃st,ni nt fr F b c vs st a w/\K.exit i st=some r
 | .ret,a,w=>∃st,ni nt fr F b c vs st a w/\K.ret st=some r
 |_,_,_=>False
def qK {α:Type} (m:Gk F fp L w0) {P:Program} {b:List (Nat×Sh)} (g:pN nt b=true) {o:List (Nat×Nat×Nat×List Nat)} {c:Code} {K:Ks α} {r:α} {p:St->(St->Option α)->Option α}
 (d:∀k st a w,p st k=some r->ni nt fr F fp w0 vs st a w->c.wp P (QK nt fr F fp w0 vs {K with normal:=k} r) a w):
 (n:Nat)-> {x:(gY b).T}-> {a:Act}-> {w:World}->L3 nt b o p n x=some r->ni nt fr F fp w0 vs (qw nt b x) a w->LC w.heap o a.tmps.toList->Code.rounds P c (QK nt fr F fp w0 vs K r) n a w
 |0,_,_,_,e,_,_=>by cases e
 |n+1,x,a,w,e,h,ha=>by
  rw[rounds_succ];refine wp_mono (d _ _ _ _ e (h.fix ha)) λs u v j=> ?_
  cases s with
  |normal=>
   obtain⟨st,q,f⟩:=j;dsimp only at f;split at f
   ·rename_i l
    split at f
    ·rename_i y t
     exact qK m g d n f (Gl m g q t) (q.alR l)
    ·cases f
   ·cases f
  |exit i=>exact j
  |ret=>exact j
  |_=>exact j.elim
end
variable {F:Nat->Prop} {fp:List Nat} {L:List (Nat×Obj)} {w0:World} {vs:List Value} {C:eB} {nt:Nat} {fr:Nat->Bool}
def wy {G:Gh} {ow:OW} {w:World} {k:Kd} {s:SV} {v:Value} (a:Sv F G ow w.heap s v) {x:k.T} (e:vR k s=some x):Sv F G ow w.heap (.v k x) v:=by
 unfold vR at e;split at e
 ·split at e
  ·rename_i b
   subst b;have e:=a1h e;subst e;exact a
  ·cases e
 ·split at e
  ·cases e
   rw[a.lb_inv];exact .bool _
  ·cases e
 ·split at e
  ·cases e
   cases a
   exact .v rfl ⟨none,0,rfl,a1l _,.inl rfl⟩
  ·cases e
 ·cases e
def qL {G:Gh} {ow:OW} {w:World} {a sl0:List SV} {tmps:List Value} (c:dn F G ow w.heap a tmps) (g:dn F G ow w.heap sl0 tmps):(l:List (Nat×Kd))-> {p:Dq l}->kg l a=some p->dn F G ow w.heap (nI l p sl0) tmps
 |[],_,_=>g
 |(d,k)::r,p,e=>by
  simp only[kg]at e;split at e
  ·rename_i x h
   split at e
   ·rename_i y n
    cases e
    have ih:=qL c g r n;refine⟨by simp[nI,ih.1],λi j f=> ?_⟩;simp only[nI]at j⊢;by_cases m:d=i
    ·subst m
     simp only[a3k];have b:d<a.length:=by rw[c.1];exact f
     have o:iS a (.tmp d)=a[d]:=by simp[iS,b]
     rw[o]at h;exact wy (c.2 d b f) h
    ·simp only[a3b m]
     exact ih.2 i (by simpa using j) f
   ·cases e
  ·cases e
def Gm (b:List Oper):(a:List SV)->(b.foldl (λa o=>bn a o.dst .dead) a).length=a.length/\∀d,(∃o∈b,o.dst=some d)/\(∀(h:d<(b.foldl (λa o=>bn a o.dst .dead) a).length),(b.foldl (λa o=>bn a o.dst .dead) a)[d]= .dead)\/(¬∃o∈b,o.dst=some d)/\(b.foldl (λa o=>bn a o.dst .dead) a)[d]?=a[d]?:=by
 induction b with
 |nil=>intro a;exact⟨rfl,λd=> .inr ⟨by simp,rfl⟩⟩
 |cons o b ih=>
  intro a;obtain⟨k,l⟩:=ih (bn a o.dst .dead);have f:(bn a o.dst .dead).length=a.length:=by cases g:o.dst<;>simp[bn]
  refine⟨by simp only[a1u];rw[k,f],λd=> ?_⟩;simp only[a1u];rcases l d with⟨⟨j,ho',c⟩,i⟩|⟨m,i⟩
  ·exact .inl ⟨⟨j,by simp[ho'],c⟩,i⟩
  ·by_cases g:o.dst=some d
   ·refine .inl ⟨⟨o,by simp,g⟩,λh=> ?_⟩
    have:(b.foldl (λa o=>bn a o.dst .dead) (bn a o.dst .dead))[d]?=some .dead:=by
     rw[i,g];simp only[bn];rw[a5n (by rw[k,f]at h;exact h)]
    rw[a0a h]at this;exact a1h this
   ·refine .inr ⟨?_,?_⟩
    ·rintro⟨j,ho',c⟩
     rcases a1s.1 ho' with rfl|ho'
     ·exact g c
     ·exact m ⟨j,ho',c⟩
    ·rw[i]
     cases hx:o.dst with
     |none=>rfl
     |some x=>
      simp only[bn];rw[a2y (λe=>g (by rw[hx,e]))]
def Cc {b:Array Oper} {st:St} {c:List SV} {k:Act} {l:World} (h:ni nt fr F fp w0 vs ⟨c,st.ow⟩ k l) (m:∀d,¬(∃o∈b.toList,o.dst=some d)->c[d]?=st.sl[d]?) (f:st.sl.length=nt) {a:List (Nat×Kd)} {p:Dq a} (e:kg a c=some p):ni nt fr F fp w0 vs ⟨nI a p (b.toList.foldl (λn o=>bn n o.dst .dead) st.sl),st.ow⟩ k l:=by
 obtain⟨G,q,u,g⟩:=h.ex;obtain⟨f1,f2⟩:=Gm b.toList st.sl;have v:dn F G st.ow l.heap (b.toList.foldl (λn o=>bn n o.dst .dead) st.sl) k.tmps.toList:=by
  refine⟨by rw[f1,f];simp[h.size],λi r s=> ?_⟩;rcases f2 i with⟨_,j⟩|⟨w,j⟩
  ·rw[j r];exact .dead _
  ·have t:i<c.length:=by rw[q.1];exact s
   rw[<-m i w,a0a r,a0a t]at j;rw[a1h j];exact q.2 i t s
 exact⟨⟨G,qL q v a e,u,g⟩,h.kept,h.defers,h.args,h.size⟩
def ni.len {st:St} {a:Act} {w:World} (h:ni nt fr F fp w0 vs st a w):st.sl.length=nt:=by
 obtain⟨G,b,_⟩:=h.ex;rw[b.1];simpa using h.size
def wz (C:eB) (L:List (Nat×Obj)):Prop:=∀ {α:Type} {nt:Nat} {fr:Nat->Bool} {F:Nat->Prop} {e:List Nat} {f:World} {vs:List Value} {i:Nat} {b:Array Oper} {st:St} {a:Act} {w:World} {k:List SV->Option α} {r:α},Gk F e L f->
 (b.toList.all λo=>match o.dst with|some d=>fr d|none=>true)=true->ni nt fr F e f vs st a w->lK b (iu b)=true->
 vQ C b st.ow b.toList.zipIdx st.sl k=some r->∀Q:Exit->Act->World->Prop,
 (∀c g h,k c=some r->ni nt fr F e f vs ⟨c,st.ow⟩ g h->(∀d,¬(∃o∈b.toList,o.dst=some d)->c[d]?=st.sl[d]?)->Q .normal g h)->(Code.region i b true).wp C.P Q a w
def wA (C:eB) (L:List (Nat×Obj)):Prop:=∀ {α:Type} {nt:Nat} {fr:Nat->Bool} {F:Nat->Prop} {e:List Nat} {f:World} {vs:List Value} {i:Nat} {b:Array Oper} {ks:List (List Nat×Bool)} {st:St} {a:Act} {w:World} {k:St->Option α} {r:α},Gk F e L f->
 (b.toList.all λo=>match o.dst with|some d=>fr d|none=>true)=true->ni nt fr F e f vs st a w->lK b (pM qv b ks)=true->
 rM C b ks b.toList.zipIdx st k=some r->∀Q:Exit->Act->World->Prop,
 (∀c g h,k c=some r->ni nt fr F e f vs c g h->Q .normal g h)->(Code.region i b true).wp C.P Q a w
def oN (C:eB) (L:List (Nat×Obj)):Prop:=wz C L/\wA C L/\ww C L
def tJ {α:Type} (H:C.Holds L) (u:oN C L) (s:Gk F fp L w0) (x:LA) {B:Nat} {b:Array Oper} {c:Bool} (v:(b.toList.all λo=>match o.dst with|some d=>fr d|none=>true)=true) {K:Ks α} {r:α} {st:St} {a:Act} {w:World}
 (e:H8 C x B b c st K.normal=some r) (h:ni nt fr F fp w0 vs st a w):(Code.region B b c).wp C.P (QK nt fr F fp w0 vs K r) a w:=by
 obtain⟨y,E⟩:=hZ b v;unfold H8 at e;split at e
 ·rename_i I i _
  have t:∀p,K.normal ⟨nI i p (b.toList.foldl (λJ o=>bn J o.dst .dead) st.sl),st.ow⟩=some r->∀f m n,kg i f=some p->ni nt fr F fp w0 vs ⟨f,st.ow⟩ m n->(∀d,¬(∃o∈b.toList,o.dst=some d)->f[d]?=st.sl[d]?)->QK nt fr F fp w0 vs K r .normal m n:=λp e f m n j k M=>⟨_,Cc k M h.len j,e⟩
  cases c with
  |true=>
   simp only[a2c]at e;split at e
   ·rename_i g
    rw[a2l]at e;obtain⟨p,z,e⟩:=e;exact u.1 s v h g z _ (t p e)
   ·cases e
  |false=>
   simp only[a0r,a1y]at e;rw[a2l]at e;obtain⟨p,z,e⟩:=e;refine wp_region ?_
   rw[<-E];refine pV (D:=λd=>∃o∈b.toList,o.dst=some d) (sl0:=st.sl) H s (t p e) b.toList.zipIdx (λq A=>⟨(y q A).1,λd G=>⟨(y q A).2 d G,?_⟩⟩) h (λ_ _=>rfl) z;have:=List.mem_zipIdx' A;exact⟨q.1,by rw[this.2];exact a0h _,G⟩
 ·cases c with
  |true=>
   simp only[a2c]at e;split at e
   ·split at e
    ·rename_i g
     exact u.2.1 s v h g e _ λl m n j k=>⟨l,k,j⟩
    ·cases e
   ·split at e
    ·rename_i g
     exact u.1 s v h g e _ λf m n j k _=>⟨_,k,j⟩
    ·cases e
  |false=>
   simp only[a0r,a1y]at e;refine wp_region ?_
   rw[<-E];exact n3 u.2.2 s (λl m n j k=>⟨l,k,j⟩) _ y h e
def dJ {α:Type} (j:C.Holds L) (l:oN C L) (d:Gk F fp L w0) (b:LA):(c:Code)->lL fr c=true-> {f:Nat}-> {K:Ks α}-> {r:α}-> {st:St}-> {a:Act}-> {w:World}->ef C b nt c f st K=some r->ni nt fr F fp w0 vs st a w->c.wp C.P (QK nt fr F fp w0 vs K r) a w
 | .skip,_,_,K,r,st,a,w,e,h=>wp_skip ⟨st,h,by simpa [ef]using e⟩
 | .exit s,_,_,K,r,st,a,w,e,h=>wp_exit ⟨st,h,by simpa [ef]using e⟩
 | .ret,_,_,K,r,st,a,w,e,h=>wp_ret ⟨st,h,by simpa [ef]using e⟩
 | .seq x y,hd,f,K,r,st,a,w,e,h=>by
  simp only[lL,a0f]at hd;simp only[ef]at e;refine wp_seq (wp_mono (dJ j l d b x hd.1 e h) λA I J g=> ?_)
  cases A with
  |normal=>obtain⟨n,v,p⟩:=g;exact dJ j l d b y hd.2 p v
  |exit i=>exact g
  |ret=>exact g
  |_=>exact g.elim
 | .cond o x y,hd,f,K,r,st,a,w,e,h=>by
  simp only[lL,a0f]at hd;simp only[ef]at e;obtain⟨G,M,O,H⟩:=h.ex;have z:=eD M o;split at e
  ·rename_i t B
   rw[B]at z;refine wp_cond z.lb_inv ?_
   cases t with
   |true=>exact dJ j l d b x hd.1 e h
   |false=>exact dJ j l d b y hd.2 e h
  ·rename_i t B
   rw[B]at z;refine wp_cond z.bool_inv ?_
   rw[eA]at e
   cases t with
   |true=>exact dJ j l d b x hd.1 e h
   |false=>exact dJ j l d b y hd.2 e h
  ·cases e
 | .block s x,hd,f,K,r,st,a,w,e,h=>by
  simp only[lL]at hd;simp only[ef]at e;refine wp_block (wp_mono (dJ j l d b x hd e h) λA I J g=> ?_)
  cases A with
  |normal=>exact g
  |exit i=>
   obtain⟨n,v,p⟩:=g;by_cases D:i=s
   ·subst D
    simp only[a5x,a2c]at p;simp only[Exit.inBlock,a2c];exact⟨n,v,p⟩
   ·have N:(i==s)=false:=by simpa using D
    simp only[N,a0r,a1y]at p;simp only[Exit.inBlock,D,a1y];exact⟨n,v,p⟩
  |ret=>exact g
  |_=>exact g.elim
 | .loop x,hd,f,K,r,st,a,w,e,h=>by
  simp only[lL]at hd;simp only[ef]at e;split at e
  ·cases e
  ·rename_i s u _
   split at e
   ·rename_i m
    split at e
    ·rename_i y E
     exact wp_loop_rounds C.fuel (qK d m (λk st a w e h=>dJ j l d b x hd e h) C.fuel e (Gl d m h E) (h.alR (a1e.2 λq g=>((a0f _ _).mp (a4t.1 g).2).1)))
    ·cases e
   ·cases e
 | .region s ops draw,hd,f,K,r,st,a,w,e,h=>by
  simp only[lL]at hd;simp only[ef]at e;split at e
  ·rename_i _ u _
   split at e
   ·rename_i m
    split at e
    ·rename_i y E
     rw[mZ]at e;exact tJ j l d b hd e (Gl d m h E)
    ·cases e
   ·cases e
  ·exact tJ j l d b hd e h
 | .label _,_,_,_,_,_,_,_,e,_=>by simp[ef]at e
 | .goto _,_,_,_,_,_,_,_,e,_=>by simp[ef]at e
 | .scope _,_,_,_,_,_,_,_,e,_=>by simp[ef]at e
 | .rangeFunc _ _ _ _,_,_,_,_,_,_,_,e,_=>by simp[ef]at e
def iX {w:World} {G:Gh}:(s:Sh)-> {F:Nat->Prop}-> {ow ow1:OW}->(∀b,F b->b<w.heap.size)->bz F G ow w.heap-> {c:List SV}-> {d:List Value}->dn F G ow w.heap c d-> {x:s.Out}->gu s c ow=some (x,ow1)->∃f,dt ow ow1/\ju G ow ow1 f/\f.Nodup/\gJ w.heap (cR (FP F f) G ow1) s x d f
 | .row k,F,ow,ow1,hF,hh,c,d,hs,x,e=>cC (.row k) hF hh hs e
 | .nrw s,F,ow,ow1,hF,hh,c,d,hs,x,e=>cC (.nrw s) hF hh hs e
 | .box l,F,ow,ow1,hF,hh,c,d,hs,x,e=>cC (.box l) hF hh hs e
 | .pur _,F,ow,ow1,hF,hh,c,d,hs,x,e=>by
  match c,hs,e with
  |[],_,e=>simp[gu]at e
  |[s],hs,e=>
   simp only[gu,a0k,a0y]at e;obtain⟨v,rfl,h⟩:=hs.single';rw[<-e.2];exact⟨[],.refl _,.refl _ _,a2j,⟨v,rfl⟩,rfl⟩
  |_::_::_,_,e=>simp[gu]at e
 | .own _,F,ow,ow1,hF,hh,c,d,hs,x,e=>by
  match c,hs,e with
  |[],_,e=>simp[gu]at e
  |[s],hs,e=>
   simp only[gu,a0k,a0y]at e;obtain⟨v,rfl,h⟩:=hs.single';rw[<-e.2];exact⟨[],.refl _,.refl _ _,a2j,⟨v,rfl⟩,rfl⟩
  |_::_::_,_,e=>simp[gu]at e
 | .rows _,F,ow,ow1,hF,hh,c,d,hs,x,e=>by
  match c,hs,e with
  |[],_,e=>simp[gu]at e
  |[s],hs,e=>
   simp only[gu,a0k,a0y]at e;obtain⟨v,rfl,h⟩:=hs.single';rw[<-e.2];exact⟨[],.refl _,.refl _ _,a2j,⟨v,rfl⟩,rfl⟩
  |_::_::_,_,e=>simp[gu]at e
 | .ign,F,ow,ow1,hF,hh,c,d,hs,x,e=>by
  match c,hs,e with
  |[],_,e=>simp[gu]at e
  |[s],hs,e=>
   simp only[gu,a0k,a0y]at e;obtain⟨v,rfl,h⟩:=hs.single';rw[<-e.2];exact⟨[],.refl _,.refl _ _,a2j,⟨v,rfl⟩,rfl⟩
  |_::_::_,_,e=>simp[gu]at e
 | .nl,F,ow,ow1,hF,hh,c,d,hs,x,e=>by
  match c,hs,e with
  |[],_,e=>simp[gu]at e
  |[s],hs,e=>
   simp only[gu,a0k,a0y]at e;obtain⟨v,rfl,h⟩:=hs.single';rw[<-e.2];exact⟨[],.refl _,.refl _ _,a2j,⟨v,rfl⟩,rfl⟩
  |_::_::_,_,e=>simp[gu]at e
 | .nil,F,ow,ow1,hF,hh,c,d,hs,x,e=>by
  match c,hs,e with
  |[],hs,e=>
   simp only[gu,a0k,a0y]at e;have:d=[]:=a0s hs.1.symm;subst this;rw[<-e.2];exact⟨[],.refl _,.refl _ _,a2j,rfl,rfl⟩
  |_::_,_,e=>simp[gu]at e
 | .agg l,F,ow,ow1,hF,hh,c,d,hs,x,e=>by
  match c,hs,e with
  |[],_,e=>simp[gu]at e
  |[s],hs,e=>
   obtain⟨v,rfl,h⟩:=hs.single'
   cases s with
   |agg cs=>
    simp only[gu]at e;obtain⟨S,rfl,I⟩:=h.agg_inv;obtain⟨f,t,u,J,K⟩:=iX l hF hh I e;exact⟨f,t,u,J,S,rfl,K⟩
   |_=>simp[gu]at e
  |_::_::_,_,e=>simp[gu]at e
 | .fn f n l,F,ow,ow1,hF,hh,c,d,hs,x,e=>by
  match c,hs,e with
  |[],_,e=>simp[gu]at e
  |[s],hs,e=>
   obtain⟨v,rfl,h⟩:=hs.single'
   cases s with
   |fn g a b=>
    simp only[gu]at e;split at e
    ·rename_i T
     obtain⟨rfl,U⟩:=T;obtain⟨xs,ys,rfl,m,A⟩:=h.fn_inv;obtain⟨V,t,u,J,K⟩:=iX l hF hh (m.append A) e;exact⟨V,t,u,J,xs,ys,rfl,by rw[<-m.1,U],K⟩
    ·cases e
   |_=>simp[gu]at e
  |_::_::_,_,e=>simp[gu]at e
 | .cons a b,F,ow,ow1,hF,hh,c,d,hs,x,e=>by
  match c,hs,e with
  |[],_,e=>simp[gu]at e
  |s::r,hs,e=>
   simp only[gu]at e;split at e
   ·rename_i L
    split at e
    ·rename_i z M
     cases e
     obtain⟨v,o,rfl,h,j⟩:=hs.uncons;obtain⟨f2,B,C,n2,N⟩:=iX b (x:=z.1) (ow1:=z.2) hF hh j M;exact⟨f2,B,C,n2,v,o,[],f2,rfl,rfl,.inl ⟨L,rfl⟩,N⟩
    ·cases e
   rename_i L;split at e
   ·rename_i y A
    split at e
    ·rename_i z M
     cases e
     obtain⟨v,o,rfl,h,j⟩:=hs.uncons;obtain⟨f1,E,H,W,X⟩:=iX a (x:=y.1) (ow1:=y.2) hF hh (.cons h .nil) A;obtain⟨O,D⟩:=cM hh E H;have P:∀q,FP F f1 q->q<w.heap.size:=by
      intro q hb';rcases hb' with hb'|hb'
      ·exact hF q hb'
      ·exact cm.lt hh (H.own hb')
     obtain⟨f2,B,C,n2,N⟩:=iX b (x:=z.1) (ow1:=z.2) P O ⟨j.1,λi t u=>D _ _ (j.2 i t u)⟩ M;refine⟨f1++f2,E.trans B,λx=> ?_,a2d.2 ⟨W,n2,λx m y A Q=> ?_⟩,v,o,f1,f2,rfl,rfl,?_,?_⟩
     ·rw[F9.trans E B,<-H x,<-C x,a0l]
     ·subst Q
      exact H.notOwn hh E m (C.own A)
     ·exact .inr ⟨by simpa using L,gJ.mono (λq Y hb' p=>⟨fQ (λR m=>mr.2 m) (eC B C hb'),p⟩) a (λ_ _=>rfl) X⟩
     ·exact gJ.mono (λq Y hb' p=>⟨fQ (λR m=>mr.2 m) hb',p⟩) b (λ_ _=>rfl) N
    ·cases e
   ·cases e
def lf {P:Program} {G:Gh} {st:St} {a:Act} {w:World} (k:bz F G st.ow w.heap) (j:dn F G st.ow w.heap st.sl a.tmps.toList):(l:List ResultVar)-> {Q:List SV->Prop}->(Av P st l).can Q->∃e f,Q e/\(l.mapM λ| .tmp t=>pure (a.tmps.getD t undef)| .cell b t=>do loadVar t (<-asAddr (a.tmps.getD b undef)):Sem (List Value)).run P w= .ok f w/\dn F G st.ow w.heap e f
 |[],Q,h=>⟨[],[],h,rfl,.nil⟩
 | .tmp t::r,Q,h=>by
  have h:=aX.can_bind _ h;obtain⟨e,f,g,c,d⟩:=lf k j r h;have p:=eD j (.tmp t);refine⟨iS st.sl (.tmp t)::e,a.tmps.getD t undef::f,g,?_,.cons p d⟩;simp only[a7i,Sem.run_bind,Sem.run_pure,Result.andThen_ok,c]
 | .cell b t::r,Q,h=>by
  have h:=aX.can_bind _ h;obtain⟨s,v,g,c,d⟩:=mi k (eD j (.tmp b)) h;have h:=aX.can_bind _ g;obtain⟨e,f,g,m,i⟩:=lf k j r h;refine⟨s::e,v::f,g,?_,.cons d i⟩;have n:(do loadVar t (<-asAddr (a.tmps.getD b undef)):Sem Value).run P w= .ok v w:=by
   have c:(Instr.loadAt t (a.tmps.getD b undef)).run P w= .ok v w:=c
   generalize a.tmps.getD b undef=z at c
   cases z with
   |pointer o=>
    cases o with
    |none=>simp[Instr.loadAt,Instr.sureAddr,stuck]at c
    |some ad=>simpa [Instr.loadAt,Instr.sureAddr,asAddr]using c
   |_=>simp[Instr.loadAt,Instr.sureAddr,stuck]at c
  simp only[a7i,Sem.run_bind,Result.andThen_ok,Sem.run_pure]at n⊢;rw[n];simp only[Result.andThen_ok,m]
def tK {P:Program} {fn:Func} {a:Act} {w:World} {c:List Value} (d:(fn.results.toList.mapM λ| .tmp t=>pure (a.tmps.getD t undef)| .cell b t=>do loadVar t (<-asAddr (a.tmps.getD b undef)):Sem (List Value)).run P w= .ok c w):(results fn a.tmps).run P w= .ok (Gi c) w:=by
 unfold results;have e:(fn.results.mapM λ| .tmp t=>pure (a.tmps.getD t undef)| .cell b t=>do loadVar t (<-asAddr (a.tmps.getD b undef)):Sem (Array Value)).run P w= .ok c.toArray w:=by
  rw[a7j,Sem.run_map,d];rfl
 rw[Sem.run_bind];refine(a1v (λq=>Result.andThen q _) (show _=Result.ok c.toArray w from e)).trans ?_
 simp only[Result.andThen_ok,Sem.run_pure]
 congr 1
 match c with
 |[]=>rfl
 |[u]=>rfl
 |u::u'::us'=>simp[Gi]
def Ii {h:Array Obj} {ok:Nat->Prop}:(s:Sh)->s.chain=true-> {x:s.T}-> {a:List Value}-> {f:List Nat}->cq h ok s x a f->a.length=s.len
 | .nil,_,_,_,_,e=>by obtain⟨rfl,_⟩:=e;rfl
 | .cons _ b,hc,_,_,_,e=>by
  obtain⟨v,r,f1,f2,rfl,_,_,c⟩:=e;simp[Sh.len,Ii b (by simpa [Sh.chain]using hc) c]
 | .pur _,hc,_,_,_,_=>by simp[Sh.chain]at hc
 | .own _,hc,_,_,_,_=>by simp[Sh.chain]at hc
 | .rows _,hc,_,_,_,_=>by simp[Sh.chain]at hc
 | .row _,hc,_,_,_,_=>by simp[Sh.chain]at hc
 | .nrw _,hc,_,_,_,_=>by simp[Sh.chain]at hc
 | .box _,hc,_,_,_,_=>by simp[Sh.chain]at hc
 | .agg _,hc,_,_,_,_=>by simp[Sh.chain]at hc
 | .fn _ _ _,hc,_,_,_,_=>by simp[Sh.chain]at hc
 | .ign,hc,_,_,_,_=>by simp[Sh.chain]at hc
 | .nl,hc,_,_,_,_=>by simp[Sh.chain]at hc
def AD {h:Array Obj} {ok:Nat->Prop}:(s:Sh)->s.chain=true-> {y:s.Out}-> {c vs:List Value}-> {f:List Nat}->c.length=vs.length->(∀i,i<vs.length->k6 s i=false->c[i]?=vs[i]?)->gJ h ok s y c f->gJ h ok s y vs f
 | .nil,_,_,c,vs,f,hl,_,e=>by
  obtain⟨rfl,rfl⟩:=e;exact⟨a0s hl.symm,rfl⟩
 | .cons a b,hc,y,c,vs,f,hl,hag,e=>by
  obtain⟨v,r,f1,f2,rfl,rfl,d,g⟩:=e
  cases vs with
  |nil=>simp at hl
  |cons v' r'=>
   refine⟨v',r',f1,f2,rfl,rfl,?_,AD b (by simpa [Sh.chain]using hc) (by simpa using hl) (λi j k=> ?_) g⟩
   ·rcases d with d|⟨h0,d⟩
    ·exact .inl d
    ·have:=hag 0 (by simp) (by simpa [k6]using h0)
     simp only[a1t,a0k]at this;rw[<-this];exact .inr ⟨h0,d⟩
   ·have:=hag (i+1) (by simpa using j) (by simpa [k6]using k)
    simpa using this
 | .pur _,hc,_,_,_,_,_,_,_=>by simp[Sh.chain]at hc
 | .own _,hc,_,_,_,_,_,_,_=>by simp[Sh.chain]at hc
 | .rows _,hc,_,_,_,_,_,_,_=>by simp[Sh.chain]at hc
 | .row _,hc,_,_,_,_,_,_,_=>by simp[Sh.chain]at hc
 | .nrw _,hc,_,_,_,_,_,_,_=>by simp[Sh.chain]at hc
 | .box _,hc,_,_,_,_,_,_,_=>by simp[Sh.chain]at hc
 | .agg _,hc,_,_,_,_,_,_,_=>by simp[Sh.chain]at hc
 | .fn _ _ _,hc,_,_,_,_,_,_,_=>by simp[Sh.chain]at hc
 | .ign,hc,_,_,_,_,_,_,_=>by simp[Sh.chain]at hc
 | .nl,hc,_,_,_,_,_,_,_=>by simp[Sh.chain]at hc
def tL (Y:Gk F fp L w0) {fn:Func} {args d:Sh} (N:args.chain=true) (O:fr=k6 args) (p:vs.length=args.len) (Q:args.len<=nt) {st:St} {a:Act} {w:World} (h:ni nt fr F fp w0 vs st a w) {y:d.T×args.Out} (e:L4 C fn args d st=some y):a.defers=[]/\∃v,(results fn a.tmps).run C.P w= .ok v w/\∃Z fp1 c,v=Gi Z/\cq w.heap (λb=>¬FP F (fp1++c) b) d y.1 Z fp1/\gJ w.heap (λb=>¬FP F (fp1++c) b) args y.2 vs c/\(fp1++c).Nodup/\(∀b∈fp1++c,b∈fp\/w0.heap.size<=b)/\fh (·∈fp) w0 w:=by
 refine⟨h.defers,?_⟩;obtain⟨G0,j,s,k⟩:=h.ex;obtain⟨E,us,l,t,f⟩:=lf s j _ (aX.can_of_run _ e);obtain⟨G,m,u⟩:=tw (Y.wideAt h.kept) s E;have H:=m.hrep;have I:dn F G (kb E st.ow) w.heap st.sl a.tmps.toList:=⟨j.1,λi A J=>m.sv _ _ (j.2 i A J)⟩;have R:dn F G (kb E st.ow) w.heap E us:=⟨f.1,λi A J=>m.sv _ _ (f.2 i A J)⟩;have g:=λb hb=>k b (u b hb)
 split at l
 ·rename_i x hx
  split at l
  ·rename_i z hz
   cases l
   have hF:=Y.wideAt h.kept;obtain⟨f1,S,K,n1,r1⟩:=cC d (x:=x.1) (ow1:=x.2) hF H R hx;obtain⟨U,B⟩:=cM H S K;have V:∀M,FP F f1 M->M<w.heap.size:=by
    intro M hb';rcases hb' with hb'|hb'
    ·exact hF M hb'
    ·exact cm.lt H (K.own hb')
   have hn:st.sl.length=nt:=h.len;have n:dn (FP F f1) G x.2 w.heap (st.sl.take args.len) (a.tmps.toList.take args.len):=by
    refine⟨by simp[I.1],λi A J=> ?_⟩;simp only[a5d];have h3:i<st.sl.length:=by simp at A;omega
    have h4:i<a.tmps.toList.length:=by rw[<-I.1];exact h3
    exact B _ _ (I.2 i h3 h4)
   have o:∀i,i<vs.length->k6 args i=false->(a.tmps.toList.take args.len)[i]?=vs[i]?:=λi hi hf=>by
    rw[<-h.args i hi (by rw[O];exact hf),a4i,a0e (by omega),a5q]
   obtain⟨f2,t2,W,n2,r2⟩:=iX args (x:=z.1) (ow1:=z.2) V U n hz;have D:=tK (fn:=fn) t;refine⟨_,D,us,f1,f2,rfl,?_,?_,?_,?_,h.kept⟩
   ·refine cq.mono (λb r hb t=>⟨λhx=> ?_,t⟩) _ (λ_ _=>rfl) r1
    rcases hx with hx|hx
    ·exact hb.1 (.inl hx)
    ·rcases a0l.1 hx with hx|hx
     ·exact hb.1 (.inr hx)
     ·exact hb.2 (W.own hx)
   ·refine gJ.mono (λb r hb t=>⟨λhx=>hb.1 (mr.2 hx),t⟩) _ (λ_ _=>rfl) (AD args N (by simp[p,<-I.1,hn,Q]) o r2)
   ·exact a2d.2 ⟨n1,n2,λq l q' X he=>by subst he;exact K.notOwn H S l (W.own X)⟩
   ·intro b hb
    rcases a0l.1 hb with hb|hb
    ·exact g b (K.own hb)
    ·exact g b (S.own (W.own hb))
  ·cases l
 ·cases l
def Cd (Z:C.Holds L) (hD:oN C L) {f:FuncId} {fn:Func} (U:C.P.funcs[f]?=some fn) (l:(fn.name== "runtime.NumGoroutine")=false) (e:LA) (args m:Sh) {den:args.T->Option (m.T×args.Out)} (A:∀x y,den x=some y->nJ C e fn args m x=some y) (n:fn.body.isNone=false):aA C.P L f ⟨args,m,den,e.al⟩:=by
 refine⟨⟨fn,U,l,n⟩,λw F x vs V y hF hL I B D h J=> ?_⟩;have h:=A x y h;unfold nJ at h;split at h
 ·cases h
 rename_i c r;split at h
 ·rename_i W
  simp only[a0f,a0u]at W;obtain⟨⟨g,E⟩,hd⟩:=W;have k:vs.length=args.len:=Ii args g D;have K:Gk F V L w:=⟨hF,hL,B⟩;refine calls_of_wp U r ?_
  have d:(vs.toArray++Array.replicate (fn.ntmps-vs.toArray.size) undef).size=fn.ntmps:=by simp;omega
  have a:∀i,i<vs.length->(vs.toArray++Array.replicate (fn.ntmps-vs.toArray.size) undef)[i]?=vs[i]?:=by
   intro i H;rw[a4v (by simpa using H)];simp
  obtain⟨G,g1,g2,g3,_⟩:=tI (nt:=fn.ntmps) (tmps:=(vs.toArray++Array.replicate (fn.ntmps-vs.toArray.size) undef).toList) (by rw[a6b,d]) args g 0 (by omega) (F:=F) D (λj hj=>by rw[a1o,a5q];exact a j hj) I B (λb r=>⟨λM=>r (.inl M),λM=>r (.inr M)⟩)
  have hI:ni fn.ntmps (k6 args) F V w vs (m4 fn.ntmps args x 0) {tmps:=vs.toArray++Array.replicate (fn.ntmps-vs.toArray.size) undef,defers:=[]} w:=⟨⟨G,g2,g1,λb r=> .inl ((g3 b).1 r)⟩,.refl _ _,rfl,λi H _=>a i H,d⟩
  have N:LC w.heap e.al (vs.toArray++Array.replicate (fn.ntmps-vs.toArray.size) undef).toList:=λq s=>by
   obtain⟨v,t,z,o,h3⟩:=J q s;have X:∀(i:Nat) (u:Value),vs[i]?=some u->(vs.toArray++Array.replicate (fn.ntmps-vs.toArray.size) undef).toList[i]?=some u:=λi u Y=>by
    have H:=(a0t.1 Y).1;rw[a5q,a i H,Y]
   exact⟨v,t,X _ _ z,X _ _ o,h3⟩
  refine wp_mono (dJ Z hD K e c hd h (hI.fix N)) λex a' w' s=> ?_
  cases ex with
  |normal=>
   obtain⟨st,z,o⟩:=s;obtain⟨O,v,Q,R,fp1,p,rfl,S⟩:=tL K g rfl k E z o;exact⟨O,_,Q,R,fp1,p,rfl,S⟩
  |ret=>
   obtain⟨st,z,o⟩:=s;obtain⟨O,v,Q,R,fp1,p,rfl,S⟩:=tL K g rfl k E z o;exact⟨O,_,Q,R,fp1,p,rfl,S⟩
  |exit i=>obtain⟨st,z,o⟩:=s;cases o
  |_=>exact s.elim
 ·cases h
end Go.Pev
namespace Go.Pev
def kS {S:Type} (step:Nat->S->Option S):List Nat->S->Option S
 |[],s=>some s
 |i::r,s=>(match step i s with|some s'=>kS step r s'|none=>none)
def pW {S:Type} {step:Nat->S->Option S} {a:Nat->Nat->Bool} (g:∀i j s b d,a i j=true->step i s=some b->step j b=some d->∃c,step j s=some c/\step i c=some d) {x:Nat} {q:List Nat}:(p:List Nat)->(∀i∈p,a i x=true)-> {s r:S}->kS step (p++x::q) s=some r->∃b,step x s=some b/\kS step (p++q) b=some r
 |[],_,s,r,h=>by
  simp only[a2m,kS]at h⊢;split at h
  ·rename_i e f;exact⟨e,f,h⟩
  ·cases h
 |i::p,hp,s,r,h=>by
  simp only[a5k,kS]at h;split at h
  ·rename_i e f
   obtain⟨b,k,l⟩:=pW g p (λj m=>hp j (by simp[m])) h;obtain⟨d,n,o⟩:=g i x s e b (hp i (by simp)) f k;refine⟨d,n,?_⟩;simp only[a5k,kS,o];exact l
  ·cases h
def wB {S:Type} {step a:Nat->S->Option S}: {l:List Nat}->(∀j∈l,∀t,step j t=a j t)-> {s:S}->kS step l s=kS a l s
 |[],_,_=>rfl
 |i::r,h,s=>by
  simp only[kS];rw[h i (by simp)]
  cases a i s with
  |none=>rfl
  |some s'=>exact wB λj b=>h j (by simp[b])
def wC (a:List Nat) (o:Oper) (i:Nat) (h:(nF a o).testBit i=true):∃e∈o.after,Region.binds .any e=true/\(i=e.on\/(a.getD e.on 0).testBit i=true):=by
 have b:∀(l:List Edge) (m:Nat),(l.foldl (λm e=>if Region.binds .any e then m|||(1<<<e.on)|||a.getD e.on 0 else m) m).testBit i=true->m.testBit i=true\/∃e∈l,Region.binds .any e=true/\(i=e.on\/(a.getD e.on 0).testBit i=true):=by
  intro l
  induction l with
  |nil=>intro m h;exact .inl h
  |cons e l ih=>
   intro m h;simp only[a1u]at h;rcases ih _ h with h1|⟨e',he',h2⟩
   ·split at h1
    ·rename_i c
     simp only[Nat.testBit_or,a4e]at h1;rcases h1 with(h1|h1)|h1
     ·exact .inl h1
     ·right
      refine⟨e,by simp,c,.inl ?_⟩;rw[Nat.shiftLeft_eq,a2x,Nat.testBit_two_pow]at h1;exact(a0x h1).symm
     ·exact .inr ⟨e,by simp,c,.inr h1⟩
    ·exact .inl h1
   ·exact .inr ⟨e',by simp[he'],h2⟩
 rcases b o.after.toList 0 h with h1|⟨e,he,h2⟩
 ·simp at h1
 ·exact⟨e,by simpa using he,h2⟩
def n5:(l:List Oper)->(a:List Nat)->(j:Nat)->(j<a.length->(gv l a)[j]?=a[j]?)/\(∀o,l[j]?=some o->∃p,(gv l a)[a.length+j]?=some (nF p o)/\∀i,i<a.length+j->p.getD i 0=(gv l a).getD i 0)
 |[],a,j=>⟨λ_=>rfl,λo h=>by simp at h⟩
 |o::r,a,j=>by
  have ih:=n5 r (a++[nF a o]);have f:gv (o::r) a=gv r (a++[nF a o]):=rfl;rw[f];refine⟨λg=> ?_,λk b=> ?_⟩
  ·rw[(ih j).1 (by simp;omega),a1k g]
  ·cases j with
   |zero=>
    simp only[a1t,a0k]at b;subst b;refine⟨a,?_,λi m=> ?_⟩
    ·rw[(ih _).1 (by simp),a0w (by omega)];simp
    ·have:=(ih i).1 (by simp;omega)
     simp only[List.getD,this];rw[a1k (by omega)]
   |succ j=>
    obtain⟨p,c,d⟩:=(ih j).2 k (by simpa using b);have e:(a++[nF a o]).length+j=a.length+(j+1):=by simp;omega
    rw[e]at c d;exact⟨p,c,d⟩
def n6:(l:List Oper)->(k:Nat)->NW k l=true->∀j o,l[j]?=some o->∀e∈o.after,Region.binds .any e=true->e.on<k+j
 |[],_,_,_,_,h,_,_,_=>by simp at h
 |o::r,k,hu,j,o',h,e,he,hb=>by
  simp only[NW,a0f]at hu
  cases j with
  |zero=>
   simp only[a1t,a0k]at h;subst h;have:=a1e.1 hu.1 e (by simpa using he);simpa [hb]using this
  |succ j=>
   have:=n6 r (k+1) hu.2 j o' (by simpa using h) e he hb;omega
section
variable {P:Program} {ops:Array Oper} {Q:Exit->Act->World->Prop}
def pX {S:Type} {step:Nat->S->Option S} {R:S->Act->World->Prop} {g:Nat->Nat->Bool} (hc:∀i j s H s2,g i j=true->step i s=some H->step j H=some s2->∃I,step j s=some I/\step i I=some s2)
 (Ql:∀i s s' a w,i<ops.size->step i s=some s'->R s a w->∀K:Act->World->Prop,(∀X Y,R s' X Y->K X Y)->wpOp P ops Q i K a w) (J:lK ops g=true) {sF:S} (u:∀a w,R sF a w->Q .normal a w):
 ∀(d:Nat) (b:Array Bool) (s:S) (a:Act) (w:World),b.size=ops.size->((List.range ops.size).filter λi=> !b.getD i true).length<=d->
  (∀j,b.getD j false=true->∀i,((gv ops.toList []).getD j 0).testBit i=true->b.getD i false=true)->
  kS step ((List.range ops.size).filter λi=> !b.getD i true) s=some sF->R s a w->wpAny P .any ops Q d b a w:=by
 simp only[lK,a0f]at J;obtain⟨L,Qm⟩:=J;have A:∀b:Array Bool,b.size=ops.size->Region.ready .any ops b=[]->((List.range ops.size).filter λi=> !b.getD i true)=[]:=by
  intro b q M
  cases hx:((List.range ops.size).filter λi=> !b.getD i true)with
  |nil=>rfl
  |cons i0 rest=>
   exfalso;have v:∀i,i∈((List.range ops.size).filter λi=> !b.getD i true)↔i<ops.size/\b.getD i true=false:=by intro i;simp
   have B:=(v i0).1 (by rw[hx];simp);have N:∀i,i<i0->b.getD i true=true:=by
    intro i Z
    cases hl:b.getD i true with
    |true=>rfl
    |false=>
     exfalso;have Qn:i∈i0::rest:=by rw[<-hx];exact(v i).2 ⟨by omega,hl⟩
     have l:(i0::rest).Pairwise (·<·):=by rw[<-hx];exact List.Pairwise.filter _ a8b
     rcases a1s.1 Qn with h|h
     ·omega
     ·have:=a7k l h;omega
   have O:i0∈Region.ready .any ops b:=by
    rw[mem_ready];refine⟨B.2,ops[i0],by simp[B.1],λe he hb=> ?_⟩;have:=n6 ops.toList 0 L i0 ops[i0] (by simp[B.1]) e he hb;have C:=N e.on (by omega);have t:e.on<b.size:=by omega
    simpa [Array.getD,t]using C
   rw[M]at O
   cases O
 intro d
 induction d with
 |zero=>
  intro b s a w q m D c hR;have x:((List.range ops.size).filter λi=> !b.getD i true)=[]:=a0s (by omega);rw[x]at c
  cases c
  refine⟨?_,u a w hR⟩
  cases M:Region.ready .any ops b with
  |nil=>rfl
  |cons i r=>
   have Z:i∈Region.ready .any ops b:=by rw[M];simp
   obtain⟨h1,o,C,_⟩:=mem_ready.1 Z;have:i∈((List.range ops.size).filter λi=> !b.getD i true):=a4t.2 ⟨a2h.2 (a1b.1 C).1,by rw[h1];rfl⟩;rw[x]at this
   cases this
 |succ d ih=>
  intro b s a w q m D c hR;refine⟨λM=> ?_,λi Z=> ?_⟩
  ·rw[A b q M]at c
   cases c
   exact u a w hR
  ·obtain⟨h1,o,C,h3⟩:=mem_ready.1 Z
   have t:=(a1b.1 C).1;have n:∀j,((gv ops.toList []).getD i 0).testBit j=true->b.getD j false=true:=by
    intro j f;obtain⟨p,y,G⟩:=(n5 ops.toList [] i).2 o (by simpa using C);simp only[a0q,a1o]at y G;have e3:(gv ops.toList []).getD i 0=nF p o:=by simp[List.getD,y]
    rw[e3]at f;obtain⟨e,he,hb,h4⟩:=wC p o j f;have h5:=h3 e he hb;rcases h4 with rfl|h4
    ·exact h5
    ·have:=n6 ops.toList 0 L i o (by simpa using C) e he hb
     rw[G e.on (by omega)]at h4;exact D e.on h5 j h4
   have T:∀j,b.getD j true=false->b.getD j false=true->False:=by
    intro j y G;by_cases f:j<b.size
    ·simp[Array.getD,f]at y G;rw[y]at G;cases G
    ·simp[Array.getD,f]at y
   have k:List.range ops.size=List.range i++i::List.range' (i+1) (ops.size-i-1):=by
    have y:ops.size=i+(ops.size-i):=by omega
    rw[a3x,a3x]
    conv=>lhs;rw[y]
    rw[<-List.range'_append_1]
    congr 1
    rw[show ops.size-i=(ops.size-i-1)+1 by omega,a7v];simp
   have z:∀j,j≠i->(b.setIfInBounds i true).getD j true=b.getD j true:=λj f=>getD_set_ne true (Ne.symm f)
   have E:(b.setIfInBounds i true).getD i true=true:=by
    have:i<b.size:=by omega
    simp[Array.getD,this]
   have hp:∀j∈(List.range i).filter (λj=> !b.getD j true),g j i=true:=by
    intro j f;obtain⟨F,Qo⟩:=a4t.1 f;have F:=a2h.1 F;have:=a1e.1 (a1e.1 Qm i (a2h.2 t)) j (a2h.2 F);rcases a4e _ _▸this with h4|h4
    ·exact(T j (by simpa using Qo) (n j h4)).elim
    ·exact h4
   have Qp:((List.range ops.size).filter λi=> !b.getD i true)=(List.range i).filter (λj=> !b.getD j true)++i::(List.range' (i+1) (ops.size-i-1)).filter (λj=> !b.getD j true):=by
    rw[k,a6h,a5y,h1];rfl
   have U:((List.range ops.size).filter λj=> !(b.setIfInBounds i true).getD j true)=(List.range i).filter (λj=> !b.getD j true)++(List.range' (i+1) (ops.size-i-1)).filter (λj=> !b.getD j true):=by
    rw[k,a6h,a5y,E]
    congr 1
    ·refine a6n λj f=> ?_
     rw[z j (by have:=a2h.1 f;omega)]
    ·refine a6n λj f=> ?_
     rw[z j (by have:=a7p.1 f;omega)]
   rw[Qp]at c m;obtain⟨H,q1,q2⟩:=pW hc _ hp c;refine Ql i s H a w t q1 hR _ λX Y Qq=>ih _ H X Y (by simpa using q) (by rw[U];simp at m⊢;omega) (λj f i' V=> ?_) (by rw[U];exact q2) Qq
   by_cases W:j=i
   ·subst W
    exact getD_set_true (n i' V)
   ·rw[getD_set_ne false (Ne.symm W)]at f
    exact getD_set_true (D j f i' V)
def DN {S O:Type} {step:O->Nat->S->Option S} {R:S->Act->World->Prop} {g:Nat->Nat->Bool} (hc:∀(B:Nat->O) i j s l s2,g i j=true->step (B i) i s=some l->step (B j) j l=some s2->∃u,step (B j) j s=some u/\step (B i) i u=some s2)
 (Qr:∀i s a w,i<ops.size->(∀o,∃s',step o i s=some s')->R s a w->∀K:Act->World->Prop,(∀o s' a' w',step o i s=some s'->R s' a' w'->K a' w')->wpOp P ops Q i K a w) (U:lK ops g=true) {Fin:S->Prop} (y:∀sF a w,Fin sF->R sF a w->Q .normal a w) (o0:O):
 ∀(f:Nat) (b:Array Bool) (s:S) (a:Act) (w:World),b.size=ops.size->((List.range ops.size).filter λi=> !b.getD i true).length<=f->
  (∀j,b.getD j false=true->∀i,((gv ops.toList []).getD j 0).testBit i=true->b.getD i false=true)->
  (∀B:Nat->O,∃sF,kS (λi=>step (B i) i) ((List.range ops.size).filter λi=> !b.getD i true) s=some sF/\Fin sF)->R s a w->wpAny P .any ops Q f b a w:=by
 simp only[lK,a0f]at U;obtain⟨V,Qt⟩:=U;have G:∀b:Array Bool,b.size=ops.size->Region.ready .any ops b=[]->((List.range ops.size).filter λi=> !b.getD i true)=[]:=by
  intro b v W
  cases hx:((List.range ops.size).filter λi=> !b.getD i true)with
  |nil=>rfl
  |cons i0 rest=>
   exfalso;have z:∀i,i∈((List.range ops.size).filter λi=> !b.getD i true)↔i<ops.size/\b.getD i true=false:=by intro i;simp
   have H:=(z i0).1 (by rw[hx];simp);have X:∀i,i<i0->b.getD i true=true:=by
    intro i hi
    cases hl:b.getD i true with
    |true=>rfl
    |false=>
     exfalso;have Qu:i∈i0::rest:=by rw[<-hx];exact(z i).2 ⟨by omega,hl⟩
     have m:(i0::rest).Pairwise (·<·):=by rw[<-hx];exact List.Pairwise.filter _ a8b
     rcases a1s.1 Qu with h|h
     ·omega
     ·have:=a7k m h;omega
   have Y:i0∈Region.ready .any ops b:=by
    rw[mem_ready];refine⟨H.2,ops[i0],by simp[H.1],λe he hb=> ?_⟩;have:=n6 ops.toList 0 V i0 ops[i0] (by simp[H.1]) e he hb;have I:=X e.on (by omega);have x:e.on<b.size:=by omega
    simpa [Array.getD,x]using I
   rw[W]at Y
   cases Y
 intro f
 induction f with
 |zero=>
  intro b s a w v n J c hR;have A:((List.range ops.size).filter λi=> !b.getD i true)=[]:=a0s (by omega);obtain⟨sF,c,Z⟩:=c λ_=>o0
  rw[A]at c
  cases c
  refine⟨?_,y _ a w Z hR⟩
  cases W:Region.ready .any ops b with
  |nil=>rfl
  |cons i r=>
   have hi:i∈Region.ready .any ops b:=by rw[W];simp
   obtain⟨h1,o,I,_⟩:=mem_ready.1 hi;have:i∈((List.range ops.size).filter λi=> !b.getD i true):=a4t.2 ⟨a2h.2 (a1b.1 I).1,by rw[h1];rfl⟩;rw[A]at this
   cases this
 |succ f ih=>
  intro b s a w v n J c hR;refine⟨λW=> ?_,λi hi=> ?_⟩
  ·obtain⟨sF,c,Z⟩:=c λ_=>o0
   rw[G b v W]at c
   cases c
   exact y _ a w Z hR
  ·obtain⟨h1,o,I,h3⟩:=mem_ready.1 hi
   have x:=(a1b.1 I).1;have q:∀j,((gv ops.toList []).getD i 0).testBit j=true->b.getD j false=true:=by
    intro j d;obtain⟨p,C,N⟩:=(n5 ops.toList [] i).2 o (by simpa using I);simp only[a0q,a1o]at C N;have e3:(gv ops.toList []).getD i 0=nF p o:=by simp[List.getD,C]
    rw[e3]at d;obtain⟨e,he,hb,h4⟩:=wC p o j d;have h5:=h3 e he hb;rcases h4 with rfl|h4
    ·exact h5
    ·have:=n6 ops.toList 0 V i o (by simpa using I) e he hb
     rw[N e.on (by omega)]at h4;exact J e.on h5 j h4
   have Ql:∀j,b.getD j true=false->b.getD j false=true->False:=by
    intro j C N;by_cases d:j<b.size
    ·simp[Array.getD,d]at C N;rw[C]at N;cases N
    ·simp[Array.getD,d]at C
   have k:List.range ops.size=List.range i++i::List.range' (i+1) (ops.size-i-1):=by
    have C:ops.size=i+(ops.size-i):=by omega
    rw[a3x,a3x]
    conv=>lhs;rw[C]
    rw[<-List.range'_append_1]
    congr 1
    rw[show ops.size-i=(ops.size-i-1)+1 by omega,a7v];simp
   have D:∀j,j≠i->(b.setIfInBounds i true).getD j true=b.getD j true:=λj d=>getD_set_ne true (Ne.symm d)
   have L:(b.setIfInBounds i true).getD i true=true:=by
    have:i<b.size:=by omega
    simp[Array.getD,this]
   have hp:∀j∈(List.range i).filter (λj=> !b.getD j true),g j i=true:=by
    intro j d;obtain⟨M,Qv⟩:=a4t.1 d;have M:=a2h.1 M;have:=a1e.1 (a1e.1 Qt i (a2h.2 x)) j (a2h.2 M);rcases a4e _ _▸this with h4|h4
    ·exact(Ql j (by simpa using Qv) (q j h4)).elim
    ·exact h4
   have Qw:((List.range ops.size).filter λi=> !b.getD i true)=(List.range i).filter (λj=> !b.getD j true)++i::(List.range' (i+1) (ops.size-i-1)).filter (λj=> !b.getD j true):=by
    rw[k,a6h,a5y,h1];rfl
   have Qm:((List.range ops.size).filter λj=> !(b.setIfInBounds i true).getD j true)=(List.range i).filter (λj=> !b.getD j true)++(List.range' (i+1) (ops.size-i-1)).filter (λj=> !b.getD j true):=by
    rw[k,a6h,a5y,L]
    congr 1
    ·refine a6n λj d=> ?_
     rw[D j (by have:=a2h.1 d;omega)]
    ·refine a6n λj d=> ?_
     rw[D j (by have:=a7p.1 d;omega)]
   rw[Qw]at c n;have Qy:i∉(List.range i).filter (λj=> !b.getD j true)++(List.range' (i+1) (ops.size-i-1)).filter (λj=> !b.getD j true):=by
    intro hm;rcases a0l.1 hm with hm|hm
    ·have:=a2h.1 (a4t.1 hm).1;omega
    ·have:=a7p.1 (a4t.1 hm).1;omega
   have Qn:∀o,∃l,step o i s=some l/\∀B:Nat->O,∃sF,kS (λi=>step (B i) i) ((List.range i).filter (λj=> !b.getD j true)++(List.range' (i+1) (ops.size-i-1)).filter (λj=> !b.getD j true)) l=some sF/\Fin sF:=by
    intro T;have E:∀B:Nat->O,∃l,step T i s=some l/\∃sF,kS (λi=>step (B i) i) ((List.range i).filter (λj=> !b.getD j true)++(List.range' (i+1) (ops.size-i-1)).filter (λj=> !b.getD j true)) l=some sF/\Fin sF:=by
     intro B;obtain⟨sF,hs,Z⟩:=c λj=>if j=i then T else B j
     obtain⟨l,F,q2⟩:=pW (hc _) _ hp hs;simp only[a2c]at F;refine⟨l,F,sF,?_,Z⟩;rw[<-q2];exact wB λj d t=>by
      have:j≠i:=λe=>Qy (e▸d)
      simp only[a0c this]
    obtain⟨l,F,_⟩:=E λ_=>o0
    refine⟨l,F,λB=> ?_⟩;obtain⟨u,Qo,q2⟩:=E B;rw[F]at Qo
    cases Qo
    exact q2
   refine Qr i s a w x (λT=>(Qn T).imp λ_ h=>h.1) hR _ λT l a' w' Qz Q0=>ih _ l a' w' (by simpa using v) (by rw[Qm];simp at n⊢;omega) (λj d i' Qp=> ?_) (λB=>by
    obtain⟨u,F,q2⟩:=Qn T;rw[Qz]at F
    cases F
    rw[Qm];exact q2 B) Q0
   by_cases Qq:j=i
   ·subst Qq
    exact getD_set_true (q i' Qp)
   ·rw[getD_set_ne false (Ne.symm Qq)]at d
    exact getD_set_true (J j d i' Qp)
end
def dW (K:List Nat):(l:OW)->(i n:Nat)->(aL K i l)[n]?=(l[n]?).map λx=>if K.contains (i+n)then x else BU
 |[],_,_=>rfl
 |a::r,i,0=>by simp[aL]
 |a::r,i,n+1=>by
  simp only[aL,a5g];rw[dW K r (i+1) n];have:i+1+n=i+(n+1):=by omega
  rw[this]
def dN (K:List Nat):(l s:OW)->(i n:Nat)->(bQ K i l s)[n]?=(l[n]?).map λx=>if K.contains (i+n)then(s[n]?).getD x else x
 |[],_,_,_=>rfl
 |a::r,s,i,0=>by cases s<;>simp[bQ]
 |a::r,s,i,n+1=>by
  simp only[bQ,a5g];rw[dN K r s.tail (i+1) n];have:i+1+n=i+(n+1):=by omega
  rw[this]
  cases s<;>simp
def Gn {K a:List Nat} (h:∀d,K.contains d=true->a.contains d=false) (l s:OW):aL a 0 (bQ K 0 l s)=aL a 0 l:=by
 apply a2g;intro n;rw[dW,dW,dN]
 cases l[n]? with
 |none=>rfl
 |some x=>
  simp only[a1w,a1o]
  cases hk:K.contains n with
  |true=>rw[h n hk];simp only[a0r,a1y]
  |false=>simp only[a0r,a1y]
def Gp {K a:List Nat} (h:∀d,K.contains d=true->a.contains d=false) (l s b:OW):bQ a 0 (bQ K 0 l s) b=bQ K 0 (bQ a 0 l b) s:=by
 apply a2g;intro n;simp only[dN,a1o]
 cases l[n]? with
 |none=>rfl
 |some x=>
  simp only[a1w,a0k]
  cases hk:K.contains n with
  |true=>rw[h n hk];simp only[a0r,a1y,a2c]
  |false=>simp only[a0r,a1y]
def tM {ow:OW}:cU ow=true↔∀(n:Nat) (l:List (Option OB)),ow[n]?=some l->l.length<=16:=by
 unfold cU;rw[a1e];constructor
 ·intro h n l a
  have:=h l (a3w a);simpa using this
 ·intro h l a
  obtain⟨n,b⟩:=a8g.1 a;simpa using h n l b
def DO {K:List Nat} {l s:OW} (b:cU l=true) (c:cU s=true):cU (bQ K 0 l s)=true:=by
 rw[tM]at b c⊢;intro n x a;rw[dN]at a
 cases h1:l[n]? with
 |none=>rw[h1]at a;cases a
 |some y=>
  rw[h1]at a;simp only[a1w,a0k]at a;subst a;split
  ·cases h2:s[n]? with
   |none=>simpa using b n y h1
   |some z=>simpa using c n z h2
  ·exact b n y h1
def tN (K:List Nat):(l:OW)->(i:Nat)->qt K i l=true->∀n x,l[n]?=some x->(if K.contains (i+n)then x.all (Pc K)else x.all (·.isNone)&& x.length==16)=true
 |[],_,_,_,_,h=>by simp at h
 |a::r,i,hf,0,x,h=>by
  simp only[a1t,a0k]at h;subst h;simp only[qt,a0f]at hf;exact hf.1
 |a::r,i,hf,n+1,x,h=>by
  simp only[qt,a0f]at hf;have:=tN K r (i+1) hf.2 n x (by simpa using h);have e:i+1+n=i+(n+1):=by omega
  rw[e]at this;exact this
def Ce (K:List Nat) (l s:OW):(bQ K 0 l s).length=l.length:=by
 have b:∀(l s:OW) (i:Nat),(bQ K i l s).length=l.length:=by
  intro l
  induction l with
  |nil=>intro s i;rfl
  |cons a r ih=>intro s i;simp[bQ,ih]
 exact b l s 0
def DP (K:List Nat) (l:OW):(aL K 0 l).length=l.length:=by
 have b:∀(l:OW) (i:Nat),(aL K i l).length=l.length:=by
  intro l
  induction l with
  |nil=>intro i;rfl
  |cons a r ih=>intro i;simp[aL,ih]
 exact b l 0
section
variable {F:Nat->Prop} {G G1:Gh} {ow ow1:OW} {w w1:World} {K:List Nat}
def ge {d:Nat} (a:K.contains d=true) (j:Nat):aj (aL K 0 ow) d j=aj ow d j:=by
 unfold aj;rw[dW]
 cases ow[d]? with
 |none=>rfl
 |some l=>simp only[a1w,a1o,a,a2c]
def AE {j:Nat}:BU[j]?=if j<16 then some none else none:=by
 unfold BU;rw[a5h]
def g7 {d:Nat} (a:K.contains d=false) (j:Nat):aj (aL K 0 ow) d j=none\/aj (aL K 0 ow) d j=some none:=by
 unfold aj;rw[dW]
 cases ow[d]? with
 |none=>exact .inl rfl
 |some l=>
  simp only[a1w,a1o,a,a0r,a1y,a0d];rw[AE];split
  ·exact .inr rfl
  ·exact .inl rfl
def rU (b:cU ow=true) {d:Nat} (c:K.contains d=false) {j:Nat} (a:aj ow d j≠none):aj (aL K 0 ow) d j=some none:=by
 unfold aj at a⊢;rw[dW]
 cases hl:ow[d]? with
 |none=>rw[hl]at a;exact absurd rfl a
 |some l=>
  rw[hl]at a;simp only[a0d]at a;have e:j<l.length:=by
   rcases a3y j l.length with h|h
   ·exact h
   ·exact absurd (a1g h) a
  have:=tM.1 b d l hl;simp only[a1w,a1o,c,a0r,a1y,a0d];rw[AE,a0e (by omega)]
def uH (b:ow1.length=ow.length) {d:Nat} (a:K.contains d=true) (j:Nat):aj (bQ K 0 ow ow1) d j=aj ow1 d j:=by
 unfold aj;rw[dN];rcases a3y d ow.length with h|h
 ·simp only[a0a h,a0a (show d<ow1.length by omega),a1w,a1o,a,a2c,a2r]
 ·rw[a1g h,a1g (show ow1.length<=d by omega)];rfl
def rV {d:Nat} (a:K.contains d=false) (j:Nat):aj (bQ K 0 ow ow1) d j=aj ow d j:=by
 unfold aj;rw[dN]
 cases ow[d]? with
 |none=>rfl
 |some l=>simp only[a1w,a1o,a,a0r,a1y]
def Ij (b:cU ow=true) (d j:Nat):EC (aj ow d j) (aj (aL K 0 ow) d j):=by
 cases hd:K.contains d with
 |true=>rw[ge hd];exact .refl _
 |false=>
  by_cases a:aj ow d j=none
  ·rw[a];trivial
  ·rw[rU b hd a];exact .dead
def FM (F:Nat->Prop) (G:Gh) (ow:OW) (K:List Nat) (b:Nat):Prop:=F b\/∃d j i o,K.contains d=false/\bB (aj ow d j)/\G d j i=some (b,o)
def wD {b:Nat} (h:cm G (aL K 0 ow) b):∃d j i o,K.contains d=true/\bB (aj ow d j)/\G d j i=some (b,o):=by
 obtain⟨d,j,i,o,a,c⟩:=aJ.1 h
 cases hd:K.contains d with
 |true=>rw[ge hd]at a;exact⟨d,j,i,o,hd,a,c⟩
 |false=>rcases g7 (ow:=ow) hd j with h|h<;>rw[h]at a<;>exact a.elim
def gg {b:Nat} (h:cm G (aL K 0 ow) b):cm G ow b:=by
 obtain⟨d,j,i,o,_,a,c⟩:=wD h;exact aJ.2 ⟨d,j,i,o,a,c⟩
def OX (a:bz F G ow w.heap) (c:∀b,F b->b<w.heap.size) {b:Nat} (h:FM F G ow K b):b<w.heap.size:=by
 rcases h with h|⟨d,j,i,o,_,h1,h2⟩
 ·exact c b h
 ·exact cm.lt a (aJ.2 ⟨d,j,i,o,h1,h2⟩)
def Ik {b:Nat} (h:cR F G ow b):cR (FM F G ow K) G (aL K 0 ow) b:=by
 refine⟨λa=> ?_,λc=>h.2 (gg c)⟩;rcases a with a|⟨d,j,i,o,_,h1,h2⟩
 ·exact h.1 a
 ·exact h.2 (aJ.2 ⟨d,j,i,o,h1,h2⟩)
def oO (c:cU ow=true) {h:Array Obj} {s:SV} {v:Value} (e:Sv F G ow h s v):Sv (FM F G ow K) G (aL K 0 ow) h s v:=ct.mono (λ_ _ _=>rfl) (Ij c) (λb r d a=>⟨Ik d,a⟩) (λb r a=>⟨r,a,rfl⟩) e
def jX (v:cU ow=true) {h:Array Obj} (e:bz F G ow h):bz (FM F G ow K) G (aL K 0 ow) h:=by
 have c:∀d j,bB (aj (aL K 0 ow) d j)->K.contains d=true/\bB (aj ow d j):=by
  intro d j f
  cases a:K.contains d with
  |true=>rw[ge a]at f;exact⟨rfl,f⟩
  |false=>rcases g7 (ow:=ow) a j with h|h<;>rw[h]at f<;>exact f.elim
 refine⟨λd j o g=> ?_,λd j i d' j' l b o m n p q s=> ?_,λb k t=> ?_⟩
 ·cases a:K.contains d with
  |true=>
   rw[ge a]at g;exact db.mono (λ_ _ _=>rfl) (Ij v) (λb r k u=>⟨Ik k,u⟩) (λb r u=>⟨r,u,rfl⟩) rfl (λ_ _ _ _ _=>rfl) (e.obs d j o g)
  |false=>rcases g7 (ow:=ow) a j with h|h<;>rw[h]at g<;>cases g
 ·exact e.apart d j i d' j' l b o m (c d j n).2 (c d' j' p).2 q s
 ·obtain⟨d,j,i,o,a,n,p⟩:=wD k
  rcases t with t|⟨d',j',l,m,hd',q,s⟩
  ·exact e.notF b (gg k) t
  ·obtain⟨rfl,_⟩:=e.apart d j i d' j' l b o m n q p s
   rw[a]at hd';cases hd'
def GM (K:List Nat) (G a:Gh):Gh:=λd j=>if K.contains d then a d j else G d j
def PI {d:Nat} (a:K.contains d=true) (j:Nat):GM K G G1 d j=G1 d j:=by simp only[GM,a,a2c]
def Ph {d:Nat} (a:K.contains d=false) (j:Nat):GM K G G1 d j=G d j:=by simp only[GM,a,a0r,a1y]
def cV.same {h:Array Obj} {G a:Gh} {ow ow':OW} {d j off:Nat} {len:Option Nat} {v:Value} (c:aj ow' d j=aj ow d j) (e:a d j=G d j) (b:cV h G ow d j off len v):cV h a ow' d j off len v:=by
 unfold cV nL at b⊢;rw[c,e];exact b
def PJ {h:Array Obj} {ok ok':Nat->Prop} {G t:Gh} {ow ow':OW} (n:∀d j,K.contains d=true->aj ow' d j=aj ow d j) (o:∀d j,K.contains d=true->t d j=G d j) (k:∀b r,ok b->ap h b=some r->ok' b/\ap h b=some r) {s:SV} {v:Value} (e:ct h ok G ow s v):∀f,jL K f s=true->ct h ok' t ow' s v:=by
 induction e with
 |v hk hx=>intro f _;exact .v hk (cz.mono k _ hx)
 |lb b=>intro f _;exact .lb b
 |dead v=>intro f _;exact .dead v
 |nils=>intro f _;exact .nils
 |agg hl _ ih=>
  intro f g
  cases f with
  |zero=>cases g
  |succ f=>
   simp only[jL,a1e]at g;exact .agg hl λi l m=>ih i l m f (g _ (a0h _))
 |tup hl _ ih=>
  intro f g
  cases f with
  |zero=>cases g
  |succ f=>
   simp only[jL,a1e]at g;exact .tup hl λi l m=>ih i l m f (g _ (a0h _))
 |fn l m _ _ ih1 ih2=>
  intro f g
  cases f with
  |zero=>cases g
  |succ f=>
   simp only[jL,a0f,a1e]at g;exact .fn l m (λi a b=>ih1 i a b f (g.1 _ (a0h _))) (λi a b=>ih2 i a b f (g.2 _ (a0h _)))
 |wh hv=>
  intro f g
  cases f with
  |zero=>cases g
  |succ f=>exact .wh (hv.same (n _ _ g) (o _ _ g))
 |os hv=>
  intro f g
  cases f with
  |zero=>cases g
  |succ f=>exact .os (hv.same (n _ _ g) (o _ _ g))
 | @bp d j c val hv=>
  intro f g
  cases f with
  |zero=>cases g
  |succ f=>
   refine .bp ?_
   rw[n d j g,o d j g];exact hv
 | @rp d j ver e c val hv=>
  intro f g
  cases f with
  |zero=>cases g
  |succ f=>
   refine .rp ?_
   rw[n d j g,o d j g];exact hv
 |ip hk hb hr hs hx=>
  intro f _;obtain⟨p,q⟩:=k _ _ hb hr;exact .ip hk p q hs (cz.mono k _ hx)
def IX (p:bz F G ow w.heap) (i:cU ow=true) (k:∀b r,ap w.heap b=some r->∃o,ap w1.heap b=some o/\o.size=r.size) {ow2:OW} {l:Gh}
 (g:∀s v,Sv (FM F G ow K) G (aL K 0 ow) w.heap s v->Sv (FM F G ow K) G1 ow1 w1.heap s v)
 (f:∀d j,K.contains d=true->aj ow2 d j=aj ow1 d j/\l d j=G1 d j) (a:∀d j,K.contains d=false->aj ow2 d j=aj ow d j/\l d j=G d j)
 (h:∀b r,cR F G ow b->ap w.heap b=some r->cR F l ow2 b/\ap w1.heap b=some r) {s:SV} {v:Value} (e:Sv F G ow w.heap s v):Sv F l ow2 w1.heap s v:=by
 induction e with
 |v hk hx=>exact .v hk (cz.mono h _ hx)
 |lb b=>exact .lb b
 |dead v=>exact .dead v
 |nils=>exact .nils
 |agg hl _ ih=>exact .agg hl ih
 |tup hl _ ih=>exact .tup hl ih
 |fn h1 h2 _ _ ih1 ih2=>exact .fn h1 h2 ih1 ih2
 | @wh d j ver val hv=>
  cases hd:K.contains d with
  |true=>
   have:=g _ _ (oO i (.wh (ver:=ver) hv))
   cases this with
   |wh hv=>exact .wh (hv.same (f d j hd).1 (f d j hd).2)
  |false=>exact .wh (hv.mono (λ_=>by rw[(a d j hd).2]) (by rw[(a d j hd).1];exact .refl _) k)
 | @os d j ver off len val hv=>
  cases hd:K.contains d with
  |true=>
   have:=g _ _ (oO i (.os (ver:=ver) hv))
   cases this with
   |os hv=>exact .os (hv.same (f d j hd).1 (f d j hd).2)
  |false=>exact .os (hv.mono (λ_=>by rw[(a d j hd).2]) (by rw[(a d j hd).1];exact .refl _) k)
 | @bp d j c val hv=>
  cases hd:K.contains d with
  |true=>
   have:=g _ _ (oO i (.bp (c:=c) hv))
   cases this with
   |bp hv=>
    refine .bp ?_
    rw[(f d j hd).1,(f d j hd).2];exact hv
  |false=>
   refine .bp ?_
   rw[(a d j hd).1,(a d j hd).2];exact hv
 | @rp d j ver e c val hv=>
  cases hd:K.contains d with
  |true=>
   have:=g _ _ (oO i (.rp (ver:=ver) hv))
   cases this with
   |rp hv=>
    refine .rp ?_
    rw[(f d j hd).1,(f d j hd).2];exact hv
  |false=>
   refine .rp ?_
   rw[(a d j hd).1,(a d j hd).2];exact hv
 |ip hk hb hr i hx=>
  obtain⟨m,n⟩:=h _ _ hb hr;exact .ip hk m n i (cz.mono h _ hx)
def db.same {h y:Array Obj} {ok ok':Nat->Prop} {G H:Gh} {ow ow':OW} {d j:Nat} {o:OB} (t:H d j=G d j) (u:bB (some (some o))->∀i b c,G d j i=some (b,c)->y[b]?=h[b]?) (q:∀b r,ok b->ap h b=some r->ok' b/\ap y b=some r) (z:∀s∈H7 o,∀v,ct h ok G ow s v->ct y ok' H ow' s v) (e:db h ok G ow d j o):db y ok' H ow' d j o:=by
 cases o with
 |box m=>
  obtain⟨I,b,o,r,et,a,g,J,w⟩:=e;exact⟨by rw[t];exact I,b,o,r,et,by rw[t,a],by rw[u trivial 0 b o a,g],J,λi A g=>z _ (a0h _) _ (w i A g)⟩
 |row k ver l=>
  obtain⟨I,B,e⟩:=e;refine⟨by rw[t];exact I,B,?_⟩;rw[t]
  cases a:G d j 0 with
  |none=>simpa [a]using e
  |some p=>
   obtain⟨b,o⟩:=p;simp only[a]at e;obtain⟨r,et,g,C⟩:=e;exact⟨r,et,by rw[u trivial 0 b o a,g],C.mono λx cs K=>cz.mono q _ K⟩
 |frow k ver l=>
  obtain⟨B,e⟩:=e;refine⟨B,?_⟩;rw[t]
  cases a:G d j 0 with
  |none=>simpa [a]using e
  |some p=>
   obtain⟨b,o⟩:=p;simp only[a]at e;rcases e with e|⟨u,r,g,C⟩
   ·exact .inl e
   ·obtain⟨f,L⟩:=q b r u g
    exact .inr ⟨f,r,L,C.mono λx cs K=>cz.mono q _ K⟩
 |nrow k l foc=>
  obtain⟨B,fps,O,e⟩:=e;refine⟨B,fps,by rw[t];exact O,?_⟩;rw[t];have D:∀b∈fps.flatten,y[b]?=h[b]?:=λb M=>by
   obtain⟨i,A,rfl⟩:=a2f.1 M;exact u trivial (i+1) _ 0 (by rw[O,a0a A];rfl)
  cases a:G d j 0 with
  |none=>simpa [a]using e
  |some p=>
   obtain⟨b,o⟩:=p;simp only[a]at e;obtain⟨r,et,g,J,P,Q,C,R⟩:=e;exact⟨r,et,by rw[u trivial 0 b o a,g],J,P,λF f=>by rw[D F f];exact Q F f,λi A E N=>cq.mono q k (λF f=>D F (iw E f)) (C i A E N),λS m w=>by
    obtain⟨T,U,V⟩:=R S m w;subst w;exact⟨T,U,λc w g=>z _ (a0h _) _ (V c w g)⟩⟩
 |lrow n=>trivial
def lO (I:bz F G ow w.heap) (Y:∀b,F b->b<w.heap.size) (O:cU ow=true) (q:Tr (FM F G ow K) G (aL K 0 ow) w G1 ow1 w1) (T:Dp K ow1=true):Tr F G ow w (GM K G G1) (bQ K 0 ow ow1) w1/\∀s v f,jL K f s=true->Sv (FM F G ow K) G1 ow1 w1.heap s v->Sv F (GM K G G1) (bQ K 0 ow ow1) w1.heap s v:=by
 have M:ow1.length=ow.length:=by rw[q.len,DP]
 simp only[Dp,a0f]at T;have k:∀d j,K.contains d=true->aj (bQ K 0 ow ow1) d j=aj ow1 d j/\GM K G G1 d j=G1 d j:=λd j g=>⟨uH M g j,PI g j⟩
 have a:∀d j,K.contains d=false->aj (bQ K 0 ow ow1) d j=aj ow d j/\GM K G G1 d j=G d j:=λd j g=>⟨rV g j,Ph g j⟩
 have u:∀b,cm (GM K G G1) (bQ K 0 ow ow1) b->(cm G1 ow1 b)\/(∃d j i o,K.contains d=false/\bB (aj ow d j)/\G d j i=some (b,o)):=by
  intro b t;obtain⟨d,j,i,o,p,n⟩:=aJ.1 t
  cases g:K.contains d with
  |true=>rw[(k d j g).1]at p;rw[(k d j g).2]at n;exact .inl (aJ.2 ⟨d,j,i,o,p,n⟩)
  |false=>rw[(a d j g).1]at p;rw[(a d j g).2]at n;exact .inr ⟨d,j,i,o,g,p,n⟩
 have x:fh (cm G ow) w w1:=⟨q.kept.size,λb t U=>q.kept.heap b t λh=>U (gg h),q.kept.cells,q.kept.os,q.kept.output,q.kept.tape⟩;have B:∀b r,cR F G ow b->ap w.heap b=some r->cR F (GM K G G1) (bQ K 0 ow ow1) b/\ap w1.heap b=some r:=by
  intro b r t A;have R:=cE A;refine⟨⟨t.1,λh=> ?_⟩,?_⟩
  ·rcases u b h with h|⟨d,j,i,o,_,p,n⟩
   ·rcases q.own b h with h|h
    ·exact t.2 (gg h)
    ·omega
   ·exact t.2 (aJ.2 ⟨d,j,i,o,p,n⟩)
  ·unfold ap
   rw[x.heap b R t.2];exact A
 have C:∀b r,cR (FM F G ow K) G1 ow1 b->ap w1.heap b=some r->cR F (GM K G G1) (bQ K 0 ow ow1) b/\ap w1.heap b=some r:=by
  intro b r t A;refine⟨⟨λh=>t.1 (.inl h),λh=> ?_⟩,A⟩;rcases u b h with h|h
  ·exact t.2 h
  ·exact t.1 (.inr h)
 have S:∀b r,ap w.heap b=some r->∃P,ap w1.heap b=some P/\P.size=r.size:=by
  intro b r A;unfold ap at A;split at A
  ·rename_i c et f V
   cases A
   obtain⟨P,p,n⟩:=q.kept.cells b _ _ _ V;exact⟨P,by unfold ap;rw[p],n⟩
  ·cases A
 have N:∀s v,Sv F G ow w.heap s v->Sv F (GM K G G1) (bQ K 0 ow ow1) w1.heap s v:=λs v e=>IX I O S q.sv k a B e
 have D:∀s v f,jL K f s=true->Sv (FM F G ow K) G1 ow1 w1.heap s v->Sv F (GM K G G1) (bQ K 0 ow ow1) w1.heap s v:=λs v f Q e=>
  PJ (λd j g=>(k d j g).1) (λd j g=>(k d j g).2) C e f Q
 have H:∀d j i b o,K.contains d=false->bB (aj ow d j)->G d j i=some (b,o)->w1.heap[b]?=w.heap[b]?:=by
  intro d j i b o g p n;refine q.kept.heap b (cm.lt I (aJ.2 ⟨d,j,i,o,p,n⟩)) λh=> ?_
  obtain⟨d',j',J,L,m,E,z⟩:=wD h;obtain⟨rfl,_⟩:=I.apart d j i d' j' J b o L p E n z;rw[g]at m;cases m
 refine⟨⟨⟨λd j o y=> ?_,λd j i d' j' J b o L p n E z=> ?_,λb t Q=> ?_⟩,N,x,λb t=> ?_,Ce K ow ow1⟩,D⟩
 ·cases g:K.contains d with
  |true=>
   rw[(k d j g).1]at y;refine db.same (k d j g).2 (λ_ _ _ _ _=>rfl) C (λs O v e=>D s v 8 ?_ e) (q.hrep.obs d j o y);unfold aj at y
   cases hl:ow1[d]? with
   |none=>rw[hl]at y;cases y
   |some l=>
    rw[hl]at y;simp only[a0d]at y;have:=tN K ow1 0 T.1 d l hl;simp only[a1o,g,a2c,a1e]at this;have:=this _ (a3w y);simp only[Pc,a1e]at this;exact this s O
  |false=>
   rw[(a d j g).1]at y;exact db.same (a d j g).2 (λW i b c X=>H d j i b c g (by rw[y];exact W) X) B (λs O v e=>N s v e) (I.obs d j o y)
 ·cases g:K.contains d with
  |true=>
   rw[(k d j g).1]at p;rw[(k d j g).2]at E
   cases m:K.contains d' with
   |true=>
    rw[(k d' j' m).1]at n;rw[(k d' j' m).2]at z;exact q.hrep.apart d j i d' j' J b o L p n E z
   |false=>
    rw[(a d' j' m).1]at n;rw[(a d' j' m).2]at z;exact absurd (.inr ⟨d',j',J,L,m,n,z⟩) (q.hrep.notF b (aJ.2 ⟨d,j,i,o,p,E⟩))
  |false=>
   rw[(a d j g).1]at p;rw[(a d j g).2]at E
   cases m:K.contains d' with
   |true=>
    rw[(k d' j' m).1]at n;rw[(k d' j' m).2]at z;exact absurd (.inr ⟨d,j,i,o,g,p,E⟩) (q.hrep.notF b (aJ.2 ⟨d',j',J,L,n,z⟩))
   |false=>
    rw[(a d' j' m).1]at n;rw[(a d' j' m).2]at z;exact I.apart d j i d' j' J b o L p n E z
 ·rcases u b t with h|⟨d,j,i,o,_,p,n⟩
  ·exact q.hrep.notF b h (.inl Q)
  ·exact I.notF b (aJ.2 ⟨d,j,i,o,p,n⟩) Q
 ·rcases u b t with h|⟨d,j,i,o,_,p,n⟩
  ·rcases q.own b h with h|h
   ·exact .inl (gg h)
   ·exact .inr h
  ·exact .inl (aJ.2 ⟨d,j,i,o,p,n⟩)
def Gq (K:List Nat) (ow:OW):bQ K 0 ow (aL K 0 ow)=ow:=by
 apply a2g;intro n;rw[dN,dW]
 cases ow[n]? with
 |none=>rfl
 |some x=>
  simp only[a1w,a1o,a2r]
  cases hk:K.contains n with
  |true=>simp only[a2c]
  |false=>simp only[a0r,a1y]
def N6 (K:List Nat) (G:Gh):GM K G G=G:=by
 funext d j
 unfold GM;split<;>rfl
def n7 (a:bz F G ow w.heap) (c:∀b,F b->b<w.heap.size) (d:cU ow=true) (e:Tr (FM F G ow K) G (aL K 0 ow) w G (aL K 0 ow) w1) (g:Dp K (aL K 0 ow)=true):Tr F G ow w G ow w1/\∀s v f,jL K f s=true->Sv (FM F G ow K) G (aL K 0 ow) w1.heap s v->Sv F G ow w1.heap s v:=by
 have:=lO a c d e g;rw[Gq,N6]at this;exact this
end
def aX.out {β:Type}:aX β->Option β
 | .ret b=>some b
 | .fail=>none
 | .chk c t=>if c then t.out else none
 | .bnd _ m f=>m.bind λy=>(f y).out
 | .amb _ _ _=>none
 | .ite c f g=>if c then f.out else g.out
def aX.outB {β:Type}:aX β->Option (Nat->Bool)->Option β
 | .ret b,_=>some b
 | .fail,_=>none
 | .chk c t,o=>if c then t.outB o else none
 | .bnd _ m f,o=>m.bind λy=>(f y).outB o
 | .amb c f g,o=>(match o with|none=>none|some s=>if c then(if s 0 then f.outB (some λn=>s (n+1))else g.outB (some λn=>s (n+1)))else g.outB (some s))
 | .ite c f g,o=>if c then f.outB o else g.outB o
def aX.outB_none {β:Type}:(c:aX β)->c.outB none=c.out
 | .ret _=>rfl
 | .fail=>rfl
 | .chk c t=>by cases c with|false=>rfl|true=>exact aX.outB_none t
 | .bnd _ m f=>by cases m with|none=>rfl|some y=>exact aX.outB_none (f y)
 | .amb _ _ _=>rfl
 | .ite c f g=>by cases c with|false=>exact aX.outB_none g|true=>exact aX.outB_none f
def aX.outB_bind {β γ:Type} {f:β->aX γ} {r:γ}:(c:aX β)-> {o:Option (Nat->Bool)}->(c.bind f).outB o=some r->∃b,c.outB o=some b/\∃a,(f b).outB a=some r
 | .ret b,o,h=>⟨b,rfl,o,h⟩
 | .fail,_,h=>by cases h
 | .chk c t,_,h=>by
  cases c with
  |false=>cases h
  |true=>exact aX.outB_bind t h
 | .bnd _ m g,_,h=>by
  cases m with
  |none=>cases h
  |some y=>exact aX.outB_bind (g y) h
 | .amb c f1 g1,o,h=>by
  cases o with
  |none=>cases h
  |some s=>
   simp only[aX.bind,aX.outB]at h⊢
   cases c with
   |false=>exact aX.outB_bind g1 h
   |true=>
    simp only[a2c]at h⊢
    cases hs:s 0 with
    |false=>rw[hs]at h;exact aX.outB_bind g1 h
    |true=>rw[hs]at h;exact aX.outB_bind f1 h
 | .ite c f g,_,h=>by
  cases c with
  |false=>exact aX.outB_bind g h
  |true=>exact aX.outB_bind f h
def AF (b:Bool) (o:Nat->Bool):Nat->Bool
 |0=>b
 |n+1=>o n
def aX.outB_amb {β:Type} {f g:aX β} {o:Nat->Bool}:(aX.amb true f g).outB (some (AF true o))=f.outB (some o)/\(aX.amb true f g).outB (some (AF false o))=g.outB (some o):=⟨rfl,rfl⟩
def aX.outB_can {β:Type}:(c:aX β)->(∀o,∃b,c.outB (some o)=some b)->c.can λx=>∃o,c.outB (some o)=some x
 | .ret b,_=>⟨λ_=>true,rfl⟩
 | .fail,h=>by obtain⟨b,h⟩:=h λ_=>true;cases h
 | .chk c t,h=>by
  cases c with
  |false=>obtain⟨b,h⟩:=h λ_=>true;cases h
  |true=>exact⟨rfl,aX.outB_can t h⟩
 | .bnd _ m f,h=>by
  cases m with
  |none=>obtain⟨b,h⟩:=h λ_=>true;cases h
  |some y=>exact⟨y,rfl,aX.outB_can (f y) h⟩
 | .amb c f g,h=>by
  simp only[aX.can]
  cases c with
  |false=>
   simp only[a0r,a1y];exact aX.outB_can g h
  |true=>
   simp only[a2c];have e:=aX.outB_can f λo=>by obtain⟨b,a⟩:=h (AF true o);exact⟨b,a⟩
   have i:=aX.outB_can g λo=>by obtain⟨b,a⟩:=h (AF false o);exact⟨b,a⟩
   exact⟨aX.can_mono (λx ⟨o,d⟩=>⟨AF true o,by rw[aX.outB_amb.1];exact d⟩) f e,aX.can_mono (λx ⟨o,d⟩=>⟨AF false o,by rw[aX.outB_amb.2];exact d⟩) g i⟩
 | .ite c f g,h=>by
  cases c with
  |false=>exact aX.outB_can g h
  |true=>exact aX.outB_can f h
def aX.run_outB {α β:Type} {n:Nat} {k:β->Option α} {r:α}:(c:aX β)->c.run n k=some r->∀o,∃b,c.outB (some o)=some b/\k b=some r
 | .ret b,h,_=>⟨b,rfl,h⟩
 | .fail,h,_=>by cases h
 | .chk c t,h,o=>by
  rw[aX.run,eA]at h
  cases c with
  |false=>cases h
  |true=>exact aX.run_outB t h o
 | .bnd _ m f,h,o=>by
  rw[aX.run,Dm]at h
  cases m with
  |none=>cases h
  |some y=>exact aX.run_outB (f y) h o
 | .amb c f g,h,o=>by
  rw[aX.run,eA]at h;simp only[aX.outB]
  cases c with
  |false=>exact aX.run_outB g h o
  |true=>
   obtain⟨a,d⟩:=vS h;simp only[a2c]
   cases o 0 with
   |false=>exact aX.run_outB g d _
   |true=>exact aX.run_outB f a _
 | .ite c f g,h,o=>by
  rw[aX.run,eA]at h
  cases c with
  |false=>exact aX.run_outB g h o
  |true=>exact aX.run_outB f h o
def aX.runA_out {α β:Type} {n:Nat} {k:β->Option α} {r:α}:(c:aX β)->c.runA n k=some r->∃b,c.out=some b/\k b=some r
 | .ret b,h=>⟨b,rfl,h⟩
 | .fail,h=>by cases h
 | .chk c t,h=>by
  rw[aX.runA,eA]at h
  cases c with
  |false=>cases h
  |true=>exact aX.runA_out t h
 | .bnd _ m f,h=>by
  rw[aX.runA,Dm]at h
  cases m with
  |none=>cases h
  |some y=>exact aX.runA_out (f y) h
 | .amb _ _ _,h=>by cases h
 | .ite c f g,h=>by
  rw[aX.runA,eA]at h
  cases c with
  |false=>exact aX.runA_out g h
  |true=>exact aX.runA_out f h
def aX.out_can {β:Type} {b:β}:(c:aX β)->c.out=some b->c.can λx=>x=b
 | .ret _,h=>a1h h
 | .fail,h=>by cases h
 | .chk c t,h=>by
  cases c with
  |false=>cases h
  |true=>exact⟨rfl,aX.out_can t h⟩
 | .bnd _ m f,h=>by
  cases m with
  |none=>cases h
  |some y=>exact⟨y,rfl,aX.out_can (f y) h⟩
 | .amb _ _ _,h=>by cases h
 | .ite c f g,h=>by
  cases c with
  |false=>exact aX.out_can g h
  |true=>exact aX.out_can f h
def dE (src:Bool) (s:SV):SV:=if src then(match s with| .v .bool b=> .lb b|s=>s)else s
def qM {α:Type} {n:Nat} {src:Bool} {s:SV} {k:SV->Option α}:split n src s k=k (dE src s):=by
 unfold split dE
 cases src with
 |false=>rfl
 |true=>
  simp only[a2c];split
  ·rename_i b;rw[eA];cases b<;>rfl
  ·rename_i h
   split
   ·rename_i b;exact absurd rfl (h b)
   ·rfl
def wE {P:Program} {o:Op} {ρ e:Operand->SV} {ow:OW} (h:∀x∈o.operands,ρ x=e x):pi P o ρ ow=pi P o e ow:=by
 cases o with
 |call c=>
  have i:∀x∈c.args,ρ x=e x:=λx d=>h x (by simp[Op.operands,Call.operands,d])
  have g:c.args.toList.map ρ=c.args.toList.map e:=a3c λx d=>i x (by simpa using d)
  simp only[pi,g];split
  ·split
   ·rename_i x t ts d m
    rw[i x (by rw[<-a5c,d];simp)]
   ·rfl
  ·rfl
  ·rfl
  ·rfl
 |build t ps=>
  have:(ps.toList.map λx=>(x.1,ρ x.2))=ps.toList.map λx=>(x.1,e x.2):=a3c λp j=>by
   rw[h p.2 (by simp only[Op.operands,a7x,a4o];exact⟨p,j,rfl⟩)]
  simp only[pi,this]
 |makeFunc f a b=>
  have k:a.toList.map ρ=a.toList.map e:=a3c λx d=>h x (by simp only[Op.operands,a5l];exact .inl (by simpa using d))
  have l:b.toList.map ρ=b.toList.map e:=a3c λx d=>h x (by simp only[Op.operands,a5l];exact .inr (by simpa using d))
  simp only[pi,k,l]
 |slice t x lo hi mx=>
  cases lo<;>cases hi<;>cases mx<;>simp_all[pi,Op.operands]
 |typeAssert x a b c=>cases c<;>simp_all[pi,Op.operands]
 |_=>first|rfl|(simp_all[pi,Op.operands];done)
def AG {C:eB} {o:Op} {ρ a:Operand->SV} {ow:OW} (h:∀x∈o.operands,ρ x=a x):Aq C o ρ ow=Aq C o a ow:=by
 unfold Aq;split
 ·rename_i f args b
  have c:ρ f=a f:=h f (by simp[Op.operands,Call.operands]);have d:args.toList.map ρ=args.toList.map a:=a3c λx e=>h x (by simp only[Op.operands,Call.operands,a5l];exact .inr (by simpa using e))
  rw[c,d]
 ·exact wE h
def qN (C:eB) (a:Array Oper) (ow:OW) (o:Oper) (i:Nat) (b:List SV):Option SV:=
 match dG a o b with
 |none=>none
 |some false=>some (.tup [])
 |some true=>(Aq C o.op (iS b) ow).out.map (dE (d9 a i))
def kp (C:eB) (a:Array Oper) (ow:OW) (i:Nat) (b:List SV):Option (List SV):=
 match a[i]? with
 |some o=>(qN C a ow o i b).map (bn b o.dst)
 |none=>none
def wF {C:eB} {a:Array Oper} {ow:OW} {o:Oper} {i:Nat} {c b:List SV} (h:∀d∈kf a o,c[d]?=b[d]?):qN C a ow o i c=qN C a ow o i b:=by
 have k:dG a o c=dG a o b:=by
  unfold dG
  cases hg:o.guard with
  |none=>rfl
  |some g=>
   obtain⟨j,e⟩:=g;simp only
   cases hd:(a[j]?).bind (·.dst)with
   |none=>rfl
   |some d=>
    simp only;rw[h d (by simp[kf,hg,hd])]
 have l:Aq C o.op (iS c) ow=Aq C o.op (iS b) ow:=AG λx m=>by
  cases x with
  |tmp t=>
   have:=h t (by
    simp only[kf,a0l];exact .inl (List.mem_filterMap.2 ⟨.tmp t,by simpa using m,rfl⟩))
   simp only[iS,this]
  |const v=>rfl
  |global g=>rfl
  |func f=>rfl
 unfold qN;rw[k,l]
def lP {a:List SV} {d:Option Tmp} {s:SV} {x:Nat} (h:d≠some x):(bn a d s)[x]?=a[x]?:=by
 cases d with
 |none=>rfl
 |some d=>exact a2y (λe=>h (by rw[e]))
def wG {a:List SV} {d d':Option Tmp} {s b:SV} (h:∀x,d=some x->d'≠some x):bn (bn a d s) d' b=bn (bn a d' b) d s:=by
 cases d with
 |none=>rfl
 |some d=>
  cases d' with
  |none=>rfl
  |some d'=>exact List.set_comm _ _ (λe=>h d rfl (by rw[e]))
def wH {C:eB} {a:Array Oper} {ow:OW} (i j:Nat) (s k l:List SV) (c:iu a i j=true) (f:kp C a ow i s=some k) (g:kp C a ow j k=some l):∃h,kp C a ow j s=some h/\kp C a ow i h=some l:=by
 unfold iu at c;unfold kp at f g⊢
 cases hi:a[i]? with
 |none=>rw[hi]at f;cases f
 |some x=>
  cases hj:a[j]? with
  |none=>rw[hj]at g;cases g
  |some y=>
   rw[hi]at f c;rw[hj]at g c;simp only at f g c⊢;unfold F0 at c;simp only[a0f]at c;obtain⟨a1,m⟩:=c;have n:∀d,x.dst=some d->d∉kf a y/\y.dst≠some d:=by
    intro d b;rw[b]at a1;simpa using a1
   have p:∀d,y.dst=some d->d∉kf a x:=by
    intro d b;rw[b]at m;simpa using m
   rw[a2k]at f g;obtain⟨v,q,rfl⟩:=f;obtain⟨u,o,rfl⟩:=g;have c1:qN C a ow y j (bn s x.dst v)=qN C a ow y j s:=wF λd b=>lP λe=>(n d e).1 b
   rw[c1]at o;have c2:qN C a ow x i (bn s y.dst u)=qN C a ow x i s:=wF λd b=>lP λe=>p d e b
   refine⟨bn s y.dst u,by rw[o];rfl,?_⟩;rw[c2,q];simp only[a1w];rw[wG λd b=>(n d b).2]
def rW {α:Type} {C:eB} {b:Array Oper} {ow:OW} {k:List SV->Option α} {r:α}:(l:List (Oper×Nat))->(∀p∈l,b[p.2]?=some p.1)-> {c:List SV}->vQ C b ow l c k=some r->∃a,kS (kp C b ow) (l.map (·.2)) c=some a/\k a=some r
 |[],_,c,h=>⟨c,rfl,h⟩
 |(o,i)::l,hl,c,h=>by
  have f:=hl (o,i) (by simp);simp only at f;have d:∀p∈l,b[p.2]?=some p.1:=λp m=>hl p (by simp[m])
  unfold vQ at h;simp only[a2i,kS];split at h
  ·cases h
  ·rename_i g
   obtain⟨a,j,e⟩:=rW l d h;refine⟨a,?_,e⟩;simp only[kp,f,qN,g,a1w];exact j
  ·rename_i g
   obtain⟨s,j,e⟩:=aX.runA_out _ h;rw[qM]at e;obtain⟨a,n,q⟩:=rW l d e;refine⟨a,?_,q⟩;simp only[kp,f,qN,g,j,a1w];exact n
def Gr {C:eB} {L:List (Nat×Obj)} (hC:C.Holds L) (hm:C.P.follows .mixedOrders=true):wz C L:=by
 intro α nt fr F fp w0 vs id b st a w k r S Y h T he Q hQ;obtain⟨hl,hr⟩:=hZ b Y;obtain⟨B,Z,h2⟩:=rW _ (λp hp=>(hl p hp).1) he;rw[hr]at Z;have hD:∀(i:Nat) (o:Oper),b[i]?=some o->∀d,o.dst=some d->fr d=true/\∃o∈b.toList,o.dst=some d:=by
  intro i o x d y;have g:o∈b.toList:=by
   obtain⟨q,rfl⟩:=a1b.1 x;simp
  refine⟨?_,o,g,y⟩;have:=a1e.1 Y o g;rw[y]at this;simpa using this
 let R:List SV->Act->World->Prop:=λJ a w=>ni nt fr F fp w0 vs ⟨J,st.ow⟩ a w/\∀d,¬(∃o∈b.toList,o.dst=some d)->J[d]?=st.sl[d]?
 refine wp_region_any hm (pX (step:=kp C b st.ow) (R:=R) (λi j s s1 s2=>wH i j s s1 s2) ?_ T (sF:=B) (λa' c M=>hQ B a' c h2 M.1 M.2) b.size _ st.sl a _ (by simp) ?_ ?_ ?_ ?_)
 ·intro i J Ql a w hi l M K hK
  obtain⟨D,U⟩:=M;unfold kp at l
  cases x:b[i]? with
  |none=>rw[x]at l;cases l
  |some o=>
   rw[x]at l;simp only[a2k]at l;obtain⟨v,A,rfl⟩:=l;have t:=hD i o x;have m:∀d,¬(∃o∈b.toList,o.dst=some d)->(bn J o.dst v)[d]?=st.sl[d]?:=λd hn=>by
    rw[lP λe=>hn (t d e).2];exact U d hn
   obtain⟨G,N,g2,g3⟩:=D.ex;unfold wpOp;rw[x];simp only;unfold qN at A;split at A
   ·cases A
   ·rename_i V
    cases A
    rw[cG N V];exact hK _ _ ⟨D.slot (λ_=>ko) (λd y=>(t d y).1),m⟩
   ·rename_i V
    rw[cG N V];simp only[a2c];left;rw[a2k]at A;obtain⟨s,l,rfl⟩:=A;have W:=fR hC (op:=o) rfl g2 (S.wideAt D.kept) (S.laidAt D.kept g3) (eD N) (aX.out_can _ l);refine uG.wp ?_
    have conv:∀u c,(∃O,O=s/\Tr F G st.ow w G st.ow c/\Sv F G st.ow c.heap O u)->K (a.put o.dst u) c:=by
     rintro u c ⟨O,rfl,ht,X⟩
     obtain⟨s2,e2,E⟩:=ld (n:=C.fuel) (src:=d9 b i) X (k:=λz=>some z) (r:=dE (d9 b i) O) (by rw[qM])
     cases e2
     exact hK _ _ ⟨D.op S N g3 ht E (λd y=>(t d y).1),m⟩
    rcases W with⟨u,c,H,I⟩|⟨c,H,I⟩|⟨f,args,H,I⟩
    ·exact .inl ⟨u,c,H,conv u c I⟩
    ·exact .inr (.inl ⟨c,H,conv undef c I⟩)
    ·exact .inr (.inr ⟨f,args,H,I.mono λe c ⟨u,q3,q4⟩=>⟨u,q3,conv u c q4⟩⟩)
 ·refine a5p (a5r _ _) (by simp)
 ·intro j hj
  exfalso;by_cases q:j<b.size
  ·simp[Array.getD,q]at hj
  ·simp[Array.getD,q]at hj
 ·have:((List.range b.size).filter λi=> !(Array.replicate b.size false).getD i true)=List.range b.size:=by
   rw[a6c];intro i hi;have:=a2h.1 hi;simp[Array.getD,this]
  rw[this];exact Z
 ·exact⟨⟨h.ex,⟨h.kept.size,h.kept.heap,h.kept.cells,h.kept.os,h.kept.output,h.kept.tape⟩,h.defers,h.args,h.size⟩,λ_ _=>rfl⟩
def aX.out_bind {β γ:Type} {f:β->aX γ} {r:γ}:(c:aX β)->(c.bind f).out=some r->∃b,c.out=some b/\(f b).out=some r
 | .ret b,h=>⟨b,rfl,h⟩
 | .fail,h=>by cases h
 | .chk c t,h=>by
  cases c with
  |false=>cases h
  |true=>exact aX.out_bind t h
 | .bnd _ m g,h=>by
  cases m with
  |none=>cases h
  |some y=>exact aX.out_bind (g y) h
 | .amb _ _ _,h=>by cases h
 | .ite c f g,h=>by
  cases c with
  |false=>exact aX.out_bind g h
  |true=>exact aX.out_bind f h
def cA {F:Nat->Prop} {G:Gh} {ow:OW} {w:World} {src:Bool} {s:SV} {v:Value} (b:Sv F G ow w.heap s v):Sv F G ow w.heap (dE src s) v:=by
 obtain⟨d,c,a⟩:=ld (n:=0) (src:=src) b (k:=λz=>some z) (r:=dE src s) (by rw[qM])
 cases c
 exact a
end Go.Pev
section
namespace Go.Pev
def N7 (C:eB) (E:Oper->(Operand->SV)->OW->aX (SV×OW)) (dk:Oper->Nat) (b:Option (Nat->Bool)) (a:Array Oper) (q:List Nat×Bool) (o:Oper) (i:Nat) (c:List SV) (ow:OW):Option (SV×Option (List Nat×OW)):=
 match dG a o c with
 |none=>none
 |some false=>some (.tup [],none)
 |some true=>if cU ow then((pL C (E o (iS c) (aL q.1 0 ow)) o.op q (iS c) (aL q.1 0 ow) (dk o)).outB b).map λx=>(dE (d9 a i) x.1,x.2)else none
def iC (C:eB) (E:Oper->(Operand->SV)->OW->aX (SV×OW)) (dk:Oper->Nat) (B:Nat->Option (Nat->Bool)) (a:Array Oper) (ks:List (List Nat×Bool)) (i:Nat) (st:St):Option St:=
 match a[i]? with
 |some o=>
  (match dG a o st.sl with
  |some false=>some ⟨bn st.sl o.dst (.tup []),st.ow⟩
  |_=>
   (match ks[i]? with
   |some q=>(N7 C E dk (B i) a q o i st.sl st.ow).map λx=>⟨bn st.sl o.dst x.1,mf st.ow x.2⟩
   |none=>none))
 |none=>none
def fq {a:Array Oper} {o:Oper} {c b:List SV} (h:∀d∈kf a o,c[d]?=b[d]?):dG a o c=dG a o b:=by
 unfold dG
 cases hg:o.guard with
 |none=>rfl
 |some g=>
  obtain⟨j,e⟩:=g;simp only
  cases hd:(a[j]?).bind (·.dst)with
  |none=>rfl
  |some d=>
   simp only;rw[h d (by simp[kf,hg,hd])]
def er {b:Array Oper} {o:Oper} {c a:List SV} (h:∀d∈kf b o,c[d]?=a[d]?):∀x∈o.op.operands,iS c x=iS a x:=λx e=>by
 cases x with
 |tmp t=>
  have:=h t (by
   simp only[kf,a0l];exact .inl (List.mem_filterMap.2 ⟨.tmp t,by simpa using e,rfl⟩))
  simp only[iS,this]
 |const v=>rfl
 |global g=>rfl
 |func f=>rfl
def gh {C:eB} {o:Op} {ρ a:Operand->SV} {ow:OW} {d:Nat} (h:∀x∈o.operands,ρ x=a x):m0 C o ρ ow d=m0 C o a ow d:=by
 unfold m0;split
 ·rfl
 ·rw[h _ (by simp[Op.operands])]
 ·rename_i t n ps
  have:(ps.toList.map λx=>(x.1,ρ x.2))=ps.toList.map λx=>(x.1,a x.2):=a3c λp j=>by
   rw[h p.2 (by simp only[Op.operands,a7x,a4o];exact⟨p,j,rfl⟩)]
  simp only[this]
 ·rw[h _ (by simp[Op.operands]),h _ (by simp[Op.operands])]
 ·rw[h _ (by simp[Op.operands]),h _ (by simp[Op.operands])]
 ·rename_i args c
  have g:∀x∈args,ρ x=a x:=λx e=>h x (by simp[Op.operands,Call.operands,e])
  split
  ·rename_i s x t tx b i
   rw[g s (by rw[<-a5c,b];simp),g x (by rw[<-a5c,b];simp)]
  ·rfl
 ·rename_i f args c
  have b:ρ f=a f:=h f (by simp[Op.operands,Call.operands]);have i:args.toList.map ρ=args.toList.map a:=a3c λx e=>h x (by simp only[Op.operands,Call.operands,a5l];exact .inr (by simpa using e))
  rw[b,i]
 ·rw[wE h]
def pY {C:eB} {o:Op} {ρ a:Operand->SV} {ow:OW} {d:Nat} (h:∀x∈o.operands,ρ x=a x):zg C o ρ ow d=zg C o a ow d:=by
 unfold zg;split
 ·rw[h _ (by simp[Op.operands]),gh h]
 ·rw[h _ (by simp[Op.operands]),h _ (by simp[Op.operands]),gh h]
 ·rename_i t n ps
  have:(ps.toList.map λx=>(x.1,ρ x.2))=ps.toList.map λx=>(x.1,a x.2):=a3c λp e=>by
   rw[h p.2 (by simp only[Op.operands,a7x,a4o];exact⟨p,e,rfl⟩)]
  rw[this,gh h]
 ·rw[h _ (by simp[Op.operands]),h _ (by simp[Op.operands]),gh h]
 ·rename_i f
  have b:∀x∈f.args,ρ x=a x:=λx g=>h x (by simp[Op.operands,Call.operands,g])
  split
  ·rename_i s x t tx i c j
   rw[b s (by rw[<-a5c,c];simp),b x (by rw[<-a5c,c];simp),gh h]
  ·exact gh h
 ·exact gh h
def DQ {C:eB} {o:Op} {ρ a:Operand->SV} {ow:OW} {d:Nat} (h:∀x∈o.operands,ρ x=a x):ta C o ρ ow d=ta C o a ow d:=by
 unfold ta;split
 ·rename_i f args b
  have c:ρ f=a f:=h f (by simp[Op.operands,Call.operands]);have e:args.toList.map ρ=args.toList.map a:=a3c λx g=>h x (by simp only[Op.operands,Call.operands,a5l];exact .inr (by simpa using g))
  rw[c,e,pY h]
 ·exact pY h
def gS {P:Program} {o:Op} {ρ a:Operand->SV} {ow:OW} (h:∀x∈o.operands,ρ x=a x):fX P o ρ ow=fX P o a ow:=by
 unfold fX;split
 ·rw[h _ (by simp[Op.operands])]
 ·rw[h _ (by simp[Op.operands])]
 ·rw[h _ (by simp[Op.operands])]
 ·rfl
def rX {ow:OW} {d j:Nat} (h:iR ow d j=true):∃a,co ow d j=some (.box a):=by
 unfold iR at h;split at h
 ·rename_i a b;exact⟨a,b⟩
 ·cases h
def ic {C:eB} {o:Op} {ρ:Operand->SV} {ow ow':OW} (m:∀d j n,co ow d j=some n->co ow' d j=some n) {s:SV} (h:fX C.P o ρ ow=some s):(Aq C o ρ ow').can λx=>x=s:=by
 have e:∀d j,iR ow d j=true->iR ow' d j=true:=by
  intro d j g;obtain⟨b,k⟩:=rX g;simp[iR,m d j _ k]
 unfold fX at h;split at h
 ·rename_i t a
  split at h
  ·rename_i d j c i
   split at h
   ·rename_i b k
    simp only[Aq,pi,i,rG,m d j _ k,h];exact rfl
   ·cases h
  ·cases h
 ·rename_i t a f
  split at h
  ·rename_i d j c q i l
   split at h
   ·cases h
   ·rename_i p
    split at h
    ·rename_i g
     cases h
     simp only[Aq,pi,i,kZ,l,a0c p,e d j g,a2c];exact rfl
    ·cases h
  ·cases h
 ·rename_i a
  split at h
  ·rename_i d j c i
   split at h
   ·rename_i g
    cases h
    simp only[Aq,pi,i,md,e d j g,a2c];exact rfl
   ·cases h
  ·cases h
 ·cases h
def AH {C:eB} {o:Op} {ρ:Operand->SV} {ow:OW} {x:SV} (h:As o ρ=some x):(Aq C o ρ ow).can λs=>s=x:=by
 unfold As at h;split at h
 ·cases h;exact rfl
 ·cases h;exact rfl
 ·rename_i t i
  split at h
  ·rename_i l a
   simp only[Aq,pi,a,h];exact rfl
  ·cases h
 ·cases h
def rY:(l:List (Option OB))-> {j:Nat}-> {x:OB}->(nG l)[j]?=some (some x)->l[j]?=some (some x)
 |[],_,_,h=>by cases h
 |o::r,j,x,h=>by
  unfold nG at h;split at h
  ·simp at h
  ·cases j with
   |zero=>simpa using h
   |succ j=>exact rY r (by simpa using h)
def DR {ow:OW} {d j:Nat} {a:List SV} (h:co (zh ow) d j=some (.box a)):∃b,co ow d j=some (.box b)/\a=b.map P4:=by
 unfold co zh at h;unfold co;simp only[a5u]at h
 cases h1:ow[d]? with
 |none=>rw[h1]at h;cases h
 |some l=>
  rw[h1]at h;simp only[a1w]at h⊢;have e:(nG (l.map PG))[j]?=some (some (.box a)):=by
   split at h
   ·rename_i o f;rw[f,h]
   ·cases h
  have c:=rY _ e;rw[a5u]at c
  cases h2:l[j]? with
  |none=>rw[h2]at c;cases c
  |some o=>
   rw[h2]at c;simp only[a1w,a0k]at c⊢;unfold PG at c;split at c
   ·rename_i b
    cases c
    exact⟨b,rfl,rfl⟩
   ·cases c
def DS {ow:OW} {d j:Nat} (h:iR (zh ow) d j=true):iR ow d j=true:=by
 obtain⟨a,b⟩:=rX h;obtain⟨c,b,_⟩:=DR b;simp[iR,b]
def wI {C:eB} {o:Op} {ρ:Operand->SV} {ow:OW} {s:SV} (h:fX C.P o ρ (zh ow)=some s) (l:LW s=true):fX C.P o ρ ow=some s:=by
 unfold fX at h⊢;split at h
 ·rename_i t a
  split at h
  ·rename_i d j c m
   split at h
   ·rename_i e n
    obtain⟨b,g,rfl⟩:=DR n;rw[g];simp only;unfold dD at h⊢;split at h
    ·cases h
    ·split at h
     ·split at h
      ·cases h;cases l
      ·cases h
     ·rename_i i
      rw[a0c i];rw[<-List.map_drop]at h
      cases hd:b.drop c with
      |nil=>rw[hd]at h;cases h
      |cons x r=>
       rw[hd]at h;simp only[a2i,a0k]at h;subst h
       cases x<;>first|rfl|(simp[P4,LW]at l)
   ·cases h
  ·cases h
 ·rename_i t a f
  split at h
  ·rename_i d j c u m p
   split at h
   ·cases h
   ·rename_i q
    rw[a0c q];split at h
    ·rename_i k
     rw[a0e (DS k)];exact h
    ·cases h
  ·cases h
 ·rename_i a
  split at h
  ·rename_i d j c m
   split at h
   ·rename_i k
    rw[a0e (DS k)];exact h
   ·cases h
  ·cases h
 ·cases h
def AI {ow:OW} {d j:Nat} {a:List SV} (h:co (nH ow) d j=some (.box a)):(∃c,co ow d j=some (.box c))/\a=[]:=by
 unfold co nH at h;unfold co;simp only[a5u]at h
 cases h1:ow[d]? with
 |none=>rw[h1]at h;cases h
 |some l=>
  rw[h1]at h;simp only[a1w]at h⊢;have e:(nG (l.map LV))[j]?=some (some (.box a)):=by
   split at h
   ·rename_i o f;rw[f,h]
   ·cases h
  have b:=rY _ e;rw[a5u]at b
  cases h2:l[j]? with
  |none=>rw[h2]at b;cases b
  |some o=>
   rw[h2]at b;simp only[a1w,a0k]at b⊢;unfold LV at b;split at b
   ·cases b
    exact⟨⟨_,rfl⟩,rfl⟩
   ·cases b
def AJ {ow:OW} {d j:Nat} (h:iR (nH ow) d j=true):iR ow d j=true:=by
 obtain⟨a,b⟩:=rX h;obtain⟨⟨c,b⟩,_⟩:=AI b;simp[iR,b]
def tO {C:eB} {o:Op} {ρ:Operand->SV} {ow:OW} {s:SV} (h:fX C.P o ρ (nH ow)=some s):fX C.P o ρ ow=some s:=by
 unfold fX at h⊢;split at h
 ·rename_i t a
  split at h
  ·rename_i d j c g
   split at h
   ·rename_i b i
    obtain⟨_,rfl⟩:=AI i;unfold dD at h;split at h
    ·cases h
    ·split at h
     ·split at h
      ·rename_i k;simp at k;omega
      ·cases h
     ·simp at h
   ·cases h
  ·cases h
 ·rename_i t a f
  split at h
  ·rename_i d j c n g l
   split at h
   ·cases h
   ·rename_i m
    rw[a0c m];split at h
    ·rename_i e
     rw[a0e (AJ e)];exact h
    ·cases h
  ·cases h
 ·rename_i a
  split at h
  ·rename_i d j c g
   split at h
   ·rename_i e
    rw[a0e (AJ e)];exact h
   ·cases h
  ·cases h
 ·cases h
def iY {K:List Nat} {ow:OW} {d j:Nat} {b:OB} (h:co (aL K 0 ow) d j=some b):co ow d j=some b:=by
 have a:=aH h
 cases hd:K.contains d with
 |true=>rw[ge hd]at a;rw[lM,a];rfl
 |false=>rcases g7 (ow:=ow) hd j with e|e<;>rw[e]at a<;>cases a
def DT {C:eB} {o:Op} {ρ a:Operand->SV} (h:∀x∈o.operands,ρ x=a x):At C o ρ=At C o a:=by
 unfold At;split
 ·rename_i f args b
  rw[h f (by simp[Op.operands,Call.operands])]
 ·rfl
def DU {C:eB} {o:Op} {ρ a:Operand->SV} {ow:OW} {d:Nat} (h:∀x∈o.operands,ρ x=a x):s9 C o ρ ow d=s9 C o a ow d:=by
 unfold s9;split
 ·rename_i f args b
  have c:ρ f=a f:=h f (by simp[Op.operands,Call.operands]);have e:args.toList.map ρ=args.toList.map a:=a3c λx g=>h x (by simp only[Op.operands,Call.operands,a5l];exact .inr (by simpa using g))
  rw[c,e]
 ·rfl
def DV {o:Op} {ρ a:Operand->SV} (h:∀x∈o.operands,ρ x=a x):As o ρ=As o a:=by
 unfold As;split
 ·rw[h _ (by simp[Op.operands])]
 ·rw[h _ (by simp[Op.operands])]
 ·rw[h _ (by simp[Op.operands])]
 ·rfl
def IY: {a b:SV}->PY a b=true->a=b
 | .wh _ _ _ _,.wh _ _ _ _,h=>by simp only[PY,a0f,a2w]at h;obtain⟨⟨⟨rfl,rfl⟩,rfl⟩,rfl⟩:=h;rfl
 | .bp _ _ _,.bp _ _ _,h=>by simp only[PY,a0f,a2w]at h;obtain⟨⟨rfl,rfl⟩,rfl⟩:=h;rfl
 | .dead,.dead,_=>rfl
def AK: {a b:List SV}->PZ a b=true->a=b
 |[],[],_=>rfl
 |_::_,_::_,h=>by simp only[PZ,a0f]at h;rw[IY h.1,AK h.2]
def IZ: {a b:Option OB}->Qg a b=true->a=b
 |some (.box _),some (.box _),h=>by rw[AK h]
 |none,none,_=>rfl
def wJ: {a b:List (Option OB)}->NX a b=true->a=b
 |[],[],_=>rfl
 |_::_,_::_,h=>by simp only[NX,a0f]at h;rw[IZ h.1,wJ h.2]
def DW {C:eB} {c b:aX (SV×OW)} {o:Op} {q:List Nat×Bool} {ρ a:Operand->SV} {ow ow':OW} {d:Nat} (e:pK q=true) (f:q.2=false) (g:zh ow=zh ow') (h:∀x∈o.operands,ρ x=a x):pL C c o q ρ ow d=pL C b o q a ow' d:=by
 unfold pL;rw[f,e,g,gS h];rfl
def AL {C:eB} {c e:aX (SV×OW)} {o:Op} {q:List Nat×Bool} {ρ b:Operand->SV} {ow ow':OW} {d:Nat} (a:pK q=false) (f:vi q=true) (g:q.2=false) (i:nH ow=nH ow') (h:∀x∈o.operands,ρ x=b x):pL C c o q ρ ow d=pL C e o q b ow' d:=by
 unfold pL;rw[g,a,f,i,gS h (ow:=nH ow')];rfl
def oP {C:eB} {c a:aX (SV×OW)} {o:Op} {q:List Nat×Bool} {ρ b:Operand->SV} {ow:OW} {d:Nat} (e:c=a) (h:∀x∈o.operands,ρ x=b x):pL C c o q ρ ow d=pL C a o q b ow d:=by
 unfold pL;rw[e,AG h,gS h (ow:=ow),gS h (ow:=zh ow),gS h (ow:=nH ow),DT h,DU h,DV h]
def Gs {C:eB} {o:Op} {ρ:Operand->SV} (h:At C o ρ=true):LX o=true:=by
 unfold At at h;split at h
 ·rfl
 ·cases h
def Cf {C:eB} {b:Option (Nat->Bool)} {c:aX (SV×OW)} {o:Op} {q:List Nat×Bool} {ρ:Operand->SV} {ow:OW} {d:Nat} {s:SV} {r:Option (List Nat×OW)} (h:(pL C c o q ρ ow d).outB b=some (s,r)):∀z,r=some z->z.1=PD d o q/\Dp q.1 z.2=true:=by
 intro z a;unfold pL at h;split at h
 ·rename_i i
  obtain⟨x,j,_,e⟩:=aX.outB_bind _ h;split at e
  ·rename_i f
   simp only[aX.outB,a0k,a0y]at e;simp only[a0f]at f;rw[<-e.2]at a
   cases a
   exact⟨by unfold PD;rw[a0e i],f.1.1.1⟩
  ·cases e
 ·rename_i i
  split at h
  ·split at h
   ·split at h
    ·simp only[aX.outB,a0k,a0y]at h
     rw[<-h.2]at a;cases a
    ·cases h
   ·cases h
  split at h
  ·split at h
   ·simp only[aX.outB,a0k,a0y]at h
    rw[<-h.2]at a;cases a
   ·cases h
  split at h
  ·simp only[aX.outB,a0k,a0y]at h
   rw[<-h.2]at a;cases a
  ·split at h
   ·simp only[aX.outB,a0k,a0y]at h
    rw[<-h.2]at a;cases a
   ·split at h
    ·rename_i g
     obtain⟨x,j,_,e⟩:=aX.outB_bind _ h;split at e
     ·rename_i f
      simp only[aX.outB,a0k,a0y]at e;simp only[a0f]at f;rw[<-e.2]at a
      cases a
      exact⟨by unfold PD;rw[a0c i,a0e (Gs g)],f.1.1⟩
     ·cases e
    ·obtain⟨x,j,_,e⟩:=aX.outB_bind _ h
     split at e
     ·simp only[aX.outB,a0k,a0y]at e
      rw[<-e.2]at a;cases a
     ·cases e
def Mi {C:eB} {b:Option (Nat->Bool)} {c:aX (SV×OW)} {o:Op} {q:List Nat×Bool} {ρ:Operand->SV} {ow:OW} {d:Nat} {s:SV} {r:Option (List Nat×OW)} (h:(pL C c o q ρ ow d).outB b=some (s,r)) (f:q.2=true) (g:vP q=true):∃z,r=some (q.1,z)/\BV q.1 d ow z=true:=by
 unfold pL at h;rw[a0e f]at h;obtain⟨x,i,_,e⟩:=aX.outB_bind _ h;split at e
 ·rename_i a
  simp only[aX.outB,a0k,a0y]at e;simp only[a0f,g,a0j,a5i]at a;exact⟨x.2,e.2.symm,a.1.2⟩
 ·cases e
def I0 {C:eB} {b:Option (Nat->Bool)} {c:aX (SV×OW)} {o:Op} {q:List Nat×Bool} {ρ:Operand->SV} {ow:OW} {d:Nat} {s:SV} {r:Option (List Nat×OW)} (h:(pL C c o q ρ ow d).outB b=some (s,r)) (f:q.2=true) (g:qu q=true):∃z,r=some (q.1,z)/\vh q.1 d ow z=true:=by
 unfold pL at h;rw[a0e f]at h;obtain⟨x,i,_,e⟩:=aX.outB_bind _ h;split at e
 ·rename_i a
  simp only[aX.outB,a0k,a0y]at e;simp only[a0f,g,a0j,a5i]at a;exact⟨x.2,e.2.symm,a.2⟩
 ·cases e
def wK (e:Option OB->Option OB) {K b:List Nat} {ow z:OW} {d:Nat} (f:vO e b d (aL b 0 ow) z=true) (g:K.contains d=false):((aL K 0 (bQ b 0 ow z)).map λl=>nG (l.map e))=(aL K 0 ow).map λl=>nG (l.map e):=by
 apply a2g;intro n;simp only[a5u];rw[dW,dW,dN]
 cases ho:ow[n]? with
 |none=>rfl
 |some x=>
  simp only[a1w,a1o,a0k]
  cases hk:K.contains n with
  |false=>rfl
  |true=>
   cases hx:b.contains n with
   |false=>rfl
   |true=>
    have c:n≠d:=λe=>by rw[e,g]at hk;cases hk
    have a:=a1e.1 f n (by simpa using hx);have h:(n==d)=false:=by simpa using c
    rw[h,a5i,dW,ho]at a;simp only[a1w,a1o,hx,a2c]at a
    cases hz:z[n]? with
    |none=>rw[hz]at a;cases a
    |some y=>
     rw[hz]at a;simp only[a2c,a2r];exact(wJ a).symm
def Gt {ow:OW} {r:Option (List Nat×OW)} (a:cU ow=true) (b:∀z,r=some z->cU z.2=true):cU (mf ow r)=true:=by
 cases r with
 |none=>exact a
 |some z=>exact DO a (b z rfl)
def Cg (E:Oper->(Operand->SV)->OW->aX (SV×OW)):Prop:=∀(o:Oper) (ρ a:Operand->SV) (ow:OW),(∀x∈o.op.operands,ρ x=a x)->E o ρ ow=E o a ow
def kq {C:eB} {E:Oper->(Operand->SV)->OW->aX (SV×OW)} {dk:Oper->Nat} {B:Nat->Option (Nat->Bool)} {a:Array Oper} {ks:List (List Nat×Bool)} {i:Nat} {st c:St} (h:iC C E dk B a ks i st=some c):∃o,a[i]?=some o/\
 ((dG a o st.sl=some false/\c=⟨bn st.sl o.dst (.tup []),st.ow⟩)\/
 (dG a o st.sl=some true/\∃q s r,ks[i]?=some q/\cU st.ow=true/\(pL C (E o (iS st.sl) (aL q.1 0 st.ow)) o.op q (iS st.sl) (aL q.1 0 st.ow) (dk o)).outB (B i)=some (s,r)/\c=⟨bn st.sl o.dst (dE (d9 a i) s),mf st.ow r⟩)):=by
 unfold iC at h
 cases ho:a[i]? with
 |none=>rw[ho]at h;cases h
 |some o=>
  rw[ho]at h;refine⟨o,rfl,?_⟩;simp only at h
  cases hw:dG a o st.sl with
  |none=>
   rw[hw]at h;simp only at h
   cases hk:ks[i]? with
   |none=>rw[hk]at h;cases h
   |some q=>rw[hk]at h;simp[N7,hw]at h
  |some b=>
   cases b with
   |false=>
    rw[hw]at h;simp only[a0k]at h;exact .inl ⟨rfl,h.symm⟩
   |true=>
    rw[hw]at h;simp only at h
    cases hk:ks[i]? with
    |none=>rw[hk]at h;cases h
    |some q=>
     rw[hk]at h;simp only[N7,hw,a2k]at h;obtain⟨x,d,rfl⟩:=h;split at d
     ·rename_i e
      rw[a2k]at d;obtain⟨⟨s,r⟩,f,rfl⟩:=d;exact .inr ⟨rfl,q,s,r,rfl,e,f,rfl⟩
     ·cases d
def eE {C:eB} {E:Oper->(Operand->SV)->OW->aX (SV×OW)} {dk:Oper->Nat} {B:Nat->Option (Nat->Bool)} {a:Array Oper} {ks:List (List Nat×Bool)} {i:Nat} {st:St} {o:Oper} (c:a[i]?=some o):
 (dG a o st.sl=some false->iC C E dk B a ks i st=some ⟨bn st.sl o.dst (.tup []),st.ow⟩)/\
 (dG a o st.sl=some true->∀q s r,ks[i]?=some q->cU st.ow=true->(pL C (E o (iS st.sl) (aL q.1 0 st.ow)) o.op q (iS st.sl) (aL q.1 0 st.ow) (dk o)).outB (B i)=some (s,r)->iC C E dk B a ks i st=some ⟨bn st.sl o.dst (dE (d9 a i) s),mf st.ow r⟩):=by
 refine⟨λb=>by simp[iC,c,b],λb q s r d e f=>by simp[iC,c,b,d,N7,e,f]⟩
def wL {C:eB} {E:Oper->(Operand->SV)->OW->aX (SV×OW)} {dk:Oper->Nat} {B:Nat->Option (Nat->Bool)} (Y:Cg E) {f:Array Oper} {ks:List (List Nat×Bool)} (i j:Nat) (s s1 s2:St) (Z:pM dk f ks i j=true) (h1:iC C E dk B f ks i s=some s1) (h2:iC C E dk B f ks j s1=some s2):∃U,iC C E dk B f ks j s=some U/\iC C E dk B f ks i U=some s2:=by
 obtain⟨x,P,h1⟩:=kq h1;obtain⟨y,Q,h2⟩:=kq h2;unfold pM iu at Z;rw[P,Q]at Z;simp only[a0f]at Z;obtain⟨J,q⟩:=Z;unfold F0 at J;simp only[a0f]at J;obtain⟨a1,a2⟩:=J;have k1:∀d,x.dst=some d->d∉kf f y/\y.dst≠some d:=by
  intro d g;rw[g]at a1;simpa using a1
 have k2:∀d,y.dst=some d->d∉kf f x:=by
  intro d g;rw[g]at a2;simpa using a2
 have w:∀(t:List SV) (u:SV),∀d∈kf f y,(bn t x.dst u)[d]?=t[d]?:=λt u d g=>lP λe=>(k1 d e).1 g
 have A:∀(t:List SV) (u:SV),∀d∈kf f x,(bn t y.dst u)[d]?=t[d]?:=λt u d g=>lP λe=>k2 d e g
 have m:∀(t:List SV) (u v:SV),bn (bn t x.dst u) y.dst v=bn (bn t y.dst v) x.dst u:=λt u v=>wG λd g=>(k1 d g).2
 rcases h1 with⟨w1,rfl⟩|⟨w1,I,D,K,e1,L,R,rfl⟩
 ·rcases h2 with⟨M,rfl⟩|⟨M,G,F,n,e2,V,S,rfl⟩
  ·have k:dG f y s.sl=some false:=by rw[<-fq (w s.sl (.tup []))];exact M
   refine⟨_,(eE Q).1 k,?_⟩;have l:dG f x (bn s.sl y.dst (.tup []))=some false:=by rw[fq (A s.sl (.tup []))];exact w1
   rw[(eE P).1 l];simp only[m]
  ·have k:dG f y s.sl=some true:=by rw[<-fq (w s.sl (.tup []))];exact M
   have H:(pL C (E y (iS s.sl) (aL G.1 0 s.ow)) y.op G (iS s.sl) (aL G.1 0 s.ow) (dk y)).outB (B j)=some (F,n):=by rw[<-oP (Y _ _ _ _ (er (w s.sl (.tup [])))) (er (w s.sl (.tup [])))];exact S
   refine⟨_,(eE Q).2 k G F n e2 V H,?_⟩;have l:dG f x (bn s.sl y.dst (dE (d9 f j) F))=some false:=by rw[fq (A s.sl _)];exact w1
   rw[(eE P).1 l];simp only[m]
 ·rcases h2 with⟨M,rfl⟩|⟨M,G,F,n,e2,V,S,rfl⟩
  ·have k:dG f y s.sl=some false:=by rw[<-fq (w s.sl (dE (d9 f i) D))];exact M
   refine⟨_,(eE Q).1 k,?_⟩;have l:dG f x (bn s.sl y.dst (.tup []))=some true:=by rw[fq (A s.sl (.tup []))];exact w1
   have N:(pL C (E x (iS (bn s.sl y.dst (.tup []))) (aL I.1 0 s.ow)) x.op I (iS (bn s.sl y.dst (.tup []))) (aL I.1 0 s.ow) (dk x)).outB (B i)=some (D,K):=by rw[oP (Y _ _ _ _ (er (A s.sl (.tup [])))) (er (A s.sl (.tup [])))];exact R
   have O:=(eE (C:=C) (E:=E) (dk:=dk) (ks:=ks) (st:=⟨bn s.sl y.dst (.tup []),s.ow⟩) P).2 l I D K e1 L N;refine O.trans ?_
   simp only[m]
  ·rw[e1,e2]at q
   simp only[P,Q,a0f]at q;have p1:=Cf R;have p2:=Cf S;have dj:∀ {a b:List Nat},LY a b=true->∀d,a.contains d=true->b.contains d=false:=λ {a b} h d g=>by
    have:=a1e.1 h d (by simpa using g);simpa using this
   have clear:∀ {b:Option (Nat->Bool)} {d:Nat} {o:Op} {c:aX (SV×OW)} {T p:List Nat×Bool} {ρ:Operand->SV} {v:SV} {r:Option (List Nat×OW)} (W:OW),aL T.1 0 W=aL T.1 0 s.ow->BW d o T p=true->(pL C c o T ρ (aL T.1 0 s.ow) d).outB b=some (v,r)->aL p.1 0 (mf W r)=aL p.1 0 W\/(pK p=true/\p.2=false/\zh (aL p.1 0 (mf W r))=zh (aL p.1 0 W))\/(pK p=false/\vi p=true/\p.2=false/\nH (aL p.1 0 (mf W r))=nH (aL p.1 0 W)):=by
    intro b d o c T p ρ v r W hW hc ho;have pa:=Cf ho;unfold BW at hc;rw[a4e,a4e]at hc;rcases hc with(hc|hc)|hc
    ·left
     cases r with
     |none=>rfl
     |some z=>exact Gn (λd g=>dj hc d (by rw[<-(pa z rfl).1];exact g)) _ _
    ·right
     simp only[a0f,a2p]at hc;obtain⟨⟨⟨⟨c1,c2⟩,c3⟩,c4⟩,c5⟩:=hc;obtain⟨z,rfl,X⟩:=Mi ho c1 c2;rw[<-hW]at X;exact .inl ⟨c3,c4,wK PG X c5⟩
    ·right
     simp only[a0f,a2p]at hc;obtain⟨⟨⟨⟨⟨c1,c2⟩,c0⟩,c3⟩,c4⟩,c5⟩:=hc;obtain⟨z,rfl,X⟩:=I0 ho c1 c2;rw[<-hW]at X;exact .inr ⟨c0,c3,c4,wK LV X c5⟩
   have Ql:mf (mf s.ow K) n=mf (mf s.ow n) K:=by
    cases K with
    |none=>cases n<;>rfl
    |some z1=>
     cases n with
     |none=>rfl
     |some z2=>exact Gp (λd g=>by rw[(p2 z2 rfl).1];exact dj q.2 d (by rw[<-(p1 z1 rfl).1];exact g)) _ _ _
   have Qm:∀z,n=some z->cU z.2=true:=λz hz=>by
    have:=(p2 z hz).2;simp only[Dp,a0f]at this;exact this.2
   have k:dG f y s.sl=some true:=by rw[<-fq (w s.sl (dE (d9 f i) D))];exact M
   have H:(pL C (E y (iS s.sl) (aL G.1 0 s.ow)) y.op G (iS s.sl) (aL G.1 0 s.ow) (dk y)).outB (B j)=some (F,n):=by
    rcases clear s.ow rfl q.1.1 R with hm2|⟨hw,hq,hm2⟩|⟨h0,hw,hq,hm2⟩
    ·rw[<-oP (Y _ _ _ _ (er (w s.sl (dE (d9 f i) D)))) (er (w s.sl (dE (d9 f i) D))),<-hm2];exact S
    ·rw[<-S];exact a1v (λc=>aX.outB c (B j)) (DW hw hq hm2.symm (λx hx=>(er (w s.sl (dE (d9 f i) D)) x hx).symm))
    ·rw[<-S];exact a1v (λc=>aX.outB c (B j)) (AL h0 hw hq hm2.symm (λx hx=>(er (w s.sl (dE (d9 f i) D)) x hx).symm))
   refine⟨_,(eE Q).2 k G F n e2 L H,?_⟩;have l:dG f x (bn s.sl y.dst (dE (d9 f j) F))=some true:=by rw[fq (A s.sl _)];exact w1
   have N:(pL C (E x (iS (bn s.sl y.dst (dE (d9 f j) F))) (aL I.1 0 (mf s.ow n))) x.op I (iS (bn s.sl y.dst (dE (d9 f j) F))) (aL I.1 0 (mf s.ow n)) (dk x)).outB (B i)=some (D,K):=by
    rcases clear s.ow rfl q.1.2 H with hm1|⟨hw,hq,hm1⟩|⟨h0,hw,hq,hm1⟩
    ·rw[oP (Y _ _ _ _ (er (A s.sl _))) (er (A s.sl _)),hm1];exact R
    ·rw[<-R];exact a1v (λc=>aX.outB c (B i)) (DW hw hq hm1 (er (A s.sl _)))
    ·rw[<-R];exact a1v (λc=>aX.outB c (B i)) (AL h0 hw hq hm1 (er (A s.sl _)))
   have O:=(eE (C:=C) (E:=E) (dk:=dk) (ks:=ks) (st:=⟨bn s.sl y.dst (dE (d9 f j) F),mf s.ow n⟩) P).2 l I D K e1 (Gt L Qm) N;refine O.trans ?_
   simp only[m,Ql]
def DX {C:eB} {E:Oper->(Operand->SV)->OW->aX (SV×OW)} {dk:Oper->Nat} (e:Cg E) {a:Array Oper} {ks:List (List Nat×Bool)} (B:Nat->Nat->Bool) (i j:Nat) (s c d:St) (f:pM dk a ks i j=true) (g:iC C E dk (λ_=>some (B i)) a ks i s=some c) (h:iC C E dk (λ_=>some (B j)) a ks j c=some d):∃b,iC C E dk (λ_=>some (B j)) a ks j s=some b/\iC C E dk (λ_=>some (B i)) a ks i b=some d:=wL (B:=λn=>some (B n)) e i j s c d f g h
def my {b:Option (Nat->Bool)} {args:List SV} {ow:OW} {d:Nat} {x:SV×OW}:(a:List jV)->(me args ow d a).outB b=some x->∃c,bV ow d c=some x.2
 |[],h=>by cases h
 |sg::r,h=>by
  unfold me at h;split at h
  ·split at h
   ·simp only[aX.outB,a2l]at h
    obtain⟨y,_,h⟩:=h;split at h
    ·rename_i ow' e
     simp only[aX.outB,a0k]at h;rw[<-h];exact⟨_,e⟩
    ·cases h
   ·exact my r h
  ·exact my r h
def wM {b:Option (Nat->Bool)} {C:eB} {o:Op} {ρ:Operand->SV} {ow:OW} {d:Nat} {x:SV×OW} (h:(s9 C o ρ ow d).outB b=some x):∃a,bV ow d a=some x.2:=by
 unfold s9 at h;split at h
 ·split at h
  ·exact my _ h
  ·cases h
 ·cases h
def AM {K:List Nat} {ow:OW} {d:Nat} {b:List OB} {z:OW} (h:bV (aL K 0 ow) d b=some z) (c:K.contains d=true):bQ [d] 0 ow z=bQ K 0 ow z:=by
 have f:∀n,n≠d->z[n]?=(aL K 0 ow)[n]?:=by
  intro n a;unfold bV at h;split at h
  ·rw[<-a1h h]
  ·split at h
   ·rw[<-a1h h,a2y (λe=>a e.symm)]
   ·cases h
 apply a2g;intro n;rw[dN,dN]
 cases ho:ow[n]? with
 |none=>rfl
 |some x=>
  simp only[a1w,a0k,a1o];by_cases a:n=d
  ·subst a
   have g:([n]:List Nat).contains n=true:=by simp
   rw[g,c]
  ·have i:([d]:List Nat).contains n=false:=by simp[a]
   rw[i]
   cases hk:K.contains n with
   |false=>rfl
   |true=>
    rw[f n a,dW,ho];simp only[a1w,a1o,hk,a2c,a2r];rfl
def LD (C:eB) (o:Oper) (ρ:Operand->SV) (ow:OW):aX (SV×OW):=ta C o.op ρ ow (o.dst.getD 0)
def I1 (C:eB):Cg (LD C):=λo ρ a ow h=>DQ h
def PK (C:eB) (a:Option Nat->Nat) (o:Oper) (ρ:Operand->SV) (ow:OW):aX (SV×OW):=zg C o.op ρ ow (a o.dst)
def I2 (C:eB) (a:Option Nat->Nat):Cg (PK C a):=λo ρ b ow h=>pY h
def pZ {α:Type} {C:eB} {a:Array Oper} {ks:List (List Nat×Bool)} {k:St->Option α} {r:α} (B:Nat->Nat->Bool):(l:List (Oper×Nat))->(∀p∈l,a[p.2]?=some p.1)-> {st:St}->rM C a ks l st k=some r->∃c,kS (iC C (LD C) qv (λi=>some (B i)) a ks) (l.map (·.2)) st=some c/\k c=some r
 |[],_,st,h=>⟨st,rfl,h⟩
 |(o,i)::l,hl,st,h=>by
  have f:=hl (o,i) (by simp);simp only at f;have d:∀p∈l,a[p.2]?=some p.1:=λp n=>hl p (by simp[n])
  unfold rM at h;simp only[a2i,kS];split at h
  ·cases h
  ·rename_i g
   obtain⟨b,j,e⟩:=pZ B l d h;rw[(eE (E:=LD C) (dk:=qv) (B:=λi=>some (B i)) f).1 g];exact⟨b,j,e⟩
  ·rename_i g
   split at h
   ·rename_i q t
    split at h
    ·rename_i m
     obtain⟨s,j,e⟩:=aX.run_outB _ h (B i);rw[qM]at e;obtain⟨b,u,v⟩:=pZ B l d e;rw[(eE (E:=LD C) (dk:=qv) (B:=λi=>some (B i)) f).2 g q s.1 s.2 t m j];exact⟨b,u,v⟩
    ·cases h
   ·cases h
