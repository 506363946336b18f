/-
  PEV, part 15: packing and unpacking.
-/
import Derived.Test.YtjjmipjhddlncaaGreatDoorA00
import Derived.LoopN
import Derived.Orders
set_option linter.all false
namespace Go.Pev
variable {b j d:Nat} {v:Value} {s:SV} {vs:List Value} {k:Kd} {l:List SV}
section
variable {F:Nat->Prop} {G:Gh} {ow ow1 ow2:OW} {w:World}
def FH:FP F [] b↔F b:=by simp[FP]
def HU (h:cW F G ow b):cW (FP F []) G ow b:=⟨λa=>h.1 (FH.1 a),h.2⟩
def mH {f1 f2:List Nat}:FP (FP F f1) f2 b↔FP F (f1++f2) b:=by simp[FP,or_assoc]
def Oy {c:Nat} {f2:List Nat}:FP (FP F [c]) f2 b↔FP F (c::f2) b:=by simp[FP,or_assoc]
def fz {a:Nat->Prop} (c:∀b,a b->F b) (h:cW F G ow b):cW a G ow b:=⟨λd=>h.1 (c b d),h.2⟩
def Sv.fn_inv {f:Fn} {a b:List SV} (h:Sv F G ow w.heap (.fn f a b) v):∃xs ys,v= .func f xs.toArray ys.toArray/\dq F G ow w.heap a xs/\dq F G ow w.heap b ys:=by
 cases h with
 |fn h1 h2 h3 h4=>exact⟨_,_,rfl,⟨h1,h3⟩,⟨h2,h4⟩⟩
def dq.single (h:dq F G ow w.heap l [v]):∃s,l=[s]/\Sv F G ow w.heap s v:=by
 obtain⟨a,h⟩:=h
 match l,a,h with
 |[s],_,h=>exact⟨s,rfl,h 0 (by simp) (by simp)⟩
def dq.single' (h:dq F G ow w.heap [s] vs):∃v,vs=[v]/\Sv F G ow w.heap s v:=by
 obtain⟨v,a,rfl,b,c⟩:=h.uncons;have:a=[]:=a0s c.1.symm;subst this;exact⟨v,rfl,b⟩
def B5 {l:List k.T} (e:re k s ow=some (l,ow1)):∃d j r,jL s=some (d,j)/\kU ow s=some r/\nS ow d j=true/\r=⟨k,l⟩/\ow1=bo ow d j none:=by
 unfold re at e;split at e
 ·rename_i d j r c f
  split at e
  ·rename_i hi
   split at e
   ·rename_i b
    obtain⟨h,g⟩:=r;dsimp only at b e;subst b;simp only[a0i,a0x]at e;obtain⟨a,rfl⟩:=e;have a:g=l:=a;subst a;exact⟨d,j,_,c,f,hi,rfl,rfl⟩
   ·cases e
  ·cases e
 ·cases e
def pY (J:bt F G ow w.heap) (N:Sv F G ow w.heap s v) {l:List k.T} (e:re k s ow=some (l,ow1)):∃y,dt ow ow1/\ju G ow ow1 y/\y.Nodup/\sQ w.heap (cW (FP F y) G ow1) k l v y:=by
 obtain⟨d,j,r,O,A,hi,rfl,rfl⟩:=B5 e;obtain⟨g,⟨ver,l0,z⟩,a,c,rfl,p,n⟩:=rC J N O A hi;have B:aj ow d j≠none:=by rw[z];simp
 have C:=sV (ow:=ow) (d:=d) (j:=j) (by rw[z];trivial);have i:=λd' j'=>aW (o:=none) (d':=d') (j':=j') B
 have q:=(J.obs d j _ z).1;rcases n with⟨P,Q,R,S⟩|⟨b,o,K,D,et,L,U,E,H,t⟩
 ·refine⟨[],C,λb=> ?_,a2h,g,a,c,rfl,p,.inl ⟨Q,R,S,rfl⟩⟩
  constructor
  ·intro h;simp at h
  ·rintro⟨d',j',u,K,hi,m,f⟩
   rw[i]at f;split at f
   ·rename_i e
    rw[e.1,e.2]at m
    cases u with
    |zero=>rw[P]at m;cases m
    |succ u=>rw[q]at m;cases m
   ·rw[f]at hi;exact hi.elim
 ·have M:ju G ow (bo ow d j none) [b]:=by
   intro V;constructor
   ·intro I
    have:V=b:=by simpa using I
    subst this;exact⟨d,j,0,K,by rw[z];trivial,L,by rw[i];simp⟩
   ·rintro⟨d',j',u,X,hi,m,f⟩
    rw[i]at f;split at f
    ·rename_i e
     rw[e.1,e.2]at m
     cases u with
     |zero=>rw[L]at m;cases m;simp
     |succ u=>rw[q]at m;cases m
    ·rw[f]at hi;exact hi.elim
  refine⟨[b],C,M,by simp,g,a,c,rfl,p,.inr ⟨b,o,D,et,U,rfl,E,H.mono λx cs W=>cG.mono (λb r E A=>⟨eu C M E,A⟩) _ W,t⟩⟩
def cJ:(s:Sh)-> {F:Nat->Prop}-> {ow ow1:OW}->(∀b,F b->b<w.heap.size)->bt F G ow w.heap-> {h:List SV}-> {vs:List Value}->dq F G ow w.heap h vs-> {x:s.T}->pk s h ow=some (x,ow1)->∃A,dt ow ow1/\ju G ow ow1 A/\A.Nodup/\cA w.heap (cW (FP F A) G ow1) s x vs A
 | .pur kd,F,ow,ow1,hF,hh,h,vs,m,x,e=>by
  match h,m,e with
  |[],_,e=>simp[pk]at e
  |[s],m,e=>
   simp only[pk]at e;obtain⟨v,rfl,p⟩:=m.single';exact⟨[],(uf e).taken,(uf e).fpOk,a2h,v,rfl,rfl,(IM hh hF p e).mono λb r Y hr=>⟨HU Y,hr⟩⟩
  |_::_::_,_,e=>simp[pk]at e
 | .own k,F,ow,ow1,hF,hh,h,vs,m,x,e=>by
  match h,m,e with
  |[],_,e=>simp[pk]at e
  |[s],m,e=>
   simp only[pk]at e;obtain⟨v,rfl,p⟩:=m.single';split at e
   ·split at e
    ·rename_i R
     simp only[a0i,a0x]at e;obtain⟨rfl,rfl⟩:=e
     cases p
     exact⟨[],.refl _,.refl _ _,a2h,_,rfl,R,none,0,rfl,a1n _,.inl ⟨rfl,rfl,rfl,rfl⟩⟩
    ·cases e
   ·obtain⟨A,u,t,E,H⟩:=pY hh p e
    exact⟨A,u,t,E,v,rfl,H⟩
  |_::_::_,_,e=>simp[pk]at e
 | .row k,F,ow,ow1,hF,hh,h,vs,m,x,e=>by
  match h,m,e with
  |[],_,e=>simp[pk]at e
  |[s],m,e=>
   simp only[pk]at e;obtain⟨v,rfl,p⟩:=m.single';split at e
   ·obtain⟨A,u,t,E,H⟩:=pY hh p e
    exact⟨A,u,t,E,v,rfl,H⟩
   ·cases e
  |_::_::_,_,e=>simp[pk]at e
 | .rows s,F,ow,ow1,hF,hh,h,vs,m,x,e=>by
  match h,m,e with
  |[],_,e=>simp[pk]at e
  |[s0],m,e=>
   simp only[pk]at e;obtain⟨v,rfl,p⟩:=m.single';split at e
   ·split at e
    ·rename_i R
     simp only[a0i,a0x]at e;obtain⟨rfl,rfl⟩:=e
     cases p
     exact⟨[],.refl _,.refl _ _,a2h,_,rfl,R,none,0,rfl,a1n _,.inl ⟨rfl,rfl,rfl,rfl⟩⟩
    ·cases e
   ·split at e
    ·rename_i d j R
     split at e
     ·rename_i S0 h0
      exact Ao hh p R h0 e λh vs m x ow1 e=>cJ s hF hh m e
     ·cases e
    ·cases e
  |_::_::_,_,e=>simp[pk]at e
 | .nrw s,F,ow,ow1,hF,hh,h,vs,m,x,e=>by
  match h,m,e with
  |[],_,e=>simp[pk]at e
  |[s0],m,e=>
   simp only[pk]at e;obtain⟨v,rfl,p⟩:=m.single';split at e
   ·rename_i d j ver S8
    split at e
    ·rename_i S0 h0
     exact Ao hh p (d:=d) (j:=j) rfl h0 e λh vs m x ow1 e=>cJ s hF hh m e
    ·cases e
   ·cases e
  |_::_::_,_,e=>simp[pk]at e
 | .box l,F,ow,ow1,hF,hh,h,vs,m,x,e=>by
  match h,m,e with
  |[],_,e=>simp[pk]at e
  |[s],m,e=>
   obtain⟨v,rfl,p⟩:=m.single'
   cases s with
   |bp d j c=>
    simp only[pk]at e;split at e
    ·rename_i K L
     split at e
     ·rename_i S
      have M:=aA L;have S1:aj ow d j≠none:=by rw[M];simp
      obtain⟨S2,b,o,r,et,hG,Y,S9,hc⟩:=hh.obs d j _ M
      cases p with
      |bp p=>
      simp only[M]at p;obtain⟨q,o',U,rfl⟩:=p;rw[hG]at U;cases U
      obtain⟨rfl,S⟩:=S;have Z:=sV (ow:=ow) (d:=d) (j:=j) (by rw[M];trivial);have J:=λd' j'=>aW (o:=none) (d':=d') (j':=j') S1
      have hf:ju G ow (bo ow d j none) [b]:=by
       intro q;constructor
       ·intro hb'
        have:q=b:=by simpa using hb'
        subst this;exact⟨d,j,0,o,by rw[M];trivial,hG,by rw[J];simp⟩
       ·rintro⟨d',j',i',o2,hi,L,N⟩
        rw[J]at N;split at N
        ·rename_i e
         rw[e.1,e.2]at L
         cases i' with
         |zero=>rw[hG]at L;cases L;simp
         |succ i'=>rw[S2]at L;cases L
        ·rw[N]at hi;exact hi.elim
      obtain⟨O,C⟩:=cS hh Z hf;have S3:b<w.heap.size:=(a1c.1 Y).1;have P:∀q,FP F [b] q->q<w.heap.size:=by
       intro q hb';rcases hb' with hb'|hb'
       ·exact hF q hb'
       ·have:q=b:=by simpa using hb'
        subst this;exact S3
      have I:dq (FP F [b]) G (bo ow d j none) w.heap K (bY r o l.len):=by
       refine⟨by rw[aZ];omega,λi u t=> ?_⟩;have e1:(bY r o l.len)[i]=r[o+i]'(by omega):=by
        have:=aR (r:=r) (o:=o) (n:=l.len) (i:=i) (by omega);rw[a0a t,a1k (by omega)]at this;exact a1f this
       rw[e1];exact C _ _ (hc i (by omega) (by omega))
      obtain⟨Q,u,t,E,H⟩:=cJ l P O I e;have S4:b∉Q:=λB=>(hf.notOwn hh Z (by simp:b∈[b])) (t.own B)
      refine⟨b::Q,Z.trans u,λx=> ?_,a4n.2 ⟨S4,E⟩,b,o,r,et,Q,rfl,rfl,Y,by omega,?_⟩
      ·rw[FE.trans Z u,<-hf x,<-t x]
       simp
      ·exact cA.mono (λq r' hb' D=>⟨fz (λV B=>Oy.2 B) hb',D⟩) l (λ_ _=>rfl) H
     ·cases e
    ·cases e
   |_=>simp[pk]at e
  |_::_::_,_,e=>simp[pk]at e
 | .agg l,F,ow,ow1,hF,hh,h,vs,m,x,e=>by
  match h,m,e with
  |[],_,e=>simp[pk]at e
  |[s],m,e=>
   obtain⟨v,rfl,p⟩:=m.single'
   cases s with
   |agg cs=>
    simp only[pk]at e;obtain⟨us,rfl,S5⟩:=p.agg_inv;obtain⟨A,u,t,E,H⟩:=cJ l hF hh S5 e;exact⟨A,u,t,E,us,rfl,H⟩
   |_=>simp[pk]at e
  |_::_::_,_,e=>simp[pk]at e
 | .fn f n l,F,ow,ow1,hF,hh,h,vs,m,x,e=>by
  match h,m,e with
  |[],_,e=>simp[pk]at e
  |[s],m,e=>
   obtain⟨v,rfl,p⟩:=m.single'
   cases s with
   |fn g a b=>
    simp only[pk]at e;split at e
    ·rename_i hc
     obtain⟨rfl,M⟩:=hc;obtain⟨xs,ys,rfl,B,W⟩:=p.fn_inv;obtain⟨A,u,t,E,H⟩:=cJ l hF hh (B.append W) e;exact⟨A,u,t,E,xs,ys,rfl,by rw[<-B.1,M],H⟩
    ·cases e
   |_=>simp[pk]at e
  |_::_::_,_,e=>simp[pk]at e
 | .ign,F,ow,ow1,hF,hh,h,vs,m,x,e=>by
  match h,m,e with
  |[],_,e=>simp[pk]at e
  |[s],m,e=>
   simp only[pk,a0i,a0x]at e;obtain⟨v,rfl,p⟩:=m.single';rw[<-e.2];exact⟨[],.refl _,.refl _ _,a2h,v,rfl,rfl⟩
  |_::_::_,_,e=>simp[pk]at e
 | .nl,F,ow,ow1,hF,hh,h,vs,m,x,e=>by
  match h,m,e with
  |[],_,e=>simp[pk]at e
  |[s],m,e=>
   obtain⟨v,rfl,p⟩:=m.single'
   cases s with
   |nils=>
    simp only[pk,a0i,a0x]at e
    cases p
    rw[<-e.2];exact⟨[],.refl _,.refl _ _,a2h,rfl,rfl⟩
   |_=>simp[pk]at e
  |_::_::_,_,e=>simp[pk]at e
 | .nil,F,ow,ow1,hF,hh,h,vs,m,x,e=>by
  match h,m,e with
  |[],m,e=>
   simp only[pk,a0i,a0x]at e;have:vs=[]:=a0s m.1.symm;subst this;rw[<-e.2];exact⟨[],.refl _,.refl _ _,a2h,rfl,rfl⟩
  |_::_,_,e=>simp[pk]at e
 | .cons a b,F,ow,ow1,hF,hh,h,vs,m,x,e=>by
  match h,m,e with
  |[],_,e=>simp[pk]at e
  |s::r,m,e=>
   simp only[pk]at e;split at e
   ·rename_i y W
    split at e
    ·rename_i z hz
     cases e
     obtain⟨v,S6,rfl,p,X⟩:=m.uncons;obtain⟨f1,t1,o1,n1,r1⟩:=cJ a (x:=y.1) (ow1:=y.2) hF hh (.cons p .nil) W;obtain⟨O,C⟩:=cS hh t1 o1;have P:∀q,FP F f1 q->q<w.heap.size:=by
      intro q hb';rcases hb' with hb'|hb'
      ·exact hF q hb'
      ·exact cu.lt hh (o1.own hb')
     obtain⟨f2,t2,o2,n2,r2⟩:=cJ b (x:=z.1) (ow1:=z.2) P O ⟨X.1,λi u t=>C _ _ (X.2 i u t)⟩ hz;refine⟨f1++f2,t1.trans t2,λx=> ?_,a2c.2 ⟨n1,n2,λx B y W S7=> ?_⟩,v,S6,f1,f2,rfl,rfl,?_,?_⟩
     ·rw[FE.trans t1 t2,<-o1 x,<-o2 x,a0k]
     ·subst S7
      exact o1.notOwn hh t1 B (o2.own W)
     ·exact cA.mono (λq r' hb' D=>⟨fz (λV B=>mH.2 B) (eu t2 o2 hb'),D⟩) a (λ_ _=>rfl) r1
     ·exact cA.mono (λq r' hb' D=>⟨fz (λV B=>mH.2 B) hb',D⟩) b (λ_ _=>rfl) r2
    ·cases e
   ·cases e
def mI (h:Array Obj) (ok:Nat->Prop) (G:Gh) (ow:OW) (l:List SV) (vs:List Value):Prop:=l.length=vs.length/\∀i (a:i<l.length) (b:i<vs.length),cC h ok G ow l[i] vs[i]
section
variable {h:Array Obj} {ok:Nat->Prop}
def mI.nil:mI h ok G ow [] []:=⟨rfl,λi h=>by simp at h⟩
def mI.cons (c:cC h ok G ow s v) (b:mI h ok G ow l vs):mI h ok G ow (s::l) (v::vs):=⟨by simp[b.1],λi a d=>by
 cases i with
 |zero=>exact c
 |succ i=>exact b.2 i (by simpa using a) (by simpa using d)⟩
def mI.append {d:List SV} {a:List Value} (b:mI h ok G ow l vs) (c:mI h ok G ow d a):mI h ok G ow (l++d) (vs++a):=by
 refine⟨by simp[b.1,c.1],λi e f=> ?_⟩;rcases a3u i l.length with h|h
 ·rw[a1h h,a1h (b.1▸h)]
  exact b.2 _ _ _
 ·rw[a1u h,a1u (b.1▸h)]
  simp only[b.1];exact c.2 _ _ _
def mI.take {l:List SV} {vs:List Value} (a:mI h ok G ow l vs) (n:Nat):mI h ok G ow (l.take n) (vs.take n):=⟨by simp[a.1],λi b c=>by simp only[a4x];exact a.2 _ _ _⟩
def mI.drop {l:List SV} {vs:List Value} (a:mI h ok G ow l vs) (n:Nat):mI h ok G ow (l.drop n) (vs.drop n):=⟨by simp[a.1],λi b c=>by simp only[a6o];exact a.2 _ _ _⟩
def uh:(k:Kd)-> {x:k.T}-> {cs:List Value}->(k.leafy=true)->cG h ok k x cs->mI h ok G ow (mr k x) cs
 | .nil,_,_,_,e=>by cases e;exact .nil
 | .cons a b,x,cs,hk,e=>by
  simp only[Kd.leafy,a0c,a2b]at hk;obtain⟨v,r,rfl,c,d⟩:=rE hk.1 e;exact .cons (.v hk.1 c) (uh b hk.2 d)
 | .int _,_,_,hk,_=>by cases hk
 | .bool,_,_,hk,_=>by cases hk
 | .str,_,_,hk,_=>by cases hk
 | .err,_,_,hk,_=>by cases hk
 | .any,_,_,hk,_=>by cases hk
 | .sl _ _,_,_,hk,_=>by cases hk
 | .tree _,_,_,hk,_=>by cases hk
def LV {x:k.T} (e:oc h ok k x v):cC h ok G ow (P3 k x) v:=by
 obtain⟨b,c,d⟩:=e;unfold P3;split
 ·rename_i a
  obtain⟨⟨cs,rfl⟩,f⟩:=c a;have:=uh (G:=G) (ow:=ow) k f b;have:=cC.agg this.1 this.2;simpa [Value.cells]using this
 ·rename_i a
  have a:k.isSt=false:=by simpa using a
  have:=ij (d a);rw[this]at b;exact .v a b
abbrev Pl:=Option (Nat×Nat)×List Nat
def Pl.pos (p:Pl):Nat->Option (Nat×Nat)
 |0=>p.1
 |i+1=>(p.2[i]?).map λb=>(b,0)
def Pl.fp (p:Pl):List Nat:=(p.1.map (·.1)).toList++p.2
def Pl.mem {p:Pl}:b∈p.fp↔∃i o,p.pos i=some (b,o):=by
 obtain⟨q,l⟩:=p;simp only[Pl.fp,a0k,Option.mem_toList,a2l];constructor
 ·rintro(⟨⟨a,o⟩,rfl,rfl⟩|h)
  ·exact⟨0,o,rfl⟩
  ·obtain⟨i,hi,rfl⟩:=a2g.1 h
   exact⟨i+1,0,by simp[Pl.pos,hi]⟩
 ·rintro⟨i,o,h⟩
  cases i with
  |zero=>exact .inl ⟨(b,o),h,rfl⟩
  |succ i=>
   simp only[Pl.pos,a2l,a0x]at h;obtain⟨a,h,rfl,_⟩:=h;exact .inr (a3p h)
def Pl.inj {p:Pl} (f:p.fp.Nodup) {i o s:Nat} (g:p.pos i=some (b,o)) (d:p.pos j=some (b,s)):i=j:=by
 obtain⟨q,l⟩:=p;simp only[Pl.fp,a2c]at f;obtain⟨_,t,m⟩:=f;have a:∀ {k o},(Pl.pos (q,l) (k+1))=some (b,o)->∃v:k<l.length,l[k]=b:=by
  intro k o h;simp only[Pl.pos,a2l,a0x]at h;obtain⟨w,h,rfl,_⟩:=h;exact a0p.1 h
 have c:∀ {o},(Pl.pos (q,l) 0)=some (b,o)->b∈(q.map (·.1)).toList:=by
  intro o h;have h:q=some (b,o):=h;subst h;simp
 cases i with
 |zero=>
  cases j with
  |zero=>rfl
  |succ j=>
   obtain⟨n,e⟩:=a d;exact absurd rfl (m b (c g) b (by rw[<-e];exact a0l n))
 |succ i=>
  obtain⟨hi,r⟩:=a g
  cases j with
  |zero=>exact absurd rfl (m b (c d) b (by rw[<-r];exact a0l hi))
  |succ j=>
   obtain⟨n,u⟩:=a d;rw[(List.getElem_inj t).1 (r.trans u.symm)]
def ot:(l:List Pl)->(l.flatMap Pl.fp).Nodup->∀i j (hi:i<l.length) (c:j<l.length) (b:Nat),b∈l[i].fp->b∈l[j].fp->i=j/\l[i].fp.Nodup
 |[],_,i,_,hi,_,_,_,_=>by simp at hi
 |p::l,hn,i,j,hi,c,b,h1,h2=>by
  rw[a5s,a2c]at hn;obtain⟨g,k,d⟩:=hn;have a:∀q (f:q<l.length),b∈l[q].fp->b∈l.flatMap Pl.fp:=λq f h=>a3q.2 ⟨l[q],a0l f,h⟩
  cases i with
  |zero=>
   cases j with
   |zero=>exact⟨rfl,g⟩
   |succ j=>exact absurd rfl (d b h1 b (a j (by simpa using c) h2))
  |succ i=>
   cases j with
   |zero=>exact absurd rfl (d b h2 b (a i (by simpa using hi) h1))
   |succ j=>
    obtain⟨e,h⟩:=ot l k i j (by simpa using hi) (by simpa using c) b h1 h2;exact⟨by rw[e],h⟩
def k0 (G:Gh) (ow:OW) (d j:Nat) (a:List OB) (ps:List Pl):Prop:=∀i o,a[i]?=some o->aj ow d (j+i)=some (some o)/\∃p,ps[i]?=some p/\G d (j+i)=p.pos
def k0.left {a e:List OB} {b f:List Pl} (h:b.length=a.length) (g:k0 G ow d j (a++e) (b++f)):k0 G ow d j a b:=by
 intro i o hi;have c:i<a.length:=(a0p.1 hi).1;have:=g i o (by rw[a1i c];exact hi);rw[a1i (by omega)]at this;exact this
def k0.right {a c:List OB} {b e:List Pl} (g:b.length=a.length) (f:k0 G ow d j (a++c) (b++e)):k0 G ow d (j+a.length) c e:=by
 intro i o hi;have:=f (a.length+i) o (by rw[a1j (by omega)];simpa using hi);rw[a1j (by omega),show a.length+i-b.length=i by omega,<-a2k]at this;exact this
def Ap {l:List k.T} {q:List Nat} (e:sQ h ok k l v q) (d j:Nat):∃p:Pl,p.fp=q/\∀(G:Gh) (ow:OW),aj ow d j=some (some (.row k 0 l))->G d j=p.pos->cC h ok G ow (.wh d j 0 []) v/\dl h ok G ow d j (.row k 0 l):=by
 obtain⟨s,a,c,rfl,g,e⟩:=e;rcases e with⟨rfl,rfl,rfl,rfl⟩|⟨b,o,r,et,rfl,rfl,t,m,u⟩
 ·refine⟨(none,[]),rfl,λG ow n f=>⟨.wh ?_,by rw[f];exactλi=>rfl,s,by rw[f];rfl⟩⟩
  simp only[cZ,n,a2q];exact⟨by simp,_,_,rfl,g,.inl ⟨by rw[f];rfl,rfl,rfl⟩⟩
 ·refine⟨(some (b,o),[]),rfl,λG ow n f=>⟨.wh ?_,by rw[f];exactλi=>rfl,s,by rw[f];exact⟨r,et,t,m⟩⟩⟩
  simp only[cZ,n,a2q];exact⟨by omega,_,_,rfl,g,.inr ⟨b,o,o,r,by rw[f];rfl,rfl,aS t,λ_=>by simp,u⟩⟩
def gK:(s:Sh)-> {x:s.T}-> {vs:List Value}-> {u:List Nat}->cA h ok s x vs u->(d j:Nat)->∃ps:List Pl,ps.length=(bJ d s x j).2.length/\ps.flatMap Pl.fp=u/\∀(G:Gh) (ow:OW),k0 G ow d j (bJ d s x j).2 ps->mI h ok G ow (bJ d s x j).1 vs/\∀i o,(bJ d s x j).2[i]?=some o->dl h ok G ow d (j+i) o/\bx (some (some o))
 | .pur kd,x,vs,u,e,d,j=>by
  obtain⟨v,rfl,rfl,e⟩:=e;exact⟨[],rfl,rfl,λG ow _=>⟨.cons (LV e) .nil,λi o hi=>by simp[bJ]at hi⟩⟩
 | .own k,x,vs,u,e,d,j=>by
  obtain⟨v,rfl,e⟩:=e;obtain⟨p,C,y⟩:=Ap e d j;refine⟨[p],rfl,by simpa using C,λG ow c=> ?_⟩;obtain⟨z,B,m,t⟩:=c 0 _ (by simp[bJ];rfl);obtain rfl:p=B:=by simpa using m
  obtain⟨g,w⟩:=y G ow z t;refine⟨.cons g .nil,λi o hi=> ?_⟩
  cases i with
  |zero=>simp[bJ]at hi;subst hi;exact⟨w,trivial⟩
  |succ i=>simp[bJ]at hi
 | .row k,x,vs,u,e,d,j=>by
  obtain⟨v,rfl,e⟩:=e;obtain⟨p,C,y⟩:=Ap e d j;refine⟨[p],rfl,by simpa using C,λG ow c=> ?_⟩;obtain⟨z,B,m,t⟩:=c 0 _ (by simp[bJ];rfl);obtain rfl:p=B:=by simpa using m
  obtain⟨g,w⟩:=y G ow z t;refine⟨.cons g .nil,λi o hi=> ?_⟩
  cases i with
  |zero=>simp[bJ]at hi;subst hi;exact⟨w,trivial⟩
  |succ i=>simp[bJ]at hi
 | .rows s,x,vs,u,e,d,j| .nrw s,x,vs,u,e,d,j=>by
  obtain⟨v,rfl,e⟩:=e;obtain⟨q,I,C,y⟩:=IN (s:=s) (v:=v) ⟨v,rfl,e⟩ d j;refine⟨[(q,I)],rfl,by simpa [Pl.fp]using C,λG ow c=> ?_⟩;obtain⟨z,B,m,t⟩:=c 0 _ (by simp[bJ];rfl);obtain rfl:(q,I)=B:=by simpa using m
  have t:G d j=Pl.pos (q,I):=t;obtain⟨g,w⟩:=y G ow z (by rw[t];rfl) (λi=>by rw[t];rfl);refine⟨.cons g .nil,λi o hi=> ?_⟩
  cases i with
  |zero=>simp[bJ]at hi;subst hi;exact⟨w,trivial⟩
  |succ i=>simp[bJ]at hi
 | .box l,x,vs,u,e,d,j=>by
  obtain⟨b,o,r,et,R,rfl,rfl,S,N,e⟩:=e;obtain⟨ps,D,E,y⟩:=gK l e d (j+1);refine⟨(some (b,o),[])::ps,by simp[bJ,D],by simp[E,Pl.fp],λG ow c=> ?_⟩;obtain⟨z,B,m,t⟩:=c 0 _ (by simp[bJ];rfl);obtain rfl:(some (b,o),[])=B:=by simpa using m
  have A:k0 G ow d (j+1) (bJ d l x (j+1)).2 ps:=by
   intro i J hi;have:=c (i+1) J (by simpa [bJ]using hi);rw[a5e,show j+(i+1)=j+1+i by omega]at this;exact this
  obtain⟨g,w⟩:=y G ow A;have F:G d j 0=some (b,o):=by rw[show G d j=_ from t];rfl
  have K:∀i,G d j (i+1)=none:=by rw[show G d j=_ from t];exactλi=>rfl
  refine⟨.cons (.bp (by rw[show aj ow d j=_ from z];exact⟨b,o,F,rfl⟩)) .nil,λi J hi=> ?_⟩
  cases i with
  |zero=>
   simp[bJ]at hi;subst hi;have O:(bJ d l x (j+1)).1.length=l.len:=by rw[g.1,aZ N]
   refine⟨⟨K,b,o,r,et,F,S,by omega,λi hi U=> ?_⟩,trivial⟩;have H:i<(bY r o l.len).length:=by rw[aZ N];omega
   have L:(bY r o l.len)[i]=r[o+i]:=by
    have:=aR (r:=r) (o:=o) (n:=l.len) (i:=i) (by omega);rw[a0a H,a1k (by omega)]at this;exact a1f this
   rw[<-L];exact g.2 i hi H
  |succ i=>
   have:=w i J (by simpa [bJ]using hi);rw[show j+(i+1)=j+1+i by omega];exact this
 | .agg l,x,vs,u,e,d,j=>by
  obtain⟨cs,rfl,e⟩:=e;obtain⟨ps,D,E,y⟩:=gK l e d j;refine⟨ps,D,E,λG ow c=> ?_⟩;obtain⟨g,w⟩:=y G ow c;exact⟨.cons (.agg g.1 g.2) .nil,w⟩
 | .fn f n l,x,vs,u,e,d,j=>by
  obtain⟨xs,ys,rfl,A,e⟩:=e;obtain⟨ps,D,E,y⟩:=gK l e d j;refine⟨ps,D,E,λG ow c=> ?_⟩;obtain⟨g,w⟩:=y G ow c;have z:=g.take n;have t:=g.drop n;rw[List.take_left' A]at z;rw[List.drop_left' A]at t;exact⟨.cons (.fn z.1 t.1 z.2 t.2) .nil,w⟩
 | .ign,x,vs,u,e,d,j=>by
  obtain⟨v,rfl,rfl⟩:=e;exact⟨[],rfl,rfl,λG ow _=>⟨.cons (.dead v) .nil,λi o hi=>by simp[bJ]at hi⟩⟩
 | .nl,x,vs,u,e,d,j=>by
  obtain⟨rfl,rfl⟩:=e;exact⟨[],rfl,rfl,λG ow _=>⟨.cons .nils .nil,λi o hi=>by simp[bJ]at hi⟩⟩
 | .nil,x,vs,u,e,d,j=>by
  obtain⟨rfl,rfl⟩:=e;exact⟨[],rfl,rfl,λG ow _=>⟨.nil,λi o hi=>by simp[bJ]at hi⟩⟩
 | .cons a b,x,vs,u,e,d,j=>by
  obtain⟨v,r,f1,f2,rfl,rfl,L,V⟩:=e;obtain⟨P,l1,W,g⟩:=gK a L d j;obtain⟨Q,l2,X,w⟩:=gK b V d (j+(bJ d a x.1 j).2.length);refine⟨P++Q,by simp[bJ,l1,l2],by simp[W,X],λG ow c=> ?_⟩;have c:k0 G ow d j ((bJ d a x.1 j).2++(bJ d b x.2 (j+(bJ d a x.1 j).2.length)).2) (P++Q):=c;obtain⟨Y,Z⟩:=g G ow (c.left l1);obtain⟨s2,o2⟩:=w G ow (c.right l1);refine⟨Y.append s2,λi o hi=> ?_⟩;have hi:((bJ d a x.1 j).2++(bJ d b x.2 (j+(bJ d a x.1 j).2.length)).2)[i]?=some o:=hi;by_cases M:i<(bJ d a x.1 j).2.length
  ·rw[a1i M]at hi
   exact Z i o hi
  ·rw[a1j (by omega)]at hi
   have:=o2 _ o hi;rw[a2k,show(bJ d a x.1 j).2.length+(i-(bJ d a x.1 j).2.length)=i by omega]at this;exact this
end
def sW {l:List Nat} (z:bt (FP F l) G ow w.heap) {s:Sh} {x:s.T} (e:cA w.heap (cW (FP F l) G ow) s x vs l) (W:l.Nodup) (X:∀b∈l,¬F b) (I:cg ow d (bJ d s x 0).2=some ow2):∃c,bt F c ow2 w.heap/\dq F c ow2 w.heap (bJ d s x 0).1 vs/\(∀s v,Sv (FP F l) G ow w.heap s v->Sv F c ow2 w.heap s v)/\(∀b,cu c ow2 b↔cu G ow b\/b∈l)/\(∀d' j,d'≠d->c d' j=G d' j):=by
 obtain⟨ps,hl,Y,g⟩:=gK s e d 0;obtain⟨S7,n,Z⟩:=eY I;by_cases M:(bJ d s x 0).2=[]
 ·
  have S0:ps=[]:=a0s (by rw[hl,M];rfl);subst S0;have S1:l=[]:=by simpa using Y.symm
  subst S1;have S2:ow2=ow:=by rw[M]at I;simp[cg]at I;exact I.symm
  subst S2;have S3:∀b,cW (FP F []) G ow2 b->cW F G ow2 b:=λb hb=>fz (λb' hx=>FH.2 hx) hb
  have J:∀b r,cW (FP F []) G ow2 b->am w.heap b=some r->cW F G ow2 b/\am w.heap b=some r:=λb r hb g=>⟨S3 b hb,g⟩
  have u:∀s v,Sv (FP F []) G ow2 w.heap s v->Sv F G ow2 w.heap s v:=λs v h=>cC.mono (λ_ _ _=>rfl) (λ_ _=> .refl _) J (λb r g=>⟨r,g,rfl⟩) h
  obtain⟨N,_⟩:=g G ow2 (λi o hi=>by rw[M]at hi;simp at hi);refine⟨G,⟨λd j o I=> ?_,z.apart,λb hb hx=>z.notF b hb (FH.2 hx)⟩,⟨N.1,λi A B=>u _ _ (N.2 i A B)⟩,u,λb=>by simp,λ_ _ _=>rfl⟩;exact dl.mono (λ_ _ _=>rfl) (λ_ _=> .refl _) J (λb r g=>⟨r,g,rfl⟩) rfl (λ_ _ _ _ _=>rfl) (z.obs d j o I)
 ·have n:ow[d]?=some []:=by
   rcases n with h|h
   ·exact absurd h M
   ·exact h
  have a:∀d' j,aj ow2 d' j=if d'=d then(bJ d s x 0).2[j]?.map some else aj ow d' j:=λd' j=>by rw[Z];simp[M]
  let c:Gh:=G.new d λj=>(match ps[j]? with|some p=>p.pos|none=>λ_=>none)
  have C:∀d' j,d'≠d->c d' j=G d' j:=λd' j f=>by simp[c,Gh.new,f]
  have gd:∀j,c d j=(match ps[j]? with|some p=>p.pos|none=>λ_=>none):=λj=>by simp[c,Gh.new]
  have E:∀ {j i b o},c d j i=some (b,o)->∃K:j<ps.length,ps[j].pos i=some (b,o):=by
   intro j i b o k;rw[gd]at k
   cases D:ps[j]? with
   |none=>rw[D]at k;cases k
   |some p=>
    rw[D]at k;obtain⟨K,rfl⟩:=a0p.1 D;exact⟨K,k⟩
  have y:k0 c ow2 d 0 (bJ d s x 0).2 ps:=by
   intro i o hi;have S8:i<(bJ d s x 0).2.length:=(a0p.1 hi).1;rw[a1l,a,a0b rfl,hi,gd];refine⟨rfl,ps[i]'(by omega),a0a (by omega),?_⟩;rw[a0a (by omega)]
  obtain⟨N,r2⟩:=g c ow2 y;have m:∀b,(∃j i o,bx (aj ow2 d j)/\c d j i=some (b,o))↔b∈l:=by
   intro b;rw[<-Y];simp only[a3q];constructor
   ·rintro⟨j,i,o,_,k⟩
    obtain⟨K,hp⟩:=E k;exact⟨ps[j],a0l K,Pl.mem.2 ⟨i,o,hp⟩⟩
   ·rintro⟨p,hp,S4⟩
    obtain⟨j,K,rfl⟩:=a5d hp;obtain⟨i,o,D⟩:=Pl.mem.1 S4;have O:j<(bJ d s x 0).2.length:=by omega
    refine⟨j,i,o,?_,?_⟩
    ·rw[a,a0b rfl,a0a O]
     exact(r2 j _ (a0a O)).2
    ·rw[gd,a0a K];exact D
  have t:∀b,cu c ow2 b↔cu G ow b\/b∈l:=by
   intro b;rw[aM,aM];constructor
   ·rintro⟨d',j,i,o,hi,k⟩
    by_cases f:d'=d
    ·subst f
     exact .inr ((m b).1 ⟨j,i,o,hi,k⟩)
    ·rw[a,a0e f]at hi
     rw[C _ _ f]at k;exact .inl ⟨d',j,i,o,hi,k⟩
   ·rintro(⟨d',j,i,o,hi,k⟩|hb)
    ·have f:d'≠d:=by
      intro f;subst f;rw[c9 n]at hi;exact hi
     exact⟨d',j,i,o,by rw[a,a0e f];exact hi,by rw[C _ _ f];exact k⟩
    ·obtain⟨j,i,o,hi,k⟩:=(m b).2 hb
     exact⟨d,j,i,o,hi,k⟩
  have S5:∀b,cW (FP F l) G ow b->cW F c ow2 b:=λb hb=>⟨λhx=>hb.1 (.inl hx),λhx=>by
   rcases(t b).1 hx with hx|hx
   ·exact hb.2 hx
   ·exact hb.1 (.inr hx)⟩
  have J:∀b r,cW (FP F l) G ow b->am w.heap b=some r->cW F c ow2 b/\am w.heap b=some r:=λb r hb g=>⟨S5 b hb,g⟩
  have P:∀d' j,aj ow d' j≠none->c d' j=G d' j:=by
   intro d' j hx;refine C _ _ λf=> ?_
   subst f;exact hx (c9 n j)
  have hE:∀d' j,EC (aj ow d' j) (aj ow2 d' j):=by
   intro d' j;by_cases f:d'=d
   ·subst f;rw[c9 n];trivial
   ·rw[a,a0e f];exact .refl _
  have u:∀s v,Sv (FP F l) G ow w.heap s v->Sv F c ow2 w.heap s v:=λs v h=>cC.mono (λd' j hx=>a9q (P d' j hx) 0) hE J (λb r g=>⟨r,g,rfl⟩) h
  have Q:∀b r,cW (FP F l) G ow b->am w.heap b=some r->cW F c ow2 b/\am w.heap b=some r:=J;refine⟨c,⟨λd' j o hx=> ?_,λd1 j1 i1 d2 j2 i2 b o1 o2 A B R S=> ?_,λb hb=> ?_⟩,⟨N.1,λi A B=>cC.mono (λ_ _ _=>rfl) (λ_ _=> .refl _) Q (λb r g=>⟨r,g,rfl⟩) (N.2 i A B)⟩,u,t,C⟩
  ·by_cases f:d'=d
   ·subst f
    have H:(bJ d' s x 0).2[j]?=some o:=by
     rw[a,a0b rfl]at hx
     cases D:(bJ d' s x 0).2[j]? with
     |none=>simp[D]at hx
     |some q=>simp[D]at hx;rw[hx]
    have:=(r2 j o H).1;rw[a1l]at this;exact dl.mono (λ_ _ _=>rfl) (λ_ _=> .refl _) Q (λb r g=>⟨r,g,rfl⟩) rfl (λ_ _ _ _ _=>rfl) this
   ·have H:aj ow d' j=some (some o):=by rw[a,a0e f]at hx;exact hx
    exact dl.mono (λd' j hx=>a9q (P d' j hx) 0) hE J (λb r g=>⟨r,g,rfl⟩) (C _ _ f) (λ_ _ _ _ _=>rfl) (z.obs d' j o H)
  ·have U:∀ {d' j' i' o'},d'≠d->bx (aj ow2 d' j')->c d' j' i'=some (b,o')->cu G ow b:=by
    intro d' j' i' o' f hi k;rw[a,a0e f]at hi;rw[C _ _ f]at k;exact aM.2 ⟨d',j',i',o',hi,k⟩
   by_cases V:d1=d
   ·by_cases L:d2=d
    ·subst V;subst L
     obtain⟨k1,p1⟩:=E R;obtain⟨k2,p2⟩:=E S;obtain⟨e,S6⟩:=ot ps (by rw[Y];exact W) j1 j2 k1 k2 b (Pl.mem.2 ⟨_,_,p1⟩) (Pl.mem.2 ⟨_,_,p2⟩);subst e;exact⟨rfl,rfl,Pl.inj S6 p1 p2⟩
    ·subst V
     have hb:=(m b).1 ⟨j1,i1,o1,A,R⟩;exact absurd (.inr hb) (z.notF b (U L B S))
   ·by_cases L:d2=d
    ·subst L
     have hb:=(m b).1 ⟨j2,i2,o2,B,S⟩;exact absurd (.inr hb) (z.notF b (U V A R))
    ·rw[a,a0e V]at A
     rw[a,a0e L]at B;rw[C _ _ V]at R;rw[C _ _ L]at S;exact z.apart d1 j1 i1 d2 j2 i2 b o1 o2 A B R S
  ·rcases(t b).1 hb with hb|hb
   ·exactλhx=>z.notF b hb (.inl hx)
   ·exact X b hb
end
end Go.Pev
namespace Go.Pev
variable {d j:Nat}
def Gh.put (G:Gh) (d j:Nat) (p:Nat->Option (Nat×Nat)):Gh:=λd' j'=>if d'=d/\j'=j then p else G d' j'
def fc (G:Gh) (d j:Nat) (a:List Nat):Nat->Option (Nat×Nat)
 |0=>G d j 0
 |i+1=>(a[i]?).map λb=>(b,0)
section
variable {F F1 F2:Nat->Prop} {G:Gh} {ow ow1:OW} {h:Array Obj}
def cm {a:List Nat} (g:∀i,G d j (i+1)=(a[i]?).map λb=>(b,0)) {b:Nat}:(∃i o,G d j (i+1)=some (b,o))↔b∈a:=by
 constructor
 ·rintro⟨i,o,c⟩
  rw[g]at c;simp only[a2l,a0x]at c;obtain⟨h,f,rfl,_⟩:=c;exact a3p f
 ·intro f
  obtain⟨i,hi,e⟩:=a2g.1 f;exact⟨i,0,by rw[g,a0a hi,e];rfl⟩
def B6 (w:bt F1 G ow h) {Q ob':OB} (Z:aj ow d j=some (some Q)) (hi:bx (some (some Q))) (R:bx (some (some ob'))) (S:EC (some (some Q)) (some (some ob')))
 {c nest':List Nat} (H:∀i,G d j (i+1)=(c[i]?).map λb=>(b,0)) (u:∀d' j',aj ow1 d' j'=if d'=d/\j'=j then some (some ob')else aj ow d' j')
 (h1:∀b∈nest',b∈c\/F1 b) (T:nest'.Nodup) (h0:∀b o,G d j 0=some (b,o)->b∉nest') (h3:∀b,F2 b->b∉nest'/\(F1 b\/b∈c))
 (U:(∀b r,cW F1 G ow b->am h b=some r->cW F2 (G.put d j (fc G d j nest')) ow1 b/\am h b=some r)->(∀s v,Sv F1 G ow h s v->Sv F2 (G.put d j (fc G d j nest')) ow1 h s v)->dl h (cW F2 (G.put d j (fc G d j nest')) ow1) (G.put d j (fc G d j nest')) ow1 d j ob'):
 bt F2 (G.put d j (fc G d j nest')) ow1 h/\(∀s v,Sv F1 G ow h s v->Sv F2 (G.put d j (fc G d j nest')) ow1 h s v)/\(∀b,cu (G.put d j (fc G d j nest')) ow1 b↔(cu G ow b/\b∉c)\/b∈nest')/\∀d' j',G.put d j (fc G d j nest') d' j' 0=G d' j' 0:=by
 have k:bx (aj ow d j):=by rw[Z];exact hi
 generalize I:G.put d j (fc G d j nest')=G1 at*
 have gd:G1 d j=fc G d j nest':=by rw[<-I];simp[Gh.put]
 have z:∀d' j',¬(d'=d/\j'=j)->G1 d' j'=G d' j':=λd' j' hx=>by rw[<-I];simp[Gh.put,hx]
 have x:∀d' j',G1 d' j' 0=G d' j' 0:=λd' j'=>by
  by_cases hx:d'=d/\j'=j
  ·rw[hx.1,hx.2,gd];rfl
  ·rw[z _ _ hx]
 have F:∀i,G1 d j (i+1)=(nest'[i]?).map λb=>(b,0):=λi=>by rw[gd];rfl
 have J:bx (aj ow1 d j):=by rw[u];simpa using R
 have a:∀d' j',¬(d'=d/\j'=j)->aj ow1 d' j'=aj ow d' j':=λd' j' hx=>by rw[u,a0e hx]
 have f:∀b∈c,cu G ow b:=λb hb=>by
  obtain⟨i,o,l⟩:=(cm H).2 hb;exact aM.2 ⟨d,j,i+1,o,k,l⟩
 have p:∀b,cu G1 ow1 b↔(cu G ow b/\b∉c)\/b∈nest':=by
  intro b;rw[aM];constructor
  ·rintro⟨d',j',i,o,g,l⟩
   by_cases hx:d'=d/\j'=j
   ·obtain⟨rfl,rfl⟩:=hx
    cases i with
    |zero=>
     rw[x]at l;refine .inl ⟨aM.2 ⟨d',j',0,o,k,l⟩,λhb=> ?_⟩;obtain⟨i,K,A⟩:=(cm H).2 hb;obtain⟨_,_,e⟩:=w.apart _ _ _ _ _ _ _ _ _ k k l A
     cases e
    |succ i=>exact .inr ((cm F).1 ⟨i,o,l⟩)
   ·rw[a _ _ hx]at g
    rw[z _ _ hx]at l;refine .inl ⟨aM.2 ⟨d',j',i,o,g,l⟩,λhb=> ?_⟩;obtain⟨O,K,A⟩:=(cm H).2 hb;obtain⟨B,C,_⟩:=w.apart _ _ _ _ _ _ _ _ _ g k l A;exact hx ⟨B,C⟩
  ·rintro(⟨hb,D⟩|hb)
   ·obtain⟨d',j',i,o,g,l⟩:=aM.1 hb
    by_cases hx:d'=d/\j'=j
    ·obtain⟨rfl,rfl⟩:=hx
     cases i with
     |zero=>exact⟨d',j',0,o,J,by rw[x];exact l⟩
     |succ i=>exact absurd ((cm H).1 ⟨i,o,l⟩) D
    ·exact⟨d',j',i,o,by rw[a _ _ hx];exact g,by rw[z _ _ hx];exact l⟩
   ·obtain⟨i,o,l⟩:=(cm F).2 hb
    exact⟨d,j,i+1,o,J,l⟩
 have E:∀b r,cW F1 G ow b->am h b=some r->cW F2 G1 ow1 b/\am h b=some r:=by
  intro b r hb L;refine⟨⟨λhx=> ?_,λhx=> ?_⟩,L⟩
  ·rcases(h3 b hx).2 with hx|hx
   ·exact hb.1 hx
   ·exact hb.2 (f b hx)
  ·rcases(p b).1 hx with⟨hx,_⟩|hx
   ·exact hb.2 hx
   ·rcases h1 b hx with hx|hx
    ·exact hb.2 (f b hx)
    ·exact hb.1 hx
 have hE:∀d' j',EC (aj ow d' j') (aj ow1 d' j'):=by
  intro d' j';rw[u];split
  ·rename_i e
   rw[e.1,e.2,Z];exact S
  ·exact .refl _
 have M:∀s v,Sv F1 G ow h s v->Sv F2 G1 ow1 h s v:=λs v e=>cC.mono (λd' j' _=>x d' j') hE E (λb r L=>⟨r,L,rfl⟩) e
 refine⟨⟨λd' j' o hx=> ?_,λd1 j1 V d2 j2 N b o1 o2 W X m n=> ?_,λb hb hx=> ?_⟩,M,p,x⟩
 ·by_cases y:d'=d/\j'=j
  ·obtain⟨rfl,rfl⟩:=y
   rw[u]at hx;simp at hx;subst hx;exact U E M
  ·rw[a _ _ y]at hx
   exact dl.mono (λd' j' _=>x d' j') hE E (λb r L=>⟨r,L,rfl⟩) (z _ _ y) (λ_ _ _ _ _=>rfl) (w.obs d' j' o hx)
 ·
  have t:∀ {d' j' O K i o},¬(d'=d/\j'=j)->bx (aj ow1 d' j')->G1 d' j' O=some (b,K)->G1 d j i=some (b,o)->False:=by
   intro d' j' O K i o y P q Y;rw[a _ _ y]at P;rw[z _ _ y]at q
   cases i with
   |zero=>
    rw[x]at Y;obtain⟨B,C,_⟩:=w.apart _ _ _ _ _ _ _ _ _ P k q Y;exact y ⟨B,C⟩
   |succ i=>
    rcases h1 b ((cm F).1 ⟨i,o,Y⟩)with hb|hb
    ·obtain⟨i3,o3,q3⟩:=(cm H).2 hb
     obtain⟨B,C,_⟩:=w.apart _ _ _ _ _ _ _ _ _ P k q q3;exact y ⟨B,C⟩
    ·exact w.notF b (aM.2 ⟨d',j',O,K,P,q⟩) hb
  by_cases c1:d1=d/\j1=j
  ·by_cases c2:d2=d/\j2=j
   ·obtain⟨rfl,rfl⟩:=c1
    obtain⟨rfl,rfl⟩:=c2;refine⟨rfl,rfl,?_⟩
    cases V with
    |zero=>
     cases N with
     |zero=>rfl
     |succ N=>rw[x]at m;exact absurd ((cm F).1 ⟨N,o2,n⟩) (h0 b o1 m)
    |succ V=>
     cases N with
     |zero=>rw[x]at n;exact absurd ((cm F).1 ⟨V,o1,m⟩) (h0 b o2 n)
     |succ N=>
      rw[F]at m n;simp only[a2l,a0x]at m n;obtain⟨b1,m,rfl,_⟩:=m;obtain⟨b2,n,rfl,_⟩:=n;obtain⟨l1,B⟩:=a0p.1 m;obtain⟨l2,C⟩:=a0p.1 n;rw[(List.getElem_inj T).1 (B.trans C.symm)]
   ·obtain⟨rfl,rfl⟩:=c1
    exact(t c2 X n m).elim
  ·by_cases c2:d2=d/\j2=j
   ·obtain⟨rfl,rfl⟩:=c2
    exact(t c1 W m n).elim
   ·rw[a _ _ c1]at W
    rw[a _ _ c2]at X;rw[z _ _ c1]at m;rw[z _ _ c2]at n;exact w.apart _ _ _ _ _ _ _ _ _ W X m n
 ·obtain⟨h4,h5⟩:=h3 b hx
  rcases(p b).1 hb with⟨hb,D⟩|hb
  ·rcases h5 with h5|h5
   ·exact w.notF b hb h5
   ·exact D h5
  ·exact h4 hb
end
section
variable {F:Nat->Prop} {G:Gh} {ow ow1:OW} {w:World}
def jR (hF:∀b,F b->b<w.heap.size) (C:bt F G ow w.heap) {s:Sh} (e0:fV s (pk s) ow d j=some ow1):∃W,bt F W ow1 w.heap/\(∀s v,Sv F G ow w.heap s v->Sv F W ow1 w.heap s v)/\(∀b,cu W ow1 b->cu G ow b)/\ow1.length=ow.length/\∃l,aj ow1 d j=some (some (.nrow s l none)):=by
 rcases ug e0 with⟨l,K,rfl⟩|⟨l,p,y,l2,S9,K,X,t,rfl⟩
 ·exact⟨G,C,λ_ _ h=>h,λ_ h=>h,rfl,l,K⟩
 ·obtain⟨e,a⟩:=p
  obtain⟨Y,fps,U,B⟩:=C.obs d j _ K
  cases hg:G d j 0 with
  |none=>simp only[hg]at B;cases B.2.1
  |some q=>
   obtain⟨b,o⟩:=q;simp only[hg]at B;obtain⟨r,et,hb,Z,S0,hj,L,M⟩:=B;obtain⟨q1,q2,q4⟩:=M e a rfl;have S1:e<fps.length:=by omega
   have Ta:e*s.w+s.w<=l.length*s.w:=by
    have:(e+1)*s.w<=l.length*s.w:=a0o _ q1;rw[a6u]at this;exact this
   have S2:dq F G ow w.heap a (bY r (o+e*s.w) s.w):=by
    refine⟨by rw[aZ,q2],λc h1 h2=> ?_⟩;have e1:(bY r (o+e*s.w) s.w)[c]=r[o+e*s.w+c]'(by omega):=by
     have:=aR (r:=r) (o:=o+e*s.w) (n:=s.w) (i:=c) (by omega);rw[a0a h2,a1k (by omega)]at this;exact a1f this
    rw[e1];exact q4 c h1 (by omega)
   obtain⟨f,E,u,S3,hS⟩:=cJ s (x:=y.1) (ow1:=y.2) hF C S2 X;have N:aj y.2 d j=aj ow d j:=by
    rcases E.names d j with e|⟨_,e⟩|hz
    ·exact e
    ·rw[t]at e;cases e
    ·have:=hz.not.1;rw[t]at this;exact absurd trivial this
   rw[K,t]at N
   cases N
   have O:aj y.2 d j≠none:=by rw[t];simp
   obtain⟨S4,P⟩:=cS C E u;have Q:bx (aj ow d j):=by rw[K];trivial
   obtain⟨n1,n2⟩:=iS C Q U;have z:=wx fps f S1;have D:∀x∈f,(∀i o,G d j i≠some (x,o)):=by
    intro x hx i2 o2 S5;obtain⟨d',j',i',J,H,g,R⟩:=(u x).1 hx;obtain⟨rfl,rfl,_⟩:=C.apart _ _ _ _ _ _ _ _ _ H Q g S5;rw[t]at R
    cases R
   have k:∀x,x∈(fps.set e f++[fps[e]]).flatten↔x∈f\/x∈fps.flatten:=λx=>by rw[z.mem_iff,a0k]
   have A:∀x∈fps.flatten,cu G y.2 x:=by
    intro x hx;obtain⟨i,J,g⟩:=(cm U).2 hx;exact aM.2 ⟨d,j,i+1,J,by rw[t];trivial,g⟩
   obtain⟨r1,r2,r3,_⟩:=B6 (F1:=FP F f) (F2:=F) (ob':= .nrow s (l.set e y.1) none) (ow1:=bo y.2 d j (some (.nrow s (l.set e y.1) none))) (nest':=(fps.set e f++[fps[e]]).flatten) S4 t trivial trivial (show EC (some (some (OB.nrow s l (some (e,a))))) (some (some (.nrow s (l.set e y.1) none)))from⟨rfl,by simp⟩) U (λd' j'=>aW O)
    (λx hx=>by
     rcases(k x).1 hx with hx|hx
     ·exact .inr (.inr hx)
     ·exact .inl hx)
    (z.nodup_iff.2 (a2c.2 ⟨S3,n1,λx hx y X S6=>by
     subst S6;obtain⟨i,J,g⟩:=(cm U).2 X;exact D x hx _ _ g⟩))
    (λm J g hx=>by
     rcases(k m).1 hx with hx|hx
     ·exact D m hx 0 J g
     ·exact n2 m J g hx)
    (λm hb'=>⟨λhx=>by
     rcases(k m).1 hx with hx|hx
     ·exact C.notF m (u.own hx) hb'
     ·exact C.notF m (E.own (A m hx)) hb',.inl (.inl hb')⟩)
    (λS Tb=>by
     refine⟨Y,fps.set e f++[fps[e]],λi=>by simp[Gh.put,fc],?_⟩;have:(G.put d j (fc G d j (fps.set e f++[fps[e]]).flatten)) d j 0=some (b,o):=by simp[Gh.put,fc,hg]
     rw[this];refine⟨r,et,hb,by simpa using Z,by simp at S0⊢;omega,λm hb'=> ?_,λi hi hf _=> ?_,λe a hc=>by cases hc⟩
     ·rcases(k m).1 hb' with hb'|hb'
      ·exact cA.cells s hS m hb'
      ·exact hj m hb'
     ·have T:i<(fps.set e f).length:=by simp at hi⊢;omega
      rw[a1h T];by_cases I:i=e
      ·subst I
       simp only[a3m];exact cA.mono S s (λ_ _=>rfl) hS
      ·simp only[a3g (Ne.symm I)]
       have H:i<l.length:=by simpa using hi
       have S7:i<fps.length:=by simpa using T
       refine cA.mono (λm r' hb' S8=>S m r' (eu E u hb') S8) s (λ_ _=>rfl) (L i H S7 (λV hc=>by cases hc;exact I rfl)))
   refine⟨_,r1,λs v h=>r2 s v (P s v h),λm=> ?_,by rw[bG,E.len],l.set e y.1,by rw[aW O];simp⟩;rw[r3]
   rintro(⟨hx,_⟩|hx)
   ·exact E.own hx
   ·rcases(k m).1 hx with hx|hx
    ·exact u.own hx
    ·exact E.own (A m hx)
def Dx (hh:bt F G ow w.heap) {s:Sh} {l:List s.T} (hn:aj ow d j=some (some (.nrow s l none))) {e:Nat} {x:s.T} (hx:l[e]?=some x) {dk:Nat} {ow2:OW}
 (D:cg (bo ow d j (some (.nrow s l (some (e,List.replicate s.w .dead))))) dk (bJ dk s x 0).2=some ow2):
 ∃G3 b o r,bt F G3 (bo ow2 d j (some (.nrow s l (some (e,(bJ dk s x 0).1))))) w.heap/\(∀s' v,Sv F G ow w.heap s' v->Sv F G3 (bo ow2 d j (some (.nrow s l (some (e,(bJ dk s x 0).1))))) w.heap s' v)/\
  (∀b,cu G3 (bo ow2 d j (some (.nrow s l (some (e,(bJ dk s x 0).1))))) b->cu G ow b)/\(bo ow2 d j (some (.nrow s l (some (e,(bJ dk s x 0).1))))).length=ow.length/\
  G d j 0=some (b,o)/\am w.heap b=some r/\o+l.length*s.w<=r.size/\dq F G3 (bo ow2 d j (some (.nrow s l (some (e,(bJ dk s x 0).1))))) w.heap (bJ dk s x 0).1 (bY r (o+e*s.w) s.w):=by
 obtain⟨t,rfl⟩:=a0p.1 hx;obtain⟨Ta,fps,hG,J⟩:=hh.obs d j _ hn
 cases hg:G d j 0 with
 |none=>simp only[hg]at J;rw[J.1]at t;simp at t
 |some q=>
  obtain⟨b,o⟩:=q;simp only[hg]at J;obtain⟨r,et,hb,P,Tb,hj,M,_⟩:=J;have S0:e<fps.length:=by omega
  have Th:e*s.w+s.w<=l.length*s.w:=by
   have:(e+1)*s.w<=l.length*s.w:=a0o _ t;rw[a6u]at this;exact this
  have S1:aj ow d j≠none:=by rw[hn];simp
  have S2:bx (aj ow d j):=by rw[hn];trivial
  obtain⟨n1,n2⟩:=iS hh S2 hG;have u:fps.flatten.Perm (fps[e]++(fps.set e []).flatten):=by
   have:=pg (fps.set e []) e fps[e] (by simp[S0]);rw[List.set_set,a4t]at this;exact this
  obtain⟨m1,m2,m3⟩:=a2c.1 (u.nodup_iff.1 n1);have g:∀z∈(fps.set e []).flatten,z∈fps.flatten:=λz hz=>u.mem_iff.2 (a0k.2 (.inr hz))
  have m:∀z∈fps[e],z∈fps.flatten:=λz hz=>u.mem_iff.2 (a0k.2 (.inl hz))
  have a:∀z∈fps.flatten,cu G ow z:=by
   intro z hz;obtain⟨i,K,f⟩:=(cm hG).2 hz;exact aM.2 ⟨d,j,i+1,K,S2,f⟩
  obtain⟨a1,a2,a3,a4⟩:=B6 (F1:=F) (F2:=FP F fps[e]) (ob':= .nrow s l (some (e,List.replicate s.w .dead))) (ow1:=bo ow d j (some (.nrow s l (some (e,List.replicate s.w .dead))))) (nest':=(fps.set e []).flatten) hh hn trivial trivial
   (show EC (some (some (OB.nrow s l none))) (some (some (.nrow s l (some (e,List.replicate s.w .dead)))))from⟨rfl,rfl⟩) hG (λd' j'=>aW S1)
   (λz hz=> .inl (g z hz)) m2 (λC K f hz=>n2 C K f (g C hz))
   (λz hz=>by
    rcases hz with hz|hz
    ·exact⟨λh=>hh.notF z (a z (g z h)) hz,.inl hz⟩
    ·exact⟨λh=>m3 z hz z h rfl,.inr (m z hz)⟩)
   (λQ y=>by
    refine⟨Ta,fps.set e [],λi=>by simp[Gh.put,fc],?_⟩;have:(G.put d j (fc G d j (fps.set e []).flatten)) d j 0=some (b,o):=by simp[Gh.put,fc,hg]
    rw[this];refine⟨r,et,hb,P,by simpa using Tb,λC B=>hj C (g C B),λi hi hf R=> ?_,λe' p k=> ?_⟩
    ·have S:i≠e:=λh=>R _ (by rw[h])
     simp only[a3g (Ne.symm S)];exact cA.mono Q s (λ_ _=>rfl) (M i hi (by simpa using hf) (λp k=>by cases k))
    ·cases k
     exact⟨t,by simp,λc k hr=>by simp only[a3z];exact .dead _⟩)
  generalize Tj:G.put d j (fc G d j (fps.set e []).flatten)=Ga at a1 a2 a3 a4
  generalize N:bo ow d j (some (.nrow s l (some (e,List.replicate s.w .dead))))=owA at a1 a2 a3 a4 D
  have Tc:∀d' j',aj owA d' j'=if d'=d/\j'=j then some (some (.nrow s l (some (e,List.replicate s.w .dead))))else aj ow d' j':=λd' j'=>by rw[<-N,aW S1]
  have A:aj owA d j=some (some (.nrow s l (some (e,List.replicate s.w .dead)))):=by rw[Tc];simp
  have hS:cA w.heap (cW (FP F fps[e]) Ga owA) s l[e] (bY r (o+e*s.w) s.w) fps[e]:=by
   refine cA.mono (λC r' B Td=>⟨⟨λhx=> ?_,λhx=> ?_⟩,Td⟩) s (λ_ _=>rfl) (M e t S0 (λp k=>by cases k))
   ·rcases hx with hx|hx
    ·exact B.1 hx
    ·exact B.2 (a C (m C hx))
   ·rcases(a3 C).1 hx with⟨hx,_⟩|hx
    ·exact B.2 hx
    ·exact B.2 (a C (g C hx))
  obtain⟨G2,c1,c2,c3,c4,c5⟩:=sW a1 hS m1 (λz hz hF=>hh.notF z (a z (m z hz)) hF) D;obtain⟨U,S3,S4⟩:=eY D;have E:aj ow2 d j=some (some (.nrow s l (some (e,List.replicate s.w .dead)))):=by
   rw[S4];split
   ·rename_i k
    rcases S3 with h|h
    ·exact absurd h k.2
    ·rw[<-k.1]at h;rw[c9 h]at A;cases A
   ·exact A
  have Tk:G2 d j=Ga d j\/(bJ dk s l[e] 0).2=[]:=by
   by_cases k:d=dk
   ·right
    rcases S3 with h|h
    ·exact h
    ·rw[<-k]at h;rw[c9 h]at A;cases A
   ·exact .inl (c5 d j k)
  have S5:aj ow2 d j≠none:=by rw[E];simp
  obtain⟨S6,H,L,O⟩:=c1.obs d j _ E;have I:bx (aj ow2 d j):=by rw[E];trivial
  obtain⟨k1,k2⟩:=iS c1 I L;have S7:G2 d j 0=some (b,o):=by
   by_cases k:d=dk
   ·
    have y:=c3 (.rp d j 0 [] e 0) (.pointer (some ⟨b,o+e*s.w+0,none⟩)) (by
     refine .rp ?_
     rw[A];exact⟨t,b,o,by rw[a4,hg],rfl⟩)
    have Ti:=c3 (.wh d j 0 []) (.slice (some ⟨b,o,none⟩) l.length l.length) (by
     refine .wh ?_
     simp only[cZ,A,a2q];exact⟨by omega,_,_,rfl,a1n _,.inr ⟨b,o,o,r,by rw[a4,hg],rfl,aS hb,λ_=>by simp,P⟩⟩)
    cases y with
    |rp y=>
    rw[E]at y;obtain⟨_,C,K,f,hv⟩:=y;simp only[a2z,Value.pointer.injEq,a0i,Addr.mk.injEq]at hv;obtain⟨rfl,hv,_⟩:=hv;have:K=o:=by omega
    rw[this]at f;exact f
   ·rw[c5 d j k,a4,hg]
  simp only[S7]at O;obtain⟨V,Te,W,S8,S9,Tf,X,Y⟩:=O;have:V=r:=by
   rw[hb]at W
   cases W
   rfl
  subst this;obtain⟨q1,q2,q4⟩:=Y e _ rfl;have Z:(bJ dk s l[e] 0).1.length=s.w:=by rw[c2.1,aZ]
  obtain⟨f1,f2,f3,f4⟩:=B6 (F1:=F) (F2:=F) (ob':= .nrow s l (some (e,(bJ dk s l[e] 0).1))) (ow1:=bo ow2 d j (some (.nrow s l (some (e,(bJ dk s l[e] 0).1))))) (nest':=H.flatten) c1 E trivial trivial
   (show EC (some (some (OB.nrow s l (some (e,List.replicate s.w .dead))))) (some (some (.nrow s l (some (e,(bJ dk s l[e] 0).1)))))from⟨rfl,rfl⟩) L (λd' j'=>aW S5)
   (λz hz=> .inl hz) k1 k2
   (λz hz=>⟨λh=>by
    obtain⟨i,K,f⟩:=(cm L).2 h;exact c1.notF z (aM.2 ⟨d,j,i+1,K,I,f⟩) hz,.inl hz⟩)
   (λQ y=>by
    refine⟨S6,H,λi=>by simp[Gh.put,fc],?_⟩;have:(G2.put d j (fc G2 d j H.flatten)) d j 0=some (b,o):=by simp[Gh.put,fc,S7]
    rw[this];refine⟨V,Te,W,S8,S9,Tf,λi hi hf R=> ?_,λe' p k=> ?_⟩
    ·have S:i≠e:=λh=>R _ (by rw[h])
     exact cA.mono Q s (λ_ _=>rfl) (X i hi hf (λp k=>by cases k;exact S rfl))
    ·cases k
     refine⟨t,Z,λc k hr=> ?_⟩;have h2:c<(bY V (o+e*s.w) s.w).length:=by rw[aZ];omega
     have:=y _ _ (c2.2 c k h2);have e1:(bY V (o+e*s.w) s.w)[c]=V[o+e*s.w+c]'hr:=by
      have:=aR (r:=V) (o:=o+e*s.w) (n:=s.w) (i:=c) (by omega);rw[a0a h2,a1k hr]at this;exact a1f this
     rw[e1]at this;exact this)
  refine⟨_,b,o,V,f1,λs' v h=>f2 s' v (c3 s' v (a2 s' v h)),λz hz=> ?_,by rw[bG,U,<-N,bG],rfl,aS hb,P,⟨c2.1,λi h1 h2=>f2 _ _ (c2.2 i h1 h2)⟩⟩;have Tg:cu G2 ow2 z:=by
   rcases(f3 z).1 hz with⟨hz,_⟩|hz
   ·exact hz
   ·obtain⟨i,K,f⟩:=(cm L).2 hz
    exact aM.2 ⟨d,j,i+1,K,I,f⟩
  rcases(c4 z).1 Tg with hz|hz
  ·rcases(a3 z).1 hz with⟨hz,_⟩|hz
   ·exact hz
   ·exact a z (g z hz)
  ·exact a z (m z hz)
def FI (e:∀b,F b->b<w.heap.size) (a:bt F G ow w.heap) (v:SV):∃c,Tr F G ow w c (kV ow v) w/\∀b,cu c (kV ow v) b->cu G ow b:=by
 unfold kV;split
 ·split
  ·split
   ·rename_i f
    obtain⟨c,g,i,d,j,_⟩:=jR e a f;exact⟨c,⟨g,i,.refl _ _,λb k=> .inl (d b k),j⟩,d⟩
   ·exact⟨G,.refl a,λ_ h=>h⟩
  ·exact⟨G,.refl a,λ_ h=>h⟩
 ·exact⟨G,.refl a,λ_ h=>h⟩
def ui (e:∀b,F b->b<w.heap.size) (c:bt F G ow w.heap) (l:List SV):∃a,Tr F G ow w a (kg l ow) w/\∀b,cu a (kg l ow) b->cu G ow b:=by
 unfold kg
 generalize l.flatMap Df=vs
 induction vs generalizing G ow with
 |nil=>exact⟨G,.refl c,λ_ h=>h⟩
 |cons v r ih=>
  obtain⟨a,d,f⟩:=FI e c v;obtain⟨g,i,j⟩:=ih d.hrep;exact⟨g,d.trans i,λb k=>f b (j b k)⟩
end
end Go.Pev
namespace Go.Pev
variable {d j c e:Nat} {s:Sh} {p:SV}
section
variable {F:Nat->Prop} {G:Gh} {ow ow1:OW} {w:World} {P:Program}
def ou {a:Gh} (c:bt F a ow1 w.heap) (d:∀s v,Sv F G ow w.heap s v->Sv F a ow1 w.heap s v) (e:∀b,cu a ow1 b->cu G ow b) (f:ow1.length=ow.length):Tr F G ow w a ow1 w:=⟨c,d,.refl _ _,λb g=> .inl (e b g),f⟩
def zp {t:TypeId} (M:bt F G ow w.heap) (N:∀b,F b->b<w.heap.size) {E:Value} (O:Sv F G ow w.heap p E) (f:P9 ow p=some (d,j,e,c,s)) {dk:Nat} {Q:SV×OW->Prop} (h:(BM P t p d j e c s ow dk).can Q):∃x ow' v H,Q (x,ow')/\(Instr.loadAt t E).run P w= .ok v w/\Tr F G ow w H ow' w/\Sv F H ow' w.heap x v:=by
 have q:∃ver,p= .rp d j ver [] e c:=by
  unfold P9 at f;split at f
  ·split at f
   ·cases f;exact⟨_,rfl⟩
   ·cases f
  ·cases f
 obtain⟨ver,rfl⟩:=q;unfold BM at h;split at h
 ·exact h.elim
 ·rename_i ow1 R
  obtain⟨I,u,J,S,T,_⟩:=jR N M R;have g:Tr F G ow w I ow1 w:=ou u J S T;have a:=J _ _ O;split at h
  ·exact h.elim
  ·rename_i r U
   obtain⟨_,K⟩:=g5 U;split at h
   ·have h:=bc.can_bind _ h
    obtain⟨x,v,V,i,y⟩:=mB u a h;exact⟨x,ow1,v,I,V,i,g,y⟩
   ·obtain⟨x,y,h⟩:=h
    dsimp only at h;split at h
    ·rename_i ow2 k
     split at h
     ·rename_i v W
      obtain⟨X,b,o,rr,f1,f2,Y,Z,hg,z,S0,l⟩:=Dx u K y k
      cases a with
      |rp a=>
      simp only[K]at a;obtain⟨A,b',o',m,rfl⟩:=a;rw[hg]at m
      cases m
      have B:(e+1)*r.1.w<=r.2.length*r.1.w:=a0o _ A;rw[a1a,a2t]at B;have S1:(bJ dk r.1 x 0).1.length=r.1.w:=by rw[l.1,aZ]
      obtain⟨⟨d',hu⟩,L,C,D⟩:=eJ (l.drop c) W;simp only[a2w]at C;refine⟨_,_,_,X,h,eT hu z rfl,g.trans (ou f1 f2 Y Z),?_⟩;rw[gm (n:=r.1.w)];exact D
     ·exact h.elim
    ·exact h.elim
def FJ (E:bt F G ow w.heap) (hF:∀b,F b->b<w.heap.size) {l:List s.T} {a:List SV} (J:aj ow d j=some (some (.nrow s l (some (e,a))))) {f:List SV} {vs:List Value} (t:dq F G ow w.heap f vs)
 {b o:Nat} (H:G d j 0=some (b,o)) {r:Array Value} {et:TypeId} (S:w.heap[b]?=some (.cells r et (0,0))) (U:c+f.length<=a.length):
 o+e*s.w+c+vs.length<=r.size/\Tr F G ow w G (bo ow d j (some (.nrow s l (some (e,a.take c++f++a.drop (c+f.length)))))) (w.setCells b (o+e*s.w+c) vs):=by
 obtain⟨K,fps,x,y⟩:=E.obs d j _ J;simp only[H]at y;obtain⟨r',S0,g,L,M,hj,z,A⟩:=y;rw[S]at g
 cases g
 obtain⟨V,q2,W⟩:=A e a rfl;have X:e*s.w+s.w<=l.length*s.w:=by
  have:(e+1)*s.w<=l.length*s.w:=a0o _ V;rw[a6u]at this;exact this
 have Y:f.length=vs.length:=t.1;have k:o+e*s.w+c+vs.length<=r.size:=by omega
 refine⟨k,rD (ob':= .nrow s l (some (e,a.take c++f++a.drop (c+f.length)))) E hF J trivial ⟨rfl,rfl⟩ trivial H S k λN m B=> ?_⟩;have v:bx (aj ow d j):=by rw[J];trivial
 have n:∀u∈fps.flatten,(w.setCells b (o+e*s.w+c) vs).heap[u]?=w.heap[u]?:=by
  intro u g;obtain⟨i,o',C⟩:=(cm x).2 g;refine World.heap_setCells_other w b _ _ (cu.lt E (aM.2 ⟨d,j,i+1,o',v,C⟩)) λO=> ?_
  subst O;obtain⟨_,_,e⟩:=E.apart _ _ _ _ _ _ _ _ _ v v C H
  cases e
 refine⟨K,fps,x,?_⟩;simp only[H];refine⟨_,et,N,by rw[bV k];exact L,M,λu g=>by rw[n u g];exact hj u g,λi hi Z P=> ?_,λe' I Q=> ?_⟩
 ·have R:i≠e:=λh=>P _ (by rw[h])
  have h1:=z i hi Z (λa U=>by cases U;exact R rfl);have p:bY (nI r (o+e*s.w+c) vs) (o+i*s.w) s.w=bY r (o+i*s.w) s.w:=by
   rcases a3u i e with hlt|hge
   ·have:(i+1)*s.w<=e*s.w:=a0o _ hlt
    rw[a1a,a2t]at this;exact cn k
   ·have:(e+1)*s.w<=i*s.w:=a0o _ (by omega)
    rw[a1a,a2t]at this;exact im k
  rw[p];exact cA.mono B s (λu g=>n u (ig Z g)) h1
 ·cases Q
  refine⟨V,by simp;omega,λq hq hr=> ?_⟩;have p:=ik k (o+e*s.w+q);rw[a1k hr]at p;simp only[a0m,a1m,a2w]at hq;by_cases h2:q<c
  ·rw[ifNegQ,a1k (by omega)]at p
   have D:(a.take c++f++a.drop (c+f.length))[q]=a[q]'(by omega):=by
    simp only[a1q];rw[a1h (by simp;omega),a4x]
   rw[a1f p,D];exact m _ _ (W q (by omega) (by omega))
  ·by_cases h3:q<c+vs.length
   ·rw[ifPosQ,a0a (by omega)]at p
    have D:(a.take c++f++a.drop (c+f.length))[q]=f[q-c]'(by omega):=by
     rw[a1h (by simp;omega),a1u (by simp;omega)]
     congr 1
     simp;omega
    have e3:o+e*s.w+q-(o+e*s.w+c)=q-c:=by omega
    simp only[e3]at p;rw[a1f p,D];exact m _ _ (t.2 (q-c) (by omega) (by omega))
   ·rw[ifNegQ,a1k (by omega)]at p
    have D:(a.take c++f++a.drop (c+f.length))[q]=a[q]'(by omega):=by
     rw[a1u (by simp;omega),a6o]
     congr 1
     simp;omega
    rw[a1f p,D];exact m _ _ (W q (by omega) (by omega))
def LW {f1 a b c d e:List Nat} (h:(a++c).Perm (d++e)):((f1++a)++(b++c)).Perm ((b++d)++(f1++e)):=by
 refine a3n.2 λx=> ?_
 have:=a3n.1 h x;simp only[a6p]at this⊢;omega
def qu:(s:Sh)-> {F:Nat->Prop}-> {ow ow1:OW}->(∀b,F b->b<w.heap.size)->bt F G ow w.heap-> {y:s.T}-> {vs:List Value}-> {n:List Nat}->cA w.heap (cW F G ow) s y vs n->(c:Nat)-> {d:List SV}-> {g:List Value}->dq F G ow w.heap d g->
 {y':s.T}->jO s y c d ow=some (y',ow1)->
 ∃o B C,dt ow ow1/\ju G ow ow1 o/\o.Nodup/\c+g.length<=vs.length/\cA w.heap (cW (FP F o) G ow1) s y' (vs.take c++g++vs.drop (c+g.length)) B/\(B++C).Perm (n++o)
 | .cons a b,F,ow,ow1,hF,hh,y,vs,n,e,0,d,g,hn,y',h=>by
  obtain⟨D,E,f1,f2,rfl,rfl,Q,O⟩:=e
  match d,hn,h with
  |[],hn,h=>
   simp only[jO,a0i,a0x]at h;obtain⟨rfl,rfl⟩:=h;have:g=[]:=a0s hn.1.symm;subst this;exact⟨[],f1++f2,[],.refl _,.refl _ _,a2h,by simp,cA.mono (λp P hb' f=>⟨HU hb',f⟩) (.cons a b) (λ_ _=>rfl) (by simpa using⟨D,E,f1,f2,rfl,rfl,Q,O⟩),by simp⟩
  |s0::sr,hn,h=>
   simp only[jO]at h;obtain⟨u,H,rfl,I,J⟩:=hn.uncons;split at h
   ·rename_i x t
    split at h
    ·rename_i z R
     simp only[a0i,a0x]at h;obtain⟨rfl,rfl⟩:=h;obtain⟨m,q,r,K,L⟩:=cJ a (x:=x.1) (ow1:=x.2) hF hh (.cons I .nil) t;obtain⟨S,M⟩:=cS hh q r;have U:∀p,FP F m p->p<w.heap.size:=by
      intro p hb';rcases hb' with hb'|hb'
      ·exact hF p hb'
      ·exact cu.lt hh (r.own hb')
     obtain⟨V,l,C,v,A,n2,Y,N,j⟩:=qu b U S (cA.mono (λp P hb' f=>⟨eu q r hb',f⟩) b (λ_ _=>rfl) O) 0 (y':=z.1) (ow1:=z.2) ⟨J.1,λi Z h2=>M _ _ (J.2 i Z h2)⟩ R;refine⟨m++V,m++l,f1++C,q.trans v,λx=> ?_,a2c.2 ⟨K,n2,λx t y hy W=> ?_⟩,by simp at Y⊢;omega,⟨u,H++E.drop H.length,m,l,by simp,rfl,?_,?_⟩,LW j⟩
     ·rw[FE.trans q v,<-r x,<-A x,a0k]
     ·subst W
      exact r.notOwn hh q t (A.own hy)
     ·exact cA.mono (λp P hb' f=>⟨fz (λX t=>mH.2 t) (eu v A hb'),f⟩) a (λ_ _=>rfl) L
     ·have N:=cA.mono (λp P hb' f=>⟨fz (λX t=>mH.2 t) hb',f⟩) b (λ_ _=>rfl) N
      simpa using N
    ·cases h
   ·cases h
 | .cons a b,F,ow,ow1,hF,hh,y,vs,n,e,c+1,d,g,hn,y',h=>by
  obtain⟨D,E,f1,f2,rfl,rfl,Q,O⟩:=e;simp only[jO]at h;split at h
  ·rename_i z R
   simp only[a0i,a0x]at h;obtain⟨rfl,rfl⟩:=h;obtain⟨V,l,C,v,A,n2,Y,N,j⟩:=qu b hF hh O c (y':=z.1) (ow1:=z.2) hn R;refine⟨V,f1++l,C,v,A,n2,by simp;omega,⟨D,E.take c++g++E.drop (c+g.length),f1,l,by simp[show c+1+g.length=c+g.length+1 by omega],rfl,?_,N⟩,?_⟩
   ·exact cA.mono (λp P hb' f=>⟨eu v A hb',f⟩) a (λ_ _=>rfl) Q
   ·simp only[a1q]
    exact j.append_left f1
  ·cases h
 | .nil,F,ow,ow1,hF,hh,y,vs,n,e,c,d,g,hn,y',h=>by
  obtain⟨rfl,rfl⟩:=e
  match c,d,hn,h with
  |0,[],hn,h=>
   simp only[jO,a0i,a0x]at h;obtain⟨_,rfl⟩:=h;have:g=[]:=a0s hn.1.symm;subst this;exact⟨[],[],[],.refl _,.refl _ _,a2h,by simp,⟨rfl,rfl⟩,by simp⟩
  |0,_::_,_,h=>simp[jO]at h
  |_+1,_,_,h=>simp[jO]at h
 | .own k,F,ow,ow1,hF,hh,y,vs,n,e,c,d,g,hn,y',h=>by
  obtain⟨D,rfl,e⟩:=e
  match c,d,hn,h with
  |0,[s0],hn,h=>
   obtain⟨u,rfl,I⟩:=hn.single';obtain⟨m,q,r,K,L⟩:=cJ (.own k) (x:=y') (ow1:=ow1) hF hh (.cons I .nil) h;exact⟨m,m,n,q,r,K,by simp,by simpa using L,a6v⟩
  |0,[],_,h=>simp[jO]at h
  |0,_::_::_,_,h=>simp[jO]at h
  |_+1,_,_,h=>simp[jO]at h
 | .rows s,F,ow,ow1,hF,hh,y,vs,n,e,c,d,g,hn,y',h=>by
  obtain⟨D,rfl,e⟩:=e
  match c,d,hn,h with
  |0,[s0],hn,h=>
   obtain⟨u,rfl,I⟩:=hn.single';obtain⟨m,q,r,K,L⟩:=cJ (.rows s) (x:=y') (ow1:=ow1) hF hh (.cons I .nil) h;exact⟨m,m,n,q,r,K,by simp,by simpa using L,a6v⟩
  |0,[],_,h=>simp[jO]at h
  |0,_::_::_,_,h=>simp[jO]at h
  |_+1,_,_,h=>simp[jO]at h
 | .pur _,_,_,_,_,_,_,_,_,_,_,_,_,_,_,h=>by simp[jO]at h
 | .row _,_,_,_,_,_,_,_,_,_,_,_,_,_,_,h=>by simp[jO]at h
 | .nrw _,_,_,_,_,_,_,_,_,_,_,_,_,_,_,h=>by simp[jO]at h
 | .box _,_,_,_,_,_,_,_,_,_,_,_,_,_,_,h=>by simp[jO]at h
 | .agg _,_,_,_,_,_,_,_,_,_,_,_,_,_,_,h=>by simp[jO]at h
 | .fn _ _ _,_,_,_,_,_,_,_,_,_,_,_,_,_,_,h=>by simp[jO]at h
 | .ign,_,_,_,_,_,_,_,_,_,_,_,_,_,_,h=>by simp[jO]at h
 | .nl,_,_,_,_,_,_,_,_,_,_,_,_,_,_,h=>by simp[jO]at h
def k6 {h:Array Obj} (p:bt F G ow h) {i b o:Nat} (hi:bx (aj ow d j)) (a:G d j i=some (b,o)):∃r et,h[b]?=some (Obj.cells r et (0,0)):=by
 have f:∀c,aj ow d j=some (some c)->bx (some (some c))->∃r et,h[b]?=some (Obj.cells r et (0,0)):=by
  intro c g hi;have:=p.obs d j c g
  cases c with
  |box cells=>
   obtain⟨m,s,t,r,et,e,n,_⟩:=this
   cases i with
   |zero=>rw[a]at e;cases e;exact⟨r,et,n⟩
   |succ i=>rw[m]at a;cases a
  |row k ver l=>
   obtain⟨m,_,this⟩:=this
   cases i with
   |zero=>
    simp only[a]at this;obtain⟨r,et,n,_⟩:=this;exact⟨r,et,n⟩
   |succ i=>rw[m]at a;cases a
  |nrow k l foc=>exact wr this a
  |frow _ _ _=>exact hi.elim
  |lrow _=>exact hi.elim
 generalize q:aj ow d j=x at hi
 match x,hi with
 |some (some c),hi=>exact f c q hi
def Dy {a b:Option OB}:bo (bo ow d j a) d j b=bo ow d j b:=by
 unfold bo
 cases h:ow[d]? with
 |none=>simp[h]
 |some l=>
  obtain⟨c,_⟩:=a0p.1 h;simp[c]
def LX (a:P9 ow p=some (d,j,e,c,s)):(∃ver,p= .rp d j ver [] e c)/\∃l b,aj ow d j=some (some (.nrow s l b)):=by
 unfold P9 at a;split at a
 ·split at a
  ·rename_i f
   cases a
   exact⟨⟨_,rfl⟩,_,_,aA f⟩
  ·cases a
 ·cases a
def zq {a d b:List SV} (h:js a c d=some b):c+d.length<=a.length/\b=a.take c++d++a.drop (c+d.length):=by
 unfold js at h;split at h
 ·rename_i e
  cases h
  exact⟨e,rfl⟩
 ·cases h
def wA {t:TypeId} (hh:bt F G ow w.heap) (hF:∀b,F b->b<w.heap.size) {x:SV} {pv xv:Value} (hp:Sv F G ow w.heap p pv) (hx:Sv F G ow w.heap x xv) (ht:P9 ow p=some (d,j,e,c,s)) {Q:OW->Prop} (h:(v6 P t x d j e c s ow).can Q):∃ow' w' G',Q ow'/\(Instr.storeAt t pv xv).run P w= .ok () w'/\Tr F G ow w G' ow' w':=by
 obtain⟨⟨ver,rfl⟩,_⟩:=LX ht;unfold v6 at h;split at h
 ·exact h.elim
 rename_i Tf S8;obtain⟨i,hi⟩:=om S8;obtain⟨vs,Tg,N,h1,hl⟩:=fk hx S8;have Ua:Tf.length=vs.length:=N.1;split at h
 ·rename_i ow1 h0
  have h0:=BO h0;obtain⟨M,g1,g2,g3,g4,_⟩:=jR hF hh h0;have Tw:Tr F G ow w M ow1 w:=ou g1 g2 g3 g4;have S1:=g2 _ _ hp;have Th:dq F M ow1 w.heap Tf vs:=⟨N.1,λi h1 h2=>g2 _ _ (N.2 i h1 h2)⟩;split at h
  ·exact h.elim
  ·rename_i r hr
   obtain⟨_,hn⟩:=g5 hr;obtain⟨rs,l⟩:=r;obtain⟨y,hy,h⟩:=h;dsimp only at h hn hy;split at h
   ·rename_i z hz
    split at h
    ·rename_i r2 Tx
     split at h
     ·rename_i Ti
      obtain⟨_,C⟩:=g5 Tx;obtain⟨a,l2⟩:=r2;dsimp only at Ti C;subst Ti;obtain⟨O,rfl⟩:=a0p.1 hy
      cases S1 with
      |rp S1=>
      simp only[hn]at S1;obtain⟨_,b,o,hG,rfl⟩:=S1;obtain⟨Tj,fps,S2,I⟩:=g1.obs d j _ hn;simp only[hG]at I;obtain⟨r,et,hb,Tk,Ud,hj,R,_⟩:=I;have Tl:e<fps.length:=by omega
      have Ub:e*a.w+a.w<=l.length*a.w:=by
       have:(e+1)*a.w<=l.length*a.w:=a0o _ O;rw[a6u]at this;exact this
      have Tm:bx (aj ow1 d j):=by rw[hn];trivial
      obtain⟨n1,n2⟩:=iS g1 Tm S2;obtain⟨S,g,H,hT,hf,Ty,Tz,hS,T⟩:=qu a hF g1 (R e O Tl (λu B=>by cases B)) c Th (y':=z.1) (ow1:=z.2) hz;rw[aZ]at Tz;have Tn:aj z.2 d j=aj ow1 d j:=by
       rcases hT.names d j with e|⟨_,e⟩|hz
       ·exact e
       ·rw[C]at e;cases e
       ·have:=hz.not.1;rw[C]at this;exact absurd trivial this
      rw[hn,C]at Tn;obtain rfl:l=l2:=by simpa using Tn.symm
      obtain⟨T0,To⟩:=cS g1 hT hf;have S9:∀x∈S,(∀i o,M d j i≠some (x,o)):=by
       intro x hx i2 o2 T1;obtain⟨d',j',i',o',L,m,Tp⟩:=(hf x).1 hx;obtain⟨rfl,rfl,_⟩:=g1.apart _ _ _ _ _ _ _ _ _ L Tm m T1;rw[C]at Tp
       cases Tp
      have J:∀x∈fps.flatten,cu M z.2 x:=by
       intro x hx;obtain⟨i,o',m⟩:=(cm S2).2 hx;exact aM.2 ⟨d,j,i+1,o',by rw[C];trivial,m⟩
      have Tq:(fps.set e g++[H]).flatten.Perm (S++fps.flatten):=by
       have h1:=wx fps g Tl;refine a3n.2 λx=> ?_
       have h1:=a3n.1 h1 x;have h2:=a3n.1 T x;simp only[a4m,a3l,a8i,a2m,a6p]at h1 h2⊢;omega
      have A:∀x,x∈(fps.set e g++[H]).flatten↔x∈S\/x∈fps.flatten:=λx=>by rw[Tq.mem_iff,a0k]
      have D:∀x∈(fps.set e g++[H]).flatten,∃r et,w.heap[x]?=some (Obj.cells r et (0,0)):=by
       intro x hx;rcases(A x).1 hx with hx|hx
       ·have T2:x∈g++H:=T.mem_iff.2 (a0k.2 (.inr hx))
        rcases a0k.1 T2 with hx'|hx'
        ·exact cA.cells a hS x hx'
        ·
         obtain⟨d',j',i',o',L,m,_⟩:=(hf x).1 hx;exact k6 g1 L m
       ·exact hj x hx
      have Ts:aj z.2 d j≠none:=by rw[C];simp
      let ob1:OB:= .nrow a l (some (e,List.replicate a.w .dead))
      have Tc:∀(ok:Nat->Prop) (GG:Gh) (Tt:OW) (c:Nat) (B:c<(List.replicate a.w SV.dead).length) (hr:o+e*a.w+c<r.size),cC w.heap ok GG Tt (List.replicate a.w SV.dead)[c] r[o+e*a.w+c]:=λok GG Tt c B hr=>by
       simp only[a3z];exact .dead _
      have U:∀(i:Nat) (hi:i<l.length) (hf:i<(fps.set e g++[H]).length) (S3:i≠e),∃S4:i<fps.length,(fps.set e g++[H])[i]=fps[i]:=λi hi hf S3=>by
       have Td:i<(fps.set e g).length:=by simp;omega
       refine⟨by omega,?_⟩;rw[a1h Td,a3g (Ne.symm S3)]
      obtain⟨a1,a2,a3,a4⟩:=B6 (F1:=FP F S) (F2:=F) (ob':=ob1) (ow1:=bo z.2 d j (some ob1)) (nest':=(fps.set e g++[H]).flatten) T0 C trivial trivial
       (show EC (some (some (OB.nrow a l none))) (some (some ob1))from⟨rfl,rfl⟩) S2 (λd' j'=>aW Ts)
       (λx hx=>by
        rcases(A x).1 hx with hx|hx
        ·exact .inr (.inr hx)
        ·exact .inl hx)
       (Tq.nodup_iff.2 (a2c.2 ⟨Ty,n1,λx hx y hy T3=>by
        subst T3;obtain⟨i,o',m⟩:=(cm S2).2 hy;exact S9 x hx _ _ m⟩))
       (λk o' m hx=>by
        rcases(A k).1 hx with hx|hx
        ·exact S9 k hx 0 o' m
        ·exact n2 k o' m hx)
       (λk f=>⟨λhx=>by
        rcases(A k).1 hx with hx|hx
        ·exact g1.notF k (hf.own hx) f
        ·exact g1.notF k (hT.own (J k hx)) f,.inl (.inl f)⟩)
       (λT4 N=>by
        refine⟨Tj,fps.set e g++[H],λi=>by simp[Gh.put,fc],?_⟩;have:(M.put d j (fc M d j (fps.set e g++[H]).flatten)) d j 0=some (b,o):=by simp[Gh.put,fc,hG]
        rw[this];refine⟨r,et,hb,Tk,by simp;omega,D,λi hi S5 S3=> ?_,λe' u B=> ?_⟩
        ·have V:i≠e:=λh=>S3 _ (by rw[h])
         obtain⟨S4,e1⟩:=U i hi S5 V;rw[e1];exact cA.mono (λk W f K=>T4 k W (eu hT hf f) K) a (λ_ _=>rfl) (R i hi S4 (λu B=>by cases B))
        ·cases B
         exact⟨O,by simp,λc B hr=>Tc _ _ _ c B hr⟩)
      have X:∀i,(M.put d j (fc M d j (fps.set e g++[H]).flatten)) d j (i+1)=((fps.set e g++[H]).flatten[i]?).map λb=>(b,0):=λi=>by simp[Gh.put,fc]
      generalize Ue:M.put d j (fc M d j (fps.set e g++[H]).flatten)=G2 at a1 a2 a3 a4 X
      generalize Y:bo z.2 d j (some ob1)=owA at a1 a2 a3 a4
      have Tu:aj owA d j=some (some ob1):=by rw[<-Y,aW Ts];simp
      have Z:bx (aj owA d j):=by rw[Tu];trivial
      have T5:Tr F M ow1 w G2 owA w:=ou a1 (λs' v h=>a2 s' v (To s' v h)) (λk f=>by
       rcases(a3 k).1 f with⟨hx,_⟩|hx
       ·exact hT.own hx
       ·rcases(A k).1 hx with hx|hx
        ·exact hf.own hx
        ·exact hT.own (J k hx)) (by rw[<-Y,bG,hT.len])
      have Ta:∀k W,cW (FP F S) M z.2 k->am w.heap k=some W->cW F G2 owA k/\am w.heap k=some W:=λk W f K=>⟨⟨λhx=>f.1 (.inl hx),λhx=>by
       rcases(a3 k).1 hx with⟨hx,_⟩|hx
       ·exact f.2 hx
       ·rcases(A k).1 hx with hx|hx
        ·exact f.1 (.inr hx)
        ·exact f.2 (J k hx)⟩,K⟩
      have Te:G2 d j 0=some (b,o):=by rw[a4,hG]
      have E:o+e*a.w+c+vs.length<=r.size:=by omega
      have S0:∀k∈(fps.set e g++[H]).flatten,(w.setCells b (o+e*a.w+c) vs).heap[k]?=w.heap[k]?:=by
       intro k f;obtain⟨i,o',m⟩:=(cm X).2 f;refine World.heap_setCells_other w b _ _ (cu.lt a1 (aM.2 ⟨d,j,i+1,o',Z,m⟩)) λT6=> ?_
       subst T6;obtain⟨_,_,e⟩:=a1.apart _ _ _ _ _ _ _ _ _ Z Z m Te
       cases e
      have hW:Tr F G2 owA w G2 (bo owA d j (some (.nrow a (l.set e z.1) none))) (w.setCells b (o+e*a.w+c) vs):=rD (ob':= .nrow a (l.set e z.1) none) a1 hF Tu trivial ⟨rfl,by simp⟩ trivial Te hb E λT7 Uc Tb=>by
       refine⟨Tj,fps.set e g++[H],X,?_⟩;simp only[Te];refine⟨_,et,T7,by rw[bV E];simpa using Tk,by simp;omega,λk f=>by rw[S0 k f];exact D k f,λi hi S5 _=> ?_,λe' u B=>by cases B⟩;have L:i<l.length:=by simpa using hi
       have S6:∀k∈(fps.set e g++[H])[i],(w.setCells b (o+e*a.w+c) vs).heap[k]?=w.heap[k]?:=λk f=>S0 k (ig S5 f)
       by_cases V:i=e
       ·subst V
        have Td:i<(fps.set i g).length:=by simp;omega
        have e1:(fps.set i g++[H])[i]=g:=by rw[a1h Td];simp
        rw[e1]at S6⊢;simp only[a3m];have e2:bY (nI r (o+i*a.w+c) vs) (o+i*a.w) a.w=(bY r (o+i*a.w) a.w).take c++vs++(bY r (o+i*a.w) a.w).drop (c+vs.length):=by
         refine a2e λq=> ?_
         by_cases hq:q<a.w
         ·rw[aR hq,ik E]
          have hs:=aR (r:=r) (o:=o+i*a.w) (n:=a.w) (i:=q) hq;have T8:(bY r (o+i*a.w) a.w).length=a.w:=aZ;by_cases h2:q<c
          ·rw[ifNegQ,a1q,a1i (by simp;omega),a4f,a0b h2,hs]
          ·by_cases h3:q<c+vs.length
           ·rw[ifPosQ,a1i (by simp;omega),a1j (by simp;omega)]
            congr 1
            simp;omega
           ·rw[ifNegQ,a1j (by simp;omega),a2x]
            have:c+vs.length+(q-((bY r (o+i*a.w) a.w).take c++vs).length)=q:=by simp;omega
            rw[this,hs]
         ·rw[kr,a0w]
          have T8:(bY r (o+i*a.w) a.w).length=a.w:=aZ;simp;omega
        rw[e2];exact cA.mono (λk W f K=>by
         obtain⟨k1,k2⟩:=Ta k W f K;exact Tb k W k1 k2) a S6 hS
       ·simp only[a3g (Ne.symm V)]
        obtain⟨S4,e1⟩:=U i L S5 V;rw[e1]at S6⊢;have e2:bY (nI r (o+e*a.w+c) vs) (o+i*a.w) a.w=bY r (o+i*a.w) a.w:=by
         rcases a3u i e with O|hge
         ·have:(i+1)*a.w<=e*a.w:=a0o _ O
          rw[a1a,a2t]at this;exact cn E
         ·have:(e+1)*a.w<=i*a.w:=a0o _ (by omega)
          rw[a1a,a2t]at this;exact im E
        rw[e2];exact cA.mono (λk W f K=>by
         obtain⟨k1,k2⟩:=Ta k W (eu hT hf f) K;exact Tb k W k1 k2) a S6 (R i L S4 (λu B=>by cases B))
      have T9:bo owA d j (some (.nrow a (l.set e z.1) none))=bo z.2 d j (some (.nrow a (l.set e z.1) none)):=by
       rw[<-Y,Dy]
      rw[T9]at hW;exact⟨_,_,G2,h,fO hi hb Tg h1 hl E,(Tw.trans T5).trans hW⟩
     ·exact h.elim
    ·exact h.elim
   ·exact h.elim
 ·split at h
  ·rename_i s' l p' hg
   obtain⟨B,h⟩:=h;have B:e=p'.1:=by simpa using B
   obtain⟨e0,u⟩:=p';have B:e=e0:=B;subst B;split at h
   ·rename_i Tv S7
    obtain⟨E,rfl⟩:=zq S7;have hn:=aA hg
    cases hp with
    |rp hp=>
    simp only[hn]at hp;obtain⟨_,b,o,hG,rfl⟩:=hp;have I:=hh.obs d j _ hn;obtain⟨_,fps,_,I⟩:=I;simp only[hG]at I;obtain⟨r,et,hb,_⟩:=I;obtain⟨k1,k2⟩:=FJ hh hF hn N hG hb E;exact⟨_,_,G,h,fO hi hb Tg h1 hl k1,k2⟩
   ·exact h.elim
  ·exact h.elim
end
end Go.Pev
namespace Go.Pev
variable {s sh:Sh} {d b:Nat} {t e tx ty:TypeId} {Q:SV×OW->Prop} {h:Array Obj} {ok:Nat->Prop} {r:Array Value} {xv:Value}
section
variable {F:Nat->Prop} {G:Gh} {ow ow1 ow2:OW} {w:World} {P:Program}
def qv (k:bt F G ow w.heap) {w1:World} (n:w1.heap=w.heap) (c:Obj):bt (FP F [w.heap.size]) G ow (w1.alloc c).heap/\(∀s v,Sv F G ow w.heap s v->Sv (FP F [w.heap.size]) G ow (w1.alloc c).heap s v)/\∀b r,cW F G ow b->am w.heap b=some r->cW (FP F [w.heap.size]) G ow b/\am (w1.alloc c).heap b=some r:=by
 have l:∀b,b<w.heap.size->(w1.alloc c).heap[b]?=w.heap[b]?:=λb g=>by rw[cD w1 c (by rw[n];exact g),n]
 have a:∀b r,am w.heap b=some r->am (w1.alloc c).heap b=some r:=λb r f=>by
  unfold am at f⊢;rw[l b (cL f)];exact f
 have h:∀b r,cW F G ow b->am w.heap b=some r->cW (FP F [w.heap.size]) G ow b/\am (w1.alloc c).heap b=some r:=λb r g f=>⟨⟨λhx=>by
  rcases hx with hx|hx
  ·exact g.1 hx
  ·have:=cL f
   have:b=w.heap.size:=by simpa using hx
   omega,g.2⟩,a b r f⟩
 have m:∀b r,am w.heap b=some r->∃p,am (w1.alloc c).heap b=some p/\p.size=r.size:=λb r f=>⟨r,a b r f,rfl⟩
 refine⟨⟨λd j o q=> ?_,k.apart,λb g hx=> ?_⟩,λs v e=>cC.mono (λ_ _ _=>rfl) (λ_ _=> .refl _) h m e,h⟩
 ·exact dl.mono (λ_ _ _=>rfl) (λ_ _=> .refl _) h m rfl (λt i b u x=>l b (cu.lt k (aM.2 ⟨d,j,i,u,by rw[q];exact t,x⟩))) (k.obs d j o q)
 ·rcases hx with hx|hx
  ·exact k.notF b g hx
  ·have:=cu.lt k g
   have:b=w.heap.size:=by simpa using hx
   omega
def FK (l:bt F G ow w.heap) {p:Nat} {vs:List Value} {et:TypeId} (m:F b) (x:w.heap[b]?=some (.cells r et (0,0))) (y:p+vs.length<=r.size):bt F G ow (w.setCells b p vs).heap/\(∀s v,Sv F G ow w.heap s v->Sv F G ow (w.setCells b p vs).heap s v)/\∀a c,cW F G ow a->am w.heap a=some c->cW F G ow a/\am (w.setCells b p vs).heap a=some c:=by
 have u:=cX vs p w x y;have f:∀a c,cW F G ow a->am w.heap a=some c->cW F G ow a/\am (w.setCells b p vs).heap a=some c:=λa c h g=>⟨h,by
  unfold am;rw[World.heap_setCells_other w b _ _ (cL g) λe=>h.1 (e▸m)];exact g⟩
 have n:∀k t,am w.heap k=some t->∃c,am (w.setCells b p vs).heap k=some c/\c.size=t.size:=λk t g=>by
  by_cases e:k=b
  ·subst e
   rw[aS x]at g
   cases g
   exact⟨_,aS u,bV y⟩
  ·refine⟨t,?_,rfl⟩
   unfold am;rw[World.heap_setCells_other w b _ _ (cL g) e];exact g
 refine⟨⟨λd j o z=> ?_,l.apart,l.notF⟩,λs v e=>cC.mono (λ_ _ _=>rfl) (λ_ _=> .refl _) f n e,f⟩;exact dl.mono (λ_ _ _=>rfl) (λ_ _=> .refl _) f n rfl (λA i k B C=>by
  have q:cu G ow k:=aM.2 ⟨d,j,i,B,by rw[z];exact A,C⟩;exact World.heap_setCells_other w b _ _ (cu.lt l q) λe=>l.notF k q (e▸m)) (l.obs d j o z)
def sX {F1 F2:Nat->Prop} (k:∀b,F2 b->F1 b) (g:bt F1 G ow h):bt F2 G ow h/\(∀s v,Sv F1 G ow h s v->Sv F2 G ow h s v)/\∀b r,cW F1 G ow b->am h b=some r->cW F2 G ow b/\am h b=some r:=by
 have a:∀b r,cW F1 G ow b->am h b=some r->cW F2 G ow b/\am h b=some r:=λb r f c=>⟨⟨λi=>f.1 (k b i),f.2⟩,c⟩
 refine⟨⟨λd j o l=> ?_,g.apart,λb f i=>g.notF b f (k b i)⟩,λs v e=>cC.mono (λ_ _ _=>rfl) (λ_ _=> .refl _) a (λb r c=>⟨r,c,rfl⟩) e,a⟩;exact dl.mono (λ_ _ _=>rfl) (λ_ _=> .refl _) a (λb r c=>⟨r,c,rfl⟩) rfl (λ_ _ _ _ _=>rfl) (g.obs d j o l)
def ox (m:dt ow ow1) {a:World} {c:List Nat} (o:bt (FP F c) G ow1 a.heap) (e:∀s v,Sv F G ow w.heap s v->Sv (FP F c) G ow1 a.heap s v) (p:eX (cu G ow) w a)
 (f:∀b∈c,¬F b/\(cu G ow b\/w.heap.size<=b)) (j:c.Nodup) {l:List s.T} {v:Value} (q:cA a.heap (cW (FP F c) G ow1) (.rows s) l [v] c) (n:cg ow1 d [.nrow s l none]=some ow2):
 ∃i,Tr F G ow w i ow2 a/\Sv F i ow2 a.heap (.wh d 0 0 []) v:=by
 obtain⟨i,c1,c2,r,t,y⟩:=sW (s:= .rows s) (x:=l) o q j (λb hb=>(f b hb).1) (d:=d) n;obtain⟨g,_,_⟩:=eY n;refine⟨i,⟨c1,λs v h=>r s v (e s v h),p,λb hb=> ?_,by rw[g,m.len]⟩,?_⟩
 ·rcases(t b).1 hb with hb|hb
  ·exact .inl (m.own hb)
  ·exact(f b hb).2
 ·obtain⟨u,k,h⟩:=c2.single'
  have k:v=u:=by simpa using k
  rw[k];exact h
def io (h:kX P e s=true):s.elem=true/\0<s.w/\s.w=cV P e/\0<df P e/\∃i z,P.info? e=some i/\i.zero=some z/\i.size=s.w/\df P e=i.bytes/\z.cells.size=s.w:=by
 unfold kX at h;simp only[a0c,a0q]at h;obtain⟨⟨⟨⟨d,f⟩,c⟩,g⟩,a⟩:=h;refine⟨d,f,c,g,?_⟩;split at a
 ·rename_i z b
  cases hi:P.info? e with
  |none=>simp[hi]at b
  |some i=>
   simp[hi]at b;exact⟨i,z,rfl,b,by rw[c];simp[cV,Program.cellsOf,hi],by simp[df,Program.bytesOf,hi],by simpa using a⟩
 ·cases a
def Aq {e:TypeId} {s:Sh}:(g:List SV)-> {F:Nat->Prop}-> {ow ow1:OW}->(∀b,F b->b<w.heap.size)->bt F G ow w.heap-> {vs:List Value}->dq F G ow w.heap g vs-> {l:List s.T}->Q7 P e s g ow=some (l,ow1)->∃fps:List (List Nat),dt ow ow1/\ju G ow ow1 fps.flatten/\fps.flatten.Nodup/\l.length=vs.length/\fps.length=l.length/\∀i (d:i<l.length) (m:i<vs.length) (J:i<fps.length),cA w.heap (cW (FP F fps.flatten) G ow1) s l[i] vs[i].cells.toList fps[i]
 |[],F,ow,ow1,hF,hh,vs,hs,l,h=>by
  simp only[Q7,a0i,a0x]at h;obtain⟨rfl,rfl⟩:=h;have:vs=[]:=a0s hs.1.symm;subst this;exact⟨[],.refl _,.refl _ _,a2h,rfl,rfl,λi d=>by simp at d⟩
 |v::r,F,ow,ow1,hF,hh,vs,hs,l,h=>by
  simp only[Q7]at h;obtain⟨u,R,rfl,K,j⟩:=hs.uncons;split at h
  ·rename_i cs p
   split at h
   ·rename_i x a
    split at h
    ·rename_i y q
     simp only[a0i,a0x]at h;obtain⟨rfl,rfl⟩:=h;obtain⟨S,t,A,_,_⟩:=fk K p;obtain⟨f1,n,o,L,M⟩:=cJ s (x:=x.1) (ow1:=x.2) hF hh A a;obtain⟨B,k⟩:=cS hh n o;have C:∀f,FP F f1 f->f<w.heap.size:=by
      intro f hb';rcases hb' with hb'|hb'
      ·exact hF f hb'
      ·exact cu.lt hh (o.own hb')
     obtain⟨fps,D,E,n2,l2,N,O⟩:=Aq r (l:=y.1) (ow1:=y.2) C B ⟨j.1,λi d m=>k _ _ (j.2 i d m)⟩ q;refine⟨f1::fps,n.trans D,λz=> ?_,?_,by simp[l2],by simp[N],λi d m J=> ?_⟩
     ·rw[FE.trans n D,<-o z,<-E z,a3l,a0k]
     ·rw[a3l]
      refine a2c.2 ⟨L,n2,λx a y q H=> ?_⟩;subst H;exact o.notOwn hh n a (E.own q)
     ·cases i with
      |zero=>
       simp only[a8n,t];exact cA.mono (λf Q hb' c=>⟨fz (λI a=>by rw[a3l]at a;exact mH.2 a) (eu D E hb'),c⟩) s (λ_ _=>rfl) M
      |succ i=>
       simp only[a6n];exact cA.mono (λf Q hb' c=>⟨fz (λI a=>by rw[a3l]at a;exact mH.2 a) hb',c⟩) s (λ_ _=>rfl) (O i (by simpa using d) (by simpa using m) (by simpa using J))
    ·cases h
   ·cases h
  ·cases h
def wB {i:TypeInfo} {z:Value} {n:Nat} {vps:List (Nat×Value)} (E:P.underlying t=some (.slice e)) (hi:P.info? e=some i) (G:i.zero=some z) (c:0<i.size) (b:vps.map (·.1)=List.range n) (F:n*i.size<=16777216) (m:∀v∈vps.map (·.2),v.cells.size=i.size):∃r,(Instr.buildSlice t n vps.toArray).run P w= .ok (.slice (some ⟨w.heap.size,0,none⟩) n n) (w.alloc (.cells r e))/\r.size=n*i.size/\∀j (u:j<(vps.map (·.2)).length),bY r (j*i.size) i.size=((vps.map (λx:Nat×Value=>x.2))[j]'u).cells.toList:=by
 have g:vps.length=n:=by
  have:=a1x List.length b;simpa using this
 have y:vps=((vps.map (·.2)).zipIdx 0).map λx=>(x.2,x.1):=sS vps 0 (by rw[b,g,a3t])
 have o:∀p:Array Value,∃r,Instr.fill (λj=>some (j*i.size,i.size)) ((Array.range (n*i.size)).map (p[· % p.size]!)) vps=some r/\r.size=n*i.size/\∀j (u:j<(vps.map (·.2)).length),bY r (j*i.size) i.size=((vps.map (λx:Nat×Value=>x.2))[j]'u).cells.toList:=by
  intro p;obtain⟨r,b,a,A⟩:=Great.fill_dense c (vps.map (·.2)) 0 ((Array.range (n*i.size)).map (p[· % p.size]!)) m (by simp[g]);rw[<-y]at b;simp only[Array.size_map,Array.size_range]at a;refine⟨r,b,a,λj h=> ?_⟩;have B:(j+1)*i.size<=n*i.size:=a0o _ (by simp at h;omega);rw[a1a,a2t]at B;apply a2e;intro q;have s:=m _ (a0l h);by_cases C:q<i.size
  ·rw[aR C,A]
   simp only[a7j,a5c,a1l,a9p,a2u,g];rw[ifPosQ];have H:(j*i.size+q)/i.size=j:=by rw[a6d,Nat.mul_add_div c,Nat.div_eq_of_lt C];rfl
   have I:(j*i.size+q) % i.size=q:=by rw[a6d,Nat.mul_add_mod,a8g C]
   rw[H,I,a7l,a0a h];simp
  ·rw[a0w (by rw[aZ (by rw[a];omega)];omega),a0w (by simp only[a6a];rw[s];omega)]
 by_cases D:n*i.size=0
 ·obtain⟨r,b,a,k⟩:=o #[]
  refine⟨r,?_,a,k⟩;simp only[D]at b;have d:∀f:Nat->Value,(Array.range 0).map f= #[]:=λf=>by simp
  rw[d]at b;simp only[Instr.buildSlice,Sem.run_bind,run_underlying E,Result.andThen_ok,sizeOf,typeInfo,run_program,hi,Sem.run_pure,D,a1s];simp only[d,b];simp[newRow]
 ·obtain⟨r,b,a,k⟩:=o z.cells
  refine⟨r,?_,a,k⟩;have l:¬(16777216<n*i.size):=by omega
  simp only[Instr.buildSlice,Sem.run_bind,run_underlying E,Result.andThen_ok,sizeOf,typeInfo,run_program,hi,Sem.run_pure];simp[D,l,fy hi G,b,newRow]
def LY {f:List Nat}:FP (FP F f) [b]=FP F (b::f):=by
 funext x
 exact propext ⟨λh=>by
  rcases h with(h|h)|h
  ·exact .inl h
  ·exact .inr (a3c _ h)
  ·exact .inr (by simpa using Or.inl h),λh=>by
  rcases h with h|h
  ·exact .inl (.inl h)
  ·rcases a1e.1 h with h|h
   ·exact .inr (by simpa using h)
   ·exact .inl (.inr h)⟩
def wC (I:Nat->Prop) {w1:World} (d:w1.heap=w.heap) (g:w1.os=w.os) (e:w1.output=w.output) (a:w1.tape=w.tape) (c:Obj):eX I w (w1.alloc c):=⟨by simp[d],λb i _=>by rw[cD w1 c (by rw[d];exact i),d],λb r et f h=>⟨r,by rw[cD w1 c (by rw[d];exact(a1c.1 h).1),d];exact h,rfl⟩,g,e,a⟩
def wD {n:Nat} {ps:List (Nat×SV)} {vps:List (Nat×Value)} (o:bt F G ow w.heap) (X:∀b,F b->b<w.heap.size) (Y:ps.map (·.1)=vps.map (·.1)) (h2:dq F G ow w.heap (ps.map (·.2)) (vps.map (·.2))) (h:(v7 P t n ps s ow d).can Q):Db P F G ow w Q (Instr.buildSlice t n vps.toArray):=by
 unfold v7 at h;split at h
 ·exact h.elim
 rename_i e he;split at h
 ·rename_i hc
  obtain⟨Z,q,D⟩:=hc;obtain⟨E,S0,H,I,i,z,hi,hz,a,S1,_⟩:=io D;split at h
  ·rename_i y hy
   split at h
   ·rename_i ow' hn
    have hu:=fg he;obtain⟨fps,hT,J,K,c,L,k⟩:=Aq (P:=P) _ (l:=y.1) (ow1:=y.2) X o h2 hy;have M:vps.length=n:=by
     have:=a1x List.length Z;simp at this;have h3:=a1x List.length Y;simp at h3;omega
    have N:y.1.length=n:=by rw[c];simp[M]
    have O:∀v∈vps.map (·.2),v.cells.size=i.size:=by
     intro v hv;obtain⟨j,p,rfl⟩:=a5d hv;have:=cA.length s (k j (by rw[c];exact p) p (by rw[L,c];exact p));rw[a,<-this];simp
    obtain⟨r,u,R,f⟩:=wB (w:=w) hu hi hz (by omega) (by rw[<-Y];exact Z) (by rw[a,H];exact q) O;obtain⟨S,x⟩:=cS o hT J;obtain⟨a1,a2,a3⟩:=qv S (w1:=w) rfl (.cells r e);have A:(w.alloc (.cells r e)).heap[w.heap.size]?=some (.cells r e):=cP _ _;rw[LY]at a1;have g:∀b∈fps.flatten,cu G ow b:=λb hb=>J.own hb
    have m:∀b∈fps.flatten,(w.alloc (.cells r e)).heap[b]?=w.heap[b]?:=λb hb=>cD w _ (cu.lt o (g b hb))
    have hS:cA (w.alloc (.cells r e)).heap (cW (FP F (w.heap.size::fps.flatten)) G y.2) (.rows s) y.1 [.slice (some ⟨w.heap.size,0,none⟩) n n] (w.heap.size::fps.flatten):=by
     refine⟨_,rfl,E,_,n,by rw[N],by omega,.inr ⟨w.heap.size,0,r,e,fps,rfl,rfl,A,by rw[R,a];omega,by omega,λb hb=> ?_,λj p B=> ?_⟩⟩
     ·rw[m b hb]
      obtain⟨d',j',i',o',T,U,_⟩:=(J b).1 hb;exact k6 o T U
     ·have C:j<(vps.map (·.2)).length:=by rw[<-c];exact p
      have e1:=f j C;rw[a]at e1;rw[a1l,e1];refine cA.mono (λb' r' V W=> ?_) s (λb hb=>m b (ig B hb)) (k j p C B);have:=a3 b' r' V W;rw[LY]at this;exact this
    obtain⟨G2,k1,k2⟩:=ox (F:=F) hT a1 (λs v h=>by have:=a2 s v (x s v h);rw[LY]at this;exact this) (wC _ rfl rfl rfl rfl _) (λb hb=>by
     rcases a1e.1 hb with rfl|hb
     ·exact⟨λhx=>a7b _ (X _ hx),.inr (a1n _)⟩
     ·exact⟨o.notF b (g b hb),.inl (g b hb)⟩) (a4n.2 ⟨λhb=>a7b _ (cu.lt o (g _ hb)),K⟩) hS hn
    exact⟨_,_,_,_,_,h,u,k1,k2⟩
   ·exact h.elim
  ·exact h.elim
 ·exact h.elim
def cA.one {h:Array Obj} {ok:Nat->Prop}:(s:Sh)->s.elem=true-> {x:s.T}-> {vs:List Value}-> {d:List Nat}->cA h ok s x vs d->∀u∈vs,u.oneCell'=true
 | .pur kd,hs,_,_,_,e=>by
  obtain⟨v,rfl,_,_,_,f⟩:=e;have g:kd.isSt=false:=by simpa using(a0c _ _▸hs:kd.noOwn=true/\(!kd.isSt)=true).2
  intro u hu;have:u=v:=by simpa using hu
  rw[this];exact f g
 | .own _,_,_,_,_,e=>by
  obtain⟨v,rfl,_,a,c,rfl,_⟩:=e;intro u hu;rw[a0v]at hu;subst hu;rfl
 | .rows _,_,_,_,_,e=>by
  obtain⟨v,rfl,_,a,c,rfl,_⟩:=e;intro u hu;rw[a0v]at hu;subst hu;rfl
 | .nil,_,_,_,_,e=>by rw[e.1];intro u hu;simp at hu
 | .cons a b,hs,_,_,_,e=>by
  simp only[Sh.elem,a0c]at hs;obtain⟨v,r,f1,f2,rfl,rfl,i,j⟩:=e;intro u hu;rcases a1e.1 hu with rfl|hu
  ·exact cA.one a hs.1.2 i _ (by simp)
  ·exact cA.one b hs.2 j u hu
 | .row _,hs,_,_,_,_=>by simp[Sh.elem]at hs
 | .nrw _,hs,_,_,_,_=>by simp[Sh.elem]at hs
 | .box _,hs,_,_,_,_=>by simp[Sh.elem]at hs
 | .agg _,hs,_,_,_,_=>by simp[Sh.elem]at hs
 | .fn _ _ _,hs,_,_,_,_=>by simp[Sh.elem]at hs
 | .ign,hs,_,_,_,_=>by simp[Sh.elem]at hs
 | .nl,hs,_,_,_,_=>by simp[Sh.elem]at hs
structure RT (h:Array Obj) (ok:Nat->Prop) (s:Sh) (l:List s.T) (v:Value) (fp:List Nat) (cs:List Value) (fps:List (List Nat)) (junk:List Nat):Prop where
 val:∃a c,v= .slice a l.length c/\l.length<=c/\((a=none/\l=[]/\c=0/\fp=[]/\fps=[]/\junk=[])\/∃b o r et,a=some ⟨b,o,none⟩/\h[b]?=some (.cells r et (0,0))/\o+c*s.w<=r.size/\cs=bY r o (l.length*s.w)/\fp.Perm (b::(fps.flatten++junk)))
 len:fps.length=l.length
 clen:cs.length=l.length*s.w
 el:∀i (hi:i<l.length) (hf:i<fps.length),cA h ok s l[i] ((cs.drop (i*s.w)).take s.w) fps[i]
def HV {l:List s.T} {v:Value} {p:List Nat} (e:cA h ok (.rows s) l [v] p):∃cs fps f,RT h ok s l v p cs fps f:=by
 obtain⟨q,j,t,a,c,g,d,e⟩:=e;have j:v=q:=by simpa using j
 subst j;rcases e with⟨rfl,rfl,rfl,rfl⟩|⟨b,o,r,et,fps,rfl,rfl,u,x,A,B,y⟩
 ·exact⟨[],[],[],⟨_,_,g,d,.inl ⟨rfl,rfl,rfl,rfl,rfl,rfl⟩⟩,rfl,by simp,λi hi=>by simp at hi⟩
 ·have z:l.length*s.w<=c*s.w:=a0o _ d
  have k:(bY r o (l.length*s.w)).length=l.length*s.w:=aZ;refine⟨bY r o (l.length*s.w),fps.take l.length,(fps.drop l.length).flatten,⟨_,_,g,d,.inr ⟨b,o,r,et,rfl,u,x,rfl,?_⟩⟩,by simp;omega,k,λi hi C=> ?_⟩
  ·rw[<-a4m,a3r]
  ·have m:(i+1)*s.w<=l.length*s.w:=a0o _ hi
   rw[a1a,a2t]at m;have:=y i hi (by omega);rw[gm (n:=l.length*s.w)]at this;simpa using this
def pZ (d:s.elem=true) {l:List s.T} {o c:Nat} {et:TypeId} (j:h[b]?=some (.cells r et (0,0))) (a:l.length<=c) (k:o+c*s.w<=r.size) {fps:List (List Nat)} (m:l.length<=fps.length)
 (p:∀q∈fps.flatten,∃r et,h[q]?=some (Obj.cells r et (0,0))) {cs:List Value} (e:bY r o (l.length*s.w)=cs) (t:∀i (hi:i<l.length) (g:i<fps.length),cA h ok s l[i] ((cs.drop (i*s.w)).take s.w) fps[i]):
 cA h ok (.rows s) l [.slice (some ⟨b,o,none⟩) l.length c] (b::fps.flatten):=by
 have u:l.length*s.w<=c*s.w:=a0o _ a;refine⟨_,rfl,d,_,_,rfl,a,.inr ⟨b,o,r,et,fps,rfl,rfl,j,k,m,p,λi hi g=> ?_⟩⟩;have f:(i+1)*s.w<=l.length*s.w:=a0o _ hi;rw[a1a,a2t]at f;rw[gm (n:=l.length*s.w),e];exact t i hi g
def uj {l1 l2:List s.T} {c1 c2:List Value} {f1 f2:List (List Nat)} (m:f1.length=l1.length) (g:c1.length=l1.length*s.w)
 (j:∀i (hi:i<l1.length) (c:i<f1.length),cA h ok s l1[i] ((c1.drop (i*s.w)).take s.w) f1[i]) (k:∀i (hi:i<l2.length) (c:i<f2.length),cA h ok s l2[i] ((c2.drop (i*s.w)).take s.w) f2[i]) (a:List (List Nat)) (n2:f2.length=l2.length):
 ∀i (hi:i<(l1++l2).length) (c:i<(f1++f2++a).length),cA h ok s (l1++l2)[i] (((c1++c2).drop (i*s.w)).take s.w) (f1++f2++a)[i]:=by
 intro i hi c;rw[a0m]at hi;have d:(f1++f2++a)[i]=(f1++f2)[i]'(by simp;omega):=a1h (by simp;omega);rw[d];by_cases b:i<l1.length
 ·have f:(i+1)*s.w<=l1.length*s.w:=a0o _ b
  rw[a1a,a2t]at f;rw[a1h b,a1h (by omega)];have e:((c1++c2).drop (i*s.w)).take s.w=(c1.drop (i*s.w)).take s.w:=by
   rw[List.drop_append_of_le_length (by omega),List.take_append_of_le_length (by simp;omega)]
  rw[e];exact j i b (by omega)
 ·rw[a1u (by omega),a1u (by omega)]
  have e:(c1++c2).drop (i*s.w)=c2.drop ((i-l1.length)*s.w):=by
   have:i*s.w=c1.length+(i-l1.length)*s.w:=by rw[g,<-a1a];congr 1;omega
   rw[this,List.drop_length_add_append]
  have l:i-f1.length=i-l1.length:=by omega
  simp only[e,l];exact k (i-l1.length) (by omega) (by omega)
def qw (d:s.elem=true) (a:0<s.w) {l:List s.T} {cs:List Value} {fps:List (List Nat)} (k:cs.length=l.length*s.w) (m:fps.length=l.length) (e:∀i (hi:i<l.length) (n:i<fps.length),cA h ok s l[i] ((cs.drop (i*s.w)).take s.w) fps[i]):∀u∈cs,u.oneCell'=true:=by
 intro u f;obtain⟨q,g,rfl⟩:=a2g.1 f;have b:q/s.w<l.length:=(Nat.div_lt_iff_lt_mul a).2 (by omega);have j:=Nat.div_add_mod q s.w;have c:=a9l q a;refine cA.one s d (e (q/s.w) b (by omega)) _ (a8t.2 ⟨q % s.w,?_⟩);rw[a4f,a0b c,a2x,a6d,j,a0a g]
def Oz (o m k:Nat):bY r o (m+k)=bY r o m++bY r (o+m) k:=by
 simp[bY,List.take_add,a4k]
def oy {e':TypeId} (hh:bt F G ow w.heap) (hF:∀b,F b->b<w.heap.size) (N:P.underlying t=some (.slice e)) (Tl:P.underlying tx=some (.slice e')) (Tb:kX P e sh=true)
 {F1:Nat->Prop} {g ow':OW} (hT:dt ow g) (V:bt F1 G g w.heap) (y:∀s v,Sv F G ow w.heap s v->Sv F1 G g w.heap s v) (W:∀b,F b->F1 b)
 {l1 l2:List sh.T} {c1 c2:List Value} {f1 f2 J:List (List Nat)} (k1:c1.length=l1.length*sh.w) (k2:c2.length=l2.length*sh.w) (B:l1.length+l2.length<=(f1++f2++J).length)
 (hE:∀i (hi:i<(l1++l2).length) (hf:i<(f1++f2++J).length),cA w.heap (cW F1 G g) sh (l1++l2)[i] (((c1++c2).drop (i*sh.w)).take sh.w) (f1++f2++J)[i])
 (O:(f1++f2++J).flatten.Nodup) (R:∀b∈(f1++f2++J).flatten,F1 b/\cu G ow b) {a1:Option Addr} {cap1:Nat}
 (X:(a1=none/\l1=[]/\cap1=0)\/∃b o r et,a1=some ⟨b,o,none⟩/\w.heap[b]?=some (.cells r et (0,0))/\o+cap1*sh.w<=r.size/\c1=bY r o (l1.length*sh.w)/\F1 b/\cu G ow b/\b∉(f1++f2++J).flatten)
 (Tj:l1.length<=cap1) (C:Src P sh.w tx xv l2.length c2 w) (S0:(l1.length+l2.length)*df P e<=af) (hn:cg g d [.nrow sh (l1++l2) none]=some ow') (h:Q (.wh d 0 0 [],ow')):
 Db P F G ow w Q (Builtin.append_ #[t,tx] ty #[.slice a1 l1.length cap1,xv]):=by
 obtain⟨Y,Tk,Tm,D,i,z,hi,hz,q,Tc,Td⟩:=io Tb;have m:∀b∈(f1++f2++J).flatten,∃r et,w.heap[b]?=some (Obj.cells r et (0,0)):=λb hb=>by
  obtain⟨d',j',i',o',Te,Tf⟩:=aM.1 (R b hb).2;exact k6 hh Te Tf
 have S1:∀(b:Nat),(b=w.heap.size\/F1 b)->∀x,FP F (b::(f1++f2++J).flatten) x->FP F1 [w.heap.size] x:=λb hb x hx=>by
  rcases hx with hx|hx
  ·exact .inl (W x hx)
  ·rcases a1e.1 hx with rfl|hx
   ·rcases hb with hb|hb
    ·exact .inr (by simp[hb])
    ·exact .inl hb
   ·exact .inl (R x hx).1
 have S:∀(b:Nat),(b=w.heap.size\/cu G ow b)->∀x∈b::(f1++f2++J).flatten,¬F x/\(cu G ow x\/w.heap.size<=x):=λb hb x hx=>by
  rcases a1e.1 hx with rfl|hx
  ·rcases hb with rfl|hb
   ·exact⟨λhx=>a7b _ (hF _ hx),.inr (a1n _)⟩
   ·exact⟨hh.notF _ hb,.inl hb⟩
  ·exact⟨hh.notF _ (R x hx).2,.inl (R x hx).2⟩
 by_cases E:a1=none/\l2.length=0
 ·obtain⟨rfl,Tg⟩:=E
  have Th:l2=[]:=a0s Tg;subst Th;have Ti:c2=[]:=a0s (by rw[k2];simp);subst Ti;rcases X with⟨_,rfl,rfl⟩|⟨b,o,r,et,h0,_⟩
  ·obtain⟨d1,d2,d3⟩:=sX (F1:=F1) (F2:=FP F []) (λb hb=>by
    rcases hb with hb|hb
    ·exact W b hb
    ·simp at hb) V
   have hS:cA w.heap (cW (FP F []) G g) (.rows sh) [] [.slice none 0 0] []:=⟨_,rfl,Y,none,0,rfl,a1n _,.inl ⟨rfl,rfl,rfl,rfl⟩⟩;obtain⟨G2,q1,q2⟩:=ox (F:=F) hT d1 (λs v h=>d2 s v (y s v h)) (.refl _ _) (λb hb=>by simp at hb) a2h hS hn;exact⟨_,_,_,_,_,h,gR N hi none (by rw[q];exact C),q1,q2⟩
  ·cases h0
 by_cases f:l1.length+l2.length<=cap1
 ·rcases X with⟨rfl,rfl,rfl⟩|⟨b,o,r,et,rfl,hb,U,L,S2,S3,S4⟩
  ·exact absurd ⟨rfl,by simpa using f⟩ E
  ·have S5:(l1.length+l2.length)*sh.w<=cap1*sh.w:=a0o _ f
   rw[a1a]at S5;have H:o+l1.length*sh.w+c2.length<=r.size:=by rw[k2];omega
   have k:=run_append_room_src (P:=P) w t tx ty e i N hi b o l1.length cap1 _ l2.length c2 (by rw[q];exact C) f
    (λj hj=>by rw[q,bT (aS hb)];simp;omega)
    (λj hj=>by unfold World.frozen?;rw[hb];simp)
   rw[q]at k;obtain⟨q1,q2,q3⟩:=FK (p:=o+l1.length*sh.w) (vs:=c2) V S2 hb H;obtain⟨d1,d2,d3⟩:=sX (F2:=FP F (b::(f1++f2++J).flatten)) (λx hx=>by
    rcases hx with hx|hx
    ·exact W x hx
    ·rcases a1e.1 hx with rfl|hx
     ·exact S2
     ·exact(R x hx).1) q1
   have I:=cX c2 (o+l1.length*sh.w) w hb H;have a:∀x∈(f1++f2++J).flatten,(w.setCells b (o+l1.length*sh.w) c2).heap[x]?=w.heap[x]?:=λx hx=>
    World.heap_setCells_other w b _ _ (cu.lt hh (R x hx).2) λe=>S4 (e▸hx)
   have hS:=pZ (ok:=cW (FP F (b::(f1++f2++J).flatten)) G g) Y (l:=l1++l2) (b:=b) (o:=o) (c:=cap1) (fps:=f1++f2++J) (cs:=c1++c2) I (by simpa using f) (by rw[bV H];exact U) (by simpa using B)
    (λx hx=>by rw[a x hx];exact m x hx) (by
     rw[a0m,a1a,<-k2,Oz,cn H (a1n _),eK H,<-L])
    (λi hi hf=>cA.mono (λb' r' I Z=>by
     obtain⟨m1,M⟩:=q3 b' r' I Z;exact d3 b' r' m1 M) sh (λx hx=>a x (ig hf hx)) (hE i hi hf))
   obtain⟨G2,m1,M⟩:=ox (F:=F) hT d1 (λs v h=>d2 s v (q2 s v (y s v h))) (gJ S3 w _ _) (S b (.inr S3)) (a4n.2 ⟨S4,O⟩) hS hn;rw[a0m]at M;exact⟨_,_,_,_,_,h,k,m1,M⟩
 ·have K:cap1<l1.length+l2.length:=by omega
  have S6:(Builtin.firstCells i.size l1.length (.slice a1 l1.length cap1)).run P w.drew= .ok c1.toArray w.drew:=by
   rcases X with⟨rfl,rfl,rfl⟩|⟨b,o,r,et,rfl,hb,U,L,_⟩
   ·have:c1=[]:=a0s (by rw[k1];simp)
    rw[this];exact run_firstCells_none w.drew i.size 0 0 0
   ·refine run_firstCells_some w.drew i.size l1.length _ _ _ _ (by rw[q];exact k1) (λj u N=> ?_)
    rw[Addr.add_mid];show w.cell? _=_;rw[L]at N;rw[bT (aS hb),<-N,aR];rcases a3u j (l1.length*sh.w)with h|h
    ·exact h
    ·rw[a0w (by rw[<-L,k1];exact h)]at N;cases N
  rw[Tc]at S0 D;unfold af at S0;have h3:l1.length+l2.length<=(l1.length+l2.length)*i.bytes:=a4i _ D;have S7:=nC (l1.length+l2.length) cap1 K;have S8:Builtin.nextslicecap (l1.length+l2.length) cap1*i.bytes<=281474976710656:=by
   have:=a0o i.bytes S7;rw[Nat.mul_assoc]at this;omega
  have k:=run_append_grow_src (P:=P) w t tx ty e i z N hi hz a1 l1.length cap1 c1 S6 _ l2.length c2 (by rw[q];exact C) K (by omega) S8;have S9:=grownCap_ge w (l1.length+l2.length) cap1 e
  generalize Tn:grownCap w (l1.length+l2.length) cap1 e=cc at k S9
  obtain⟨q1,q2,q3⟩:=qv V (w1:=w.drew) rfl (.cells ((c1++c2).toArray++Builtin.zeroCells z.cells (cc-(l1.length+l2.length))) e);obtain⟨d1,d2,d3⟩:=sX (F2:=FP F (w.heap.size::(f1++f2++J).flatten)) (S1 _ (.inl rfl)) q1;have Ta:(w.drew.alloc (.cells ((c1++c2).toArray++Builtin.zeroCells z.cells (cc-(l1.length+l2.length))) e)).heap[w.heap.size]?=some (.cells ((c1++c2).toArray++Builtin.zeroCells z.cells (cc-(l1.length+l2.length))) e):=cP w.drew _;have a:∀x∈(f1++f2++J).flatten,(w.drew.alloc (.cells ((c1++c2).toArray++Builtin.zeroCells z.cells (cc-(l1.length+l2.length))) e)).heap[x]?=w.heap[x]?:=λx hx=>cD w.drew _ (cu.lt hh (R x hx).2)
  have n:(c1++c2).length=(l1.length+l2.length)*sh.w:=by rw[a0m,k1,k2,a1a]
  have hS:=pZ (ok:=cW (FP F (w.heap.size::(f1++f2++J).flatten)) G g) Y (l:=l1++l2) (b:=w.heap.size) (o:=0) (c:=cc) (fps:=f1++f2++J) (cs:=c1++c2) Ta (by simpa using S9) (by
   simp only[a3k,a2s,n,dU,Td];rw[<-a1a,a1l];exact a0o _ (by omega)) (by simpa using B)
   (λx hx=>by rw[a x hx];exact m x hx) (by
    rw[a0m,<-n]
    generalize c1++c2=A
    simp[bY])
   (λi hi hf=>cA.mono (λb' r' I Z=>by
    obtain⟨m1,M⟩:=q3 b' r' I Z;exact d3 b' r' m1 M) sh (λx hx=>a x (ig hf hx)) (hE i hi hf))
  obtain⟨G2,m1,M⟩:=ox (F:=F) hT d1 (λs v h=>d2 s v (q2 s v (y s v h))) (wC (w:=w) (w1:=w.drew) _ rfl rfl rfl rfl _) (S _ (.inl rfl)) (a4n.2 ⟨λhx=>a7b _ (cu.lt hh (R _ hx).2),O⟩) hS hn;rw[a0m]at M;exact⟨_,_,_,_,_,h,k,m1,M⟩
def vf {s x:SV} {sv:Value} (U:bt F G ow w.heap) (hF:∀b,F b->b<w.heap.size) (hs:Sv F G ow w.heap s sv) (hx:Sv F G ow w.heap x xv) (S9:fW P tx=true) (h:(sM P t s x sh ow d).can Q):Db P F G ow w Q (Builtin.append_ #[t,tx] ty #[sv,xv]):=by
 obtain⟨e',K⟩:=gI S9;unfold sM at h;split at h
 ·exact h.elim
 rename_i e he;have V:=fg he;split at h
 ·rename_i y1 Ta
  split at h
  ·rename_i y2 W
   split at h
   ·rename_i X
    obtain⟨n,h⟩:=h;have n:=a0z n;obtain⟨Y,C,To,Tb,i,z,hi,hz,Z,Tp,Tq⟩:=io X;split at h
    ·rename_i ow' hn
     obtain⟨l1,Ts⟩:=y1;obtain⟨l2,Tc⟩:=y2;dsimp only at W n hn h;obtain⟨f,t1,o1,n1,r1⟩:=cJ (.rows sh) hF U (.cons hs .nil) Ta;obtain⟨S0,D⟩:=cS U t1 o1;have Td:∀b',FP F f b'->b'<w.heap.size:=by
      intro b' hb';rcases hb' with hb'|hb'
      ·exact hF b' hb'
      ·exact cu.lt U (o1.own hb')
     obtain⟨E,t2,o2,n2,r2⟩:=cJ (.rows sh) Td S0 (.cons (D _ _ hx) .nil) W;obtain⟨Te,S1⟩:=cS S0 t2 o2;have hT:=t1.trans t2;have Tf:cA w.heap (cW (FP (FP F f) E) G Tc) (.rows sh) l1 [sv] f:=cA.mono (λb' r' hb' Tg=>⟨eu t2 o2 hb',Tg⟩) (.rows sh) (λ_ _=>rfl) r1;obtain⟨c1,f1,H,y⟩:=HV Tf;obtain⟨c2,f2,I,g⟩:=HV r2;obtain⟨a1,cap1,rfl,S2,L⟩:=y.val;obtain⟨a2,S3,rfl,Tm,M⟩:=g.val;have c:∀b,b∈f\/b∈E->cu G ow b:=λb hb=>by
      rcases hb with hb|hb
      ·exact o1.own hb
      ·exact t1.own (o2.own hb)
     have k:∀b∈f,b∉E:=λb hb Th=>o1.notOwn U t1 hb (o2.own Th)
     have S8:∀b,b∈f\/b∈E->∃r et,w.heap[b]?=some (Obj.cells r et (0,0)):=λb hb=>by
      obtain⟨d',j',i',o',Ti,Tj⟩:=aM.1 (c b hb);exact k6 U Ti Tj
     have l:∀b,b∈f1.flatten++H->b∈f:=λb hb=>by
      rcases L with⟨_,_,_,rfl,rfl,rfl⟩|⟨b1,o,r,et,_,_,_,_,A⟩
      ·simp at hb
      ·exact A.mem_iff.2 (a3c _ hb)
     have a:∀b,b∈f2.flatten++I->b∈E:=λb hb=>by
      rcases M with⟨_,_,_,rfl,rfl,rfl⟩|⟨b1,o,r,et,_,_,_,_,A⟩
      ·simp at hb
      ·exact A.mem_iff.2 (a3c _ hb)
     have S4:(f1.flatten++H).Nodup:=by
      rcases L with⟨_,_,_,rfl,rfl,rfl⟩|⟨b1,o,r,et,_,_,_,_,A⟩
      ·simp
      ·exact(a4n.1 (A.nodup_iff.1 n1)).2
     have S5:(f2.flatten++I).Nodup:=by
      rcases M with⟨_,_,_,rfl,rfl,rfl⟩|⟨b1,o,r,et,_,_,_,_,A⟩
      ·simp
      ·exact(a4n.1 (A.nodup_iff.1 n2)).2
     have N:(f1++f2++[H,I]).flatten.Perm ((f1.flatten++H)++(f2.flatten++I)):=by
      refine a3n.2 λq=> ?_
      simp only[a4m,a3l,a8i,a2m,a6p];omega
     have S6:(f1++f2++[H,I]).flatten.Nodup:=N.nodup_iff.2 (a2c.2 ⟨S4,S5,λp A q hq Tk=>by
      subst Tk;exact k p (l p A) (a p hq)⟩)
     have O:∀b∈(f1++f2++[H,I]).flatten,b∈f\/b∈E:=λb hb=>by
      rcases a0k.1 (N.mem_iff.1 hb)with hb|hb
      ·exact .inl (l b hb)
      ·exact .inr (a b hb)
     have R:l1.length+l2.length<=(f1++f2++[H,I]).length:=by simp only[a0m,y.len,g.len];omega
     have hE:=uj y.len y.clen y.el g.el [H,I] g.len;have Tl:∀u∈c1,u.oneCell'=true:=qw Y C y.clen y.len y.el;have S:∀u∈c2,u.oneCell'=true:=qw Y C g.clen g.len g.el;have J:Src P i.size tx (.slice a2 l2.length S3) l2.length c2 w:=by
      rw[Z];rcases M with⟨rfl,rfl,rfl,_⟩|⟨b,o,r,et,rfl,hb,Tn,B,_⟩
      ·have:c2=[]:=a0s (by rw[g.clen];simp)
       rw[this];exact Src.ofNil w K 0
      ·refine Src.ofSlice w K _ _ _ _ g.clen (λj u V=> ?_) S
       rw[B]at V;rw[Addr.add_mid,bT (aS hb),<-V,aR];rcases a3u j (l2.length*sh.w)with h|h
       ·exact h
       ·rw[a0w (by rw[<-B,g.clen];exact h)]at V;cases V
     have Tt:∀b,FP (FP F f) E b↔F b\/b∈f\/b∈E:=λb=>by simp[FP,or_assoc]
     rw[Z]at J;refine oy (ty:=ty) U hF V K X hT Te (λs v h=>S1 s v (D s v h)) (λb hb=> .inl (.inl hb)) y.clen g.clen R hE S6 (λb hb=> ?_) ?_ S2 J n hn h
     ·rcases O b hb with hb|hb
      ·exact⟨.inl (.inr hb),c b (.inl hb)⟩
      ·exact⟨.inr hb,c b (.inr hb)⟩
     ·rcases L with⟨h1,h2,h3,_⟩|⟨b,o,r,et,h1,hb,S7,B,m⟩
      ·exact .inl ⟨h1,h2,h3⟩
      ·have T:b∈f:=m.mem_iff.2 (by simp)
       refine .inr ⟨b,o,r,et,h1,hb,S7,B,.inl (.inr T),c b (.inl T),λhx=> ?_⟩;rcases a0k.1 (N.mem_iff.1 hx)with hx|hx
       ·exact(a4n.1 (m.nodup_iff.1 n1)).1 hx
       ·exact k b T (a b hx)
    ·exact h.elim
   ·exact h.elim
  ·exact h.elim
 ·exact h.elim
def B7 {l1 l2:List (List Nat)} (h:l1.Sublist l2):l1.flatten.Sublist l2.flatten:=by
 induction h with
 |slnil=>exact a7y _
 |cons a h ih=>rw[a3l];exact ih.trans (List.sublist_append_right _ _)
 |cons_cons a h ih=>rw[a3l,a3l];exact(a7y a).append ih
def IP {α:Type} (l:List α) {a b c n2:Nat} (h:a+b<=c):(aO l a b++aO l c n2).Sublist l:=by
 have d:l.drop a=(l.drop a).take b++l.drop (a+b):=by rw[<-a4k,a3r]
 have e:(l.drop c).Sublist (l.drop (a+b)):=by
  have:l.drop c=(l.drop (a+b)).drop (c-(a+b)):=by rw[a4k];congr 1;omega
  rw[this];exact List.drop_sublist _ _
 have:(aO l a b++aO l c n2).Sublist (l.drop a):=by
  rw[d];exact(a7y _).append ((List.take_sublist _ _).trans e)
 exact this.trans (List.drop_sublist _ _)
def B8 {s x:SV} {sv:Value} (hh:bt F G ow w.heap) (hF:∀b,F b->b<w.heap.size) (hs:Sv F G ow w.heap s sv) (hx:Sv F G ow w.heap x xv) (Tl:fW P tx=true) (h:(Fw P t s x sh ow d).can Q):Db P F G ow w Q (Builtin.append_ #[t,tx] ty #[sv,xv]):=by
 obtain⟨e',L⟩:=gI Tl;unfold Fw at h;split at h
 ·rename_i H I v1 Z C d2 j2 v2 o2 n2 e he
  have hu:=fg he;split at h
  ·rename_i Tm
   obtain⟨rfl,rfl⟩:=Tm;split at h
   ·rename_i ow1 h0
    obtain⟨G1,W,g2,g3,g4,_⟩:=jR hF hh h0;have Tn:Tr F G ow w G1 ow1 w:=ou W g2 g3 g4;split at h
    ·rename_i r hr
     obtain⟨_,hn⟩:=g5 hr;obtain⟨g,l⟩:=r;dsimp only at h hn;split at h
     ·rename_i To
      subst To;split at h
      ·rename_i S0
       obtain⟨aJ,S1,h⟩:=h;have aJ:Z+C<=o2:=a0z aJ;have S1:(C+n2)*df P e<=af:=a0z S1;split at h
       ·rename_i ow' k
        have k:cg (bo ow1 H I none) d [.nrow g (aO l Z C++aO l o2 n2) none]=some ow':=k;have M:=g2 _ _ hs;have N:=g2 _ _ hx
        cases M with
        |os M=>
        cases N with
        |os N=>
        simp only[cZ,hn,a2r]at M N;obtain⟨S2,a1,cap1,rfl,D,S7⟩:=M;obtain⟨S3,a2,S8,rfl,S4,S9⟩:=N;obtain⟨Tp,Ta,_⟩:=io S0;have O:bx (aj ow1 H I):=by rw[hn];trivial
        have Tb:aj ow1 H I≠none:=by rw[hn];simp
        have X:(aO l Z C).length=C:=jv S2;have s2:(aO l o2 n2).length=n2:=jv S3;obtain⟨_,fps,hG,R⟩:=W.obs H I _ hn;obtain⟨m1,m2⟩:=iS W O hG;have Tc:∀ {c:Sem Value},Db P F G1 ow1 w Q c->Db P F G ow w Q c:=λ⟨s,ow',v,w',G',q1,q2,q3,q4⟩=>⟨s,ow',v,w',G',q1,q2,Tn.trans q3,q4⟩
        refine Tc ?_
        cases hg:G1 H I 0 with
        |none=>
         simp only[hg]at R;obtain⟨rfl,_,rfl⟩:=R;have z1:C=0:=by simp at S2;omega
         have z2:n2=0:=by simp at S3;omega
         subst z1;subst z2;rcases S7 with⟨_,rfl,rfl⟩|⟨b,o,A,r',f,_⟩
         ·rcases S9 with⟨_,rfl,rfl⟩|⟨b,o,A,r',f,_⟩
          ·have hT:=sV O
           have Tq:ju G1 ow1 (bo ow1 H I none) []:=λx=>by
            constructor
            ·intro hx;simp at hx
            ·rintro⟨d',j',i',A,Td,f,S5⟩
             rw[aW Tb]at S5;split at S5
             ·rename_i e
              rw[e.1,e.2]at f
              cases i' with
              |zero=>rw[hg]at f;cases f
              |succ i'=>rw[hG]at f;simp at f
             ·rw[S5]at Td;exact Td.elim
           obtain⟨k1,k2⟩:=cS W hT Tq;have Ts:aO ([]:List g.T) Z 0=[]:=by simp[aO]
           have Tt:aO ([]:List g.T) o2 0=[]:=by simp[aO]
           rw[Ts,Tt]at k;exact oy (ty:=ty) (l1:=[]) (l2:=[]) (c1:=[]) (c2:=[]) (f1:=[]) (f2:=[]) (J:=[]) W hF hu L S0 hT k1 k2 (λb S=> .inl S) (by simp) (by simp) (by simp) (λi hi=>by simp at hi) (by simp) (λb S=>by simp at S) (.inl ⟨rfl,rfl,rfl⟩) (a1n _) (Src.ofNil w L 0) (by simp[af]) k h
          ·rw[hg]at f;cases f
         ·rw[hg]at f;cases f
        |some q=>
         obtain⟨b,o⟩:=q;simp only[hg]at R;obtain⟨r,et,S,T2,T3,hj,Te,_⟩:=R;obtain⟨t1,t2,t3,t4⟩:=wz (ow1:=ow1) (ow2:=bo ow1 H I none) (fps':=fps) (fp1:=[]) W O hG (.refl _) (.refl _ _) a2h O bG (λd' j'=>aW Tb) (by simp) hg;obtain⟨k1,k2⟩:=cS W t1 t2;have S6:=IP fps (n2:=n2) aJ;have y:=B7 S6;have Y:∀ {K B z:Nat} {a:Option Addr},K+B<=l.length->B<=z->((G1 H I 0=none/\a=none/\z=0)\/∃b o A r,G1 H I 0=some (b,o)/\a=some ⟨b,A,none⟩/\am w.heap b=some r/\(0<z->A=o+K*g.w)/\A+z*g.w<=r.size)->∃A,a=some ⟨b,A,none⟩/\A+z*g.w<=r.size/\(bY r A (B*g.w)).length=B*g.w/\∀i (hi:i<(aO l K B).length) (hf:i<(aO fps K B).length),cA w.heap (cW (FP F (b::fps.flatten)) G1 (bo ow1 H I none)) g (aO l K B)[i] (((bY r A (B*g.w)).drop (i*g.w)).take g.w) (aO fps K B)[i]:=by
          intro K B z a Tf Tg hv;rcases hv with⟨h1,_⟩|⟨b',T4,A,r',f,ha,U,Tu,Tv⟩
          ·rw[hg]at h1;cases h1
          ·rw[hg]at f
           cases f
           have:r'=r:=by
            rw[aS S]at U;exact(a1f U).symm
           subst this;have T1:B*g.w<=z*g.w:=a0o _ Tg;refine⟨A,ha,Tv,aZ,λi hi hf=> ?_⟩;have Tw:i<B:=by rw[jv Tf]at hi;exact hi
           have e1:=Tu (by omega);have Tx:(i+1)*g.w<=B*g.w:=a0o _ Tw;rw[a1a,a2t]at Tx;have e2:=gm (r:=r') (o:=A) (n:=B*g.w) (p:=i*g.w) (m:=g.w);rw[<-e2,wy Tf,wy (l:=fps) (by omega),e1,show o+K*g.w+i*g.w=o+(K+i)*g.w by rw[a1a];omega];exact cA.mono (λb' r' Th U=>⟨t4 b' ⟨λhx=>by
            rcases hx with hx|hx
            ·exact Th.1 hx
            ·simp at hx,Th.2⟩,U⟩) g (λ_ _=>rfl) (Te (K+i) (by omega) (by omega) (λTy hc=>by cases hc))
         obtain⟨p1,rfl,Tz,Ti,T0⟩:=Y S2 D S7;obtain⟨p2,rfl,T5,V,Tj⟩:=Y S3 S4 S9;have q1:(aO fps Z C).length=C:=jv;have q2:(aO fps o2 n2).length=n2:=jv;have hE:=uj (by rw[q1,X]) (by rw[Ti,X]) T0 Tj [] (by rw[q2,s2]);have Tk:=qw Tp Ta (by rw[V,s2]) (by rw[q2,s2]) Tj;have E:=oy (ty:=ty) (l1:=aO l Z C) (l2:=aO l o2 n2) (c1:=bY r p1 (C*g.w)) (c2:=bY r p2 (n2*g.w)) (f1:=aO fps Z C) (f2:=aO fps o2 n2) (J:=[]) (a1:=some ⟨b,p1,none⟩) (cap1:=cap1) (xv:= .slice (some ⟨b,p2,none⟩) n2 S8) W hF hu L S0 t1 k1 k2 (λb S=> .inl S)
          (by rw[Ti,X]) (by rw[V,s2]) (by simp[X,s2,q1,q2]) hE (by rw[a2m];exact y.nodup m1)
          (λx hx=>by
           rw[a2m]at hx;have hx:=y.subset hx;exact⟨.inr (a3c _ hx),t2.own (a3c _ hx)⟩)
          (.inr ⟨b,p1,r,et,rfl,S,Tz,by rw[X],.inr (by simp),t2.own (by simp),λhx=>by
           rw[a2m]at hx;exact m2 b o hg (y.subset hx)⟩)
          (by rw[X];exact D) (by
           rw[s2];refine Src.ofSlice w L _ _ _ _ V (λj u hu=> ?_) Tk;rw[Addr.add_mid,bT (aS S),<-hu,aR];rcases a3u j (n2*g.w)with h|h
           ·exact h
           ·rw[a0w (by rw[V];exact h)]at hu;cases hu)
          (by rw[X,s2];exact S1) k h
         rw[X]at E;exact E
       ·exact h.elim
      ·exact h.elim
     ·exact h.elim
    ·exact h.elim
   ·exact h.elim
  ·exact h.elim
 ·exact h.elim
def uk {vs:List Value} (h:BP vs=true):vs=[.slice none 0 0]:=by
 unfold BP at h;split at h
 ·rfl
 ·cases h
def oz {h:Array Obj} {ok:Nat->Prop}:(s:Sh)->s.elem=true->(vs:List Value)->lN s vs=true->cA h ok s s.z vs []
 | .pur kd,hs,vs,hz=>by
  have f:kd.isSt=false:=by simpa using(a0c _ _▸hs:kd.noOwn=true/\(!kd.isSt)=true).2
  match vs,hz with
  |[],hz=>simp[lN]at hz
  |[v],hz=>
   simp only[lN]at hz;have c:=jk (h:=h) (ok:=ok) kd [v] hz;have d:v.oneCell'=true:=by
    cases kd with
    |int k=>cases c;rfl
    |bool=>cases c;rfl
    |str=>cases c;rfl
    |err=>rcases c with⟨_,c⟩|⟨_,_,_,c⟩<;>(cases c;rfl)
    |any=>cases c;rfl
    |sl o e=>
     cases o with
     |true=>exact c.elim
     |false=>obtain⟨_,_,c,_⟩:=c;cases c;rfl
    |nil=>simp[Kd.isSt]at f
    |cons a b=>simp[Kd.isSt]at f
    |tree a=>obtain⟨i,c,g⟩:=c;cases c;obtain⟨_,_,rfl⟩:=g.ptr;rfl
   refine⟨v,rfl,rfl,?_,λh=>(by rw[f]at h;cases h),λ_=>d⟩;have:v.cells= #[v]:=ij d;rw[this];exact c
  |_::_::_,hz=>simp[lN]at hz
 | .own k,_,vs,hz=>by
  simp only[lN,a0c]at hz;rw[uk hz.1];exact⟨_,rfl,hz.2,none,0,rfl,a1n _,.inl ⟨rfl,rfl,rfl,rfl⟩⟩
 | .rows s,_,vs,hz=>by
  simp only[lN,a0c]at hz;rw[uk hz.1];exact⟨_,rfl,hz.2,none,0,rfl,a1n _,.inl ⟨rfl,rfl,rfl,rfl⟩⟩
 | .nil,_,vs,hz=>by
  match vs,hz with
  |[],_=>exact⟨rfl,rfl⟩
  |_::_,hz=>simp[lN]at hz
 | .cons a b,hs,vs,hz=>by
  simp only[Sh.elem,a0c]at hs
  match vs,hz with
  |[],hz=>simp[lN]at hz
  |v::r,hz=>
   simp only[lN,a0c]at hz;exact⟨v,r,[],[],rfl,rfl,oz a hs.1.2 [v] hz.1,oz b hs.2 r hz.2⟩
 | .row _,hs,_,_=>by simp[Sh.elem]at hs
 | .nrw _,hs,_,_=>by simp[Sh.elem]at hs
 | .box _,hs,_,_=>by simp[Sh.elem]at hs
 | .agg _,hs,_,_=>by simp[Sh.elem]at hs
 | .fn _ _ _,hs,_,_=>by simp[Sh.elem]at hs
 | .ign,hs,_,_=>by simp[Sh.elem]at hs
 | .nl,hs,_,_=>by simp[Sh.elem]at hs
def Dz (m:Nat):(List.replicate m ([]:List Nat)).flatten=[]:=by
 induction m with
 |zero=>rfl
 |succ m ih=>simp[List.replicate_succ]
def FL {n c:Int} (H:bt F G ow w.heap) (I:∀b,F b->b<w.heap.size) (J:lL P t=some e) (r:kX P e s=true) (u:BQ P e s=true) (X:0<=n) (K:n<=c) (B:c*df P e<=af) {ow':OW} (g:cg ow d [.nrow s (List.replicate n.toNat s.z) none]=some ow') (h:Q (.wh d 0 0 [],ow')):Db P F G ow w Q (Instr.makeSlice t (.int .i64 n) (.int .i64 c)):=by
 obtain⟨k,C,_,a,i,z,hi,D,o,v,x⟩:=io r;have y:lN s z.cells.toList=true:=by simpa [BQ,hi,D]using u
 have L:=fg J;obtain⟨m,rfl⟩:∃m:Nat,c=(m:Int):=⟨c.toNat,by omega⟩;obtain⟨l,rfl⟩:∃l:Nat,n=(l:Int):=⟨n.toNat,by omega⟩;rw[v]at B a;have A:m*i.bytes<=af:=by exact_mod_cast B
 have Y:m<=m*i.bytes:=a4i _ a;unfold af at A;have E:((m*i.bytes:Nat):Int)<=281474976710656:=by omega
 have M:(i.bytes:Int)*(m:Int)<=281474976710656:=by rw[a8s];rw[a6g]at E;exact E
 have f:=run_make (P:=P) w t e i z L hi D .i64 .i64 l m (by omega) K M (by omega);simp only[a0j]at f g;obtain⟨N,O,Z⟩:=qv H (w1:=w) rfl (.cells (madeCells z.cells (m*i.size)) e);have p:(w.alloc (.cells (madeCells z.cells (m*i.size)) e)).heap[w.heap.size]?=some (.cells (madeCells z.cells (m*i.size)) e):=cP _ _;have R:cA (w.alloc (.cells (madeCells z.cells (m*i.size)) e)).heap (cW (FP F [w.heap.size]) G ow) (.rows s) (List.replicate l s.z) [.slice (some ⟨w.heap.size,0,none⟩) l m] [w.heap.size]:=by
  refine⟨_,rfl,k,_,m,by rw[a1o],by rw[a1o];omega,.inr ⟨w.heap.size,0,_,e,List.replicate l [],rfl,by rw[Dz],p,by rw[size_madeCells,o];omega,by simp,λb q=>by rw[Dz]at q;simp at q,λj S T=> ?_⟩⟩;simp only[a1o]at S;have:=pU (z:=z.cells) (m:=m) (i:=j);rw[x]at this;rw[a1l,o,this];simp only[a3z];exact oz s k _ y
 obtain⟨G2,U,V⟩:=ox (F:=F) (.refl ow) N O (wC (w:=w) (w1:=w) _ rfl rfl rfl rfl _) (λb q=>by
  have:b=w.heap.size:=by simpa using q
  subst this;exact⟨λW=>a7b _ (I _ W),.inr (a1n _)⟩) (by simp) R g
 exact⟨_,_,_,_,_,h,f,U,V⟩
def zr {n c:SV} {i j:Value} (k:bt F G ow w.heap) (l:∀b,F b->b<w.heap.size) (m:Sv F G ow w.heap n i) (o:Sv F G ow w.heap c j) (h:(BR P t n c s ow d).can Q):Db P F G ow w Q (Instr.makeSlice t i j):=by
 unfold BR at h;split at h
 ·rename_i e n c p
  split at h
  ·rename_i f
   simp only[a0c]at f;obtain⟨a,h⟩:=h;have a:(0:Int)<=n/\(n:Int)<=c/\(c:Int)*df P e<=af:=a0z a;split at h
   ·rename_i ow' g
    rw[m.int_inv,o.int_inv];exact FL k l p f.1 f.2 a.1 a.2.1 a.2.2 g h
   ·exact h.elim
  ·exact h.elim
 ·exact h.elim
end
end Go.Pev
namespace Go.Pev
variable {h:Array Obj} {G:Gh} {ow:OW} {v:Value} {F ok:Nat->Prop}
def iT (L:List (Nat×Obj)) (I:Nat->Prop) (h:Array Obj):Prop:=∀p∈L,¬I p.1/\h[p.1]?=some p.2
def FN (l:List Value):Value:=match l with|[v]=>v|l=> .tuple l.toArray
def HW (h:Array Obj):Value->List Nat->Option Value
 |v,[]=>some v
 | .pointer (some ⟨b,o,none⟩),i::r=>(match h[b]? with|some (.cells cs _ _)=>(match cs[o+i]? with|some v=>HW h v r|none=>none)|_=>none)
 |_,_=>none
def B9 (h:Array Obj) (v:Value) (c:Nat) (p:List Nat):Option Value:=
 match v with
 | .func _ xs ys=>(match(xs.toList++ys.toList)[c]? with|some v=>HW h v p|none=>none)
 |_=>none
def Lg (h:Array Obj) (al:List (Nat×Nat×Nat×List Nat)) (vs:List Value):Prop:=∀q∈al,∃v t,vs[q.1]?=some v/\vs[q.2.1]?=some t/\B9 h t q.2.2.1 q.2.2.2=some v
def Lg.nil {vs:List Value}:Lg h [] vs:=λq a=>by cases a
def wE {F:Nat->Prop} {G:Gh} {ow:OW} {h:Array Obj} (n:bt F G ow h):(p:List Nat)-> {s g:SV}-> {v:Value}->Sv F G ow h s v->sI ow s p=some g->∃k,HW h v p=some k/\Sv F G ow h g k
 |[],s,g,v,hs,e=>by
  simp only[sI,a0i]at e;subst e;exact⟨v,rfl,hs⟩
 |i::r,s,g,v,hs,e=>by
  cases s with
  |bp d j c=>
   simp only[sI]at e;split at e
   ·rename_i l x
    split at e
    ·rename_i t y
     have q:=aA x
     cases hs with
     |bp hv=>
     rw[q]at hv;obtain⟨b,o,z,rfl⟩:=hv;obtain⟨_,A,B,C,et,f,a,u,D⟩:=n.obs d j _ q;rw[z]at f;obtain⟨rfl,rfl⟩:b=A/\o=B:=by simpa using f
     obtain⟨hi,rfl⟩:=a0p.1 y;have w:o+(c+i)<C.size:=by omega
     have m:=D (c+i) hi w;obtain⟨k,E,H⟩:=wE n r m e;refine⟨k,?_,H⟩;have I:o+c+i=o+(c+i):=by omega
     simp only[HW,a,I,a1k w];exact E
    ·cases e
   ·cases e
  |_=>simp[sI]at e
def rF (l:bt F G ow h) {s k:SV} (m:Sv F G ow h s v) {c:Nat} {p:List Nat} (e:nW ow s c p=some k):∃j,B9 h v c p=some j/\Sv F G ow h k j:=by
 cases s with
 |fn f a b=>
  simp only[nW]at e;split at e
  ·rename_i t n
   cases m with
   |fn l1 l2 h1 h2=>
   rename_i xs ys;have d:dq F G ow h (a++b) (xs++ys):=⟨by simp[l1,l2],λi o q=>by
    by_cases hi:i<a.length
    ·rw[a1h hi,a1h (by omega)]
     exact h1 i hi (by omega)
    ·rw[a1u (by omega),a1u (by omega)]
     have e:i-xs.length=i-a.length:=by omega
     simp only[e];simp only[a0m]at o q;exact h2 (i-a.length) (by omega) (by omega)⟩
   obtain⟨hi,rfl⟩:=a0p.1 n;have g:c<(xs++ys).length:=by rw[<-d.1];exact hi
   obtain⟨j,r,u⟩:=wE l p (d.2 c hi g) e;refine⟨j,?_,u⟩;simp only[B9,a0a g];exact r
  ·cases e
 |_=>simp[nW]at e
def IQ {s f:SV} {l:Value} (m:Sv F G ow h s v) (g:Sv F G ow h f l) (e:vT ow s f=true):v=l:=by
 cases s with
 |bp d j c=>
  cases f with
  |bp d' j' c'=>
   simp only[vT,a0c,a3f]at e;obtain⟨⟨⟨rfl,rfl⟩,rfl⟩,i⟩:=e;unfold PL at i;split at i
   ·rename_i k n
    have p:=aA n
    cases m with
    |bp hv=>
    cases g with
    |bp hv'=>
    rw[p]at hv hv';obtain⟨b,o,q,rfl⟩:=hv;obtain⟨r,t,a,rfl⟩:=hv';rw[q]at a;obtain⟨rfl,rfl⟩:b=r/\o=t:=by simpa using a
    rfl
   ·cases i
  |_=>simp[vT]at e
 |_=>simp[vT]at e
def wF (l:bt F G ow h) {f:List SV} {vs:List Value} (b:dq F G ow h f vs) {al:List (Nat×Nat×Nat×List Nat)} (e:Of al f ow=true):Lg h al vs:=by
 intro q m;have a:=(a1g.1 e) q m;unfold Lu at a;split at a
 ·rename_i s t c d
  split at a
  ·rename_i r n
   obtain⟨g,rfl⟩:=a0p.1 c;obtain⟨i,rfl⟩:=a0p.1 d;have j:q.1<vs.length:=by rw[<-b.1];exact g
   have k:q.2.1<vs.length:=by rw[<-b.1];exact i
   obtain⟨u,o,p⟩:=rF l (b.2 _ i k) n;have:=IQ (b.2 _ g j) p a;exact⟨vs[q.1],vs[q.2.1],a0a j,a0a k,by rw[o,this]⟩
  ·cases a
 ·cases a
def um {F:Nat->Prop} {G:Gh} {ow:OW} {h:Array Obj} (c:bt F G ow h) {vs:List Value}:(al:List (Nat×Nat×Nat×List Nat))-> {a:List SV}->dq F G ow h a vs->Lg h al vs->dq F G ow h (Lv ow al a) vs
 |[],a,hs,_=>hs
 |q::r,a,hs,ha=>by
  obtain⟨v,t,k,d,l⟩:=ha q (by simp);refine um c r ?_ λm b=>ha m (by simp[b])
  split
  ·rename_i x n
   split
   ·rename_i s o
    obtain⟨f,rfl⟩:=a0p.1 n;have g:q.2.1<vs.length:=by rw[<-hs.1];exact f
    obtain⟨y,j,p⟩:=rF c (hs.2 _ f g) o;rw[a0a g]at d;rw[a1f d,l]at j
    cases j
    refine⟨by simp[hs.1],λi u w=> ?_⟩;by_cases hi:q.1=i
    ·subst hi
     obtain⟨_,e⟩:=a0p.1 k;simp only[a3m,e];exact p
    ·rw[a3g hi]
     exact hs.2 i (by simpa using u) w
   ·exact hs
  ·exact hs
def au (P:Program) (L:List (Nat×Obj)) (f:FuncId) (c:jW):Prop:=
 (∃fn,P.funcs[f]?=some fn/\(fn.name== "runtime.NumGoroutine")=false/\fn.body.isNone=false)/\
 ∀(w:World) (F:Nat->Prop) (x:c.args.T) (vs:List Value) (d:List Nat) (y:c.res.T×c.args.Out),(∀b,F b->b<w.heap.size)->iT L (·∈d) w.heap->d.Nodup->(∀b∈d,¬F b)->
  cA w.heap (λb=>¬FP F d b) c.args x vs d->c.den x=some y->Lg w.heap c.al vs->
  Calls P f vs.toArray w λe g=>∃h fp1 a,e= .returned (FN h)/\cA g.heap (λb=>¬FP F (fp1++a) b) c.res y.1 h fp1/\gx g.heap (λb=>¬FP F (fp1++a) b) c.args y.2 vs a/\(fp1++a).Nodup/\(∀b∈fp1++a,b∈d\/w.heap.size<=b)/\eX (·∈d) w g
def Calls.mono {P:Program} {f:FuncId} {args:Array Value} {w:World} {R b:Ending->World->Prop} (h:Calls P f args w R) (c:∀e a,R e a->b e a):Calls P f args w b:=λcs=>let⟨e,a,fr,r,s⟩:=h cs;⟨e,a,fr,c _ _ r,s⟩
def un:(e c:OW)->(d j:Nat)->aj (nU e c) d j=(match aj e d j,aj c d j with|some o,some n=>some (ic o n)|_,n=>n):=by
 have f:(a b:List (Option OB))->(j:Nat)->(vS a b)[j]?=(match a[j]?,b[j]? with|some o,some n=>some (ic o n)|_,n=>n):=by
  intro a
  induction a with
  |nil=>intro b j;cases b<;>simp[vS]
  |cons o os ih=>
   intro b j
   cases b with
   |nil=>simp[vS]
   |cons n ns=>
    cases j with
    |zero=>simp[vS]
    |succ j=>simp[vS,ih]
 intro e
 induction e with
 |nil=>intro c d j;cases c<;>simp[nU,aj]
 |cons o os ih=>
  intro c d j
  cases c with
  |nil=>simp[nU,aj]
  |cons n ns=>
   cases d with
   |zero=>simp[nU,aj,f]
   |succ d=>simpa [nU,aj]using ih ns d j
def uo:(b a:OW)->(nU b a).length=a.length
 |[],a=>by cases a<;>simp[nU]
 |o::os,[]=>by simp[nU]
 |o::os,n::ns=>by simp[nU,uo os ns]
def FO {ow1:OW} (c:dt ow ow1):dt ow (nU ow ow1)/\∀G b,FE G ow (nU ow ow1) b↔FE G ow ow1 b:=by
 have f:∀d j,aj (nU ow ow1) d j=aj ow d j\/(aj (nU ow ow1) d j=aj ow1 d j):=by
  intro d j;rw[un];rcases c.names d j with e|⟨_,e⟩|⟨k,ver,l,e1,e2⟩|⟨s,l,k,l',e1,e2,_⟩|⟨cells,e1,e2⟩
  ·rw[e]
   cases h:aj ow d j with
   |none=>exact .inl rfl
   |some o=>
    left
    cases o with
    |none=>rfl
    |some x=>
     cases x with
     |nrow s l foc=>cases foc<;>rfl
     |_=>rfl
  ·right
   rw[e]
   cases h:aj ow d j with
   |none=>rfl
   |some o=>
    cases o with
    |none=>rfl
    |some x=>
     cases x with
     |nrow s l foc=>cases foc<;>rfl
     |_=>rfl
  ·left
   rw[e1,e2];rfl
  ·left
   rw[e1,e2];rfl
  ·right
   rw[e1,e2];rfl
 have a:∀d j,bx (aj ow d j)->(aj (nU ow ow1) d j=some none↔aj ow1 d j=some none):=by
  intro d j hi;rw[un];rcases c.names d j with e|⟨_,e⟩|⟨k,ver,l,e1,e2⟩|⟨s,l,k,l',e1,e2,_⟩|⟨cells,e1,e2⟩
  ·rw[e]
   generalize aj ow d j=x at hi
   match x,hi with
   |some (some (.box _)),_=>simp[ic]
   |some (some (.row _ _ _)),_=>simp[ic]
   |some (some (.nrow _ _ none)),_=>simp[ic]
   |some (some (.nrow _ _ (some _))),_=>simp[ic]
  ·rw[e]
   generalize aj ow d j=x at hi
   match x,hi with
   |some (some (.box _)),_=>simp[ic]
   |some (some (.row _ _ _)),_=>simp[ic]
   |some (some (.nrow _ _ none)),_=>simp[ic]
   |some (some (.nrow _ _ (some _))),_=>simp[ic]
  ·rw[e1,e2];simp[ic]
  ·rw[e1,e2];simp[ic]
  ·rw[e1,e2];simp[ic]
 refine⟨⟨by rw[uo,c.len],λd j=> ?_⟩,λG b=> ?_⟩
 ·rcases f d j with e|e
  ·exact .inl e
  ·rw[e];exact c.names d j
 ·constructor
  ·rintro⟨d,j,i,o,hi,g,m⟩
   exact⟨d,j,i,o,hi,g,(a d j hi).1 m⟩
  ·rintro⟨d,j,i,o,hi,g,m⟩
   exact⟨d,j,i,o,hi,g,(a d j hi).2 m⟩
def oc.any {ok':Nat->Prop} {k:Kd} (a:k.allOwn=true) {x:k.T} (e:oc h ok k x v):oc h ok' k x v:=⟨cG.any_heap k a e.1,e.2⟩
def sQ.any {ok':Nat->Prop} {k:Kd} (g:k.allOwn=true) {l:List k.T} {f:List Nat} (e:sQ h ok k l v f):sQ h ok' k l v f:=by
 obtain⟨i,a,c,j,d,e⟩:=e;refine⟨i,a,c,j,d,?_⟩;rcases e with e|⟨b,o,r,et,ha,hf,hb,hel,hs⟩
 ·exact .inl e
 ·exact .inr ⟨b,o,r,et,ha,hf,hb,hel.mono λx cs m=>cG.any_heap k g m,hs⟩
def cA.any {h:Array Obj} {ok ok':Nat->Prop}:(s:Sh)->s.fresh=true-> {x:s.T}-> {vs:List Value}-> {n:List Nat}->cA h ok s x vs n->cA h ok' s x vs n
 | .pur _,hs,_,_,_,e=>by obtain⟨v,d,f,e⟩:=e;exact⟨v,d,f,e.any hs⟩
 | .own _,hs,_,_,_,e=>by obtain⟨v,d,e⟩:=e;exact⟨v,d,e.any hs⟩
 | .row _,hs,_,_,_,e=>by obtain⟨v,d,e⟩:=e;exact⟨v,d,e.any hs⟩
 | .rows s,hs,_,_,_,e| .nrw s,hs,_,_,_,e=>by
  obtain⟨v,p,g,a,c,j,q,e⟩:=e;refine⟨v,p,g,a,c,j,q,?_⟩;rcases e with e|⟨b,o,r,et,fps,j,hf,hr,hc,hn,hj,he⟩
  ·exact .inl e
  ·exact .inr ⟨b,o,r,et,fps,j,hf,hr,hc,hn,hj,λi hi k=>cA.any s hs (he i hi k)⟩
 | .box l,hs,_,_,_,e=>by obtain⟨b,o,r,et,m,d,f,t,u,e⟩:=e;exact⟨b,o,r,et,m,d,f,t,u,cA.any l hs e⟩
 | .agg l,hs,_,_,_,e=>by obtain⟨cs,d,e⟩:=e;exact⟨cs,d,cA.any l hs e⟩
 | .fn _ _ l,hs,_,_,_,e=>by obtain⟨xs,ys,d,f,e⟩:=e;exact⟨xs,ys,d,f,cA.any l hs e⟩
 | .ign,_,_,_,_,e=>e
 | .nl,_,_,_,_,e=>e
 | .nil,_,_,_,_,e=>e
 | .cons a b,hs,_,_,_,e=>by
  simp only[Sh.fresh,a0c]at hs;obtain⟨v,r,f1,f2,d,f,w,y⟩:=e;exact⟨v,r,f1,f2,d,f,cA.any a hs.1 w,cA.any b hs.2 y⟩
def gx.any {h:Array Obj} {ok ok':Nat->Prop}:(s:Sh)->s.freshOut=true-> {x:s.Out}-> {vs:List Value}-> {i:List Nat}->gx h ok s x vs i->gx h ok' s x vs i
 | .pur _,_,_,_,_,e=>e
 | .own _,_,_,_,_,e=>e
 | .rows _,_,_,_,_,e=>e
 | .row _,hs,_,_,_,e=>by obtain⟨v,c,e⟩:=e;exact⟨v,c,e.any hs⟩
 | .nrw s,hs,_,_,_,e=>cA.any (.nrw s) hs e
 | .box l,hs,_,_,_,e=>by obtain⟨b,o,r,et,g,c,d,j,k,e⟩:=e;exact⟨b,o,r,et,g,c,d,j,k,cA.any l hs e⟩
 | .agg l,hs,_,_,_,e=>by obtain⟨cs,c,e⟩:=e;exact⟨cs,c,gx.any l hs e⟩
 | .fn _ _ l,hs,_,_,_,e=>by obtain⟨xs,ys,c,d,e⟩:=e;exact⟨xs,ys,c,d,gx.any l hs e⟩
 | .ign,_,_,_,_,e=>e
 | .nl,_,_,_,_,e=>e
 | .nil,_,_,_,_,e=>e
 | .cons a b,hs,_,_,_,e=>by
  simp only[Sh.freshOut,a0c]at hs;obtain⟨v,r,f1,f2,c,d,f,m⟩:=e;refine⟨v,r,f1,f2,c,d,?_,gx.any b hs.2 m⟩;rcases f with f|⟨h0,f⟩
  ·exact .inl f
  ·exact .inr ⟨h0,gx.any a hs.1 f⟩
abbrev RU:=Nat×Nat×OB×Pl
def dy (a:List RU):List Nat:=a.flatMap λp=>p.2.2.2.fp
def cq (ps:List Pl):List Nat:=ps.flatMap Pl.fp
structure OA (h:Array Obj) (ok:Nat->Prop) (G:Gh) (old:OW) (d:Nat) (fp:List Nat) (st st':OW×List OB) (puts:List RU) (ps:List Pl) (new:List OB):Prop where
 obs:st'.2=st.2++new
 plen:ps.length=new.length
 len:st'.1.length=st.1.length
 names:∀d' j',(∃p∈puts,p.1=d'/\p.2.1=j'/\aj st'.1 d' j'=some (some p.2.2.1))\/((∀p∈puts,¬(p.1=d'/\p.2.1=j'))/\aj st'.1 d' j'=aj st.1 d' j')
 old:∀p∈puts,bx (aj old p.1 p.2.1)/\EC (aj old p.1 p.2.1) (some (some p.2.2.1))/\bx (some (some p.2.2.1))
 place:∀p∈puts,p.2.2.2.1=G p.1 p.2.1 0/\(p.2.2.2.1=none->p.2.2.2.2=[])
 blocks:fp.Perm (dy puts++cq ps)
 rep:∀(G2:Gh) (ow2:OW),(∀p∈puts,G2 p.1 p.2.1=p.2.2.2.pos)->k0 G2 ow2 d st.2.length new ps->(∀p∈puts,dl h ok G2 ow2 p.1 p.2.1 p.2.2.1)/\∀i o,new[i]?=some o->dl h ok G2 ow2 d (st.2.length+i) o/\bx (some (some o))
def OA.none {b:OW} {d:Nat} (st:OW×List OB):OA h ok G b d [] st st [] [] []:=⟨by simp,rfl,rfl,λ_ _=> .inr ⟨λp a=>by simp at a,rfl⟩,λp a=>by simp at a,λp a=>by simp at a,List.Perm.refl _,λ_ _ _ _=>⟨λp a=>by simp at a,λi o hi=>by simp at hi⟩⟩
def iU {F:Nat->Prop} {G:Gh} {K:OW} {w0:World} {h:Array Obj} {ok:Nat->Prop} (V:bt F G K w0.heap)
 (W:∀(b:Nat) (r:Array Value) (et:TypeId) (f:Nat×Nat),w0.heap[b]?=some (Obj.cells r et f)->∃r':Array Value,h[b]?=some (Obj.cells r' et f)/\r'.size=r.size) (d:Nat):
 (s:Sh)-> {t:List SV}-> {vs:List Value}->dq F G K w0.heap t vs-> {y:s.Out}-> {I:List Nat}->gx h ok s y vs I-> {st x:OW×List OB}->(∀d' j',aj K d' j'≠none->aj st.1 d' j'≠none)->
 eQ d K s t y st=some x->∃S3 ps Ti,OA h ok G K d I st x S3 ps Ti
 | .pur _,t,vs,A,y,I,e,st,x,hne,hu=>by
  obtain⟨⟨v,rfl⟩,rfl⟩:=e;obtain⟨s,rfl,_⟩:=A.single;simp only[eQ,a0i]at hu;subst hu;exact⟨_,_,_,.none st⟩
 | .own _,t,vs,A,y,I,e,st,x,hne,hu=>by
  obtain⟨⟨v,rfl⟩,rfl⟩:=e;obtain⟨s,rfl,_⟩:=A.single;simp only[eQ,a0i]at hu;subst hu;exact⟨_,_,_,.none st⟩
 | .rows _,t,vs,A,y,I,e,st,x,hne,hu=>by
  obtain⟨⟨v,rfl⟩,rfl⟩:=e;obtain⟨s,rfl,_⟩:=A.single;simp only[eQ,a0i]at hu;subst hu;exact⟨_,_,_,.none st⟩
 | .ign,t,vs,A,y,I,e,st,x,hne,hu=>by
  obtain⟨⟨v,rfl⟩,rfl⟩:=e;obtain⟨s,rfl,_⟩:=A.single;simp only[eQ,a0i]at hu;subst hu;exact⟨_,_,_,.none st⟩
 | .nl,t,vs,A,y,I,e,st,x,hne,hu=>by
  obtain⟨⟨v,rfl⟩,rfl⟩:=e;obtain⟨s,rfl,_⟩:=A.single;simp only[eQ,a0i]at hu;subst hu;exact⟨_,_,_,.none st⟩
 | .nil,t,vs,A,y,I,e,st,x,hne,hu=>by
  obtain⟨rfl,rfl⟩:=e;have:t=[]:=a0s A.1;subst this;simp only[eQ,a0i]at hu;subst hu;exact⟨_,_,_,.none st⟩
 | .row k,t,vs,A,y,I,e,st,x,hne,hu=>by
  obtain⟨v,rfl,e⟩:=e;obtain⟨s,rfl,B⟩:=A.single
  cases s with
  |wh dd j ver path=>
   simp only[eQ]at hu;split at hu
   ·rename_i M D l0 hg
    split at hu
    ·rename_i hk
     subst hk;simp only[a0i]at hu;subst hu;have L:=aA hg
     cases B with
     |wh B=>
     simp only[cZ,L,a2q]at B;obtain⟨Tv,Tg,ho⟩:=V.obs dd j _ L;obtain⟨_,a,c,rfl,Tj,w⟩:=B;obtain⟨X,a',c',O,S4,e⟩:=e;have ha:a=a'/\l0.length=y.length/\c=c':=by simpa using O
     obtain⟨rfl,E,rfl⟩:=ha;have P:aj st.1 dd j≠none:=hne dd j (by rw[L];simp);refine⟨[(dd,j,.row M (D+1) y,(G dd j 0,[]))],[],[],by simp,rfl,bG,λd' j'=> ?_,λp hp=> ?_,λp hp=> ?_,?_,λJ ow2 C _=>⟨λp hp=> ?_,λi o hi=>by simp at hi⟩⟩
     ·rw[aW P]
      by_cases H:d'=dd/\j'=j
      ·exact .inl ⟨_,a0v.2 rfl,H.1.symm,H.2.symm,by rw[a0b H]⟩
      ·refine .inr ⟨λp hp m=> ?_,by rw[a0e H]⟩
       have:p=(dd,j,OB.row M (D+1) y,(G dd j 0,[])):=by simpa using hp
       subst this;exact H ⟨m.1.symm,m.2.symm⟩
     ·have:p=(dd,j,OB.row M (D+1) y,(G dd j 0,[])):=by simpa using hp
      subst this;simp only;rw[L];exact⟨trivial,⟨rfl,E⟩,trivial⟩
     ·have:p=(dd,j,OB.row M (D+1) y,(G dd j 0,[])):=by simpa using hp
      subst this;exact⟨rfl,λ_=>rfl⟩
     ·rcases e with⟨rfl,_,_,rfl⟩|⟨b,o,r,et,rfl,rfl,_⟩
      ·rcases w with⟨u,_⟩|⟨_,_,_,_,_,m,_⟩
       ·simp[dy,cq,Pl.fp,u]
       ·cases m
      ·rcases w with⟨_,m,_⟩|⟨b',o',S5,r',u,m,_⟩
       ·cases m
       ·cases m
        simp[dy,cq,Pl.fp,u]
     ·have:p=(dd,j,OB.row M (D+1) y,(G dd j 0,[])):=by simpa using hp
      subst this;have C:=C _ (a0v.2 rfl);simp only at C⊢;have Q:J dd j 0=G dd j 0:=by rw[C];rfl
      refine⟨by rw[C];exactλi=>rfl,X,?_⟩;rw[Q];rcases e with⟨rfl,hy,_,rfl⟩|⟨b,o,r,et,rfl,rfl,Y,S,A⟩
      ·rcases w with⟨u,_⟩|⟨_,_,_,_,_,m,_⟩
       ·rw[u];exact hy
       ·cases m
      ·rcases w with⟨_,m,_⟩|⟨b',o',S5,r',u,m,S6,Z,_⟩
       ·cases m
       ·cases m
        rw[u];refine⟨r,et,Y,?_⟩;by_cases S0:0<c
        ·have:=Z S0
         rw[a7j,a2z]at this;rw[<-this];exact S
        ·have hy:y=[]:=a0s (by omega)
         subst hy;refine⟨?_,λi hi=>by simp at hi⟩;simp only[u]at ho;obtain⟨r0,Tk,S1,S7⟩:=ho;obtain⟨r1,R,S8⟩:=W _ _ _ _ S1;rw[Y]at R
         cases R
         have:=S7.1;simp;omega
    ·cases hu
   ·cases hu
  |_=>simp[eQ]at hu
 | .nrw k,t,vs,A,y,I,e,st,x,hne,hu=>by
  obtain⟨s,Tw,B⟩:∃s v,t=[s]/\vs=[v]/\Sv F G K w0.heap s v:=by
   obtain⟨v,rfl,_⟩:=e;obtain⟨s,rfl,B⟩:=A.single;exact⟨s,v,rfl,rfl,B⟩
  obtain⟨rfl,rfl,B⟩:=B
  cases s with
  |wh dd j ver path=>
   simp only[eQ]at hu;split at hu
   ·rename_i M l0 hg
    split at hu
    ·rename_i hk
     subst hk;simp only[a0i]at hu;subst hu;have L:=aA hg
     cases B with
     |wh B=>
     simp only[cZ,L,a2q]at B;obtain⟨_,Tu,_,ho⟩:=V.obs dd j _ L;obtain⟨_,a,c,rfl,Tj,w⟩:=B;obtain⟨v',O,S,a',c',m,S4,e⟩:=e;have O:=O.trans (a1x (λz=>[z]) m);have ha:a=a'/\l0.length=y.length/\c=c':=by simpa using O
     obtain⟨rfl,E,rfl⟩:=ha;have P:aj st.1 dd j≠none:=hne dd j (by rw[L];simp);obtain⟨q,Tl,S9⟩:∃q:List Nat,I=Pl.fp (G dd j 0,q)/\((G dd j 0=none->q=[])/\∀(J:Gh) (ow2:OW),J dd j=Pl.pos (G dd j 0,q)->dl h ok J ow2 dd j (.nrow M y none)):=by
      rcases e with⟨rfl,hy,_,rfl⟩|⟨b,o,r,et,fps,rfl,rfl,Y,Tx,Tm,Tn,Ta⟩
      ·rcases w with⟨u,_⟩|⟨_,_,_,_,_,m,_⟩
       ·refine⟨[],by simp[Pl.fp,u],λ_=>rfl,λJ ow2 C=>⟨S,[],λi=>by rw[C];rfl,?_⟩⟩
        have Q:J dd j 0=none:=by rw[C];exact u
        rw[Q];exact⟨hy,rfl,rfl⟩
       ·cases m
      ·rcases w with⟨_,m,_⟩|⟨b',o',S5,r',u,m,S6,Z,_⟩
       ·cases m
       ·cases m
        refine⟨fps.flatten,by simp[Pl.fp,u],λhz=>(by rw[u]at hz;cases hz),λJ ow2 C=>⟨S,fps,λi=>by rw[C];rfl,?_⟩⟩;have Q:J dd j 0=some (b,o'):=by rw[C];exact u
        rw[Q];simp only[u]at ho;obtain⟨r0,Tk,S1,To,_⟩:=ho;obtain⟨r1,R,S8⟩:=W _ _ _ _ S1;rw[Y]at R
        cases R
        refine⟨r,et,Y,by rw[<-E,S8];exact To,Tm,Tn,λi hi hf _=> ?_,λe Tp hz=>by cases hz⟩;have:=Z (by omega);rw[a7j,a2z]at this;rw[<-this];exact Ta i hi hf
     refine⟨[(dd,j,.nrow M y none,(G dd j 0,q))],[],[],by simp,rfl,bG,λd' j'=> ?_,λp hp=> ?_,λp hp=> ?_,by simp[dy,cq,Tl],λJ ow2 C _=>⟨λp hp=> ?_,λi o hi=>by simp at hi⟩⟩
     ·rw[aW P]
      by_cases H:d'=dd/\j'=j
      ·exact .inl ⟨_,a0v.2 rfl,H.1.symm,H.2.symm,by rw[a0b H]⟩
      ·refine .inr ⟨λp hp m=> ?_,by rw[a0e H]⟩
       have:p=(dd,j,OB.nrow M y none,(G dd j 0,q)):=by simpa using hp
       subst this;exact H ⟨m.1.symm,m.2.symm⟩
     ·have:p=(dd,j,OB.nrow M y none,(G dd j 0,q)):=by simpa using hp
      subst this;simp only;rw[L];exact⟨trivial,⟨rfl,E⟩,trivial⟩
     ·have:p=(dd,j,OB.nrow M y none,(G dd j 0,q)):=by simpa using hp
      subst this;exact⟨rfl,S9.1⟩
     ·have:p=(dd,j,OB.nrow M y none,(G dd j 0,q)):=by simpa using hp
      subst this;exact S9.2 J ow2 (C _ (a0v.2 rfl))
    ·cases hu
   ·cases hu
  |_=>simp[eQ]at hu
 | .box l,t,vs,A,y,I,e,st,x,hne,hu=>by
  obtain⟨b,o,r,et,Ty,rfl,rfl,Y,Tb,e⟩:=e;obtain⟨s,rfl,B⟩:=A.single
  cases s with
  |bp dd j c=>
   simp only[eQ]at hu;split at hu
   ·rename_i Th hg
    split at hu
    ·rename_i S0
     subst S0;simp only[a0i]at hu;subst hu;have L:=aA hg
     cases B with
     |bp B=>
     simp only[L]at B;obtain⟨b',o',u,m⟩:=B;have m:b=b'/\o=o':=by simpa using m
     obtain⟨rfl,rfl⟩:=m;have P:aj st.1 dd j≠none:=hne dd j (by rw[L];simp);obtain⟨ps,hl,hf,hr⟩:=gK l e d st.2.length;refine⟨[(dd,j,.box (bJ d l y st.2.length).1,(some (b,o),[]))],ps,(bJ d l y st.2.length).2,rfl,hl,bG,λd' j'=> ?_,λp hp=> ?_,λp hp=> ?_,?_,λJ ow2 C hN=> ?_⟩
     ·rw[aW P]
      by_cases H:d'=dd/\j'=j
      ·exact .inl ⟨_,a0v.2 rfl,H.1.symm,H.2.symm,by rw[a0b H]⟩
      ·refine .inr ⟨λp hp m=> ?_,by rw[a0e H]⟩
       have:p=(dd,j,OB.box (bJ d l y st.2.length).1,(some (b,o),[])):=by simpa using hp
       subst this;exact H ⟨m.1.symm,m.2.symm⟩
     ·have:p=(dd,j,OB.box (bJ d l y st.2.length).1,(some (b,o),[])):=by simpa using hp
      subst this;simp only;rw[L];exact⟨trivial,trivial,trivial⟩
     ·have:p=(dd,j,OB.box (bJ d l y st.2.length).1,(some (b,o),[])):=by simpa using hp
      subst this;exact⟨u.symm,λh=>by cases h⟩
     ·simp[dy,cq,Pl.fp,hf]
     ·obtain⟨r1,r2⟩:=hr J ow2 hN
      refine⟨λp hp=> ?_,r2⟩;have:p=(dd,j,OB.box (bJ d l y st.2.length).1,(some (b,o),[])):=by simpa using hp
      subst this;have C:=C _ (a0v.2 rfl);simp only at C⊢;have E:(bJ d l y st.2.length).1.length=l.len:=by rw[r1.1,aZ Tb]
      refine⟨by rw[C];exactλi=>rfl,b,o,r,et,by rw[C];rfl,Y,by omega,λi hi S6=> ?_⟩;have Tc:i<(bY r o l.len).length:=by rw[aZ Tb];omega
      have e1:(bY r o l.len)[i]=r[o+i]:=by
       have:=aR (r:=r) (o:=o) (n:=l.len) (i:=i) (by omega);rw[a0a Tc,a1k (by omega)]at this;exact a1f this
      rw[<-e1];exact r1.2 i hi Tc
    ·cases hu
   ·cases hu
  |_=>simp[eQ]at hu
 | .agg l,t,vs,A,y,I,e,st,x,hne,hu=>by
  obtain⟨cs,rfl,e⟩:=e;obtain⟨s,rfl,B⟩:=A.single
  cases s with
  |agg ss=>
   simp only[eQ]at hu;obtain⟨us,m,S2⟩:=B.agg_inv;have m:cs=us:=by simpa using m
   subst m;exact iU V W d l S2 e hne hu
  |_=>simp[eQ]at hu
 | .fn f n l,t,vs,A,y,I,e,st,x,hne,hu=>by
  obtain⟨xs,ys,rfl,_,e⟩:=e;obtain⟨s,rfl,B⟩:=A.single
  cases s with
  |fn g a b=>
   simp only[eQ]at hu;obtain⟨us,zs,m,S2,Tq⟩:=B.fn_inv;have m:f=g/\xs=us/\ys=zs:=by simpa using m
   obtain⟨rfl,rfl,rfl⟩:=m;exact iU V W d l (S2.append Tq) e hne hu
  |_=>simp[eQ]at hu
 | .cons a b,t,vs,A,y,I,e,st,x,hne,hu=>by
  obtain⟨v,r,f1,f2,rfl,rfl,e1,e2⟩:=e
  match t,A,hu with
  |[],A,_=>have:=A.1;simp at this
  |s::t,A,hu=>
   obtain⟨v',r',m,B,hr⟩:=A.uncons;simp only[a4y]at m;obtain⟨rfl,rfl⟩:=m;simp only[eQ]at hu;rcases e1 with⟨h0,rfl⟩|⟨h0,e1⟩
   ·rw[a0b h0]at hu
    exact iU V W d b hr e2 hne hu
   rw[a0e (by rw[h0];simp)]at hu;split at hu
   ·rename_i Td h1
    obtain⟨p1,s1,n1,N⟩:=iU V W d a (.cons B .nil) e1 hne h1;obtain⟨p2,s2,n2,U⟩:=iU V W d b hr e2 (st:=Td) (λd' j' m=>by
     rcases N.names d' j' with⟨p,_,_,_,e⟩|⟨_,e⟩
     ·rw[e];simp
     ·rw[e];exact hne d' j' m) hu
    refine⟨p1++p2,s1++s2,n1++n2,by rw[U.obs,N.obs,a1q],by simp[N.plen,U.plen],by rw[U.len,N.len],λd' j'=> ?_,λp hp=> ?_,λp hp=> ?_,?_,λJ ow2 C hN=> ?_⟩
    ·rcases U.names d' j' with⟨p,hp,T,e4,e5⟩|⟨Ts,T⟩
     ·exact .inl ⟨p,a0k.2 (.inr hp),T,e4,e5⟩
     ·rcases N.names d' j' with⟨p,hp,e4,e5,e6⟩|⟨Te,e4⟩
      ·exact .inl ⟨p,a0k.2 (.inl hp),e4,e5,by rw[T,e6]⟩
      ·refine .inr ⟨λp hp=> ?_,by rw[T,e4]⟩
       rcases a0k.1 hp with hp|hp
       ·exact Te p hp
       ·exact Ts p hp
    ·rcases a0k.1 hp with hp|hp
     ·exact N.old p hp
     ·exact U.old p hp
    ·rcases a0k.1 hp with hp|hp
     ·exact N.place p hp
     ·exact U.place p hp
    ·have T:dy (p1++p2)=dy p1++dy p2:=by simp[dy]
     have e4:cq (s1++s2)=cq s1++cq s2:=by simp[cq]
     rw[T,e4];refine(N.blocks.append U.blocks).trans ?_
     rw[a1q,a1q];refine a8u _ ?_
     rw[<-a1q,<-a1q];exact List.Perm.append_right _ a6v
    ·obtain⟨a1,a2⟩:=N.rep J ow2 (λp hp=>C p (a0k.2 (.inl hp))) (hN.left N.plen)
     have Tf:=hN.right N.plen;have T:st.2.length+n1.length=Td.2.length:=by rw[N.obs];simp
     rw[T]at Tf;obtain⟨b1,b2⟩:=U.rep J ow2 (λp hp=>C p (a0k.2 (.inr hp))) Tf;refine⟨λp hp=> ?_,λi o hi=> ?_⟩
     ·rcases a0k.1 hp with hp|hp
      ·exact a1 p hp
      ·exact b1 p hp
     ·by_cases Tt:i<n1.length
      ·rw[a1i Tt]at hi
       exact a2 i o hi
      ·rw[a1j (by omega)]at hi
       have:=b2 _ o hi;rw[<-T,a2k,show n1.length+(i-n1.length)=i by omega]at this;exact this
   ·cases hu
end Go.Pev
namespace Go.Pev
variable {ow:OW}
def vC {h:Array Obj} {ok:Nat->Prop} {G:Gh} {l:List SV} {vs:List Value} (c:mI h ok G ow l vs):cC h ok G ow (Q4 l) (FN vs):=by
 obtain⟨d,c⟩:=c
 match l,vs,d,c with
 |[],[],d,c=>exact .tup (l:=[]) (vs:=[]) rfl c
 |[a],[v],_,c=>exact c 0 (by simp) (by simp)
 |a::b::l,v::u::vs,d,c=>exact .tup d c
def dt.ne {ow1:OW} (a:dt ow ow1) {d j:Nat} (h:aj ow d j≠none):aj ow1 d j≠none:=by
 rcases a.names d j with e|⟨_,e⟩|hz
 ·rw[e];exact h
 ·rw[e];simp
 ·obtain⟨_,e⟩:=hz.not.2.2
  rw[e];simp
def wG {F:Nat->Prop} {G:Gh} {t:OW} {w U:World} (hh:bt F G ow w.heap) (hF:∀b,F b->b<w.heap.size) {fp fps:List Nat} (hT:dt ow t) (hO:ju G ow t fp) (hK:eX (·∈fp) w U) (Te:fps.Nodup)
 (P:∀b∈fps,b∈fp\/w.heap.size<=b) {d:Nat} {u Ti:List OB} {Q S4:List Pl} {g:List RU} {Tj:List Nat} {m:OW×List OB} {zO:Nat->Prop}
 (V:OA U.heap zO G ow d Tj (t,u) m g S4 Ti) (Tk:Q.length=u.length) (Tf:fps=cq Q++Tj) {ow':OW} (Tp:cg m.1 d m.2=some ow')
 (Tq:∀b r,zO b->am U.heap b=some r->¬F b/\¬cu G t b/\b∉fps) {l:List SV} {vs:List Value}
 (hR:∀(G2:Gh) (ow2:OW),k0 G2 ow2 d 0 u Q->mI U.heap zO G2 ow2 l vs/\∀i o,u[i]?=some o->dl U.heap zO G2 ow2 d (0+i) o/\bx (some (some o))):
 ∃E,Tr F G ow w E ow' U/\dq F E ow' U.heap l vs:=by
 obtain⟨Tl,Tz,T0⟩:=eY Tp;have S5:m.2=u++Ti:=V.obs
 let ps:=Q++S4
 let E:Gh:=λd' j=>if m.2≠[]/\d'=d then(match ps[j]? with|some p=>p.pos|none=>λ_=>none)else
  (match g.find? (λp=>p.1==d'&& p.2.1==j)with|some p=>p.2.2.2.pos|none=>G d' j)
 have T1:ps.length=m.2.length:=by simp[ps,Tk,V.plen,S5]
 have S6:m.2≠[]->∀j,aj ow d j=none:=by
  intro B j;have h1:m.1[d]?=some []:=by
   rcases Tz with h|h
   ·exact absurd h B
   ·exact h
  have M:=c9 h1 j
  cases H:aj ow d j with
  |none=>rfl
  |some z=>
   have h3:aj t d j≠none:=hT.ne (by rw[H];simp);rcases V.names d j with⟨p,_,_,_,e⟩|⟨_,e⟩
   ·rw[M]at e;cases e
   ·rw[M]at e;exact absurd e.symm h3
 have Tm:Tj.Nodup:=by rw[Tf]at Te;exact(a2c.1 Te).2.1
 have S0:(dy g).Nodup:=(a2c.1 (V.blocks.nodup_iff.1 Tm)).1;have Ts:∀p∈g,∀q∈g,p.1=q.1->p.2.1=q.2.1->p.2.2.2.pos=q.2.2.2.pos:=by
  intro p n q W e1 e2;obtain⟨a1,a2⟩:=V.place p n;obtain⟨b1,b2⟩:=V.place q W;rw[e1,e2]at a1
  cases C:G q.1 q.2.1 0 with
  |none=>
   rw[C]at a1 b1;have e:p.2.2.2=q.2.2.2:=a9j (a1.trans b1.symm) ((a2 a1).trans (b2 b1).symm);rw[e]
  |some x=>
   obtain⟨bb,oo⟩:=x;rw[C]at a1 b1;obtain⟨i,hi,rfl⟩:=a2g.1 n;obtain⟨k,hk,rfl⟩:=a2g.1 W;have e:=ot (g.map λp=>p.2.2.2) (by rw[List.flatMap_map];exact S0) i k (by simpa using hi) (by simpa using hk) bb (Pl.mem.2 ⟨0,oo,by rw[a3i];exact a1⟩) (Pl.mem.2 ⟨0,oo,by rw[a3i];exact b1⟩);have e:=e.1;subst e;rfl
 have g0:∀d' j,¬(m.2≠[]/\d'=d)->(∀p∈g,¬(p.1=d'/\p.2.1=j))->E d' j=G d' j:=by
  intro d' j hd S1;simp only[E];rw[a0e hd];have:g.find? (λp=>p.1==d'&& p.2.1==j)=none:=by
   rw[List.find?_eq_none];intro p n;have:=S1 p n;simpa using this
  rw[this]
 have Tt:∀p∈g,¬(m.2≠[]/\p.1=d):=by
  intro p n h;have h1:=(V.old p n).1;rw[h.2,S6 h.1]at h1;exact h1
 have S7:∀p∈g,E p.1 p.2.1=p.2.2.2.pos:=by
  intro p n;simp only[E];rw[a0e (Tt p n)]
  cases hfd:g.find? (λq=>q.1==p.1&& q.2.1==p.2.1)with
  |none=>
   rw[List.find?_eq_none]at hfd;have:=hfd p n;simp at this
  |some q=>
   have h1:=List.find?_some hfd;simp only[a0c,a3f]at h1;exact Ts q (List.mem_of_find?_eq_some hfd) p n h1.1 h1.2
 have S8:∀d' j,aj ow d' j≠none->E d' j 0=G d' j 0:=by
  intro d' j H;have hd:¬(m.2≠[]/\d'=d):=λh=>H (by rw[h.2];exact S6 h.1 j)
  by_cases n:∃p∈g,p.1=d'/\p.2.1=j
  ·obtain⟨p,n,rfl,rfl⟩:=n
   rw[S7 p n];exact(V.place p n).1
  ·rw[g0 d' j hd (λp T2 h=>n ⟨p,T2,h⟩)]
 have gd:m.2≠[]->∀j,E d j=(match ps[j]? with|some p=>p.pos|none=>λ_=>none):=λB j=>by
  show(if m.2≠[]/\d=d then _ else _)=_;rw[a0b ⟨B,rfl⟩]
 have N:∀d' j,(m.2≠[]/\d'=d/\aj ow' d' j=m.2[j]?.map some)\/(¬(m.2≠[]/\d'=d)/\((∃p∈g,p.1=d'/\p.2.1=j/\aj ow' d' j=some (some p.2.2.1))\/((∀p∈g,¬(p.1=d'/\p.2.1=j))/\aj ow' d' j=aj t d' j))):=by
  intro d' j;rw[T0];by_cases hc:d'=d/\m.2≠[]
  ·rw[a0b hc];exact .inl ⟨hc.2,hc.1,rfl⟩
  ·rw[a0e hc]
   refine .inr ⟨λh=>hc ⟨h.2,h.1⟩,?_⟩;exact V.names d' j
 have y:∀ {d' j i b o:Nat},bx (aj ow' d' j)->E d' j i=some (b,o)->(m.2≠[]/\d'=d/\∃hj:j<ps.length,ps[j].pos i=some (b,o))\/(∃p∈g,p.1=d'/\p.2.1=j/\p.2.2.2.pos i=some (b,o))\/(bx (aj ow d' j)/\G d' j i=some (b,o)/\aj ow' d' j=aj t d' j):=by
  intro d' j i b o hi C;rcases N d' j with⟨B,rfl,L⟩|⟨S2,⟨p,n,rfl,rfl,L⟩|⟨S1,L⟩⟩
  ·left
   refine⟨B,rfl,?_⟩;rw[gd B]at C
   cases W:ps[j]? with
   |none=>rw[W]at C;cases C
   |some q=>
    rw[W]at C;obtain⟨hj,rfl⟩:=a0p.1 W;exact⟨hj,C⟩
  ·right;left
   rw[S7 p n]at C;exact⟨p,n,rfl,rfl,C⟩
  ·right;right
   rw[L]at hi;have e:=(hT.names d' j).own hi;rw[e]at hi;rw[g0 d' j S2 S1]at C;exact⟨hi,C,L⟩
 have I:∀ {j i b o:Nat} (hj:j<ps.length),ps[j].pos i=some (b,o)->b∈cq ps:=λhj h=>a3q.2 ⟨_,a0l hj,Pl.mem.2 ⟨_,_,h⟩⟩
 have A:∀p∈g,∀ {i b o},p.2.2.2.pos i=some (b,o)->b∈dy g:=λp n i b o C=>a3q.2 ⟨p,n,Pl.mem.2 ⟨i,o,C⟩⟩
 have J:(cq Q++(dy g++cq S4)).Nodup:=(a8u (cq Q) V.blocks).nodup_iff.1 (by rw[Tf]at Te;exact Te);have X:cq ps=cq Q++cq S4:=by simp[cq,ps]
 have Tu:(cq ps).Nodup:=by
  rw[X];rw[a2c]at J⊢;exact⟨J.1,(a2c.1 J.2.1).2.1,λa ha b K=>J.2.2 a ha b (a0k.2 (.inr K))⟩
 have S9:∀b,b∈cq ps->b∈dy g->False:=by
  intro b h1 M;rw[X]at h1;rw[a2c]at J;rcases a0k.1 h1 with h1|h1
  ·exact J.2.2 b h1 b (a0k.2 (.inl M)) rfl
  ·exact(a2c.1 J.2.1).2.2 b M b h1 rfl
 have Y:∀b,b∈cq ps->b∈fps:=by
  intro b h1;rw[X]at h1;rw[Tf];rcases a0k.1 h1 with h1|h1
  ·exact a0k.2 (.inl h1)
  ·exact a0k.2 (.inr (V.blocks.mem_iff.2 (a0k.2 (.inr h1))))
 have O:∀b,b∈dy g->b∈fps:=λb h1=>by
  rw[Tf];exact a0k.2 (.inr (V.blocks.mem_iff.2 (a0k.2 (.inl h1))))
 have R:∀ {d' j i b o:Nat},bx (aj ow' d' j)->aj ow' d' j=aj t d' j->G d' j i=some (b,o)->cu G t b:=λhi he C=>aM.2 ⟨_,_,_,_,by rw[<-he];exact hi,C⟩
 have S:∀b,cu E ow' b->cu G t b\/b∈fps:=by
  intro b K;obtain⟨d',j,i,o,hi,C⟩:=aM.1 K;rcases y hi C with⟨_,_,hj,h⟩|⟨p,n,rfl,rfl,h⟩|⟨h1,M,h3⟩
  ·exact .inr (Y b (I hj h))
  ·exact .inr (O b (A p n h))
  ·exact .inl (R hi h3 M)
 have D:∀b∈fps,¬cu G t b:=by
  intro b K ho;rcases P b K with h|h
  ·exact hO.notOwn hh hT h ho
  ·have:=cu.lt hh (hT.own ho);omega
 have Tg:∀b r,zO b->am U.heap b=some r->cW F E ow' b/\am U.heap b=some r:=by
  intro b r K hr;obtain⟨h1,M,h3⟩:=Tq b r K hr;refine⟨⟨h1,λho=> ?_⟩,hr⟩;rcases S b ho with h|h
  ·exact M h
  ·exact h3 h
 have Z:∀b,b<w.heap.size->b∉fp->U.heap[b]?=w.heap[b]?:=λb K L=>hK.heap b K L
 have Ta:∀b r,cW F G ow b->am w.heap b=some r->cW F E ow' b/\am U.heap b=some r:=by
  intro b r K hr;have T:=cL hr;have Tb:b∉fp:=λh=>K.2 (hO.own h)
  refine⟨⟨K.1,λho=> ?_⟩,by unfold am;rw[Z b T Tb];exact hr⟩;rcases S b ho with h|h
  ·exact K.2 (hT.own h)
  ·rcases P b h with h|h
   ·exact Tb h
   ·omega
 have Tv:∀b r,am w.heap b=some r->∃r',am U.heap b=some r'/\r'.size=r.size:=by
  intro b r hr;unfold am at hr;split at hr
  ·rename_i c et f K
   cases hr
   obtain⟨r',h1,M⟩:=hK.cells b _ et f K;exact⟨r',by unfold am;rw[h1],M⟩
  ·cases hr
 have hE:∀d' j,EC (aj ow d' j) (aj ow' d' j):=by
  intro d' j;rcases N d' j with⟨B,rfl,L⟩|⟨S2,⟨p,n,rfl,rfl,L⟩|⟨S1,L⟩⟩
  ·rw[S6 B j];trivial
  ·rw[L];exact(V.old p n).2.1
  ·rw[L];exact(hT.names d' j).ec
 have T3:∀s v,Sv F G ow w.heap s v->Sv F E ow' U.heap s v:=λs v e=>cC.mono S8 hE Ta Tv e
 have hN:k0 E ow' d 0 m.2 ps:=by
  intro i o hi;have B:m.2≠[]:=by intro h;rw[h]at hi;simp at hi
  have T:i<ps.length:=by rw[T1];exact(a0p.1 hi).1
  rw[a1l];refine⟨?_,ps[i],a0a T,by rw[gd B,a0a T]⟩;rcases N d i with⟨_,_,L⟩|⟨S2,_⟩
  ·rw[L,hi];rfl
  ·exact absurd ⟨B,rfl⟩ S2
 have Tw:k0 E ow' d 0 (u++Ti) (Q++S4):=by rw[<-S5];exact hN
 obtain⟨r1,r2⟩:=hR E ow' (Tw.left Tk);have Tx:=Tw.right Tk;rw[a1l]at Tx;obtain⟨q1,q2⟩:=V.rep E ow' S7 Tx;have up:∀ {d' j:Nat} {o:OB},aj ow' d' j≠none->dl U.heap zO E ow' d' j o->dl U.heap (cW F E ow') E ow' d' j o:=λH e=>
  dl.mono (λ_ _ _=>rfl) (λ_ _=> .refl _) Tg (λb r hr=>⟨r,hr,rfl⟩) rfl (λ_ _ _ _ _=>rfl) e
 have T4:Tr F G ow w E ow' U:=by
  refine⟨⟨λd' j o L=> ?_,λd1 j1 i1 d2 j2 i2 b o1 o2 h1 M g1 g2=> ?_,λb K=> ?_⟩,T3,?_,λb K=> ?_,by rw[Tl,V.len,hT.len]⟩
  ·rcases N d' j with⟨B,rfl,H⟩|⟨S2,⟨p,n,rfl,rfl,H⟩|⟨S1,H⟩⟩
   ·have ho:m.2[j]?=some o:=by
     rw[L]at H
     cases W:m.2[j]? with
     |none=>simp[W]at H
     |some q=>simp[W]at H;rw[H]
    rw[S5]at ho;refine up (by rw[L];simp) ?_
    by_cases T:j<u.length
    ·rw[a1i T]at ho
     have:=(r2 j o ho).1;rw[a1l]at this;exact this
    ·rw[a1j (by omega)]at ho
     have:=(q2 _ o ho).1;rw[show u.length+(j-u.length)=j by omega]at this;exact this
   ·rw[L]at H
    have H:o=p.2.2.1:=by simpa using H
    subst H;exact up (by rw[L];simp) (q1 p n)
   ·rw[L]at H
    have T5:∀b,cu G t b->b∉fp:=λb K h=>hO.notOwn hh hT h K
    rcases hT.names d' j with e|⟨_,e⟩|hz
    ·have h0:aj ow d' j=some (some o):=by rw[<-e,<-H]
     refine dl.mono S8 hE Ta Tv (g0 d' j S2 S1) (λhi i b c C=> ?_) (hh.obs d' j o h0);have Tc:cu G t b:=aM.2 ⟨d',j,i,c,by rw[<-H];exact hi,C⟩;exact Z b (cu.lt hh (hT.own Tc)) (T5 b Tc)
    ·rw[e]at H;cases H
    ·have S3:=hz.own
     have Th:=hz.not.1;rw[<-H]at hz Th
     generalize Td:aj ow d' j=x at hz S3
     match x,S3,hz with
     |some (some ob),S3,hz=>
      refine hz.rep (S8 d' j (by rw[Td];simp)) Ta (λi b o1 C=> ?_) (hh.obs d' j ob Td);have Tc:cu G ow b:=aM.2 ⟨d',j,i,o1,by rw[Td];exact S3,C⟩;have T:=cu.lt hh Tc;have T6:¬cu G t b:=by
       intro h;obtain⟨d2,j2,i2,o2,hi,Tn⟩:=aM.1 h;have e3:=(hT.names d2 j2).own hi;obtain⟨rfl,rfl,_⟩:=hh.apart d2 j2 i2 d' j i b o2 o1 (by rw[<-e3];exact hi) (by rw[Td];exact S3) Tn C;rw[<-H]at hi;exact Th hi
      have Tb:b∉fp:=by
       intro h;obtain⟨d2,j2,i2,o2,hi,Tn,Ty⟩:=(hO b).1 h;obtain⟨rfl,rfl,_⟩:=hh.apart d2 j2 i2 d' j i b o2 o1 hi (by rw[Td];exact S3) Tn C;rw[<-H]at Ty;cases Ty
      refine⟨⟨hh.notF b Tc,λh=> ?_⟩,Z b T Tb⟩;rcases S b h with h|h
      ·exact T6 h
      ·rcases P b h with h|h
       ·exact Tb h
       ·omega
  ·rcases y h1 g1 with⟨n1,rfl,k1,p1⟩|⟨p,n,rfl,rfl,p1⟩|⟨x1,k1,c1⟩
   ·rcases y M g2 with⟨n2,rfl,k2,p2⟩|⟨q,W,rfl,rfl,p2⟩|⟨x2,k2,c2⟩
    ·obtain⟨e,To⟩:=ot ps Tu j1 j2 k1 k2 b (Pl.mem.2 ⟨_,_,p1⟩) (Pl.mem.2 ⟨_,_,p2⟩)
     subst e;exact⟨rfl,rfl,Pl.inj To p1 p2⟩
    ·exact(S9 b (I k1 p1) (A q W p2)).elim
    ·exact absurd (R M c2 k2) (D b (Y b (I k1 p1)))
   ·rcases y M g2 with⟨n2,rfl,k2,p2⟩|⟨q,W,rfl,rfl,p2⟩|⟨x2,k2,c2⟩
    ·exact(S9 b (I k2 p2) (A p n p1)).elim
    ·obtain⟨i,hi,rfl⟩:=a2g.1 n
     obtain⟨k,hk,rfl⟩:=a2g.1 W;obtain⟨e,To⟩:=ot (g.map λp=>p.2.2.2) (by rw[List.flatMap_map];exact S0) i k (by simpa using hi) (by simpa using hk) b (Pl.mem.2 ⟨_,_,by simpa using p1⟩) (Pl.mem.2 ⟨_,_,by simpa using p2⟩);subst e;exact⟨rfl,rfl,Pl.inj (by simpa using To) p1 p2⟩
    ·exact absurd (R M c2 k2) (D b (O b (A p n p1)))
   ·rcases y M g2 with⟨n2,rfl,k2,p2⟩|⟨q,W,rfl,rfl,p2⟩|⟨x2,k2,c2⟩
    ·exact absurd (R h1 c1 k1) (D b (Y b (I k2 p2)))
    ·exact absurd (R h1 c1 k1) (D b (O b (A q W p2)))
    ·exact hh.apart d1 j1 i1 d2 j2 i2 b o1 o2 x1 x2 k1 k2
  ·rcases S b K with h|h
   ·exact hh.notF b (hT.own h)
   ·rcases P b h with h|h
    ·exact hh.notF b (hO.own h)
    ·intro hf
     have:=hF b hf;omega
  ·exact⟨hK.size,λb K L=>hK.heap b K λh=>L (hO.own h),hK.cells,hK.os,hK.output,hK.tape⟩
  ·rcases S b K with h|h
   ·exact .inl (hT.own h)
   ·rcases P b h with h|h
    ·exact .inl (hO.own h)
    ·exact .inr h
 exact⟨E,T4,r1.1,λi h1 M=>cC.mono (λ_ _ _=>rfl) (λ_ _=> .refl _) Tg (λb r hr=>⟨r,hr,rfl⟩) (r1.2 i h1 M)⟩
end Go.Pev
namespace Go.Pev
variable {op:Oper} {ρv:Operand->Value} {Q:SV×OW->Prop} {d:Nat} {o:Op} {ρ:Operand->SV}
section
variable {F:Nat->Prop} {G:Gh} {ow:OW} {w:World} {P:Program} {L:List (Nat×Obj)}
def DA (P:Program) (F:Nat->Prop) (G:Gh) (ow:OW) (w:World) (f:FuncId) (vs:List Value) (Q:SV×OW->Prop):Prop:=Calls P f vs.toArray w λe a=>∃s ow' v b,e= .returned v/\Q (s,ow')/\Tr F G ow w b ow' a/\Sv F b ow' a.heap s v
def DB {f:FuncId} {a:jW} (Y:au P L f a) (i:bt F G ow w.heap) (C:∀b,F b->b<w.heap.size) (S:iT L (cu G ow) w.heap) {args:List SV} {vs:List Value} (D:dq F G ow w.heap args vs) {c:bc (SV×OW)} (k:LB a args ow d=some c) (h:c.can Q):DA P F G ow w f vs Q:=by
 unfold LB at k;split at k
 rotate_left
 ·cases k
 rename_i E;split at k
 ·cases k
 rename_i p Z
 cases k
 obtain⟨y,hy,h⟩:=h;dsimp only at h;split at h
 ·rename_i q j
  split at h
  ·rename_i ow' hn
   obtain⟨H,A,m,I,n⟩:=cJ a.args (x:=p.1) (ow1:=p.2) C i D Z;have S0:∀b∈H,b<w.heap.size:=λb hb=>cu.lt i (m.own hb)
   refine(Y.2 w (λb=>F b\/cu G p.2 b) p.1 vs H y ?_ (λq j=>⟨λhm=>(S q j).1 (m.own hm),(S q j).2⟩) I ?_ ?_ hy (wF i D E)).mono λe o ⟨T,fp1,t,h1,U,V,h4,h5,W⟩=> ?_
   ·intro b hb
    rcases hb with hb|hb
    ·exact C b hb
    ·exact cu.lt i (A.own hb)
   ·intro b hb hx
    rcases hx with hx|hx
    ·exact i.notF b (m.own hb) hx
    ·exact m.notOwn i A hb hx
   ·refine cA.mono (λb r hb J=>⟨λhx=> ?_,J⟩) _ (λ_ _=>rfl) n
    rcases hx with(hx|hx)|hx
    ·exact hb.1 (.inl hx)
    ·exact hb.2 hx
    ·exact hb.1 (.inr hx)
   ·
    have u:∀(g:OW) (zO:Nat->Prop),dt ow g->ju G ow g H->cA o.heap zO a.res y.1 T fp1->gx o.heap zO a.args y.2 vs t->
     (∀b r,zO b->am o.heap b=some r->¬F b/\¬cu G g b/\b∉fp1++t)->eQ d ow a.args args y.2 (g,(bJ d a.res y.1 0).2)=some q->
     ∃s ow' v B,e= .returned v/\Q (s,ow')/\Tr F G ow w B ow' o/\Sv F B ow' o.heap s v:=by
     intro g zO z K J M N hu;obtain⟨S1,l1,f1,r1⟩:=gK a.res J d 0;obtain⟨X,S2,S3,hP⟩:=iU (F:=F) i W.cells d a.args D M (st:=(g,(bJ d a.res y.1 0).2)) (λd' j' hx=>z.ne hx) hu;obtain⟨B,O,R⟩:=wG i C z K W h4 h5 hP l1 (by rw[<-f1];rfl) hn N (l:=(bJ d a.res y.1 0).1) (vs:=T) r1;exact⟨_,_,_,B,h1,h,O,vC R⟩
    cases hfr:a.res.fresh&& a.args.freshOut with
    |true=>
     simp only[Fv,hfr,a1s]at j;simp only[a0c]at hfr;obtain⟨t1,t2⟩:=FO A;exact u (nU ow p.2) (λ_=>False) t1 (λb=>(m b).trans (t2 G b).symm) (cA.any _ hfr.1 U) (gx.any _ hfr.2 V) (λb r hb=>hb.elim) j
    |false=>
     simp only[Fv,hfr,a0u,a1z]at j;exact u p.2 _ A m U V (λb r hb _=>⟨λhx=>hb (.inl (.inl hx)),λhx=>hb (.inl (.inr hx)),λhx=>hb (.inr hx)⟩) j
  ·exact h.elim
 ·exact h.elim
def p5 {f:FuncId}:(a:List jW)->(∀sg∈a,au P L f sg)->bt F G ow w.heap->(∀b,F b->b<w.heap.size)->iT L (cu G ow) w.heap-> {args:List SV}-> {vs:List Value}->dq F G ow w.heap args vs-> {d:Nat}-> {Q:SV×OW->Prop}->(vv args ow d a).can Q->DA P F G ow w f vs Q
 |[],_,_,_,_,_,_,_,_,_,h=>h.elim
 |sg::r,hs,hh,hF,hL,args,vs,ha,d,Q,h=>by
  unfold vv at h;split at h
  ·rename_i c g
   exact DB (hs sg (by simp)) hh hF hL ha g h
  ·exact p5 r (λsg e=>hs sg (by simp[e])) hh hF hL ha h
def lR {h:Array Obj} {ok:Nat->Prop}:(s:Sh)->aL s=true-> {x:s.T}-> {vs:List Value}-> {a:List Nat}->cA h ok s x vs a->a=[]/\∀d j,(bJ d s x j).2=[]
 | .nil,_,_,_,_,e=>⟨e.2,λ_ _=>rfl⟩
 | .cons (.pur _) b,hs,x,_,_,e=>by
  obtain⟨v,r,f1,f2,rfl,rfl,⟨_,_,c,_⟩,f⟩:=e;obtain⟨g,i⟩:=lR b (by simpa [aL]using hs) f;refine⟨by rw[c,g];rfl,λd j=> ?_⟩;show []++(bJ d b x.2 (j+0)).2=[];rw[i];rfl
 | .cons (.own _) _,hs,_,_,_,_=>by simp[aL]at hs
 | .cons (.row _) _,hs,_,_,_,_=>by simp[aL]at hs
 | .cons (.nrw _) _,hs,_,_,_,_=>by simp[aL]at hs
 | .cons (.box _) _,hs,_,_,_,_=>by simp[aL]at hs
 | .cons (.agg _) _,hs,_,_,_,_=>by simp[aL]at hs
 | .cons (.fn _ _ _) _,hs,_,_,_,_=>by simp[aL]at hs
 | .cons .ign _,hs,_,_,_,_=>by simp[aL]at hs
 | .cons .nl _,hs,_,_,_,_=>by simp[aL]at hs
 | .cons .nil _,hs,_,_,_,_=>by simp[aL]at hs
 | .cons (.cons _ _) _,hs,_,_,_,_=>by simp[aL]at hs
 | .pur _,hs,_,_,_,_=>by simp[aL]at hs
 | .own _,hs,_,_,_,_=>by simp[aL]at hs
 | .row _,hs,_,_,_,_=>by simp[aL]at hs
 | .nrw _,hs,_,_,_,_=>by simp[aL]at hs
 | .box _,hs,_,_,_,_=>by simp[aL]at hs
 | .agg _,hs,_,_,_,_=>by simp[aL]at hs
 | .fn _ _ _,hs,_,_,_,_=>by simp[aL]at hs
 | .ign,hs,_,_,_,_=>by simp[aL]at hs
 | .nl,hs,_,_,_,_=>by simp[aL]at hs
def Q9 (P:Program) (F:Nat->Prop) (G:Gh) (ow:OW) (w:World) (f:FuncId) (vs:List Value) (Q:SV->Prop):Prop:=Calls P f vs.toArray w λe a=>∃s v,e= .returned v/\Q s/\Tr F G ow w G ow a/\Sv F G ow a.heap s v
def LZ (e:bt F G ow w.heap) (n:∀b,F b->b<w.heap.size) {f:World} (a:eX (λ_=>False) w f):Tr F G ow w G ow f:=by
 have g:eX (cu G ow) w f:=⟨a.size,λb k _=>a.heap b k (λh=>h),a.cells,a.os,a.output,a.tape⟩;exact tX e n (λ_ _ _=>rfl) (λ_ _=> .refl _) g (λb k=> .inl k)
  (λb r _ l=>⟨r,by unfold am;rw[a.heap b (cL l) (λh=>h)];exact l,rfl⟩)
  (λd j o m=> .inl ⟨m,rfl,λhi i b c p=>a.heap b (cu.lt e (aM.2 ⟨d,j,i,c,by rw[m];exact hi,p⟩)) (λh=>h)⟩) e.apart rfl
def mJ {f:FuncId}:(k:List jW)->(∀sg∈k,au P L f sg)->bt F G ow w.heap->(∀b,F b->b<w.heap.size)->iT L (cu G ow) w.heap-> {args:List SV}-> {vs:List Value}->dq F G ow w.heap args vs-> {Q:SV->Prop}->(vZ args ow k).can Q->Q9 P F G ow w f vs Q
 |[],_,_,_,_,_,_,_,_,h=>h.elim
 |sg::r,hs,hh,hF,hL,args,vs,ha,Q,h=>by
  unfold vZ at h;split at h
  ·rename_i g
   simp only[a0c]at g;obtain⟨g,c⟩:=g;have c:sg.al=[]:=List.isEmpty_iff.1 c;split at h
   ·rename_i p t
    obtain⟨y,u,h⟩:=h;obtain⟨K,v,M,l,a⟩:=cJ sg.args (x:=p.1) (ow1:=p.2) hF hh ha t;obtain⟨rfl,_⟩:=lR _ g.1.1 a;refine((hs sg (by simp)).2 w (λb=>F b\/cu G p.2 b) p.1 vs [] y ?_ (λq z=>⟨λA=>by simp at A,(hL q z).2⟩) l (λb hb=>by simp at hb) ?_ u (by rw[c];exact Lg.nil)).mono λe B ⟨N,fp1,C,D,s,O,R,S,j⟩=> ?_
    ·intro b hb
     rcases hb with hb|hb
     ·exact hF b hb
     ·exact cu.lt hh (v.own hb)
    ·refine cA.mono (λb r hb E=>⟨λhx=> ?_,E⟩) _ (λ_ _=>rfl) a
     rcases hx with(hx|hx)|hx
     ·exact hb.1 (.inl hx)
     ·exact hb.2 hx
     ·exact hb.1 (.inr hx)
    ·obtain⟨rfl,m⟩:=lR _ g.1.2 s
     have H:eX (λ_=>False) w B:=⟨j.size,λb hb _=>j.heap b hb (by simp),j.cells,j.os,j.output,j.tape⟩;have n:=LZ hh hF H;obtain⟨ps,l1,f1,I⟩:=gK sg.res (cA.any (ok':=cW F G ow) _ g.2 s) 0 0;obtain⟨J,_⟩:=I G ow (λi o hi=>by rw[m]at hi;simp at hi);exact⟨_,_,D,h,n,vC J⟩
   ·exact mJ r (λsg d=>hs sg (by simp[d])) hh hF hL ha h
  ·exact mJ r (λsg d=>hs sg (by simp[d])) hh hF hL ha h
def p6:(s:Sh)->aL s=true->s.freshOut=true
 | .nil,_=>rfl
 | .cons (.pur k) b,hs=>by
  have:=p6 b (by simpa [aL]using hs);simp[Sh.freshOut,this]
 | .cons (.own _) _,hs=>by simp[aL]at hs
 | .cons (.row _) _,hs=>by simp[aL]at hs
 | .cons (.nrw _) _,hs=>by simp[aL]at hs
 | .cons (.rows _) _,hs=>by simp[aL]at hs
 | .cons (.box _) _,hs=>by simp[aL]at hs
 | .cons (.agg _) _,hs=>by simp[aL]at hs
 | .cons (.fn _ _ _) _,hs=>by simp[aL]at hs
 | .cons .ign _,hs=>by simp[aL]at hs
 | .cons .nl _,hs=>by simp[aL]at hs
 | .cons .nil _,hs=>by simp[aL]at hs
 | .cons (.cons _ _) _,hs=>by simp[aL]at hs
 | .pur _,hs=>by simp[aL]at hs
 | .own _,hs=>by simp[aL]at hs
 | .rows _,hs=>by simp[aL]at hs
 | .row _,hs=>by simp[aL]at hs
 | .nrw _,hs=>by simp[aL]at hs
 | .box _,hs=>by simp[aL]at hs
 | .agg _,hs=>by simp[aL]at hs
 | .fn _ _ _,hs=>by simp[aL]at hs
 | .ign,hs=>by simp[aL]at hs
 | .nl,hs=>by simp[aL]at hs
def wH {d:Nat} {a:OW}:(s:Sh)->aL s=true-> {args:List SV}-> {ow:OW}-> {p:s.T×OW}->pk s args ow=some p-> {y:s.Out}-> {st:OW×List OB}->eQ d a s args y st=some st
 | .nil,_,[],_,_,_,_,_=>rfl
 | .nil,_,_::_,_,_,e,_,_=>by simp[pk]at e
 | .cons (.pur k) b,hs,[],_,_,e,_,_=>by simp[pk]at e
 | .cons (.pur k) b,hs,v::r,ow,p,e,y,st=>by
  unfold pk at e;split at e
  ·rename_i x _
   split at e
   ·rename_i z c
    simp only[eQ,Sh.noOuts,a1s];exact wH b (by simpa [aL]using hs) c
   ·cases e
  ·cases e
 | .cons (.own _) _,hs,_,_,_,_,_,_=>by simp[aL]at hs
 | .cons (.row _) _,hs,_,_,_,_,_,_=>by simp[aL]at hs
 | .cons (.nrw _) _,hs,_,_,_,_,_,_=>by simp[aL]at hs
 | .cons (.rows _) _,hs,_,_,_,_,_,_=>by simp[aL]at hs
 | .cons (.box _) _,hs,_,_,_,_,_,_=>by simp[aL]at hs
 | .cons (.agg _) _,hs,_,_,_,_,_,_=>by simp[aL]at hs
 | .cons (.fn _ _ _) _,hs,_,_,_,_,_,_=>by simp[aL]at hs
 | .cons .ign _,hs,_,_,_,_,_,_=>by simp[aL]at hs
 | .cons .nl _,hs,_,_,_,_,_,_=>by simp[aL]at hs
 | .cons .nil _,hs,_,_,_,_,_,_=>by simp[aL]at hs
 | .cons (.cons _ _) _,hs,_,_,_,_,_,_=>by simp[aL]at hs
 | .pur _,hs,_,_,_,_,_,_=>by simp[aL]at hs
 | .own _,hs,_,_,_,_,_,_=>by simp[aL]at hs
 | .rows _,hs,_,_,_,_,_,_=>by simp[aL]at hs
 | .row _,hs,_,_,_,_,_,_=>by simp[aL]at hs
 | .nrw _,hs,_,_,_,_,_,_=>by simp[aL]at hs
 | .box _,hs,_,_,_,_,_,_=>by simp[aL]at hs
 | .agg _,hs,_,_,_,_,_,_=>by simp[aL]at hs
 | .fn _ _ _,hs,_,_,_,_,_,_=>by simp[aL]at hs
 | .ign,hs,_,_,_,_,_,_=>by simp[aL]at hs
 | .nl,hs,_,_,_,_,_,_=>by simp[aL]at hs
def lu {f:FuncId} {d:Nat}:(j:List jW)->(∀sg∈j,au P L f sg)->bt F G ow w.heap->(∀b,F b->b<w.heap.size)->iT L (cu G ow) w.heap-> {args:List SV}-> {vs:List Value}->dq F G ow w.heap args vs-> {Q:SV×OW->Prop}->(mw args ow d j).can Q->DA P F G ow w f vs Q
 |[],_,_,_,_,_,_,_,_,h=>h.elim
 |sg::r,hs,hh,hF,hL,args,vs,ha,Q,h=>by
  unfold mw at h;split at h
  ·rename_i c
   simp only[a0c]at c;obtain⟨c,g⟩:=c;have g:sg.al=[]:=List.isEmpty_iff.1 g;split at h
   ·rename_i p u
    obtain⟨y,C,h⟩:=h;dsimp only at h;split at h
    ·rename_i ow' D
     obtain⟨X,E,Y,k,a⟩:=cJ sg.args (x:=p.1) (ow1:=p.2) hF hh ha u;obtain⟨rfl,_⟩:=lR _ c.1 a;refine((hs sg (by simp)).2 w (λb=>F b\/cu G p.2 b) p.1 vs [] y ?_ (λq H=>⟨λI=>by simp at I,(hL q H).2⟩) k (λb hb=>by simp at hb) ?_ C (by rw[g];exact Lg.nil)).mono λe v ⟨z,fp1,m,J,K,M,N,O,A⟩=> ?_
     ·intro b hb
      rcases hb with hb|hb
      ·exact hF b hb
      ·exact cu.lt hh (E.own hb)
     ·refine cA.mono (λb r hb n=>⟨λhx=> ?_,n⟩) _ (λ_ _=>rfl) a
      rcases hx with(hx|hx)|hx
      ·exact hb.1 (.inl hx)
      ·exact hb.2 hx
      ·exact hb.1 (.inr hx)
     ·have n:cA v.heap (λ_=>False) sg.res y.1 z fp1:=cA.any _ c.2 K
      have o:gx v.heap (λ_=>False) sg.args y.2 vs m:=gx.any _ (p6 _ c.1) M;obtain⟨R,l1,f1,S⟩:=gK sg.res n d 0;obtain⟨B,T,U,V⟩:=iU (F:=F) hh A.cells d sg.args ha o (st:=(ow,(bJ d sg.res y.1 0).2)) (λd' j' hx=>hx) (wH _ c.1 u);obtain⟨W,s,t⟩:=wG hh hF (.refl _) (.refl _ _) A N O V l1 (by rw[<-f1];rfl) D (λb r hb=>hb.elim) (l:=(bJ d sg.res y.1 0).1) (vs:=z) S;exact⟨_,_,_,W,J,h,s,vC t⟩
    ·exact h.elim
   ·exact lu r (λsg i=>hs sg (by simp[i])) hh hF hL ha h
  ·exact lu r (λsg i=>hs sg (by simp[i])) hh hF hL ha h
def vg (P:Program) (op:Oper) (b:Operand->Value) (w:World) (R:Value->World->Prop):Prop:=
 (∃v a,(execOp b op).run P w= .ok (.value v) a/\R v a)\/(∃a,(execOp b op).run P w= .ok .skip a/\R undef a)\/
 ∃f args,(execOp b op).run P w= .ok (.enter f args) w/\Calls P f args w λe a=>∃v,e= .returned v/\R v a
def vg.wp {op:Oper} {a:Act} {next:Act->World->Prop} {d:Exit->Act->World->Prop} (h:vg P op a.eval w λv c=>next (a.put op.dst v) c):op.wp P a w next d:=by
 unfold Oper.wp;rcases h with⟨v,c,b,h⟩|⟨c,b,h⟩|⟨f,args,b,h⟩
 ·rw[b];exact h
 ·rw[b];exact h
 ·rw[b]
  exact h.mono λe c ⟨v,g,h⟩=>by rw[g];exact h
def iq {c:Call} {b:Operand} (d:op.op= .call c) (f:c.callee= .value b) {a:FuncId} {xs ys:List Value} (g:ρv b= .func (.func a) xs.toArray ys.toArray)
 (h:∃fn,P.funcs[a]?=some fn/\(fn.name== "runtime.NumGoroutine")=false/\fn.body.isNone=false):
 (execOp ρv op).run P w= .ok (.enter a (xs++c.args.toList.map ρv++ys).toArray) w:=by
 obtain⟨fn,i,j,k⟩:=h;have e:xs.toArray++c.args.map ρv++ys.toArray=(xs++c.args.toList.map ρv++ys).toArray:=by apply a4l;simp
 simp only[execOp,d,resolve,f,g,Deferred.ofValue,Sem.run_bind,Sem.run_pure,Result.andThen_ok,invoke,callFunc,run_program,i,j,k,a0u,a1z];rw[e]
end
section
variable {F:Nat->Prop} {G:Gh} {ow:OW} {w:World} {L:List (Nat×Obj)} {C:gw}
def gw.Holds (C:gw) (L:List (Nat×Obj)):Prop:=∀f,∀a∈C.sigsOf f,au C.P L f a
def fC (k:C.Holds L) (l:op.op=o) (g:bt F G ow w.heap) (m:∀b,F b->b<w.heap.size) (n:iT L (cu G ow) w.heap) (i:LO F G ow w.heap ρ ρv) {Q:SV->Prop} (h:(Ae C o ρ ow).can Q):vg C.P op ρv w λv j=>∃s,Q s/\Tr F G ow w G ow j/\Sv F G ow j.heap s v:=by
 unfold Ae at h;split at h
 ·rename_i p args _
  split at h
  ·rename_i d a b q
   have f:=i p;rw[q]at f;obtain⟨xs,ys,f,r,t⟩:=f.fn_inv;have c:dq F G ow w.heap (a++args.toList.map ρ++b) (xs++args.toList.map ρv++ys):=(r.append (i.svs _)).append t
   cases hsg:C.sigsOf d with
   |nil=>rw[hsg]at h;exact h.elim
   |cons sg0 r0=>
    have u:=(k d sg0 (by rw[hsg];simp)).1;have:=mJ (C.sigsOf d) (k d) g m n c h;exact .inr (.inr ⟨d,_,iq l rfl f u,this.mono λe j ⟨s,v,x,y,z,A⟩=>⟨v,x,s,y,z,A⟩⟩)
  ·exact h.elim
 ·obtain⟨s,v,B,D,E⟩:=wq (P:=C.P) l g i h
  exact .inl ⟨v,w,D,s,B,.refl g,E⟩
def uq (k:C.Holds L) (m:op.op=o) (n:bt F G ow w.heap) (p:∀b,F b->b<w.heap.size) (q:iT L (cu G ow) w.heap) (l:LO F G ow w.heap ρ ρv) (h:(tS C o ρ ow d).can Q):vg C.P op ρv w λv j=>∃s ow' g,Q (s,ow')/\Tr F G ow w g ow' j/\Sv F g ow' j.heap s v:=by
 unfold tS at h;split at h
 ·rename_i r args _
  split at h
  ·rename_i f a b t
   have i:=l r;rw[t]at i;obtain⟨xs,ys,i,u,x⟩:=i.fn_inv;have c:dq F G ow w.heap (a++args.toList.map ρ++b) (xs++args.toList.map ρv++ys):=(u.append (l.svs _)).append x
   cases hsg:C.sigsOf f with
   |nil=>rw[hsg]at h;exact h.elim
   |cons sg0 r0=>
    have y:=(k f sg0 (by rw[hsg];simp)).1;have:=lu (C.sigsOf f) (k f) n p q c h;exact .inr (.inr ⟨f,_,iq m rfl i y,this.mono λe j ⟨s,ow',v,g,z,A,B,D⟩=>⟨v,z,s,ow',g,A,B,D⟩⟩)
  ·exact h.elim
 ·exact h.elim
def vg.res {P:Program} {c:Sem Value} (d:Db P F G ow w Q c) (e:(execOp ρv op).run P w=(do pure (Next.value (<-c)):Sem Next).run P w):vg P op ρv w λv a=>∃s ow' b,Q (s,ow')/\Tr F G ow w b ow' a/\Sv F b ow' a.heap s v:=by
 obtain⟨s,ow',v,a,b,f,g,h,i⟩:=d;refine .inl ⟨v,a,?_,s,ow',b,f,h,i⟩;rw[e,Sem.run_bind,g];rfl
def fX (S:C.Holds L) (k:op.op=o) (j:bt F G ow w.heap) (m:∀b,F b->b<w.heap.size) (T:iT L (cu G ow) w.heap) (c:LO F G ow w.heap ρ ρv) (h:(nr C o ρ ow d).can Q):vg C.P op ρv w λv u=>∃s ow' z,Q (s,ow')/\Tr F G ow w z ow' u/\Sv F z ow' u.heap s v:=by
 unfold nr at h;split at h
 ·split at h
  ·rename_i q B
   split at h
   ·rename_i ow' D
    exact vg.res (zi (P:=C.P) j m B D h) (by simp only[execOp,k])
   ·exact h.elim
  ·exact h.elim
 ·split at h
  ·rename_i q B
   split at h
   ·rename_i ow' D
    exact vg.res (Dr (P:=C.P) j m (c _) B D h) (by simp only[execOp,k])
   ·exact h.elim
  ·exact h.elim
 ·rename_i t n f
  refine vg.res (qt (P:=C.P) (vps:=f.toList.map λx=>(x.1,ρv x.2)) j m (by simp) (by simp only[a8r];exact(by simpa [a7x]using c.svs (f.toList.map (·.2)))) h) ?_
  simp only[execOp,k]
  congr 4
  apply a4l;simp
 ·have h:=bc.can_bind _ h
  obtain⟨ow',u,E,H,I⟩:=zl (P:=C.P) j m (c _) (c _) h;refine .inr (.inl ⟨u,?_,_,ow',G,E,I,.tup (l:=[]) (vs:=[]) rfl (λi h=>by simp at h)⟩);simp only[execOp,k,Sem.run_bind,H,Result.andThen_ok,Sem.run_pure]
 ·exact vg.res (rB (P:=C.P) j m (c _) (c _) h) (by simp only[execOp,k])
 ·rename_i args J
  split at h
  ·rename_i s x t tx V I
   split at h
   ·rename_i K
    refine vg.res (ww (P:=C.P) (ty:=op.type) j m (c s) (c x) K h) ?_
    have W:args.map ρv= #[ρv s,ρv x]:=by apply a4l;simp[V]
    have X:J= #[t,tx]:=by apply a4l;simp[I]
    simp only[execOp,k,resolve,Sem.run_bind,Sem.run_pure,Result.andThen_ok,invoke,builtin,W,X]
   ·exact h.elim
  ·exact h.elim
 ·rename_i Y args _
  split at h
  ·rename_i y a b Z
   have A:=c Y;rw[Z]at A;obtain⟨xs,ys,A,M,hy⟩:=A.fn_inv;have g:dq F G ow w.heap (a++args.toList.map ρ++b) (xs++args.toList.map ρv++ys):=(M.append (c.svs _)).append hy
   cases hsg:C.sigsOf y with
   |nil=>rw[hsg]at h;exact h.elim
   |cons sg0 r0=>
    have h0:=(S y sg0 (by rw[hsg];simp)).1;obtain⟨G1,r,N⟩:=ui m j (a++args.toList.map ρ++b);have:=p5 (C.sigsOf y) (S y) r.hrep m (λp U=>⟨λM=>(T p U).1 (N _ M),(T p U).2⟩) ⟨g.1,λi O R=>r.sv _ _ (g.2 i O R)⟩ h;exact .inr (.inr ⟨y,_,iq k rfl A h0,this.mono λe u ⟨s,ow',v,z,O,R,h3,h4⟩=>⟨v,O,s,ow',z,R,r.trans h3,h4⟩⟩)
  ·exact h.elim
 ·have h:=bc.can_bind _ h
  obtain⟨s,v,E,H,hs⟩:=wq (P:=C.P) k j c h;exact .inl ⟨v,w,H,s,ow,G,E,.refl j,hs⟩
def mK (p:C.Holds L) (k:op.op=o) (f:bt F G ow w.heap) (g:∀b,F b->b<w.heap.size) (r:iT L (cu G ow) w.heap) (a:LO F G ow w.heap ρ ρv) (h:(yW C o ρ ow d).can Q):vg C.P op ρv w λv B=>∃s ow' u,Q (s,ow')/\Tr F G ow w u ow' B/\Sv F u ow' B.heap s v:=by
 unfold yW at h;split at h
 ·split at h
  ·rename_i q D
   obtain⟨x,ow',v,u,E,H,I,K⟩:=zp (P:=C.P) f g (a _) (d:=q.1) (j:=q.2.1) (e:=q.2.2.1) (c:=q.2.2.2.1) (s:=q.2.2.2.2) D h;refine .inl ⟨v,w,?_,x,ow',u,E,I,K⟩;simp only[execOp,k,Sem.run_bind,H,Result.andThen_ok,Sem.run_pure]
  ·exact fX p k f g r a h
 ·split at h
  ·rename_i q D
   have h:=bc.can_bind _ h;obtain⟨ow',B,u,E,H,I⟩:=wA (P:=C.P) f g (a _) (a _) (d:=q.1) (j:=q.2.1) (e:=q.2.2.1) (c:=q.2.2.2.1) (s:=q.2.2.2.2) D h;refine .inr (.inl ⟨B,?_,_,ow',u,E,I,.tup (l:=[]) (vs:=[]) rfl (λi h=>by simp at h)⟩);simp only[execOp,k,Sem.run_bind,H,Result.andThen_ok,Sem.run_pure]
  ·exact fX p k f g r a h
 ·rename_i t n m
  split at h
  ·rename_i T M
   refine vg.res (wD (P:=C.P) (vps:=m.toList.map λx=>(x.1,ρv x.2)) f g (by simp) (by simp only[a8r];exact(by simpa [a7x]using a.svs (m.toList.map (·.2)))) h) ?_
   simp only[execOp,k]
   congr 4
   apply a4l;simp
  ·exact fX p k f g r a h
 ·split at h
  ·exact vg.res (zr (P:=C.P) f g (a _) (a _) h) (by simp only[execOp,k])
  ·exact fX p k f g r a h
 ·rename_i J
  split at h
  ·rename_i s x t tx y N O
   split at h
   ·split at h
    ·rename_i z
     have A:Db C.P F G ow w Q (Builtin.append_ #[t,tx] op.type #[ρv s,ρv x]):=by
      split at h
      ·exact B8 (P:=C.P) (ty:=op.type) f g (a s) (a x) z h
      ·exact vf (P:=C.P) (ty:=op.type) f g (a s) (a x) z h
     refine vg.res A ?_
     have R:J.args.map ρv= #[ρv s,ρv x]:=by apply a4l;simp[N]
     have S:J.argTypes= #[t,tx]:=by apply a4l;simp[O]
     simp only[execOp,k,y,resolve,Sem.run_bind,Sem.run_pure,Result.andThen_ok,invoke,builtin,R,S]
    ·exact h.elim
   ·exact fX p k f g r a h
  ·exact fX p k f g r a h
 ·exact fX p k f g r a h
end
end Go.Pev
namespace Go.Pev
variable {w:World} {G:Gh} {ow:OW} {a:Act} {v:Value} {s:SV} {sl:List SV} {d:Option Tmp}
structure FQ (F:Nat->Prop) (fp:List Nat) (L:List (Nat×Obj)) (w0:World):Prop where
 wide:∀b,F b->b<w0.heap.size
 laid:iT L (·∈fp) w0.heap
 fpF:∀b∈fp,¬F b
structure nJ (nt:Nat) (fr:Nat->Bool) (F:Nat->Prop) (fp:List Nat) (w0:World) (vs:List Value) (st:St) (a:Act) (w:World):Prop where
 ex:∃G,dq F G st.ow w.heap st.sl a.tmps.toList/\bt F G st.ow w.heap/\∀b,cu G st.ow b->b∈fp\/w0.heap.size<=b
 kept:eX (·∈fp) w0 w
 defers:a.defers=[]
 args:∀i,i<vs.length->fr i=false->a.tmps[i]?=vs[i]?
 size:a.tmps.size=nt
section
variable {F:Nat->Prop} {fp:List Nat} {L:List (Nat×Obj)} {w0:World} {vs:List Value} {C:gw} {nt:Nat} {fr:Nat->Bool}
def FQ.wideAt (a:FQ F fp L w0) (c:eX (·∈fp) w0 w):∀b,F b->b<w.heap.size:=λb d=>a7k (a.wide b d) c.size
def FQ.laidAt (e:FQ F fp L w0) (f:eX (·∈fp) w0 w) (g:∀b,cu G ow b->b∈fp\/w0.heap.size<=b):iT L (cu G ow) w.heap:=λp i=>by
 obtain⟨c,d⟩:=e.laid p i;have a:=(a1c.1 d).1;refine⟨λh=> ?_,by rw[f.heap p.1 a c];exact d⟩;rcases g _ h with h|h
 ·exact c h
 ·omega
def eB (j:dq F G ow w.heap sl a.tmps.toList):LO F G ow w.heap (iL sl) a.eval:=by
 intro x
 cases x with
 |tmp t=>
  show Sv F G ow w.heap (match sl[t]? with|some s=>s|none=> .dead) (a.tmps.getD t undef);split
  ·rename_i s h
   obtain⟨d,rfl⟩:=a0p.1 h;have c:t<a.tmps.toList.length:=by rw[<-j.1];exact d
   have e:a.tmps.getD t undef=a.tmps.toList[t]:=by
    have:t<a.tmps.size:=by simpa using c
    simp[Array.getD,this]
   rw[e];exact j.2 t d c
  ·exact .dead _
 |const v=>exact tV 4 v
 |global g=>exact .dead _
 |func f=>exact .fn (a:=[]) (b:=[]) (xs:=[]) (ys:=[]) rfl rfl (λi h=>by simp at h) (λi h=>by simp at h)
def vD (b:dq F G ow w.heap sl a.tmps.toList) (g:Sv F G ow w.heap s v) (d:Option Tmp):dq F G ow w.heap (bm sl d s) (a.put d v).tmps.toList:=by
 cases d with
 |none=>exact b
 |some d=>
  refine⟨by simp[bm,Act.put,b.1],λi c f=> ?_⟩;simp only[bm,Act.put,Array.toList_setIfInBounds]at c f⊢;by_cases e:d=i
  ·subst e
   simp only[a3m];exact g
  ·simp only[a3g e]
   exact b.2 i (by simpa using c) (by simpa using f)
def DC (h:∀i,i<vs.length->fr i=false->a.tmps[i]?=vs[i]?) (c:∀x,d=some x->fr x=true):∀i,i<vs.length->fr i=false->(a.put d v).tmps[i]?=vs[i]?:=by
 intro i hi b
 cases d with
 |none=>exact h i hi b
 |some d=>
  have:=c d rfl;simp only[Act.put];rw[Array.getElem?_setIfInBounds_ne (λe=>by rw[e]at this;rw[this]at b;cases b)];exact h i hi b
def DD (a:Act) (d:Option Tmp) (v:Value):(a.put d v).tmps.size=a.tmps.size:=by cases d<;>simp[Act.put]
def mL (a:Act) (d:Option Tmp) (v:Value):(a.put d v).defers=a.defers:=by cases d<;>rfl
def nJ.op (o:FQ F fp L w0) {st:St} (h:nJ nt fr F fp w0 vs st a w) (g:dq F G st.ow w.heap st.sl a.tmps.toList) (j:∀b,cu G st.ow b->b∈fp\/w0.heap.size<=b) {e:Gh} {ow':OW} {f:World} (c:Tr F G st.ow w e ow' f) (k:Sv F e ow' f.heap s v) (l:∀x,d=some x->fr x=true):nJ nt fr F fp w0 vs ⟨bm st.sl d s,ow'⟩ (a.put d v) f:=by
 refine⟨⟨e,vD ⟨g.1,λi h1 m=>c.sv _ _ (g.2 i h1 m)⟩ k d,c.hrep,λb n=> ?_⟩,h.kept.trans c.kept j,by rw[mL];exact h.defers,DC h.args l,by rw[DD];exact h.size⟩;rcases c.own b n with h1|h1
 ·exact j b h1
 ·exact .inr (a5o h.kept.size h1)
def nJ.slot {st:St} (h:nJ nt fr F fp w0 vs st a w) (b:∀G,Sv F G st.ow w.heap s v) (c:∀x,d=some x->fr x=true):nJ nt fr F fp w0 vs ⟨bm st.sl d s,st.ow⟩ (a.put d v) w:=by
 obtain⟨G,e,f,g⟩:=h.ex;exact⟨⟨G,vD e (b G) d,f,g⟩,h.kept,by rw[mL];exact h.defers,DC h.args c,by rw[DD];exact h.size⟩
def ku {h:Array Obj}:Sv F G ow h (.tup []) undef:= .tup (l:=[]) (vs:=[]) rfl (λi h=>by simp at h)
def cM (l:dq F G ow w.heap sl a.tmps.toList) {k:Array Oper} {o:Oper} {b:Bool} (h:dC k o sl=some b):Region.wanted o (yielded k a.tmps)=b:=by
 unfold dC at h;unfold Region.wanted;split at h
 ·rename_i m
  rw[m];exact a1f h
 ·rename_i j f m
  rw[m];simp only;unfold yielded;split at h
  ·rename_i n
   cases h
   rw[n];rfl
  ·rename_i g n
   rw[n];simp only[a0d];split at h
   ·rename_i t i
    cases h
    obtain⟨d,e⟩:=a0p.1 i;have c:g<a.tmps.toList.length:=by rw[<-l.1];exact d
    have:=l.2 g d c;rw[e]at this;have p:=this.lb_inv;have:a.tmps[g]?=some (.bool t):=by rw[<-p];simp[show g<a.tmps.size by simpa using c]
    rw[this]
    cases t<;>cases f<;>rfl
   ·rename_i i
    cases h
    obtain⟨d,e⟩:=a0p.1 i;have c:g<a.tmps.toList.length:=by rw[<-l.1];exact d
    have:=l.2 g d c;rw[e]at this;obtain⟨r,p,q⟩:=this.tup_inv;have:r=[]:=a0s q.1.symm;subst this;have:a.tmps[g]?=some (.tuple #[]):=by rw[<-p];simp[show g<a.tmps.size by simpa using c]
    rw[this]
    cases f<;>rfl
   ·cases h
def k8 {α:Type} {n:Nat} {src:Bool} (a:Sv F G ow w.heap s v) {k:SV->Option α} {r:α} (h:split n src s k=some r):∃c,k c=some r/\Sv F G ow w.heap c v:=by
 unfold split at h;split at h
 ·split at h
  ·rename_i b
   rw[a.bool_inv];rw[gZ]at h
   cases b
   ·exact⟨_,h,.lb _⟩
   ·exact⟨_,h,.lb _⟩
  ·exact⟨_,h,a⟩
 ·exact⟨_,h,a⟩
def wI (C:gw) (L:List (Nat×Obj)):Prop:=∀ {F:Nat->Prop} {G:Gh} {ow:OW} {w:World} {o:Op} {op:Oper},op.op=o->∀ {ρ:Operand->SV} {a:Operand->Value},bt F G ow w.heap->(∀b,F b->b<w.heap.size)->iT L (cu G ow) w.heap->LO F G ow w.heap ρ a->∀ {d:Nat} {Q:SV×OW->Prop},(tT C o ρ ow d).can Q->vg C.P op a w λv c=>∃s ow' e,Q (s,ow')/\Tr F G ow w e ow' c/\Sv F e ow' c.heap s v
def oA {α:Type} (y:wI C L) (j:FQ F fp L w0) {b:Array Oper} {Q:Exit->Act->World->Prop} {k:St->Option α} {r:α}
 (z:∀m I c,k m=some r->nJ nt fr F fp w0 vs m I c->Q .normal I c):
 (l:List (Oper×Nat))->(∀p∈l,b[p.2]?=some p.1/\∀d,p.1.dst=some d->fr d=true)-> {st:St}-> {a:Act}-> {w:World}->nJ nt fr F fp w0 vs st a w->Ak C b l st k=some r->wpOps C.P b Q (l.map (·.2)) a w
 |[],_,st,a,w,h,e=>z _ _ _ e h
 |(o,i)::l,hl,st,a,w,h,e=>by
  obtain⟨M,J⟩:=hl (o,i) (by simp);have n:∀p∈l,b[p.2]?=some p.1/\∀d,p.1.dst=some d->fr d=true:=λp N=>hl p (by simp[N])
  obtain⟨G,x,O,g⟩:=h.ex;unfold Ak at e;simp only[a2f,wpOps];rw[M];simp only;split at e
  ·cases e
  ·rename_i A
   rw[cM x A];exact oA y j z l n (h.slot (λ_=>ku) J) e
  ·rename_i A
   rw[cM x A];simp only[a1s];left;have q:=bc.can_of_run _ e;have B:=y rfl O (j.wideAt h.kept) (j.laidAt h.kept g) (eB x) q;refine vg.wp ?_
   have conv:∀v c,(∃s ow' D,(split C.fuel (d9 b i) s λK=>Ak C b l ⟨bm st.sl o.dst K,ow'⟩ k)=some r/\Tr F G st.ow w D ow' c/\Sv F D ow' c.heap s v)->wpOps C.P b Q (l.map (·.2)) (a.put o.dst v) c:=by
    rintro v c ⟨s,ow',D,E,R,H⟩
    obtain⟨K,E,H⟩:=k8 H E;exact oA y j z l n (h.op j x g R H J) E
   rcases B with⟨v,c,t,u⟩|⟨c,t,u⟩|⟨f,args,t,u⟩
   ·exact .inl ⟨v,c,t,conv v c u⟩
   ·exact .inr (.inl ⟨c,t,conv undef c u⟩)
   ·exact .inr (.inr ⟨f,args,t,u.mono λe c ⟨v,S,T⟩=>⟨v,S,conv v c T⟩⟩)
def qx {α:Type} (H:C.Holds L) (t:FQ F fp L w0) {b:Array Oper} {Q:Exit->Act->World->Prop} {ow:OW} {k:List SV->Option α} {r:α}
 {sl0:List SV} {D:Nat->Prop}
 (I:∀m R c,k m=some r->nJ nt fr F fp w0 vs ⟨m,ow⟩ R c->(∀d,¬D d->m[d]?=sl0[d]?)->Q .normal R c):
 (l:List (Oper×Nat))->(∀p∈l,b[p.2]?=some p.1/\∀d,p.1.dst=some d->fr d=true/\D d)-> {n:List SV}-> {a:Act}-> {w:World}->nJ nt fr F fp w0 vs ⟨n,ow⟩ a w->(∀d,¬D d->n[d]?=sl0[d]?)->IH C b ow l n k=some r->wpOps C.P b Q (l.map (·.2)) a w
 |[],_,n,a,w,h,hag,e=>I _ _ _ e h hag
 |(o,i)::l,hl,n,a,w,h,hag,e=>by
  obtain⟨U,u⟩:=hl (o,i) (by simp);have S:∀d,o.dst=some d->fr d=true:=λd J=>(u d J).1
  have g:∀s d,¬D d->(bm n o.dst s)[d]?=sl0[d]?:=by
   intro s d q
   cases J:o.dst with
   |none=>exact hag d q
   |some x=>
    have:x≠d:=λe=>q (e▸(u x J).2)
    simp only[bm];rw[a3b this];exact hag d q
  have y:∀p∈l,b[p.2]?=some p.1/\∀d,p.1.dst=some d->fr d=true/\D d:=λp V=>hl p (by simp[V])
  obtain⟨G,E,W,j⟩:=h.ex;unfold IH at e;simp only[a2f,wpOps];rw[U];simp only;split at e
  ·cases e
  ·rename_i K
   rw[cM E K];exact qx H t I l y (h.slot (λ_=>ku) S) (g _) e
  ·rename_i K
   rw[cM E K];simp only[a1s];left;have z:=bc.can_of_run _ e;have M:=fC H rfl W (t.wideAt h.kept) (t.laidAt h.kept j) (eB E) z;refine vg.wp ?_
   have conv:∀v c,(∃s,(split C.fuel (d9 b i) s λT=>IH C b ow l (bm n o.dst T) k)=some r/\Tr F G ow w G ow c/\Sv F G ow c.heap s v)->wpOps C.P b Q (l.map (·.2)) (a.put o.dst v) c:=by
    rintro v c ⟨s,N,X,O⟩
    obtain⟨T,N,O⟩:=k8 O N;exact qx H t I l y (h.op t E j X O S) (g _) N
   rcases M with⟨v,c,A,B⟩|⟨c,A,B⟩|⟨f,args,A,B⟩
   ·exact .inl ⟨v,c,A,conv v c B⟩
   ·exact .inr (.inl ⟨c,A,conv undef c B⟩)
   ·exact .inr (.inr ⟨f,args,A,B.mono λe c ⟨v,Y,Z⟩=>⟨v,Y,conv v c Z⟩⟩)
def g8 (a:Array Oper) {fr:Nat->Bool} (h:(a.toList.all λo=>match o.dst with|some d=>fr d|none=>true)=true):(∀p∈a.toList.zipIdx,a[p.2]?=some p.1/\∀d,p.1.dst=some d->fr d=true)/\a.toList.zipIdx.map (·.2)=List.range a.size:=by
 refine⟨λp e=> ?_,by simp[a3t]⟩;have b:=List.mem_zipIdx' e;refine⟨by have:=b.2;rw[this];simp[show p.2<a.size by simpa using b.1],λd f=> ?_⟩;have c:=a1g.1 h p.1 (by rw[b.2];exact a0l _);rw[f]at c;simpa using c
end
end Go.Pev
namespace Go.Pev
variable {st:St} {a:Act} {w:World}
section
variable {F:Nat->Prop} {G:Gh} {w:World}
def DE {f1:List Nat} (m:bt (FP F f1) G st.ow w.heap) {tmps:List Value} (j:dq (FP F f1) G st.ow w.heap st.sl tmps) {a:Sh} {x:a.T} {v:Value} (e:cA w.heap (cW (FP F f1) G st.ow) a x [v] f1) (g:f1.Nodup) (n:∀b∈f1,¬F b)
 {s:Nat} (c:st.ow[s]?=some []) (k:tmps[s]?=some v):
 ∃f,bt F f (st.ow.set s ((bJ s a x 0).2.map some)) w.heap/\dq F f (st.ow.set s ((bJ s a x 0).2.map some)) w.heap (st.sl.set s ((bJ s a x 0).1.headD .dead)) tmps/\∀b,cu f (st.ow.set s ((bJ s a x 0).2.map some)) b↔cu G st.ow b\/b∈f1:=by
 have o:cg st.ow s (bJ s a x 0).2=some (st.ow.set s ((bJ s a x 0).2.map some)):=by
  unfold cg;split
  ·rename_i h
   rw[h]
   congr 1
   apply a2e;intro i;by_cases hi:s=i
   ·subst hi
    rw[a4q (a0p.1 c).1,c];rfl
   ·rw[a3b hi]
  ·rw[c]
 obtain⟨f,p,q,r,t,_⟩:=sW m e g n o;refine⟨f,p,⟨by simp[j.1],λi y l=> ?_⟩,t⟩;obtain⟨u,z,d⟩:=q.single;have d:Sv F f (st.ow.set s ((bJ s a x 0).2.map some)) w.heap ((bJ s a x 0).1.headD .dead) v:=by rw[z];exact d
 by_cases hi:s=i
 ·subst hi
  rw[a3m];rw[a0a l]at k;rw[a1f k];exact d
 ·rw[a3g hi]
  exact r _ _ (j.2 i (by simpa using y) l)
def ur (F:Nat->Prop) (w:World) (nt:Nat) {tmps:List Value} (g:tmps.length=nt):bt F (λ_ _ _=>none) (List.replicate nt []) w.heap/\dq F (λ_ _ _=>none) (List.replicate nt []) w.heap (List.replicate nt SV.dead) tmps/\∀b,¬cu (λ_ _ _=>none) (List.replicate nt []) b:=by
 refine⟨⟨λd j o a=> ?_,λd j i d' j' m b o n _ _ c _=>(by cases c),λb e=> ?_⟩,⟨by simp[g],λi k f=>by simp only[a3z];exact .dead _⟩,λb e=> ?_⟩
 ·unfold aj at a
  cases h:(List.replicate nt ([]:List (Option OB)))[d]? with
  |none=>rw[h]at a;cases a
  |some l=>
   rw[h]at a;have:l=[]:=by
    obtain⟨k,f⟩:=a0p.1 h;simpa using f.symm
   subst this;simp at a
 ·obtain⟨_,_,_,_,_,c⟩:=aM.1 e;cases c
 ·obtain⟨_,_,_,_,_,c⟩:=aM.1 e;cases c
def wJ {nt:Nat} {tmps:List Value} (q:tmps.length=nt) {g:Nat->Prop}:(l:List (Nat×Sh))->qp nt l=true-> {F:Nat->Prop}-> {x:(gP l).T}-> {c:List Nat}->
 cA w.heap g (gP l) x (l.map λp=>tmps.getD p.1 undef) c->c.Nodup->(∀b∈c,¬F b)->(∀b,g b->¬F b/\b∉c)->
 ∃G,bt F G (ro nt l x).ow w.heap/\dq F G (ro nt l x).ow w.heap (ro nt l x).sl tmps/\(∀b,cu G (ro nt l x).ow b↔b∈c)/\∀d,d<nt->d∉l.map (·.1)->(ro nt l x).ow[d]?=some []
 |[],_,F,x,c,e,_,_,_=>by
  obtain⟨j,z,A⟩:=ur F w nt q;obtain⟨_,rfl⟩:=e;exact⟨_,j,z,λb=>⟨λh=>absurd h (A b),λh=>by simp at h⟩,λd m _=>by simp[ro,m]⟩
 |(s,sh)::r,hlv,F,x,c,e,hnd,hF,hok=>by
  simp only[qp,a0c,a0q,a2b]at hlv;obtain⟨⟨B,n⟩,C⟩:=hlv;obtain⟨v,N,f1,f2,j,rfl,D,E⟩:=e;simp only[a2f,a4y]at j;obtain⟨rfl,rfl⟩:=j;rw[a2c]at hnd;obtain⟨G,H,I,t,u⟩:=wJ q r C (F:=FP F f1) (x:=x.2) E hnd.2.1
   (λb a hx=>by
    rcases hx with hx|hx
    ·exact hF b (a0k.2 (.inr a)) hx
    ·exact hnd.2.2 b hx b a rfl)
   (λb a=>by
    obtain⟨a1,k⟩:=hok b a;exact⟨λhx=>by
     rcases hx with hx|hx
     ·exact a1 hx
     ·exact k (a0k.2 (.inl hx)),λhx=>k (a0k.2 (.inr hx))⟩)
  have i:s∉r.map (·.1):=by simpa using n
  have J:tmps[s]?=some (tmps.getD s undef):=by simp[List.getD,show s<tmps.length by omega]
  obtain⟨y,K,L,M⟩:=DE (st:=ro nt r x.2) H I (cA.mono (λb O a o=>⟨⟨λhx=>by
   obtain⟨a1,k⟩:=hok b a;rcases hx with hx|hx
   ·exact a1 hx
   ·exact k (a0k.2 (.inl hx)),λhx=>(hok b a).2 (a0k.2 (.inr ((t b).1 hx)))⟩,o⟩) sh (λ_ _=>rfl) D) hnd.1 (λb a=>hF b (a0k.2 (.inl a))) (u s B i) J
  refine⟨y,K,L,λb=> ?_,λd m f=> ?_⟩
  ·rw[show cu y (ro nt ((s,sh)::r) x).ow b↔_ from M b,t b,a0k]
   exact Or.comm
  ·simp only[a2f,a1e,not_or]at f
   show((ro nt r x.2).ow.set s _)[d]?=some [];rw[a3b (Ne.symm f.1)];exact u d m f.2
def ut {nt:Nat} {tmps:List Value} (o:tmps.length=nt) {f:Nat->Prop}:(s:Sh)->s.chain=true->(i:Nat)->i+s.len<=nt-> {F:Nat->Prop}-> {x:s.T}-> {vs:List Value}-> {c:List Nat}->
 cA w.heap f s x vs c->(∀j,j<vs.length->tmps[i+j]?=vs[j]?)->c.Nodup->(∀b∈c,¬F b)->(∀b,f b->¬F b/\b∉c)->
 ∃G,bt F G (nu nt s x i).ow w.heap/\dq F G (nu nt s x i).ow w.heap (nu nt s x i).sl tmps/\(∀b,cu G (nu nt s x i).ow b↔b∈c)/\∀d,d<i->d<nt->(nu nt s x i).ow[d]?=some []
 | .nil,_,i,_,F,x,vs,c,e,_,_,_,_=>by
  obtain⟨u,y,z⟩:=ur F w nt o;obtain⟨_,rfl⟩:=e;exact⟨_,u,y,λb=>⟨λh=>absurd h (z b),λh=>by simp at h⟩,λd _ p=>by simp[nu,p]⟩
 | .cons sh b,hc,i,hi,F,x,vs,c,e,hv,hnd,hF,hok=>by
  obtain⟨v,K,f1,f2,rfl,rfl,A,B⟩:=e;simp only[Sh.len]at hi;rw[a2c]at hnd;obtain⟨G,C,D,q,r⟩:=ut o b (by simpa [Sh.chain]using hc) (i+1) (by omega) (F:=FP F f1) (x:=x.2) B
   (λj E=>by have:=hv (j+1) (by simpa using E);rw[show i+(j+1)=i+1+j by omega]at this;simpa using this) hnd.2.1
   (λb a hx=>by
    rcases hx with hx|hx
    ·exact hF b (a0k.2 (.inr a)) hx
    ·exact hnd.2.2 b hx b a rfl)
   (λb a=>by
    obtain⟨a1,g⟩:=hok b a;exact⟨λhx=>by
     rcases hx with hx|hx
     ·exact a1 hx
     ·exact g (a0k.2 (.inl hx)),λhx=>g (a0k.2 (.inr hx))⟩)
  have k:tmps[i]?=some v:=by have:=hv 0 (by simp);simpa using this
  obtain⟨t,H,I,J⟩:=DE (st:=nu nt b x.2 (i+1)) C D (cA.mono (λb L a l=>⟨⟨λhx=>by
   obtain⟨a1,g⟩:=hok b a;rcases hx with hx|hx
   ·exact a1 hx
   ·exact g (a0k.2 (.inl hx)),λhx=>(hok b a).2 (a0k.2 (.inr ((q b).1 hx)))⟩,l⟩) sh (λ_ _=>rfl) A) hnd.1 (λb a=>hF b (a0k.2 (.inl a))) (r i (by omega) (by omega)) k
  refine⟨t,H,I,λm=> ?_,λd p n=> ?_⟩
  ·rw[show cu t (nu nt (.cons sh b) x i).ow m↔_ from J m,q m,a0k]
   exact Or.comm
  ·show((nu nt b x.2 (i+1)).ow.set i _)[d]?=some []
   rw[a3b (by omega)];exact r d (by omega) n
 | .pur _,hc,_,_,_,_,_,_,_,_,_,_,_=>by simp[Sh.chain]at hc
 | .own _,hc,_,_,_,_,_,_,_,_,_,_,_=>by simp[Sh.chain]at hc
 | .row _,hc,_,_,_,_,_,_,_,_,_,_,_=>by simp[Sh.chain]at hc
 | .nrw _,hc,_,_,_,_,_,_,_,_,_,_,_=>by simp[Sh.chain]at hc
 | .box _,hc,_,_,_,_,_,_,_,_,_,_,_=>by simp[Sh.chain]at hc
 | .agg _,hc,_,_,_,_,_,_,_,_,_,_,_=>by simp[Sh.chain]at hc
 | .fn _ _ _,hc,_,_,_,_,_,_,_,_,_,_,_=>by simp[Sh.chain]at hc
 | .ign,hc,_,_,_,_,_,_,_,_,_,_,_=>by simp[Sh.chain]at hc
 | .nl,hc,_,_,_,_,_,_,_,_,_,_,_=>by simp[Sh.chain]at hc
end
section
variable {F:Nat->Prop} {fp:List Nat} {L:List (Nat×Obj)} {w0:World} {vs:List Value} {C:gw} {nt:Nat} {fr:Nat->Bool}
def FR (r:FQ F fp L w0) {c:List (Nat×Sh)} (l:qp nt c=true) (h:nJ nt fr F fp w0 vs st a w) {y:(gP c).T×OW} (e:pk (gP c) (c.map λp=>iL st.sl (.tmp p.1)) st.ow=some y):nJ nt fr F fp w0 vs (ro nt c y.1) a w:=by
 obtain⟨G,s,o,j⟩:=h.ex;have t:=eB s;have d:dq F G st.ow w.heap (c.map λp=>iL st.sl (.tmp p.1)) (c.map λp=>a.tmps.toList.getD p.1 undef):=by
  refine⟨by simp,λi u C=> ?_⟩;simp only[a3i];have:=t (.tmp (c[i]'(by simpa using u)).1);simpa [Act.eval]using this
 obtain⟨f,D,q,m,k⟩:=cJ (gP c) (x:=y.1) (ow1:=y.2) (r.wideAt h.kept) o d e;obtain⟨v,z,A,B,_⟩:=wJ (nt:=nt) (tmps:=a.tmps.toList) (by simpa using h.size) c l (F:=F) k m (λb g=>o.notF b (q.own g)) (λb g=>⟨λn=>g.1 (.inl n),λn=>g.1 (.inr n)⟩);exact⟨⟨v,A,z,λb g=>j b (q.own ((B b).1 g))⟩,h.kept,h.defers,h.args,h.size⟩
def nJ.alR (h:nJ nt fr F fp w0 vs st a w) {al:List (Nat×Nat×Nat×List Nat)} (e:Of al st.sl st.ow=true):Lg w.heap al a.tmps.toList:=by
 obtain⟨G,b,c,_⟩:=h.ex;exact wF c b e
def nJ.fix (h:nJ nt fr F fp w0 vs st a w) {al:List (Nat×Nat×Nat×List Nat)} (e:Lg w.heap al a.tmps.toList):nJ nt fr F fp w0 vs (Lw al st) a w:=by
 obtain⟨G,d,c,b⟩:=h.ex;exact⟨⟨G,um c al d e,c,b⟩,h.kept,h.defers,h.args,h.size⟩
def QK {α:Type} (nt:Nat) (fr:Nat->Bool) (F:Nat->Prop) (b:List Nat) (c:World) (vs:List Value) (K:Ks α) (r:α):Exit->Act->World->Prop
 | .normal,a,w=>∃st,nJ nt fr F b c vs st a w/\K.normal st=some r
 | .exit i,a,w=>∃st,nJ nt fr F b c vs st a w/\K.exit i st=some r
 | .ret,a,w=>∃st,nJ nt fr F b c vs st a w/\K.ret st=some r
 |_,_,_=>False
def rG {α:Type} (m:FQ F fp L w0) {P:Program} {b:List (Nat×Sh)} (g:qp nt b=true) {al:List (Nat×Nat×Nat×List Nat)} {c:Code} {K:Ks α} {r:α} {o:St->(St->Option α)->Option α}
 (d:∀k st a w,o st k=some r->nJ nt fr F fp w0 vs st a w->c.wp P (QK nt fr F fp w0 vs {K with normal:=k} r) a w):
 (n:Nat)-> {x:(gP b).T}-> {a:Act}-> {w:World}->LK nt b al o n x=some r->nJ nt fr F fp w0 vs (ro nt b x) a w->Lg w.heap al a.tmps.toList->Code.rounds P c (QK nt fr F fp w0 vs K r) n a w
 |0,_,_,_,e,_,_=>by cases e
 |n+1,x,a,w,e,h,ha=>by
  rw[rounds_succ];refine wp_mono (d _ _ _ _ e (h.fix ha)) λq t u j=> ?_
  cases q with
  |normal=>
   obtain⟨st,p,f⟩:=j;dsimp only at f;split at f
   ·rename_i l
    split at f
    ·rename_i y s
     exact rG m g d n f (FR m g p s) (p.alR l)
    ·cases f
   ·cases f
  |exit i=>exact j
  |ret=>exact j
  |_=>exact j.elim
end
end Go.Pev
namespace Go.Pev
variable {w:World} {st:St} {a:Act} {fn:Func}
section
variable {F:Nat->Prop} {fp:List Nat} {L:List (Nat×Obj)} {w0:World} {vs:List Value} {C:gw} {nt:Nat} {fr:Nat->Bool}
def wK {G:Gh} {ow:OW} {k:Kd} {s:SV} {v:Value} (a:Sv F G ow w.heap s v) {x:k.T} (e:wc k s=some x):Sv F G ow w.heap (.v k x) v:=by
 unfold wc at e;split at e
 ·split at e
  ·rename_i b
   subst b;have e:=a1f e;subst e;exact a
  ·cases e
 ·split at e
  ·cases e
   rw[a.lb_inv];exact .bool _
  ·cases e
 ·split at e
  ·cases e
   cases a
   exact .v rfl ⟨none,0,rfl,a1n _,.inl rfl⟩
  ·cases e
 ·cases e
def rH {G:Gh} {ow:OW} {w:World} {a sl0:List SV} {tmps:List Value} (c:dq F G ow w.heap a tmps) (g:dq F G ow w.heap sl0 tmps):(l:List (Nat×Kd))-> {p:Di l}->kn l a=some p->dq F G ow w.heap (n9 l p sl0) tmps
 |[],_,_=>g
 |(d,k)::r,p,e=>by
  simp only[kn]at e;split at e
  ·rename_i x h
   split at e
   ·rename_i y n
    cases e
    have ih:=rH c g r n;refine⟨by simp[n9,ih.1],λi j f=> ?_⟩;simp only[n9]at j⊢;by_cases m:d=i
    ·subst m
     simp only[a3m];have b:d<a.length:=by rw[c.1];exact f
     have o:iL a (.tmp d)=a[d]:=by simp[iL,b]
     rw[o]at h;exact wK (c.2 d b f) h
    ·simp only[a3g m]
     exact ih.2 i (by simpa using j) f
   ·cases e
  ·cases e
def FS (b:List Oper):(a:List SV)->(b.foldl (λa o=>bm a o.dst .dead) a).length=a.length/\∀d,(∃o∈b,o.dst=some d)/\(∀(h:d<(b.foldl (λa o=>bm a o.dst .dead) a).length),(b.foldl (λa o=>bm a o.dst .dead) a)[d]= .dead)\/(¬∃o∈b,o.dst=some d)/\(b.foldl (λa o=>bm a o.dst .dead) a)[d]?=a[d]?:=by
 induction b with
 |nil=>intro a;exact⟨rfl,λd=> .inr ⟨by simp,rfl⟩⟩
 |cons o b ih=>
  intro a;obtain⟨k,l⟩:=ih (bm a o.dst .dead);have f:(bm a o.dst .dead).length=a.length:=by cases g:o.dst<;>simp[bm]
  refine⟨by simp only[a2o];rw[k,f],λd=> ?_⟩;simp only[a2o];rcases l d with⟨⟨j,ho',c⟩,i⟩|⟨m,i⟩
  ·exact .inl ⟨⟨j,by simp[ho'],c⟩,i⟩
  ·by_cases g:o.dst=some d
   ·refine .inl ⟨⟨o,by simp,g⟩,λh=> ?_⟩
    have:(b.foldl (λa o=>bm a o.dst .dead) (bm a o.dst .dead))[d]?=some .dead:=by
     rw[i,g];simp only[bm];rw[a4q (by rw[k,f]at h;exact h)]
    rw[a0a h]at this;exact a1f this
   ·refine .inr ⟨?_,?_⟩
    ·rintro⟨j,ho',c⟩
     rcases a1e.1 ho' with rfl|ho'
     ·exact g c
     ·exact m ⟨j,ho',c⟩
    ·rw[i]
     cases hx:o.dst with
     |none=>rfl
     |some x=>
      simp only[bm];rw[a3b (λe=>g (by rw[hx,e]))]
def Ca {b:Array Oper} {c:List SV} {k:Act} {l:World} (h:nJ nt fr F fp w0 vs ⟨c,st.ow⟩ k l) (m:∀d,¬(∃o∈b.toList,o.dst=some d)->c[d]?=st.sl[d]?) (f:st.sl.length=nt) {a:List (Nat×Kd)} {p:Di a} (e:kn a c=some p):nJ nt fr F fp w0 vs ⟨n9 a p (b.toList.foldl (λn o=>bm n o.dst .dead) st.sl),st.ow⟩ k l:=by
 obtain⟨G,q,u,g⟩:=h.ex;obtain⟨f1,f2⟩:=FS b.toList st.sl;have v:dq F G st.ow l.heap (b.toList.foldl (λn o=>bm n o.dst .dead) st.sl) k.tmps.toList:=by
  refine⟨by rw[f1,f];simp[h.size],λi r s=> ?_⟩;rcases f2 i with⟨_,j⟩|⟨w,j⟩
  ·rw[j r];exact .dead _
  ·have t:i<c.length:=by rw[q.1];exact s
   rw[<-m i w,a0a r,a0a t]at j;rw[a1f j];exact q.2 i t s
 exact⟨⟨G,rH q v a e,u,g⟩,h.kept,h.defers,h.args,h.size⟩
def nJ.len (h:nJ nt fr F fp w0 vs st a w):st.sl.length=nt:=by
 obtain⟨G,b,_⟩:=h.ex;rw[b.1];simpa using h.size
def wL (C:gw) (L:List (Nat×Obj)):Prop:=∀ {α:Type} {nt:Nat} {fr:Nat->Bool} {F:Nat->Prop} {e:List Nat} {f:World} {vs:List Value} {i:Nat} {b:Array Oper} {st:St} {a:Act} {w:World} {k:List SV->Option α} {r:α},FQ F e L f->
 (b.toList.all λo=>match o.dst with|some d=>fr d|none=>true)=true->nJ nt fr F e f vs st a w->lO b (ie b)=true->
 wb C b st.ow b.toList.zipIdx st.sl k=some r->∀Q:Exit->Act->World->Prop,
 (∀c g h,k c=some r->nJ nt fr F e f vs ⟨c,st.ow⟩ g h->(∀d,¬(∃o∈b.toList,o.dst=some d)->c[d]?=st.sl[d]?)->Q .normal g h)->(Code.region i b true).wp C.P Q a w
def wM (C:gw) (L:List (Nat×Obj)):Prop:=∀ {α:Type} {nt:Nat} {fr:Nat->Bool} {F:Nat->Prop} {e:List Nat} {f:World} {vs:List Value} {i:Nat} {b:Array Oper} {ks:List (List Nat×Bool)} {st:St} {a:Act} {w:World} {k:St->Option α} {r:α},FQ F e L f->
 (b.toList.all λo=>match o.dst with|some d=>fr d|none=>true)=true->nJ nt fr F e f vs st a w->lO b (qo rm b ks)=true->
 sP C b ks b.toList.zipIdx st k=some r->∀Q:Exit->Act->World->Prop,
 (∀c g h,k c=some r->nJ nt fr F e f vs c g h->Q .normal g h)->(Code.region i b true).wp C.P Q a w
def ph (C:gw) (L:List (Nat×Obj)):Prop:=wL C L/\wM C L/\wI C L
def uu {α:Type} (H:C.Holds L) (u:ph C L) (s:FQ F fp L w0) (x:Fo) {B:Nat} {b:Array Oper} {c:Bool} (v:(b.toList.all λo=>match o.dst with|some d=>fr d|none=>true)=true) {K:Ks α} {r:α}
 (e:HN C x B b c st K.normal=some r) (h:nJ nt fr F fp w0 vs st a w):(Code.region B b c).wp C.P (QK nt fr F fp w0 vs K r) a w:=by
 obtain⟨y,E⟩:=g8 b v;unfold HN at e;split at e
 ·rename_i I i _
  have t:∀p,K.normal ⟨n9 i p (b.toList.foldl (λJ o=>bm J o.dst .dead) st.sl),st.ow⟩=some r->∀f m n,kn i f=some p->nJ nt fr F fp w0 vs ⟨f,st.ow⟩ m n->(∀d,¬(∃o∈b.toList,o.dst=some d)->f[d]?=st.sl[d]?)->QK nt fr F fp w0 vs K r .normal m n:=λp e f m n j k M=>⟨_,Ca k M h.len j,e⟩
  cases c with
  |true=>
   simp only[a1s]at e;split at e
   ·rename_i g
    rw[a1y]at e;obtain⟨p,z,e⟩:=e;exact u.1 s v h g z _ (t p e)
   ·cases e
  |false=>
   simp only[a0u,a1z]at e;rw[a1y]at e;obtain⟨p,z,e⟩:=e;refine wp_region ?_
   rw[<-E];refine qx (D:=λd=>∃o∈b.toList,o.dst=some d) (sl0:=st.sl) H s (t p e) b.toList.zipIdx (λq A=>⟨(y q A).1,λd G=>⟨(y q A).2 d G,?_⟩⟩) h (λ_ _=>rfl) z;have:=List.mem_zipIdx' A;exact⟨q.1,by rw[this.2];exact a0l _,G⟩
 ·cases c with
  |true=>
   simp only[a1s]at e;split at e
   ·split at e
    ·rename_i g
     exact u.2.1 s v h g e _ λl m n j k=>⟨l,k,j⟩
    ·cases e
   ·split at e
    ·rename_i g
     exact u.1 s v h g e _ λf m n j k _=>⟨_,k,j⟩
    ·cases e
  |false=>
   simp only[a0u,a1z]at e;refine wp_region ?_
   rw[<-E];exact oA u.2.2 s (λl m n j k=>⟨l,k,j⟩) _ y h e
def dE {α:Type} (j:C.Holds L) (l:ph C L) (d:FQ F fp L w0) (b:Fo):(c:Code)->lP fr c=true-> {f:Nat}-> {K:Ks α}-> {r:α}-> {st:St}-> {a:Act}-> {w:World}->ef C b nt c f st K=some r->nJ nt fr F fp w0 vs st a w->c.wp C.P (QK nt fr F fp w0 vs K r) a w
 | .skip,_,_,K,r,st,a,w,e,h=>wp_skip ⟨st,h,by simpa [ef]using e⟩
 | .exit s,_,_,K,r,st,a,w,e,h=>wp_exit ⟨st,h,by simpa [ef]using e⟩
 | .ret,_,_,K,r,st,a,w,e,h=>wp_ret ⟨st,h,by simpa [ef]using e⟩
 | .seq x y,hd,f,K,r,st,a,w,e,h=>by
  simp only[lP,a0c]at hd;simp only[ef]at e;refine wp_seq (wp_mono (dE j l d b x hd.1 e h) λA H I g=> ?_)
  cases A with
  |normal=>obtain⟨n,v,p⟩:=g;exact dE j l d b y hd.2 p v
  |exit i=>exact g
  |ret=>exact g
  |_=>exact g.elim
 | .cond o x y,hd,f,K,r,st,a,w,e,h=>by
  simp only[lP,a0c]at hd;simp only[ef]at e;obtain⟨G,J,N,E⟩:=h.ex;have z:=eB J o;split at e
  ·rename_i t B
   rw[B]at z;refine wp_cond z.lb_inv ?_
   cases t with
   |true=>exact dE j l d b x hd.1 e h
   |false=>exact dE j l d b y hd.2 e h
  ·rename_i t B
   rw[B]at z;refine wp_cond z.bool_inv ?_
   rw[gZ]at e
   cases t with
   |true=>exact dE j l d b x hd.1 e h
   |false=>exact dE j l d b y hd.2 e h
  ·cases e
 | .block s x,hd,f,K,r,st,a,w,e,h=>by
  simp only[lP]at hd;simp only[ef]at e;refine wp_block (wp_mono (dE j l d b x hd e h) λA H I g=> ?_)
  cases A with
  |normal=>exact g
  |exit i=>
   obtain⟨n,v,p⟩:=g;by_cases hi:i=s
   ·subst hi
    simp only[a5h,a1s]at p;simp only[Exit.inBlock,a1s];exact⟨n,v,p⟩
   ·have M:(i==s)=false:=by simpa using hi
    simp only[M,a0u,a1z]at p;simp only[Exit.inBlock,hi,a1z];exact⟨n,v,p⟩
  |ret=>exact g
  |_=>exact g.elim
 | .loop x,hd,f,K,r,st,a,w,e,h=>by
  simp only[lP]at hd;simp only[ef]at e;split at e
  ·cases e
  ·rename_i s u _
   split at e
   ·rename_i m
    split at e
    ·rename_i y D
     exact wp_loop_rounds C.fuel (rG d m (λk st a w e h=>dE j l d b x hd e h) C.fuel e (FR d m h D) (h.alR (a1g.2 λq g=>((a0c _ _).mp (a4o.1 g).2).1)))
    ·cases e
   ·cases e
 | .region s ops draw,hd,f,K,r,st,a,w,e,h=>by
  simp only[lP]at hd;simp only[ef]at e;split at e
  ·rename_i _ u _
   split at e
   ·rename_i m
    split at e
    ·rename_i y D
     rw[fL]at e;exact uu j l d b hd e (FR d m h D)
    ·cases e
   ·cases e
  ·exact uu j l d b hd e h
 | .label _,_,_,_,_,_,_,_,e,_=>by simp[ef]at e
 | .goto _,_,_,_,_,_,_,_,e,_=>by simp[ef]at e
 | .scope _,_,_,_,_,_,_,_,e,_=>by simp[ef]at e
 | .rangeFunc _ _ _ _,_,_,_,_,_,_,_,e,_=>by simp[ef]at e
def iV {w:World} {G:Gh}:(s:Sh)-> {F:Nat->Prop}-> {ow ow1:OW}->(∀b,F b->b<w.heap.size)->bt F G ow w.heap-> {c:List SV}-> {d:List Value}->dq F G ow w.heap c d-> {x:s.Out}->gk s c ow=some (x,ow1)->∃f,dt ow ow1/\ju G ow ow1 f/\f.Nodup/\gx w.heap (cW (FP F f) G ow1) s x d f
 | .row k,F,ow,ow1,hF,hh,c,d,hs,x,e=>cJ (.row k) hF hh hs e
 | .nrw s,F,ow,ow1,hF,hh,c,d,hs,x,e=>cJ (.nrw s) hF hh hs e
 | .box l,F,ow,ow1,hF,hh,c,d,hs,x,e=>cJ (.box l) hF hh hs e
 | .pur _,F,ow,ow1,hF,hh,c,d,hs,x,e=>by
  match c,hs,e with
  |[],_,e=>simp[gk]at e
  |[s],hs,e=>
   simp only[gk,a0i,a0x]at e;obtain⟨v,rfl,h⟩:=hs.single';rw[<-e.2];exact⟨[],.refl _,.refl _ _,a2h,⟨v,rfl⟩,rfl⟩
  |_::_::_,_,e=>simp[gk]at e
 | .own _,F,ow,ow1,hF,hh,c,d,hs,x,e=>by
  match c,hs,e with
  |[],_,e=>simp[gk]at e
  |[s],hs,e=>
   simp only[gk,a0i,a0x]at e;obtain⟨v,rfl,h⟩:=hs.single';rw[<-e.2];exact⟨[],.refl _,.refl _ _,a2h,⟨v,rfl⟩,rfl⟩
  |_::_::_,_,e=>simp[gk]at e
 | .rows _,F,ow,ow1,hF,hh,c,d,hs,x,e=>by
  match c,hs,e with
  |[],_,e=>simp[gk]at e
  |[s],hs,e=>
   simp only[gk,a0i,a0x]at e;obtain⟨v,rfl,h⟩:=hs.single';rw[<-e.2];exact⟨[],.refl _,.refl _ _,a2h,⟨v,rfl⟩,rfl⟩
  |_::_::_,_,e=>simp[gk]at e
 | .ign,F,ow,ow1,hF,hh,c,d,hs,x,e=>by
  match c,hs,e with
  |[],_,e=>simp[gk]at e
  |[s],hs,e=>
   simp only[gk,a0i,a0x]at e;obtain⟨v,rfl,h⟩:=hs.single';rw[<-e.2];exact⟨[],.refl _,.refl _ _,a2h,⟨v,rfl⟩,rfl⟩
  |_::_::_,_,e=>simp[gk]at e
 | .nl,F,ow,ow1,hF,hh,c,d,hs,x,e=>by
  match c,hs,e with
  |[],_,e=>simp[gk]at e
  |[s],hs,e=>
   simp only[gk,a0i,a0x]at e;obtain⟨v,rfl,h⟩:=hs.single';rw[<-e.2];exact⟨[],.refl _,.refl _ _,a2h,⟨v,rfl⟩,rfl⟩
  |_::_::_,_,e=>simp[gk]at e
 | .nil,F,ow,ow1,hF,hh,c,d,hs,x,e=>by
  match c,hs,e with
  |[],hs,e=>
   simp only[gk,a0i,a0x]at e;have:d=[]:=a0s hs.1.symm;subst this;rw[<-e.2];exact⟨[],.refl _,.refl _ _,a2h,rfl,rfl⟩
  |_::_,_,e=>simp[gk]at e
 | .agg l,F,ow,ow1,hF,hh,c,d,hs,x,e=>by
  match c,hs,e with
  |[],_,e=>simp[gk]at e
  |[s],hs,e=>
   obtain⟨v,rfl,h⟩:=hs.single'
   cases s with
   |agg cs=>
    simp only[gk]at e;obtain⟨S,rfl,I⟩:=h.agg_inv;obtain⟨f,t,u,J,K⟩:=iV l hF hh I e;exact⟨f,t,u,J,S,rfl,K⟩
   |_=>simp[gk]at e
  |_::_::_,_,e=>simp[gk]at e
 | .fn f n l,F,ow,ow1,hF,hh,c,d,hs,x,e=>by
  match c,hs,e with
  |[],_,e=>simp[gk]at e
  |[s],hs,e=>
   obtain⟨v,rfl,h⟩:=hs.single'
   cases s with
   |fn g a b=>
    simp only[gk]at e;split at e
    ·rename_i T
     obtain⟨rfl,U⟩:=T;obtain⟨xs,ys,rfl,m,A⟩:=h.fn_inv;obtain⟨V,t,u,J,K⟩:=iV l hF hh (m.append A) e;exact⟨V,t,u,J,xs,ys,rfl,by rw[<-m.1,U],K⟩
    ·cases e
   |_=>simp[gk]at e
  |_::_::_,_,e=>simp[gk]at e
 | .cons a b,F,ow,ow1,hF,hh,c,d,hs,x,e=>by
  match c,hs,e with
  |[],_,e=>simp[gk]at e
  |s::r,hs,e=>
   simp only[gk]at e;split at e
   ·rename_i L
    split at e
    ·rename_i z M
     cases e
     obtain⟨v,o,rfl,h,j⟩:=hs.uncons;obtain⟨f2,B,C,n2,N⟩:=iV b (x:=z.1) (ow1:=z.2) hF hh j M;exact⟨f2,B,C,n2,v,o,[],f2,rfl,rfl,.inl ⟨L,rfl⟩,N⟩
    ·cases e
   rename_i L;split at e
   ·rename_i y A
    split at e
    ·rename_i z M
     cases e
     obtain⟨v,o,rfl,h,j⟩:=hs.uncons;obtain⟨f1,E,H,W,X⟩:=iV a (x:=y.1) (ow1:=y.2) hF hh (.cons h .nil) A;obtain⟨O,D⟩:=cS hh E H;have P:∀q,FP F f1 q->q<w.heap.size:=by
      intro q hb';rcases hb' with hb'|hb'
      ·exact hF q hb'
      ·exact cu.lt hh (H.own hb')
     obtain⟨f2,B,C,n2,N⟩:=iV b (x:=z.1) (ow1:=z.2) P O ⟨j.1,λi t u=>D _ _ (j.2 i t u)⟩ M;refine⟨f1++f2,E.trans B,λx=> ?_,a2c.2 ⟨W,n2,λx m y A Q=> ?_⟩,v,o,f1,f2,rfl,rfl,?_,?_⟩
     ·rw[FE.trans E B,<-H x,<-C x,a0k]
     ·subst Q
      exact H.notOwn hh E m (C.own A)
     ·exact .inr ⟨by simpa using L,gx.mono (λq Y hb' p=>⟨fz (λR m=>mH.2 m) (eu B C hb'),p⟩) a (λ_ _=>rfl) X⟩
     ·exact gx.mono (λq Y hb' p=>⟨fz (λR m=>mH.2 m) hb',p⟩) b (λ_ _=>rfl) N
    ·cases e
   ·cases e
def k9 {P:Program} {G:Gh} {st:St} {a:Act} {w:World} (k:bt F G st.ow w.heap) (j:dq F G st.ow w.heap st.sl a.tmps.toList):(l:List ResultVar)-> {Q:List SV->Prop}->(Aj P st l).can Q->∃e f,Q e/\(l.mapM λ| .tmp t=>pure (a.tmps.getD t undef)| .cell b t=>do loadVar t (<-asAddr (a.tmps.getD b undef)):Sem (List Value)).run P w= .ok f w/\dq F G st.ow w.heap e f
 |[],Q,h=>⟨[],[],h,rfl,.nil⟩
 | .tmp t::r,Q,h=>by
  have h:=bc.can_bind _ h;obtain⟨e,f,g,c,d⟩:=k9 k j r h;have p:=eB j (.tmp t);refine⟨iL st.sl (.tmp t)::e,a.tmps.getD t undef::f,g,?_,.cons p d⟩;simp only[a7r,Sem.run_bind,Sem.run_pure,Result.andThen_ok,c]
 | .cell b t::r,Q,h=>by
  have h:=bc.can_bind _ h;obtain⟨s,v,g,c,d⟩:=mB k (eB j (.tmp b)) h;have h:=bc.can_bind _ g;obtain⟨e,f,g,m,i⟩:=k9 k j r h;refine⟨s::e,v::f,g,?_,.cons d i⟩;have n:(do loadVar t (<-asAddr (a.tmps.getD b undef)):Sem Value).run P w= .ok v w:=by
   have c:(Instr.loadAt t (a.tmps.getD b undef)).run P w= .ok v w:=c
   generalize a.tmps.getD b undef=z at c
   cases z with
   |pointer o=>
    cases o with
    |none=>simp[Instr.loadAt,Instr.sureAddr,stuck]at c
    |some ad=>simpa [Instr.loadAt,Instr.sureAddr,asAddr]using c
   |_=>simp[Instr.loadAt,Instr.sureAddr,stuck]at c
  simp only[a7r,Sem.run_bind,Result.andThen_ok,Sem.run_pure]at n⊢;rw[n];simp only[Result.andThen_ok,m]
def uv {P:Program} {c:List Value} (d:(fn.results.toList.mapM λ| .tmp t=>pure (a.tmps.getD t undef)| .cell b t=>do loadVar t (<-asAddr (a.tmps.getD b undef)):Sem (List Value)).run P w= .ok c w):(results fn a.tmps).run P w= .ok (FN c) w:=by
 unfold results;have e:(fn.results.mapM λ| .tmp t=>pure (a.tmps.getD t undef)| .cell b t=>do loadVar t (<-asAddr (a.tmps.getD b undef)):Sem (Array Value)).run P w= .ok c.toArray w:=by
  rw[a7s,Sem.run_map,d];rfl
 rw[Sem.run_bind];refine(a1x (λq=>Result.andThen q _) (show _=Result.ok c.toArray w from e)).trans ?_
 simp only[Result.andThen_ok,Sem.run_pure]
 congr 1
 match c with
 |[]=>rfl
 |[u]=>rfl
 |u::u'::us'=>simp[FN]
def HX {h:Array Obj} {ok:Nat->Prop}:(s:Sh)->s.chain=true-> {x:s.T}-> {a:List Value}-> {f:List Nat}->cA h ok s x a f->a.length=s.len
 | .nil,_,_,_,_,e=>by obtain⟨rfl,_⟩:=e;rfl
 | .cons _ b,hc,_,_,_,e=>by
  obtain⟨v,r,f1,f2,rfl,_,_,c⟩:=e;simp[Sh.len,HX b (by simpa [Sh.chain]using hc) c]
 | .pur _,hc,_,_,_,_=>by simp[Sh.chain]at hc
 | .own _,hc,_,_,_,_=>by simp[Sh.chain]at hc
 | .rows _,hc,_,_,_,_=>by simp[Sh.chain]at hc
 | .row _,hc,_,_,_,_=>by simp[Sh.chain]at hc
 | .nrw _,hc,_,_,_,_=>by simp[Sh.chain]at hc
 | .box _,hc,_,_,_,_=>by simp[Sh.chain]at hc
 | .agg _,hc,_,_,_,_=>by simp[Sh.chain]at hc
 | .fn _ _ _,hc,_,_,_,_=>by simp[Sh.chain]at hc
 | .ign,hc,_,_,_,_=>by simp[Sh.chain]at hc
 | .nl,hc,_,_,_,_=>by simp[Sh.chain]at hc
def Ar {h:Array Obj} {ok:Nat->Prop}:(s:Sh)->s.chain=true-> {y:s.Out}-> {c vs:List Value}-> {f:List Nat}->c.length=vs.length->(∀i,i<vs.length->kY s i=false->c[i]?=vs[i]?)->gx h ok s y c f->gx h ok s y vs f
 | .nil,_,_,c,vs,f,hl,_,e=>by
  obtain⟨rfl,rfl⟩:=e;exact⟨a0s hl.symm,rfl⟩
 | .cons a b,hc,y,c,vs,f,hl,hag,e=>by
  obtain⟨v,r,f1,f2,rfl,rfl,d,g⟩:=e
  cases vs with
  |nil=>simp at hl
  |cons v' r'=>
   refine⟨v',r',f1,f2,rfl,rfl,?_,Ar b (by simpa [Sh.chain]using hc) (by simpa using hl) (λi hi j=> ?_) g⟩
   ·rcases d with d|⟨h0,d⟩
    ·exact .inl d
    ·have:=hag 0 (by simp) (by simpa [kY]using h0)
     simp only[a1p,a0i]at this;rw[<-this];exact .inr ⟨h0,d⟩
   ·have:=hag (i+1) (by simpa using hi) (by simpa [kY]using j)
    simpa using this
 | .pur _,hc,_,_,_,_,_,_,_=>by simp[Sh.chain]at hc
 | .own _,hc,_,_,_,_,_,_,_=>by simp[Sh.chain]at hc
 | .rows _,hc,_,_,_,_,_,_,_=>by simp[Sh.chain]at hc
 | .row _,hc,_,_,_,_,_,_,_=>by simp[Sh.chain]at hc
 | .nrw _,hc,_,_,_,_,_,_,_=>by simp[Sh.chain]at hc
 | .box _,hc,_,_,_,_,_,_,_=>by simp[Sh.chain]at hc
 | .agg _,hc,_,_,_,_,_,_,_=>by simp[Sh.chain]at hc
 | .fn _ _ _,hc,_,_,_,_,_,_,_=>by simp[Sh.chain]at hc
 | .ign,hc,_,_,_,_,_,_,_=>by simp[Sh.chain]at hc
 | .nl,hc,_,_,_,_,_,_,_=>by simp[Sh.chain]at hc
def uw (Y:FQ F fp L w0) {args d:Sh} (N:args.chain=true) (O:fr=kY args) (p:vs.length=args.len) (Q:args.len<=nt) (h:nJ nt fr F fp w0 vs st a w) {y:d.T×args.Out} (e:LL C fn args d st=some y):a.defers=[]/\∃v,(results fn a.tmps).run C.P w= .ok v w/\∃Z fp1 c,v=FN Z/\cA w.heap (λb=>¬FP F (fp1++c) b) d y.1 Z fp1/\gx w.heap (λb=>¬FP F (fp1++c) b) args y.2 vs c/\(fp1++c).Nodup/\(∀b∈fp1++c,b∈fp\/w0.heap.size<=b)/\eX (·∈fp) w0 w:=by
 refine⟨h.defers,?_⟩;obtain⟨G0,j,s,k⟩:=h.ex;obtain⟨E,us,l,t,f⟩:=k9 s j _ (bc.can_of_run _ e);obtain⟨G,m,u⟩:=ui (Y.wideAt h.kept) s E;have H:=m.hrep;have I:dq F G (kg E st.ow) w.heap st.sl a.tmps.toList:=⟨j.1,λi A J=>m.sv _ _ (j.2 i A J)⟩;have R:dq F G (kg E st.ow) w.heap E us:=⟨f.1,λi A J=>m.sv _ _ (f.2 i A J)⟩;have g:=λb hb=>k b (u b hb)
 split at l
 ·rename_i x hx
  split at l
  ·rename_i z hz
   cases l
   have hF:=Y.wideAt h.kept;obtain⟨f1,S,K,n1,r1⟩:=cJ d (x:=x.1) (ow1:=x.2) hF H R hx;obtain⟨U,B⟩:=cS H S K;have V:∀M,FP F f1 M->M<w.heap.size:=by
    intro M hb';rcases hb' with hb'|hb'
    ·exact hF M hb'
    ·exact cu.lt H (K.own hb')
   have hn:st.sl.length=nt:=h.len;have n:dq (FP F f1) G x.2 w.heap (st.sl.take args.len) (a.tmps.toList.take args.len):=by
    refine⟨by simp[I.1],λi A J=> ?_⟩;simp only[a4x];have h3:i<st.sl.length:=by simp at A;omega
    have h4:i<a.tmps.toList.length:=by rw[<-I.1];exact h3
    exact B _ _ (I.2 i h3 h4)
   have o:∀i,i<vs.length->kY args i=false->(a.tmps.toList.take args.len)[i]?=vs[i]?:=λi hi hf=>by
    rw[<-h.args i hi (by rw[O];exact hf),a4f,ifPosQ,a5p]
   obtain⟨f2,t2,W,n2,r2⟩:=iV args (x:=z.1) (ow1:=z.2) V U n hz;have D:=uv (fn:=fn) t;refine⟨_,D,us,f1,f2,rfl,?_,?_,?_,?_,h.kept⟩
   ·refine cA.mono (λb r hb t=>⟨λhx=> ?_,t⟩) _ (λ_ _=>rfl) r1
    rcases hx with hx|hx
    ·exact hb.1 (.inl hx)
    ·rcases a0k.1 hx with hx|hx
     ·exact hb.1 (.inr hx)
     ·exact hb.2 (W.own hx)
   ·refine gx.mono (λb r hb t=>⟨λhx=>hb.1 (mH.2 hx),t⟩) _ (λ_ _=>rfl) (Ar args N (by simp[p,<-I.1,hn,Q]) o r2)
   ·exact a2c.2 ⟨n1,n2,λq l q' X he=>by subst he;exact K.notOwn H S l (W.own X)⟩
   ·intro b hb
    rcases a0k.1 hb with hb|hb
    ·exact g b (K.own hb)
    ·exact g b (S.own (W.own hb))
  ·cases l
 ·cases l
def Cb (Y:C.Holds L) (Z:ph C L) {f:FuncId} (S:C.P.funcs[f]?=some fn) (l:(fn.name== "runtime.NumGoroutine")=false) (e:Fo) (args m:Sh) {den:args.T->Option (m.T×args.Out)} (A:∀x y,den x=some y->ko C e fn args m x=some y) (n:fn.body.isNone=false):au C.P L f ⟨args,m,den,e.al⟩:=by
 refine⟨⟨fn,S,l,n⟩,λw F x vs U y hF hL H B D h I=> ?_⟩;have h:=A x y h;unfold ko at h;split at h
 ·cases h
 rename_i c r;split at h
 ·rename_i V
  simp only[a0c,a0q]at V;obtain⟨⟨g,E⟩,hd⟩:=V;have k:vs.length=args.len:=HX args g D;have J:FQ F U L w:=⟨hF,hL,B⟩;refine calls_of_wp S r ?_
  have d:(vs.toArray++Array.replicate (fn.ntmps-vs.toArray.size) undef).size=fn.ntmps:=by simp;omega
  have a:∀i,i<vs.length->(vs.toArray++Array.replicate (fn.ntmps-vs.toArray.size) undef)[i]?=vs[i]?:=by
   intro i hi;rw[a4s (by simpa using hi)];simp
  obtain⟨G,g1,g2,g3,_⟩:=ut (nt:=fn.ntmps) (tmps:=(vs.toArray++Array.replicate (fn.ntmps-vs.toArray.size) undef).toList) (by rw[a6a,d]) args g 0 (by omega) (F:=F) D (λj hj=>by rw[a1l,a5p];exact a j hj) H B (λb r=>⟨λK=>r (.inl K),λK=>r (.inr K)⟩)
  have hI:nJ fn.ntmps (kY args) F U w vs (nu fn.ntmps args x 0) {tmps:=vs.toArray++Array.replicate (fn.ntmps-vs.toArray.size) undef,defers:=[]} w:=⟨⟨G,g2,g1,λb r=> .inl ((g3 b).1 r)⟩,.refl _ _,rfl,λi hi _=>a i hi,d⟩
  have M:Lg w.heap e.al (vs.toArray++Array.replicate (fn.ntmps-vs.toArray.size) undef).toList:=λq s=>by
   obtain⟨v,t,z,o,h3⟩:=I q s;have W:∀(i:Nat) (u:Value),vs[i]?=some u->(vs.toArray++Array.replicate (fn.ntmps-vs.toArray.size) undef).toList[i]?=some u:=λi u X=>by
    have hi:=(a0p.1 X).1;rw[a5p,a i hi,X]
   exact⟨v,t,W _ _ z,W _ _ o,h3⟩
  refine wp_mono (dE Y Z J e c hd h (hI.fix M)) λex a' w' s=> ?_
  cases ex with
  |normal=>
   obtain⟨st,z,o⟩:=s;obtain⟨N,v,O,Q,fp1,p,rfl,R⟩:=uw J g rfl k E z o;exact⟨N,_,O,Q,fp1,p,rfl,R⟩
  |ret=>
   obtain⟨st,z,o⟩:=s;obtain⟨N,v,O,Q,fp1,p,rfl,R⟩:=uw J g rfl k E z o;exact⟨N,_,O,Q,fp1,p,rfl,R⟩
  |exit i=>obtain⟨st,z,o⟩:=s;cases o
  |_=>exact s.elim
 ·cases h
end
end Go.Pev
namespace Go.Pev
def kR {S:Type} (step:Nat->S->Option S):List Nat->S->Option S
 |[],s=>some s
 |i::r,s=>(match step i s with|some s'=>kR step r s'|none=>none)
def qy {S:Type} {step:Nat->S->Option S} {a:Nat->Nat->Bool} (g:∀i j s b d,a i j=true->step i s=some b->step j b=some d->∃c,step j s=some c/\step i c=some d) {x:Nat} {q:List Nat}:(p:List Nat)->(∀i∈p,a i x=true)-> {s r:S}->kR step (p++x::q) s=some r->∃b,step x s=some b/\kR step (p++q) b=some r
 |[],_,s,r,h=>by
  simp only[a2j,kR]at h⊢;split at h
  ·rename_i e f;exact⟨e,f,h⟩
  ·cases h
 |i::p,hp,s,r,h=>by
  simp only[a5i,kR]at h;split at h
  ·rename_i e f
   obtain⟨b,k,l⟩:=qy g p (λj m=>hp j (by simp[m])) h;obtain⟨d,n,o⟩:=g i x s e b (hp i (by simp)) f k;refine⟨d,n,?_⟩;simp only[a5i,kR,o];exact l
  ·cases h
def wN {S:Type} {step a:Nat->S->Option S}: {l:List Nat}->(∀j∈l,∀t,step j t=a j t)-> {s:S}->kR step l s=kR a l s
 |[],_,_=>rfl
 |i::r,h,s=>by
  simp only[kR];rw[h i (by simp)]
  cases a i s with
  |none=>rfl
  |some s'=>exact wN λj b=>h j (by simp[b])
def wO (a:List Nat) (o:Oper) (i:Nat) (h:(nZ a o).testBit i=true):∃e∈o.after,Region.binds .any e=true/\(i=e.on\/(a.getD e.on 0).testBit i=true):=by
 have b:∀(l:List Edge) (m:Nat),(l.foldl (λm e=>if Region.binds .any e then m|||(1<<<e.on)|||a.getD e.on 0 else m) m).testBit i=true->m.testBit i=true\/∃e∈l,Region.binds .any e=true/\(i=e.on\/(a.getD e.on 0).testBit i=true):=by
  intro l
  induction l with
  |nil=>intro m h;exact .inl h
  |cons e l ih=>
   intro m h;simp only[a2o]at h;rcases ih _ h with h1|⟨e',he',h2⟩
   ·split at h1
    ·rename_i c
     simp only[Nat.testBit_or,a4z]at h1;rcases h1 with(h1|h1)|h1
     ·exact .inl h1
     ·right
      refine⟨e,by simp,c,.inl ?_⟩;rw[Nat.shiftLeft_eq,a2t,Nat.testBit_two_pow]at h1;exact(a0z h1).symm
     ·exact .inr ⟨e,by simp,c,.inr h1⟩
    ·exact .inl h1
   ·exact .inr ⟨e',by simp[he'],h2⟩
 rcases b o.after.toList 0 h with h1|⟨e,he,h2⟩
 ·simp at h1
 ·exact⟨e,by simpa using he,h2⟩
def oB:(l:List Oper)->(a:List Nat)->(j:Nat)->(j<a.length->(gl l a)[j]?=a[j]?)/\(∀o,l[j]?=some o->∃p,(gl l a)[a.length+j]?=some (nZ p o)/\∀i,i<a.length+j->p.getD i 0=(gl l a).getD i 0)
 |[],a,j=>⟨λ_=>rfl,λo h=>by simp at h⟩
 |o::r,a,j=>by
  have ih:=oB r (a++[nZ a o]);have f:gl (o::r) a=gl r (a++[nZ a o]):=rfl;rw[f];refine⟨λg=> ?_,λk b=> ?_⟩
  ·rw[(ih j).1 (by simp;omega),a1i g]
  ·cases j with
   |zero=>
    simp only[a1p,a0i]at b;subst b;refine⟨a,?_,λi hi=> ?_⟩
    ·rw[(ih _).1 (by simp),a1j (by omega)];simp
    ·have:=(ih i).1 (by simp;omega)
     simp only[List.getD,this];rw[a1i (by omega)]
   |succ j=>
    obtain⟨p,c,d⟩:=(ih j).2 k (by simpa using b);have e:(a++[nZ a o]).length+j=a.length+(j+1):=by simp;omega
    rw[e]at c d;exact⟨p,c,d⟩
def oC:(l:List Oper)->(k:Nat)->Oo k l=true->∀j o,l[j]?=some o->∀e∈o.after,Region.binds .any e=true->e.on<k+j
 |[],_,_,_,_,h,_,_,_=>by simp at h
 |o::r,k,hu,j,o',h,e,he,hb=>by
  simp only[Oo,a0c]at hu
  cases j with
  |zero=>
   simp only[a1p,a0i]at h;subst h;have:=a1g.1 hu.1 e (by simpa using he);simpa [hb]using this
  |succ j=>
   have:=oC r (k+1) hu.2 j o' (by simpa using h) e he hb;omega
section
variable {P:Program} {ops:Array Oper} {Q:Exit->Act->World->Prop}
def qz {S:Type} {step:Nat->S->Option S} {R:S->Act->World->Prop} {g:Nat->Nat->Bool} (hc:∀i j s H s2,g i j=true->step i s=some H->step j H=some s2->∃I,step j s=some I/\step i I=some s2)
 (S0:∀i s s' a w,i<ops.size->step i s=some s'->R s a w->∀K:Act->World->Prop,(∀X Y,R s' X Y->K X Y)->wpOp P ops Q i K a w) (J:lO ops g=true) {sF:S} (u:∀a w,R sF a w->Q .normal a w):
 ∀(d:Nat) (b:Array Bool) (s:S) (a:Act) (w:World),b.size=ops.size->((List.range ops.size).filter λi=> !b.getD i true).length<=d->
  (∀j,b.getD j false=true->∀i,((gl ops.toList []).getD j 0).testBit i=true->b.getD i false=true)->
  kR step ((List.range ops.size).filter λi=> !b.getD i true) s=some sF->R s a w->wpAny P .any ops Q d b a w:=by
 simp only[lO,a0c]at J;obtain⟨L,S1⟩:=J;have A:∀b:Array Bool,b.size=ops.size->Region.ready .any ops b=[]->((List.range ops.size).filter λi=> !b.getD i true)=[]:=by
  intro b q M
  cases hx:((List.range ops.size).filter λi=> !b.getD i true)with
  |nil=>rfl
  |cons i0 rest=>
   exfalso;have v:∀i,i∈((List.range ops.size).filter λi=> !b.getD i true)↔i<ops.size/\b.getD i true=false:=by intro i;simp
   have B:=(v i0).1 (by rw[hx];simp);have N:∀i,i<i0->b.getD i true=true:=by
    intro i hi
    cases hl:b.getD i true with
    |true=>rfl
    |false=>
     exfalso;have S2:i∈i0::rest:=by rw[<-hx];exact(v i).2 ⟨by omega,hl⟩
     have l:(i0::rest).Pairwise (·<·):=by rw[<-hx];exact List.Pairwise.filter _ a8o
     rcases a1e.1 S2 with h|h
     ·omega
     ·have:=a7u l h;omega
   have O:i0∈Region.ready .any ops b:=by
    rw[mem_ready];refine⟨B.2,ops[i0],by simp[B.1],λe Z hb=> ?_⟩;have:=oC ops.toList 0 L i0 ops[i0] (by simp[B.1]) e Z hb;have C:=N e.on (by omega);have t:e.on<b.size:=by omega
    simpa [Array.getD,t]using C
   rw[M]at O
   cases O
 intro d
 induction d with
 |zero=>
  intro b s a w q m D c hR;have x:((List.range ops.size).filter λi=> !b.getD i true)=[]:=a0s (by omega);rw[x]at c
  cases c
  refine⟨?_,u a w hR⟩
  cases M:Region.ready .any ops b with
  |nil=>rfl
  |cons i r=>
   have hi:i∈Region.ready .any ops b:=by rw[M];simp
   obtain⟨h1,o,C,_⟩:=mem_ready.1 hi;have:i∈((List.range ops.size).filter λi=> !b.getD i true):=a4o.2 ⟨a2i.2 (a1c.1 C).1,by rw[h1];rfl⟩;rw[x]at this
   cases this
 |succ d ih=>
  intro b s a w q m D c hR;refine⟨λM=> ?_,λi hi=> ?_⟩
  ·rw[A b q M]at c
   cases c
   exact u a w hR
  ·obtain⟨h1,o,C,h3⟩:=mem_ready.1 hi
   have t:=(a1c.1 C).1;have n:∀j,((gl ops.toList []).getD i 0).testBit j=true->b.getD j false=true:=by
    intro j f;obtain⟨p,y,G⟩:=(oB ops.toList [] i).2 o (by simpa using C);simp only[a0h,a1l]at y G;have e3:(gl ops.toList []).getD i 0=nZ p o:=by simp[List.getD,y]
    rw[e3]at f;obtain⟨e,Z,hb,h4⟩:=wO p o j f;have h5:=h3 e Z hb;rcases h4 with rfl|h4
    ·exact h5
    ·have:=oC ops.toList 0 L i o (by simpa using C) e Z hb
     rw[G e.on (by omega)]at h4;exact D e.on h5 j h4
   have T:∀j,b.getD j true=false->b.getD j false=true->False:=by
    intro j y G;by_cases f:j<b.size
    ·simp[Array.getD,f]at y G;rw[y]at G;cases G
    ·simp[Array.getD,f]at y
   have k:List.range ops.size=List.range i++i::List.range' (i+1) (ops.size-i-1):=by
    have y:ops.size=i+(ops.size-i):=by omega
    rw[a3t,a3t]
    conv=>lhs;rw[y]
    rw[<-List.range'_append_1]
    congr 1
    rw[show ops.size-i=(ops.size-i-1)+1 by omega,a8h];simp
   have z:∀j,j≠i->(b.setIfInBounds i true).getD j true=b.getD j true:=λj f=>getD_set_ne true (Ne.symm f)
   have E:(b.setIfInBounds i true).getD i true=true:=by
    have:i<b.size:=by omega
    simp[Array.getD,this]
   have hp:∀j∈(List.range i).filter (λj=> !b.getD j true),g j i=true:=by
    intro j f;obtain⟨F,S3⟩:=a4o.1 f;have F:=a2i.1 F;have:=a1g.1 (a1g.1 S1 i (a2i.2 t)) j (a2i.2 F);rcases a4z _ _▸this with h4|h4
    ·exact(T j (by simpa using S3) (n j h4)).elim
    ·exact h4
   have S4:((List.range ops.size).filter λi=> !b.getD i true)=(List.range i).filter (λj=> !b.getD j true)++i::(List.range' (i+1) (ops.size-i-1)).filter (λj=> !b.getD j true):=by
    rw[k,a6h,a3v,h1];rfl
   have U:((List.range ops.size).filter λj=> !(b.setIfInBounds i true).getD j true)=(List.range i).filter (λj=> !b.getD j true)++(List.range' (i+1) (ops.size-i-1)).filter (λj=> !b.getD j true):=by
    rw[k,a6h,a3v,E]
    congr 1
    ·refine a6q λj f=> ?_
     rw[z j (by have:=a2i.1 f;omega)]
    ·refine a6q λj f=> ?_
     rw[z j (by have:=a7z.1 f;omega)]
   rw[S4]at c m;obtain⟨H,q1,q2⟩:=qy hc _ hp c;refine S0 i s H a w t q1 hR _ λX Y S5=>ih _ H X Y (by simpa using q) (by rw[U];simp at m⊢;omega) (λj f i' V=> ?_) (by rw[U];exact q2) S5
   by_cases W:j=i
   ·subst W
    exact getD_set_true (n i' V)
   ·rw[getD_set_ne false (Ne.symm W)]at f
    exact getD_set_true (D j f i' V)
def DF {S O:Type} {step:O->Nat->S->Option S} {R:S->Act->World->Prop} {g:Nat->Nat->Bool} (hc:∀(B:Nat->O) i j s l s2,g i j=true->step (B i) i s=some l->step (B j) j l=some s2->∃u,step (B j) j s=some u/\step (B i) i u=some s2)
 (S6:∀i s a w,i<ops.size->(∀o,∃s',step o i s=some s')->R s a w->∀K:Act->World->Prop,(∀o s' a' w',step o i s=some s'->R s' a' w'->K a' w')->wpOp P ops Q i K a w) (U:lO ops g=true) {Fin:S->Prop} (y:∀sF a w,Fin sF->R sF a w->Q .normal a w) (o0:O):
 ∀(f:Nat) (b:Array Bool) (s:S) (a:Act) (w:World),b.size=ops.size->((List.range ops.size).filter λi=> !b.getD i true).length<=f->
  (∀j,b.getD j false=true->∀i,((gl ops.toList []).getD j 0).testBit i=true->b.getD i false=true)->
  (∀B:Nat->O,∃sF,kR (λi=>step (B i) i) ((List.range ops.size).filter λi=> !b.getD i true) s=some sF/\Fin sF)->R s a w->wpAny P .any ops Q f b a w:=by
 simp only[lO,a0c]at U;obtain⟨V,S7⟩:=U;have G:∀b:Array Bool,b.size=ops.size->Region.ready .any ops b=[]->((List.range ops.size).filter λi=> !b.getD i true)=[]:=by
  intro b v W
  cases hx:((List.range ops.size).filter λi=> !b.getD i true)with
  |nil=>rfl
  |cons i0 rest=>
   exfalso;have z:∀i,i∈((List.range ops.size).filter λi=> !b.getD i true)↔i<ops.size/\b.getD i true=false:=by intro i;simp
   have H:=(z i0).1 (by rw[hx];simp);have X:∀i,i<i0->b.getD i true=true:=by
    intro i hi
    cases hl:b.getD i true with
    |true=>rfl
    |false=>
     exfalso;have S8:i∈i0::rest:=by rw[<-hx];exact(z i).2 ⟨by omega,hl⟩
     have m:(i0::rest).Pairwise (·<·):=by rw[<-hx];exact List.Pairwise.filter _ a8o
     rcases a1e.1 S8 with h|h
     ·omega
     ·have:=a7u m h;omega
   have Y:i0∈Region.ready .any ops b:=by
    rw[mem_ready];refine⟨H.2,ops[i0],by simp[H.1],λe he hb=> ?_⟩;have:=oC ops.toList 0 V i0 ops[i0] (by simp[H.1]) e he hb;have I:=X e.on (by omega);have x:e.on<b.size:=by omega
    simpa [Array.getD,x]using I
   rw[W]at Y
   cases Y
 intro f
 induction f with
 |zero=>
  intro b s a w v n J c hR;have A:((List.range ops.size).filter λi=> !b.getD i true)=[]:=a0s (by omega);obtain⟨sF,c,Z⟩:=c λ_=>o0
  rw[A]at c
  cases c
  refine⟨?_,y _ a w Z hR⟩
  cases W:Region.ready .any ops b with
  |nil=>rfl
  |cons i r=>
   have hi:i∈Region.ready .any ops b:=by rw[W];simp
   obtain⟨h1,o,I,_⟩:=mem_ready.1 hi;have:i∈((List.range ops.size).filter λi=> !b.getD i true):=a4o.2 ⟨a2i.2 (a1c.1 I).1,by rw[h1];rfl⟩;rw[A]at this
   cases this
 |succ f ih=>
  intro b s a w v n J c hR;refine⟨λW=> ?_,λi hi=> ?_⟩
  ·obtain⟨sF,c,Z⟩:=c λ_=>o0
   rw[G b v W]at c
   cases c
   exact y _ a w Z hR
  ·obtain⟨h1,o,I,h3⟩:=mem_ready.1 hi
   have x:=(a1c.1 I).1;have q:∀j,((gl ops.toList []).getD i 0).testBit j=true->b.getD j false=true:=by
    intro j d;obtain⟨p,C,N⟩:=(oB ops.toList [] i).2 o (by simpa using I);simp only[a0h,a1l]at C N;have e3:(gl ops.toList []).getD i 0=nZ p o:=by simp[List.getD,C]
    rw[e3]at d;obtain⟨e,he,hb,h4⟩:=wO p o j d;have h5:=h3 e he hb;rcases h4 with rfl|h4
    ·exact h5
    ·have:=oC ops.toList 0 V i o (by simpa using I) e he hb
     rw[N e.on (by omega)]at h4;exact J e.on h5 j h4
   have S0:∀j,b.getD j true=false->b.getD j false=true->False:=by
    intro j C N;by_cases d:j<b.size
    ·simp[Array.getD,d]at C N;rw[C]at N;cases N
    ·simp[Array.getD,d]at C
   have k:List.range ops.size=List.range i++i::List.range' (i+1) (ops.size-i-1):=by
    have C:ops.size=i+(ops.size-i):=by omega
    rw[a3t,a3t]
    conv=>lhs;rw[C]
    rw[<-List.range'_append_1]
    congr 1
    rw[show ops.size-i=(ops.size-i-1)+1 by omega,a8h];simp
   have D:∀j,j≠i->(b.setIfInBounds i true).getD j true=b.getD j true:=λj d=>getD_set_ne true (Ne.symm d)
   have L:(b.setIfInBounds i true).getD i true=true:=by
    have:i<b.size:=by omega
    simp[Array.getD,this]
   have hp:∀j∈(List.range i).filter (λj=> !b.getD j true),g j i=true:=by
    intro j d;obtain⟨M,S9⟩:=a4o.1 d;have M:=a2i.1 M;have:=a1g.1 (a1g.1 S7 i (a2i.2 x)) j (a2i.2 M);rcases a4z _ _▸this with h4|h4
    ·exact(S0 j (by simpa using S9) (q j h4)).elim
    ·exact h4
   have Ta:((List.range ops.size).filter λi=> !b.getD i true)=(List.range i).filter (λj=> !b.getD j true)++i::(List.range' (i+1) (ops.size-i-1)).filter (λj=> !b.getD j true):=by
    rw[k,a6h,a3v,h1];rfl
   have S1:((List.range ops.size).filter λj=> !(b.setIfInBounds i true).getD j true)=(List.range i).filter (λj=> !b.getD j true)++(List.range' (i+1) (ops.size-i-1)).filter (λj=> !b.getD j true):=by
    rw[k,a6h,a3v,L]
    congr 1
    ·refine a6q λj d=> ?_
     rw[D j (by have:=a2i.1 d;omega)]
    ·refine a6q λj d=> ?_
     rw[D j (by have:=a7z.1 d;omega)]
   rw[Ta]at c n;have Tb:i∉(List.range i).filter (λj=> !b.getD j true)++(List.range' (i+1) (ops.size-i-1)).filter (λj=> !b.getD j true):=by
    intro hm;rcases a0k.1 hm with hm|hm
    ·have:=a2i.1 (a4o.1 hm).1;omega
    ·have:=a7z.1 (a4o.1 hm).1;omega
   have S2:∀o,∃l,step o i s=some l/\∀B:Nat->O,∃sF,kR (λi=>step (B i) i) ((List.range i).filter (λj=> !b.getD j true)++(List.range' (i+1) (ops.size-i-1)).filter (λj=> !b.getD j true)) l=some sF/\Fin sF:=by
    intro T;have E:∀B:Nat->O,∃l,step T i s=some l/\∃sF,kR (λi=>step (B i) i) ((List.range i).filter (λj=> !b.getD j true)++(List.range' (i+1) (ops.size-i-1)).filter (λj=> !b.getD j true)) l=some sF/\Fin sF:=by
     intro B;obtain⟨sF,hs,Z⟩:=c λj=>if j=i then T else B j
     obtain⟨l,F,q2⟩:=qy (hc _) _ hp hs;simp only[a1s]at F;refine⟨l,F,sF,?_,Z⟩;rw[<-q2];exact wN λj d t=>by
      have:j≠i:=λe=>Tb (e▸d)
      simp only[a0e this]
    obtain⟨l,F,_⟩:=E λ_=>o0
    refine⟨l,F,λB=> ?_⟩;obtain⟨u,S3,q2⟩:=E B;rw[F]at S3
    cases S3
    exact q2
   refine S6 i s a w x (λT=>(S2 T).imp λ_ h=>h.1) hR _ λT l a' w' Tc Td=>ih _ l a' w' (by simpa using v) (by rw[S1];simp at n⊢;omega) (λj d i' S4=> ?_) (λB=>by
    obtain⟨u,F,q2⟩:=S2 T;rw[Tc]at F
    cases F
    rw[S1];exact q2 B) Td
   by_cases S5:j=i
   ·subst S5
    exact getD_set_true (q i' S4)
   ·rw[getD_set_ne false (Ne.symm S5)]at d
    exact getD_set_true (J j d i' S4)
end
variable {d j b:Nat} {h:Array Obj} {ow ow':OW} {v:Value} {K:List Nat} {s:SV} {G G':Gh}
def dV (K:List Nat):(l:OW)->(i n:Nat)->(aN K i l)[n]?=(l[n]?).map λx=>if K.contains (i+n)then x else BS
 |[],_,_=>rfl
 |a::r,i,0=>by simp[aN]
 |a::r,i,n+1=>by
  simp only[aN,a5e];rw[dV K r (i+1) n];have:i+1+n=i+(n+1):=by omega
  rw[this]
def dJ (K:List Nat):(l s:OW)->(i n:Nat)->(b8 K i l s)[n]?=(l[n]?).map λx=>if K.contains (i+n)then(s[n]?).getD x else x
 |[],_,_,_=>rfl
 |a::r,s,i,0=>by cases s<;>simp[b8]
 |a::r,s,i,n+1=>by
  simp only[b8,a5e];rw[dJ K r s.tail (i+1) n];have:i+1+n=i+(n+1):=by omega
  rw[this]
  cases s<;>simp
def FT {a:List Nat} (h:∀d,K.contains d=true->a.contains d=false) (l s:OW):aN a 0 (b8 K 0 l s)=aN a 0 l:=by
 apply a2e;intro n;rw[dV,dV,dJ]
 cases l[n]? with
 |none=>rfl
 |some x=>
  simp only[a1t,a1l]
  cases hk:K.contains n with
  |true=>rw[h n hk];simp only[a0u,a1z]
  |false=>simp only[a0u,a1z]
def FU {a:List Nat} (h:∀d,K.contains d=true->a.contains d=false) (l s b:OW):b8 a 0 (b8 K 0 l s) b=b8 K 0 (b8 a 0 l b) s:=by
 apply a2e;intro n;simp only[dJ,a1l]
 cases l[n]? with
 |none=>rfl
 |some x=>
  simp only[a1t,a0i]
  cases hk:K.contains n with
  |true=>rw[h n hk];simp only[a0u,a1z,a1s]
  |false=>simp only[a0u,a1z]
def ux:cY ow=true↔∀(n:Nat) (l:List (Option OB)),ow[n]?=some l->l.length<=16:=by
 unfold cY;rw[a1g];constructor
 ·intro h n l a
  have:=h l (a3p a);simpa using this
 ·intro h l a
  obtain⟨n,b⟩:=a8t.1 a;simpa using h n l b
def DG {l s:OW} (b:cY l=true) (c:cY s=true):cY (b8 K 0 l s)=true:=by
 rw[ux]at b c⊢;intro n x a;rw[dJ]at a
 cases h1:l[n]? with
 |none=>rw[h1]at a;cases a
 |some y=>
  rw[h1]at a;simp only[a1t,a0i]at a;subst a;split
  ·cases h2:s[n]? with
   |none=>simpa using b n y h1
   |some z=>simpa using c n z h2
  ·exact b n y h1
def uy (K:List Nat):(l:OW)->(i:Nat)->ri K i l=true->∀n x,l[n]?=some x->(if K.contains (i+n)then x.all (Qa K)else x.all (·.isNone)&& x.length==16)=true
 |[],_,_,_,_,h=>by simp at h
 |a::r,i,hf,0,x,h=>by
  simp only[a1p,a0i]at h;subst h;simp only[ri,a0c]at hf;exact hf.1
 |a::r,i,hf,n+1,x,h=>by
  simp only[ri,a0c]at hf;have:=uy K r (i+1) hf.2 n x (by simpa using h);have e:i+1+n=i+(n+1):=by omega
  rw[e]at this;exact this
def Cc (K:List Nat) (l s:OW):(b8 K 0 l s).length=l.length:=by
 have b:∀(l s:OW) (i:Nat),(b8 K i l s).length=l.length:=by
  intro l
  induction l with
  |nil=>intro s i;rfl
  |cons a r ih=>intro s i;simp[b8,ih]
 exact b l s 0
def DH (K:List Nat) (l:OW):(aN K 0 l).length=l.length:=by
 have b:∀(l:OW) (i:Nat),(aN K i l).length=l.length:=by
  intro l
  induction l with
  |nil=>intro i;rfl
  |cons a r ih=>intro i;simp[aN,ih]
 exact b l 0
section
variable {F:Nat->Prop} {G G1:Gh} {ow ow1:OW} {w w1:World} {K:List Nat}
def fY (a:K.contains d=true) (j:Nat):aj (aN K 0 ow) d j=aj ow d j:=by
 unfold aj;rw[dV]
 cases ow[d]? with
 |none=>rfl
 |some l=>simp only[a1t,a1l,a,a1s]
def As:BS[j]?=if j<16 then some none else none:=by
 unfold BS;rw[a6i]
def gS (a:K.contains d=false) (j:Nat):aj (aN K 0 ow) d j=none\/aj (aN K 0 ow) d j=some none:=by
 unfold aj;rw[dV]
 cases ow[d]? with
 |none=>exact .inl rfl
 |some l=>
  simp only[a1t,a1l,a,a0u,a1z,a0d];rw[As];split
  ·exact .inr rfl
  ·exact .inl rfl
def sY (b:cY ow=true) (c:K.contains d=false) (a:aj ow d j≠none):aj (aN K 0 ow) d j=some none:=by
 unfold aj at a⊢;rw[dV]
 cases hl:ow[d]? with
 |none=>rw[hl]at a;exact absurd rfl a
 |some l=>
  rw[hl]at a;simp only[a0d]at a;have e:j<l.length:=by
   rcases a3u j l.length with h|h
   ·exact h
   ·exact absurd (a0w h) a
  have:=ux.1 b d l hl;simp only[a1t,a1l,c,a0u,a1z,a0d];rw[As,ifPosQ]
def vh (b:ow1.length=ow.length) (a:K.contains d=true) (j:Nat):aj (b8 K 0 ow ow1) d j=aj ow1 d j:=by
 unfold aj;rw[dJ];rcases a3u d ow.length with h|h
 ·simp only[a0a h,a0a (show d<ow1.length by omega),a1t,a1l,a,a1s,a2r]
 ·rw[a0w h,a0w (show ow1.length<=d by omega)];rfl
def sZ (a:K.contains d=false) (j:Nat):aj (b8 K 0 ow ow1) d j=aj ow d j:=by
 unfold aj;rw[dJ]
 cases ow[d]? with
 |none=>rfl
 |some l=>simp only[a1t,a1l,a,a0u,a1z]
def HY (b:cY ow=true) (d j:Nat):EC (aj ow d j) (aj (aN K 0 ow) d j):=by
 cases hd:K.contains d with
 |true=>rw[fY hd];exact .refl _
 |false=>
  by_cases a:aj ow d j=none
  ·rw[a];trivial
  ·rw[sY b hd a];exact .dead
def FM (F:Nat->Prop) (G:Gh) (ow:OW) (K:List Nat) (b:Nat):Prop:=F b\/∃d j i o,K.contains d=false/\bx (aj ow d j)/\G d j i=some (b,o)
def wP (h:cu G (aN K 0 ow) b):∃d j i o,K.contains d=true/\bx (aj ow d j)/\G d j i=some (b,o):=by
 obtain⟨d,j,i,o,a,c⟩:=aM.1 h
 cases hd:K.contains d with
 |true=>rw[fY hd]at a;exact⟨d,j,i,o,hd,a,c⟩
 |false=>rcases gS (ow:=ow) hd j with h|h<;>rw[h]at a<;>exact a.elim
def fZ (h:cu G (aN K 0 ow) b):cu G ow b:=by
 obtain⟨d,j,i,o,_,a,c⟩:=wP h;exact aM.2 ⟨d,j,i,o,a,c⟩
def PO (a:bt F G ow w.heap) (c:∀b,F b->b<w.heap.size) (h:FM F G ow K b):b<w.heap.size:=by
 rcases h with h|⟨d,j,i,o,_,h1,h2⟩
 ·exact c b h
 ·exact cu.lt a (aM.2 ⟨d,j,i,o,h1,h2⟩)
def HZ (h:cW F G ow b):cW (FM F G ow K) G (aN K 0 ow) b:=by
 refine⟨λa=> ?_,λc=>h.2 (fZ c)⟩;rcases a with a|⟨d,j,i,o,_,h1,h2⟩
 ·exact h.1 a
 ·exact h.2 (aM.2 ⟨d,j,i,o,h1,h2⟩)
def pi (c:cY ow=true) (e:Sv F G ow h s v):Sv (FM F G ow K) G (aN K 0 ow) h s v:=cC.mono (λ_ _ _=>rfl) (HY c) (λb r d a=>⟨HZ d,a⟩) (λb r a=>⟨r,a,rfl⟩) e
def jY (u:cY ow=true) (e:bt F G ow h):bt (FM F G ow K) G (aN K 0 ow) h:=by
 have c:∀d j,bx (aj (aN K 0 ow) d j)->K.contains d=true/\bx (aj ow d j):=by
  intro d j hi
  cases a:K.contains d with
  |true=>rw[fY a]at hi;exact⟨rfl,hi⟩
  |false=>rcases gS (ow:=ow) a j with h|h<;>rw[h]at hi<;>exact hi.elim
 refine⟨λd j o f=> ?_,λd j i d' j' k b o l m n p q=> ?_,λb g s=> ?_⟩
 ·cases a:K.contains d with
  |true=>
   rw[fY a]at f;exact dl.mono (λ_ _ _=>rfl) (HY u) (λb r g t=>⟨HZ g,t⟩) (λb r t=>⟨r,t,rfl⟩) rfl (λ_ _ _ _ _=>rfl) (e.obs d j o f)
  |false=>rcases gS (ow:=ow) a j with h|h<;>rw[h]at f<;>cases f
 ·exact e.apart d j i d' j' k b o l (c d j m).2 (c d' j' n).2 p q
 ·obtain⟨d,j,i,o,a,m,n⟩:=wP g
  rcases s with s|⟨d',j',k,l,hd',p,q⟩
  ·exact e.notF b (fZ g) s
  ·obtain⟨rfl,_⟩:=e.apart d j i d' j' k b o l m p n q
   rw[a]at hd';cases hd'
def GM (K:List Nat) (G a:Gh):Gh:=λd j=>if K.contains d then a d j else G d j
def Ra (a:K.contains d=true) (j:Nat):GM K G G1 d j=G1 d j:=by simp only[GM,a,a1s]
def Qf (a:K.contains d=false) (j:Nat):GM K G G1 d j=G d j:=by simp only[GM,a,a0u,a1z]
def cZ.same {off:Nat} {len:Option Nat} (b:aj ow' d j=aj ow d j) (c:G' d j=G d j) (a:cZ h G ow d j off len v):cZ h G' ow' d j off len v:=by
 unfold cZ od at a⊢;rw[b,c];exact a
def Rb {ok ok':Nat->Prop} (n:∀d j,K.contains d=true->aj ow' d j=aj ow d j) (o:∀d j,K.contains d=true->G' d j=G d j) (k:∀b r,ok b->am h b=some r->ok' b/\am h b=some r) (e:cC h ok G ow s v):∀f,jP K f s=true->cC h ok' G' ow' s v:=by
 induction e with
 |v hk hx=>intro f _;exact .v hk (cG.mono k _ hx)
 |lb b=>intro f _;exact .lb b
 |dead v=>intro f _;exact .dead v
 |nils=>intro f _;exact .nils
 |agg hl _ ih=>
  intro f g
  cases f with
  |zero=>cases g
  |succ f=>
   simp only[jP,a1g]at g;exact .agg hl λi l m=>ih i l m f (g _ (a0l _))
 |tup hl _ ih=>
  intro f g
  cases f with
  |zero=>cases g
  |succ f=>
   simp only[jP,a1g]at g;exact .tup hl λi l m=>ih i l m f (g _ (a0l _))
 |fn l m _ _ ih1 ih2=>
  intro f g
  cases f with
  |zero=>cases g
  |succ f=>
   simp only[jP,a0c,a1g]at g;exact .fn l m (λi a b=>ih1 i a b f (g.1 _ (a0l _))) (λi a b=>ih2 i a b f (g.2 _ (a0l _)))
 |wh hv=>
  intro f g
  cases f with
  |zero=>cases g
  |succ f=>exact .wh (hv.same (n _ _ g) (o _ _ g))
 |os hv=>
  intro f g
  cases f with
  |zero=>cases g
  |succ f=>exact .os (hv.same (n _ _ g) (o _ _ g))
 | @bp d j c val hv=>
  intro f g
  cases f with
  |zero=>cases g
  |succ f=>
   refine .bp ?_
   rw[n d j g,o d j g];exact hv
 | @rp d j ver e c val hv=>
  intro f g
  cases f with
  |zero=>cases g
  |succ f=>
   refine .rp ?_
   rw[n d j g,o d j g];exact hv
 |ip hk hb hr hs hx=>
  intro f _;obtain⟨p,q⟩:=k _ _ hb hr;exact .ip hk p q hs (cG.mono k _ hx)
def IR (p:bt F G ow w.heap) (i:cY ow=true) (k:∀b r,am w.heap b=some r->∃o,am w1.heap b=some o/\o.size=r.size) {ow2:OW} {l:Gh}
 (g:∀s v,Sv (FM F G ow K) G (aN K 0 ow) w.heap s v->Sv (FM F G ow K) G1 ow1 w1.heap s v)
 (f:∀d j,K.contains d=true->aj ow2 d j=aj ow1 d j/\l d j=G1 d j) (a:∀d j,K.contains d=false->aj ow2 d j=aj ow d j/\l d j=G d j)
 (h:∀b r,cW F G ow b->am w.heap b=some r->cW F l ow2 b/\am w1.heap b=some r) (e:Sv F G ow w.heap s v):Sv F l ow2 w1.heap s v:=by
 induction e with
 |v hk hx=>exact .v hk (cG.mono h _ hx)
 |lb b=>exact .lb b
 |dead v=>exact .dead v
 |nils=>exact .nils
 |agg hl _ ih=>exact .agg hl ih
 |tup hl _ ih=>exact .tup hl ih
 |fn h1 h2 _ _ ih1 ih2=>exact .fn h1 h2 ih1 ih2
 | @wh d j ver val hv=>
  cases hd:K.contains d with
  |true=>
   have:=g _ _ (pi i (.wh (ver:=ver) hv))
   cases this with
   |wh hv=>exact .wh (hv.same (f d j hd).1 (f d j hd).2)
  |false=>exact .wh (hv.mono (λ_=>by rw[(a d j hd).2]) (by rw[(a d j hd).1];exact .refl _) k)
 | @os d j ver off len val hv=>
  cases hd:K.contains d with
  |true=>
   have:=g _ _ (pi i (.os (ver:=ver) hv))
   cases this with
   |os hv=>exact .os (hv.same (f d j hd).1 (f d j hd).2)
  |false=>exact .os (hv.mono (λ_=>by rw[(a d j hd).2]) (by rw[(a d j hd).1];exact .refl _) k)
 | @bp d j c val hv=>
  cases hd:K.contains d with
  |true=>
   have:=g _ _ (pi i (.bp (c:=c) hv))
   cases this with
   |bp hv=>
    refine .bp ?_
    rw[(f d j hd).1,(f d j hd).2];exact hv
  |false=>
   refine .bp ?_
   rw[(a d j hd).1,(a d j hd).2];exact hv
 | @rp d j ver e c val hv=>
  cases hd:K.contains d with
  |true=>
   have:=g _ _ (pi i (.rp (ver:=ver) hv))
   cases this with
   |rp hv=>
    refine .rp ?_
    rw[(f d j hd).1,(f d j hd).2];exact hv
  |false=>
   refine .rp ?_
   rw[(a d j hd).1,(a d j hd).2];exact hv
 |ip hk hb hr i hx=>
  obtain⟨m,n⟩:=h _ _ hb hr;exact .ip hk m n i (cG.mono h _ hx)
def dl.same {y:Array Obj} {ok ok':Nat->Prop} {o:OB} (t:G' d j=G d j) (u:bx (some (some o))->∀i b c,G d j i=some (b,c)->y[b]?=h[b]?) (q:∀b r,ok b->am h b=some r->ok' b/\am y b=some r) (z:∀s∈HM o,∀v,cC h ok G ow s v->cC y ok' G' ow' s v) (e:dl h ok G ow d j o):dl y ok' G' ow' d j o:=by
 cases o with
 |box m=>
  obtain⟨F,b,o,r,et,a,g,H,w⟩:=e;exact⟨by rw[t];exact F,b,o,r,et,by rw[t,a],by rw[u trivial 0 b o a,g],H,λi hi g=>z _ (a0l _) _ (w i hi g)⟩
 |row k ver l=>
  obtain⟨F,A,e⟩:=e;refine⟨by rw[t];exact F,A,?_⟩;rw[t]
  cases a:G d j 0 with
  |none=>simpa [a]using e
  |some p=>
   obtain⟨b,o⟩:=p;simp only[a]at e;obtain⟨r,et,g,B⟩:=e;exact⟨r,et,by rw[u trivial 0 b o a,g],B.mono λx cs I=>cG.mono q _ I⟩
 |frow k ver l=>
  obtain⟨A,e⟩:=e;refine⟨A,?_⟩;rw[t]
  cases a:G d j 0 with
  |none=>simpa [a]using e
  |some p=>
   obtain⟨b,o⟩:=p;simp only[a]at e;rcases e with e|⟨u,r,g,B⟩
   ·exact .inl e
   ·obtain⟨f,J⟩:=q b r u g
    exact .inr ⟨f,r,J,B.mono λx cs I=>cG.mono q _ I⟩
 |nrow k l foc=>
  obtain⟨A,fps,M,e⟩:=e;refine⟨A,fps,by rw[t];exact M,?_⟩;rw[t];have C:∀b∈fps.flatten,y[b]?=h[b]?:=λb K=>by
   obtain⟨i,hi,rfl⟩:=a2g.1 K;exact u trivial (i+1) _ 0 (by rw[M,a0a hi];rfl)
  cases a:G d j 0 with
  |none=>simpa [a]using e
  |some p=>
   obtain⟨b,o⟩:=p;simp only[a]at e;obtain⟨r,et,g,H,N,O,B,P⟩:=e;exact⟨r,et,by rw[u trivial 0 b o a,g],H,N,λE f=>by rw[C E f];exact O E f,λi hi D L=>cA.mono q k (λE f=>C E (ig D f)) (B i hi D L),λQ m w=>by
    obtain⟨R,S,T⟩:=P Q m w;subst w;exact⟨R,S,λc w g=>z _ (a0l _) _ (T c w g)⟩⟩
 |lrow n=>trivial
def lS (I:bt F G ow w.heap) (X:∀b,F b->b<w.heap.size) (O:cY ow=true) (q:Tr (FM F G ow K) G (aN K 0 ow) w G1 ow1 w1) (T:Dh K ow1=true):Tr F G ow w (GM K G G1) (b8 K 0 ow ow1) w1/\∀s v f,jP K f s=true->Sv (FM F G ow K) G1 ow1 w1.heap s v->Sv F (GM K G G1) (b8 K 0 ow ow1) w1.heap s v:=by
 have M:ow1.length=ow.length:=by rw[q.len,DH]
 simp only[Dh,a0c]at T;have k:∀d j,K.contains d=true->aj (b8 K 0 ow ow1) d j=aj ow1 d j/\GM K G G1 d j=G1 d j:=λd j g=>⟨vh M g j,Ra g j⟩
 have a:∀d j,K.contains d=false->aj (b8 K 0 ow ow1) d j=aj ow d j/\GM K G G1 d j=G d j:=λd j g=>⟨sZ g j,Qf g j⟩
 have u:∀b,cu (GM K G G1) (b8 K 0 ow ow1) b->(cu G1 ow1 b)\/(∃d j i o,K.contains d=false/\bx (aj ow d j)/\G d j i=some (b,o)):=by
  intro b t;obtain⟨d,j,i,o,p,n⟩:=aM.1 t
  cases g:K.contains d with
  |true=>rw[(k d j g).1]at p;rw[(k d j g).2]at n;exact .inl (aM.2 ⟨d,j,i,o,p,n⟩)
  |false=>rw[(a d j g).1]at p;rw[(a d j g).2]at n;exact .inr ⟨d,j,i,o,g,p,n⟩
 have x:eX (cu G ow) w w1:=⟨q.kept.size,λb t U=>q.kept.heap b t λh=>U (fZ h),q.kept.cells,q.kept.os,q.kept.output,q.kept.tape⟩;have B:∀b r,cW F G ow b->am w.heap b=some r->cW F (GM K G G1) (b8 K 0 ow ow1) b/\am w1.heap b=some r:=by
  intro b r t A;have R:=cL A;refine⟨⟨t.1,λh=> ?_⟩,?_⟩
  ·rcases u b h with h|⟨d,j,i,o,_,p,n⟩
   ·rcases q.own b h with h|h
    ·exact t.2 (fZ h)
    ·omega
   ·exact t.2 (aM.2 ⟨d,j,i,o,p,n⟩)
  ·unfold am
   rw[x.heap b R t.2];exact A
 have C:∀b r,cW (FM F G ow K) G1 ow1 b->am w1.heap b=some r->cW F (GM K G G1) (b8 K 0 ow ow1) b/\am w1.heap b=some r:=by
  intro b r t A;refine⟨⟨λh=>t.1 (.inl h),λh=> ?_⟩,A⟩;rcases u b h with h|h
  ·exact t.2 h
  ·exact t.1 (.inr h)
 have S:∀b r,am w.heap b=some r->∃P,am w1.heap b=some P/\P.size=r.size:=by
  intro b r A;unfold am at A;split at A
  ·rename_i c et f V
   cases A
   obtain⟨P,p,n⟩:=q.kept.cells b _ _ _ V;exact⟨P,by unfold am;rw[p],n⟩
  ·cases A
 have N:∀s v,Sv F G ow w.heap s v->Sv F (GM K G G1) (b8 K 0 ow ow1) w1.heap s v:=λs v e=>IR I O S q.sv k a B e
 have D:∀s v f,jP K f s=true->Sv (FM F G ow K) G1 ow1 w1.heap s v->Sv F (GM K G G1) (b8 K 0 ow ow1) w1.heap s v:=λs v f Q e=>
  Rb (λd j g=>(k d j g).1) (λd j g=>(k d j g).2) C e f Q
 have H:∀d j i b o,K.contains d=false->bx (aj ow d j)->G d j i=some (b,o)->w1.heap[b]?=w.heap[b]?:=by
  intro d j i b o g p n;refine q.kept.heap b (cu.lt I (aM.2 ⟨d,j,i,o,p,n⟩)) λh=> ?_
  obtain⟨d',j',J,L,m,E,z⟩:=wP h;obtain⟨rfl,_⟩:=I.apart d j i d' j' J b o L p E n z;rw[g]at m;cases m
 refine⟨⟨⟨λd j o y=> ?_,λd j i d' j' J b o L p n E z=> ?_,λb t Q=> ?_⟩,N,x,λb t=> ?_,Cc K ow ow1⟩,D⟩
 ·cases g:K.contains d with
  |true=>
   rw[(k d j g).1]at y;refine dl.same (k d j g).2 (λ_ _ _ _ _=>rfl) C (λs O v e=>D s v 8 ?_ e) (q.hrep.obs d j o y);unfold aj at y
   cases hl:ow1[d]? with
   |none=>rw[hl]at y;cases y
   |some l=>
    rw[hl]at y;simp only[a0d]at y;have:=uy K ow1 0 T.1 d l hl;simp only[a1l,g,a1s,a1g]at this;have:=this _ (a3p y);simp only[Qa,a1g]at this;exact this s O
  |false=>
   rw[(a d j g).1]at y;exact dl.same (a d j g).2 (λhi i b c W=>H d j i b c g (by rw[y];exact hi) W) B (λs O v e=>N s v e) (I.obs d j o y)
 ·cases g:K.contains d with
  |true=>
   rw[(k d j g).1]at p;rw[(k d j g).2]at E
   cases m:K.contains d' with
   |true=>
    rw[(k d' j' m).1]at n;rw[(k d' j' m).2]at z;exact q.hrep.apart d j i d' j' J b o L p n E z
   |false=>
    rw[(a d' j' m).1]at n;rw[(a d' j' m).2]at z;exact absurd (.inr ⟨d',j',J,L,m,n,z⟩) (q.hrep.notF b (aM.2 ⟨d,j,i,o,p,E⟩))
  |false=>
   rw[(a d j g).1]at p;rw[(a d j g).2]at E
   cases m:K.contains d' with
   |true=>
    rw[(k d' j' m).1]at n;rw[(k d' j' m).2]at z;exact absurd (.inr ⟨d,j,i,o,g,p,E⟩) (q.hrep.notF b (aM.2 ⟨d',j',J,L,n,z⟩))
   |false=>
    rw[(a d' j' m).1]at n;rw[(a d' j' m).2]at z;exact I.apart d j i d' j' J b o L p n E z
 ·rcases u b t with h|⟨d,j,i,o,_,p,n⟩
  ·exact q.hrep.notF b h (.inl Q)
  ·exact I.notF b (aM.2 ⟨d,j,i,o,p,n⟩) Q
 ·rcases u b t with h|⟨d,j,i,o,_,p,n⟩
  ·rcases q.own b h with h|h
   ·exact .inl (fZ h)
   ·exact .inr h
  ·exact .inl (aM.2 ⟨d,j,i,o,p,n⟩)
def FV (K:List Nat) (ow:OW):b8 K 0 ow (aN K 0 ow)=ow:=by
 apply a2e;intro n;rw[dJ,dV]
 cases ow[n]? with
 |none=>rfl
 |some x=>
  simp only[a1t,a1l,a2r]
  cases hk:K.contains n with
  |true=>simp only[a1s]
  |false=>simp only[a0u,a1z]
def OC (K:List Nat) (G:Gh):GM K G G=G:=by
 funext d j
 unfold GM;split<;>rfl
def oD (a:bt F G ow w.heap) (c:∀b,F b->b<w.heap.size) (d:cY ow=true) (e:Tr (FM F G ow K) G (aN K 0 ow) w G (aN K 0 ow) w1) (g:Dh K (aN K 0 ow)=true):Tr F G ow w G ow w1/\∀s v f,jP K f s=true->Sv (FM F G ow K) G (aN K 0 ow) w1.heap s v->Sv F G ow w1.heap s v:=by
 have:=lS a c d e g;rw[FV,OC]at this;exact this
end
end Go.Pev
namespace Go.Pev
variable {ow:OW} {s:SV} {C:gw} {sl:List SV}
def bc.out {β:Type}:bc β->Option β
 | .ret b=>some b
 | .fail=>none
 | .chk c t=>if c then t.out else none
 | .bnd _ m f=>m.bind λy=>(f y).out
 | .amb _ _ _=>none
 | .ite c f g=>if c then f.out else g.out
def bc.outB {β:Type}:bc β->Option (Nat->Bool)->Option β
 | .ret b,_=>some b
 | .fail,_=>none
 | .chk c t,o=>if c then t.outB o else none
 | .bnd _ m f,o=>m.bind λy=>(f y).outB o
 | .amb c f g,o=>(match o with|none=>none|some s=>if c then(if s 0 then f.outB (some λn=>s (n+1))else g.outB (some λn=>s (n+1)))else g.outB (some s))
 | .ite c f g,o=>if c then f.outB o else g.outB o
def bc.outB_none {β:Type}:(c:bc β)->c.outB none=c.out
 | .ret _=>rfl
 | .fail=>rfl
 | .chk c t=>by cases c with|false=>rfl|true=>exact bc.outB_none t
 | .bnd _ m f=>by cases m with|none=>rfl|some y=>exact bc.outB_none (f y)
 | .amb _ _ _=>rfl
 | .ite c f g=>by cases c with|false=>exact bc.outB_none g|true=>exact bc.outB_none f
def bc.outB_bind {β γ:Type} {f:β->bc γ} {r:γ}:(c:bc β)-> {o:Option (Nat->Bool)}->(c.bind f).outB o=some r->∃b,c.outB o=some b/\∃a,(f b).outB a=some r
 | .ret b,o,h=>⟨b,rfl,o,h⟩
 | .fail,_,h=>by cases h
 | .chk c t,_,h=>by
  cases c with
  |false=>cases h
  |true=>exact bc.outB_bind t h
 | .bnd _ m g,_,h=>by
  cases m with
  |none=>cases h
  |some y=>exact bc.outB_bind (g y) h
 | .amb c f1 g1,o,h=>by
  cases o with
  |none=>cases h
  |some s=>
   simp only[bc.bind,bc.outB]at h⊢
   cases c with
   |false=>exact bc.outB_bind g1 h
   |true=>
    simp only[a1s]at h⊢
    cases hs:s 0 with
    |false=>rw[hs]at h;exact bc.outB_bind g1 h
    |true=>rw[hs]at h;exact bc.outB_bind f1 h
 | .ite c f g,_,h=>by
  cases c with
  |false=>exact bc.outB_bind g h
  |true=>exact bc.outB_bind f h
def At (b:Bool) (o:Nat->Bool):Nat->Bool
 |0=>b
 |n+1=>o n
def bc.outB_amb {β:Type} {f g:bc β} {o:Nat->Bool}:(bc.amb true f g).outB (some (At true o))=f.outB (some o)/\(bc.amb true f g).outB (some (At false o))=g.outB (some o):=⟨rfl,rfl⟩
def bc.outB_can {β:Type}:(c:bc β)->(∀o,∃b,c.outB (some o)=some b)->c.can λx=>∃o,c.outB (some o)=some x
 | .ret b,_=>⟨λ_=>true,rfl⟩
 | .fail,h=>by obtain⟨b,h⟩:=h λ_=>true;cases h
 | .chk c t,h=>by
  cases c with
  |false=>obtain⟨b,h⟩:=h λ_=>true;cases h
  |true=>exact⟨rfl,bc.outB_can t h⟩
 | .bnd _ m f,h=>by
  cases m with
  |none=>obtain⟨b,h⟩:=h λ_=>true;cases h
  |some y=>exact⟨y,rfl,bc.outB_can (f y) h⟩
 | .amb c f g,h=>by
  simp only[bc.can]
  cases c with
  |false=>
   simp only[a0u,a1z];exact bc.outB_can g h
  |true=>
   simp only[a1s];have e:=bc.outB_can f λo=>by obtain⟨b,a⟩:=h (At true o);exact⟨b,a⟩
   have i:=bc.outB_can g λo=>by obtain⟨b,a⟩:=h (At false o);exact⟨b,a⟩
   exact⟨bc.can_mono (λx ⟨o,d⟩=>⟨At true o,by rw[bc.outB_amb.1];exact d⟩) f e,bc.can_mono (λx ⟨o,d⟩=>⟨At false o,by rw[bc.outB_amb.2];exact d⟩) g i⟩
 | .ite c f g,h=>by
  cases c with
  |false=>exact bc.outB_can g h
  |true=>exact bc.outB_can f h
def bc.run_outB {α β:Type} {n:Nat} {k:β->Option α} {r:α}:(c:bc β)->c.run n k=some r->∀o,∃b,c.outB (some o)=some b/\k b=some r
 | .ret b,h,_=>⟨b,rfl,h⟩
 | .fail,h,_=>by cases h
 | .chk c t,h,o=>by
  rw[bc.run,gZ]at h
  cases c with
  |false=>cases h
  |true=>exact bc.run_outB t h o
 | .bnd _ m f,h,o=>by
  rw[bc.run,De]at h
  cases m with
  |none=>cases h
  |some y=>exact bc.run_outB (f y) h o
 | .amb c f g,h,o=>by
  rw[bc.run,gZ]at h;simp only[bc.outB]
  cases c with
  |false=>exact bc.run_outB g h o
  |true=>
   obtain⟨a,d⟩:=wd h;simp only[a1s]
   cases o 0 with
   |false=>exact bc.run_outB g d _
   |true=>exact bc.run_outB f a _
 | .ite c f g,h,o=>by
  rw[bc.run,gZ]at h
  cases c with
  |false=>exact bc.run_outB g h o
  |true=>exact bc.run_outB f h o
def bc.runA_out {α β:Type} {n:Nat} {k:β->Option α} {r:α}:(c:bc β)->c.runA n k=some r->∃b,c.out=some b/\k b=some r
 | .ret b,h=>⟨b,rfl,h⟩
 | .fail,h=>by cases h
 | .chk c t,h=>by
  rw[bc.runA,gZ]at h
  cases c with
  |false=>cases h
  |true=>exact bc.runA_out t h
 | .bnd _ m f,h=>by
  rw[bc.runA,De]at h
  cases m with
  |none=>cases h
  |some y=>exact bc.runA_out (f y) h
 | .amb _ _ _,h=>by cases h
 | .ite c f g,h=>by
  rw[bc.runA,gZ]at h
  cases c with
  |false=>exact bc.runA_out g h
  |true=>exact bc.runA_out f h
def bc.out_can {β:Type} {b:β}:(c:bc β)->c.out=some b->c.can λx=>x=b
 | .ret _,h=>a1f h
 | .fail,h=>by cases h
 | .chk c t,h=>by
  cases c with
  |false=>cases h
  |true=>exact⟨rfl,bc.out_can t h⟩
 | .bnd _ m f,h=>by
  cases m with
  |none=>cases h
  |some y=>exact⟨y,rfl,bc.out_can (f y) h⟩
 | .amb _ _ _,h=>by cases h
 | .ite c f g,h=>by
  cases c with
  |false=>exact bc.out_can g h
  |true=>exact bc.out_can f h
def dB (src:Bool) (s:SV):SV:=if src then(match s with| .v .bool b=> .lb b|s=>s)else s
def rI {α:Type} {n:Nat} {src:Bool} {k:SV->Option α}:split n src s k=k (dB src s):=by
 unfold split dB
 cases src with
 |false=>rfl
 |true=>
  simp only[a1s];split
  ·rename_i b;rw[gZ];cases b<;>rfl
  ·rename_i h
   split
   ·rename_i b;exact absurd rfl (h b)
   ·rfl
def wQ {P:Program} {o:Op} {ρ e:Operand->SV} (h:∀x∈o.operands,ρ x=e x):pK P o ρ ow=pK P o e ow:=by
 cases o with
 |call c=>
  have i:∀x∈c.args,ρ x=e x:=λx d=>h x (by simp[Op.operands,Call.operands,d])
  have g:c.args.toList.map ρ=c.args.toList.map e:=a3h λx d=>i x (by simpa using d)
  simp only[pK,g];split
  ·split
   ·rename_i x t ts d m
    rw[i x (by rw[<-a4w,d];simp)]
   ·rfl
  ·rfl
  ·rfl
  ·rfl
 |build t ps=>
  have:(ps.toList.map λx=>(x.1,ρ x.2))=ps.toList.map λx=>(x.1,e x.2):=a3h λp j=>by
   rw[h p.2 (by simp only[Op.operands,a8j,a2y];exact⟨p,j,rfl⟩)]
  simp only[pK,this]
 |makeFunc f a b=>
  have k:a.toList.map ρ=a.toList.map e:=a3h λx d=>h x (by simp only[Op.operands,a5j];exact .inl (by simpa using d))
  have l:b.toList.map ρ=b.toList.map e:=a3h λx d=>h x (by simp only[Op.operands,a5j];exact .inr (by simpa using d))
  simp only[pK,k,l]
 |slice t x lo hi mx=>
  cases lo<;>cases hi<;>cases mx<;>simp_all[pK,Op.operands]
 |typeAssert x a b c=>cases c<;>simp_all[pK,Op.operands]
 |_=>first|rfl|(simp_all[pK,Op.operands];done)
def Au {o:Op} {ρ a:Operand->SV} (h:∀x∈o.operands,ρ x=a x):Ae C o ρ ow=Ae C o a ow:=by
 unfold Ae;split
 ·rename_i f args b
  have c:ρ f=a f:=h f (by simp[Op.operands,Call.operands]);have d:args.toList.map ρ=args.toList.map a:=a3h λx e=>h x (by simp only[Op.operands,Call.operands,a5j];exact .inr (by simpa using e))
  rw[c,d]
 ·exact wQ h
def rJ (C:gw) (a:Array Oper) (ow:OW) (o:Oper) (i:Nat) (b:List SV):Option SV:=
 match dC a o b with
 |none=>none
 |some false=>some (.tup [])
 |some true=>(Ae C o.op (iL b) ow).out.map (dB (d9 a i))
def kw (C:gw) (a:Array Oper) (ow:OW) (i:Nat) (b:List SV):Option (List SV):=
 match a[i]? with
 |some o=>(rJ C a ow o i b).map (bm b o.dst)
 |none=>none
def wR {a:Array Oper} {o:Oper} {i:Nat} {b:List SV} (h:∀d∈km a o,sl[d]?=b[d]?):rJ C a ow o i sl=rJ C a ow o i b:=by
 have e:dC a o sl=dC a o b:=by
  unfold dC
  cases hg:o.guard with
  |none=>rfl
  |some g=>
   obtain⟨j,c⟩:=g;simp only
   cases hd:(a[j]?).bind (·.dst)with
   |none=>rfl
   |some d=>
    simp only;rw[h d (by simp[km,hg,hd])]
 have k:Ae C o.op (iL sl) ow=Ae C o.op (iL b) ow:=Au λx l=>by
  cases x with
  |tmp t=>
   have:=h t (by
    simp only[km,a0k];exact .inl (List.mem_filterMap.2 ⟨.tmp t,by simpa using l,rfl⟩))
   simp only[iL,this]
  |const v=>rfl
  |global g=>rfl
  |func f=>rfl
 unfold rJ;rw[e,k]
def lT {d:Option Tmp} {x:Nat} (h:d≠some x):(bm sl d s)[x]?=sl[x]?:=by
 cases d with
 |none=>rfl
 |some d=>exact a3b (λe=>h (by rw[e]))
def wS {d d':Option Tmp} {a:SV} (h:∀x,d=some x->d'≠some x):bm (bm sl d s) d' a=bm (bm sl d' a) d s:=by
 cases d with
 |none=>rfl
 |some d=>
  cases d' with
  |none=>rfl
  |some d'=>exact List.set_comm _ _ (λe=>h d rfl (by rw[e]))
def wT {a:Array Oper} (i j:Nat) (s k l:List SV) (c:ie a i j=true) (f:kw C a ow i s=some k) (g:kw C a ow j k=some l):∃h,kw C a ow j s=some h/\kw C a ow i h=some l:=by
 unfold ie at c;unfold kw at f g⊢
 cases hi:a[i]? with
 |none=>rw[hi]at f;cases f
 |some x=>
  cases hj:a[j]? with
  |none=>rw[hj]at g;cases g
  |some y=>
   rw[hi]at f c;rw[hj]at g c;simp only at f g c⊢;unfold Fx at c;simp only[a0c]at c;obtain⟨a1,m⟩:=c;have n:∀d,x.dst=some d->d∉km a y/\y.dst≠some d:=by
    intro d b;rw[b]at a1;simpa using a1
   have p:∀d,y.dst=some d->d∉km a x:=by
    intro d b;rw[b]at m;simpa using m
   rw[a2l]at f g;obtain⟨v,q,rfl⟩:=f;obtain⟨u,o,rfl⟩:=g;have c1:rJ C a ow y j (bm s x.dst v)=rJ C a ow y j s:=wR λd b=>lT λe=>(n d e).1 b
   rw[c1]at o;have c2:rJ C a ow x i (bm s y.dst u)=rJ C a ow x i s:=wR λd b=>lT λe=>p d e b
   refine⟨bm s y.dst u,by rw[o];rfl,?_⟩;rw[c2,q];simp only[a1t];rw[wS λd b=>(n d b).2]
def s3 {α:Type} {C:gw} {b:Array Oper} {ow:OW} {k:List SV->Option α} {r:α}:(l:List (Oper×Nat))->(∀p∈l,b[p.2]?=some p.1)-> {c:List SV}->wb C b ow l c k=some r->∃a,kR (kw C b ow) (l.map (·.2)) c=some a/\k a=some r
 |[],_,c,h=>⟨c,rfl,h⟩
 |(o,i)::l,hl,c,h=>by
  have f:=hl (o,i) (by simp);simp only at f;have d:∀p∈l,b[p.2]?=some p.1:=λp m=>hl p (by simp[m])
  unfold wb at h;simp only[a2f,kR];split at h
  ·cases h
  ·rename_i g
   obtain⟨a,j,e⟩:=s3 l d h;refine⟨a,?_,e⟩;simp only[kw,f,rJ,g,a1t];exact j
  ·rename_i g
   obtain⟨s,j,e⟩:=bc.runA_out _ h;rw[rI]at e;obtain⟨a,n,q⟩:=s3 l d e;refine⟨a,?_,q⟩;simp only[kw,f,rJ,g,j,a1t];exact n
def FW {L:List (Nat×Obj)} (hC:C.Holds L) (hm:C.P.follows .mixedOrders=true):wL C L:=by
 intro α nt fr F fp w0 vs id b st a w k r S Y h T he Q hQ;obtain⟨hl,hr⟩:=g8 b Y;obtain⟨B,Z,h2⟩:=s3 _ (λp hp=>(hl p hp).1) he;rw[hr]at Z;have hD:∀(i:Nat) (o:Oper),b[i]?=some o->∀d,o.dst=some d->fr d=true/\∃o∈b.toList,o.dst=some d:=by
  intro i o x d y;have g:o∈b.toList:=by
   obtain⟨q,rfl⟩:=a1c.1 x;simp
  refine⟨?_,o,g,y⟩;have:=a1g.1 Y o g;rw[y]at this;simpa using this
 let R:List SV->Act->World->Prop:=λJ a w=>nJ nt fr F fp w0 vs ⟨J,st.ow⟩ a w/\∀d,¬(∃o∈b.toList,o.dst=some d)->J[d]?=st.sl[d]?
 refine wp_region_any hm (qz (step:=kw C b st.ow) (R:=R) (λi j s s1 s2=>wT i j s s1 s2) ?_ T (sF:=B) (λa' c M=>hQ B a' c h2 M.1 M.2) b.size _ st.sl a _ (by simp) ?_ ?_ ?_ ?_)
 ·intro i J S0 a w hi l M K hK
  obtain⟨D,U⟩:=M;unfold kw at l
  cases x:b[i]? with
  |none=>rw[x]at l;cases l
  |some o=>
   rw[x]at l;simp only[a2l]at l;obtain⟨v,A,rfl⟩:=l;have t:=hD i o x;have m:∀d,¬(∃o∈b.toList,o.dst=some d)->(bm J o.dst v)[d]?=st.sl[d]?:=λd hn=>by
    rw[lT λe=>hn (t d e).2];exact U d hn
   obtain⟨G,N,g2,g3⟩:=D.ex;unfold wpOp;rw[x];simp only;unfold rJ at A;split at A
   ·cases A
   ·rename_i V
    cases A
    rw[cM N V];exact hK _ _ ⟨D.slot (λ_=>ku) (λd y=>(t d y).1),m⟩
   ·rename_i V
    rw[cM N V];simp only[a1s];left;rw[a2l]at A;obtain⟨s,l,rfl⟩:=A;have W:=fC hC (op:=o) rfl g2 (S.wideAt D.kept) (S.laidAt D.kept g3) (eB N) (bc.out_can _ l);refine vg.wp ?_
    have conv:∀u c,(∃O,O=s/\Tr F G st.ow w G st.ow c/\Sv F G st.ow c.heap O u)->K (a.put o.dst u) c:=by
     rintro u c ⟨O,rfl,ht,X⟩
     obtain⟨s2,e2,E⟩:=k8 (n:=C.fuel) (src:=d9 b i) X (k:=λz=>some z) (r:=dB (d9 b i) O) (by rw[rI])
     cases e2
     exact hK _ _ ⟨D.op S N g3 ht E (λd y=>(t d y).1),m⟩
    rcases W with⟨u,c,H,I⟩|⟨c,H,I⟩|⟨f,args,H,I⟩
    ·exact .inl ⟨u,c,H,conv u c I⟩
    ·exact .inr (.inl ⟨c,H,conv undef c I⟩)
    ·exact .inr (.inr ⟨f,args,H,I.mono λe c ⟨u,q3,q4⟩=>⟨u,q3,conv u c q4⟩⟩)
 ·refine a5o (a5q _ _) (by simp)
 ·intro j hj
  exfalso;by_cases q:j<b.size
  ·simp[Array.getD,q]at hj
  ·simp[Array.getD,q]at hj
 ·have:((List.range b.size).filter λi=> !(Array.replicate b.size false).getD i true)=List.range b.size:=by
   rw[a6b];intro i hi;have:=a2i.1 hi;simp[Array.getD,this]
  rw[this];exact Z
 ·exact⟨⟨h.ex,⟨h.kept.size,h.kept.heap,h.kept.cells,h.kept.os,h.kept.output,h.kept.tape⟩,h.defers,h.args,h.size⟩,λ_ _=>rfl⟩
def bc.out_bind {β γ:Type} {f:β->bc γ} {r:γ}:(c:bc β)->(c.bind f).out=some r->∃b,c.out=some b/\(f b).out=some r
 | .ret b,h=>⟨b,rfl,h⟩
 | .fail,h=>by cases h
 | .chk c t,h=>by
  cases c with
  |false=>cases h
  |true=>exact bc.out_bind t h
 | .bnd _ m g,h=>by
  cases m with
  |none=>cases h
  |some y=>exact bc.out_bind (g y) h
 | .amb _ _ _,h=>by cases h
 | .ite c f g,h=>by
  cases c with
  |false=>exact bc.out_bind g h
  |true=>exact bc.out_bind f h
def cH {F:Nat->Prop} {G:Gh} {w:World} {src:Bool} {v:Value} (b:Sv F G ow w.heap s v):Sv F G ow w.heap (dB src s) v:=by
 obtain⟨d,c,a⟩:=k8 (n:=0) (src:=src) b (k:=λz=>some z) (r:=dB src s) (by rw[rI])
 cases c
 exact a
end Go.Pev
section
namespace Go.Pev
variable {ow ow':OW} {C:gw} {o:Op} {ρ ρ':Operand->SV} {d j:Nat} {ops:Array Oper} {s:SV} {c c':bc (SV×OW)} {q:List Nat×Bool} {b:Option (Nat->Bool)} {r:Option (List Nat×OW)} {E:Oper->(Operand->SV)->OW->bc (SV×OW)} {dk:Oper->Nat} {ks:List (List Nat×Bool)} {K:List Nat} {B:Nat->Option (Nat->Bool)}
def OD (C:gw) (E:Oper->(Operand->SV)->OW->bc (SV×OW)) (dk:Oper->Nat) (b:Option (Nat->Bool)) (a:Array Oper) (q:List Nat×Bool) (o:Oper) (i:Nat) (c:List SV) (ow:OW):Option (SV×Option (List Nat×OW)):=
 match dC a o c with
 |none=>none
 |some false=>some (.tup [],none)
 |some true=>if cY ow then((qn C (E o (iL c) (aN q.1 0 ow)) o.op q (iL c) (aN q.1 0 ow) (dk o)).outB b).map λx=>(dB (d9 a i) x.1,x.2)else none
def ir (C:gw) (E:Oper->(Operand->SV)->OW->bc (SV×OW)) (dk:Oper->Nat) (B:Nat->Option (Nat->Bool)) (a:Array Oper) (ks:List (List Nat×Bool)) (i:Nat) (st:St):Option St:=
 match a[i]? with
 |some o=>
  (match dC a o st.sl with
  |some false=>some ⟨bm st.sl o.dst (.tup []),st.ow⟩
  |_=>
   (match ks[i]? with
   |some q=>(OD C E dk (B i) a q o i st.sl st.ow).map λx=>⟨bm st.sl o.dst x.1,my st.ow x.2⟩
   |none=>none))
 |none=>none
def fe {o:Oper} {b a:List SV} (h:∀d∈km ops o,b[d]?=a[d]?):dC ops o b=dC ops o a:=by
 unfold dC
 cases hg:o.guard with
 |none=>rfl
 |some g=>
  obtain⟨j,c⟩:=g;simp only
  cases hd:(ops[j]?).bind (·.dst)with
  |none=>rfl
  |some d=>
   simp only;rw[h d (by simp[km,hg,hd])]
def ek {o:Oper} {b a:List SV} (h:∀d∈km ops o,b[d]?=a[d]?):∀x∈o.op.operands,iL b x=iL a x:=λx c=>by
 cases x with
 |tmp t=>
  have:=h t (by
   simp only[km,a0k];exact .inl (List.mem_filterMap.2 ⟨.tmp t,by simpa using c,rfl⟩))
  simp only[iL,this]
 |const v=>rfl
 |global g=>rfl
 |func f=>rfl
def f5 (h:∀x∈o.operands,ρ x=ρ' x):nr C o ρ ow d=nr C o ρ' ow d:=by
 unfold nr;split
 ·rfl
 ·rw[h _ (by simp[Op.operands])]
 ·rename_i t n ps
  have:(ps.toList.map λx=>(x.1,ρ x.2))=ps.toList.map λx=>(x.1,ρ' x.2):=a3h λp i=>by
   rw[h p.2 (by simp only[Op.operands,a8j,a2y];exact⟨p,i,rfl⟩)]
  simp only[this]
 ·rw[h _ (by simp[Op.operands]),h _ (by simp[Op.operands])]
 ·rw[h _ (by simp[Op.operands]),h _ (by simp[Op.operands])]
 ·rename_i args b
  have e:∀x∈args,ρ x=ρ' x:=λx c=>h x (by simp[Op.operands,Call.operands,c])
  split
  ·rename_i s x t tx a g
   rw[e s (by rw[<-a4w,a];simp),e x (by rw[<-a4w,a];simp)]
  ·rfl
 ·rename_i f args b
  have a:ρ f=ρ' f:=h f (by simp[Op.operands,Call.operands]);have g:args.toList.map ρ=args.toList.map ρ':=a3h λx c=>h x (by simp only[Op.operands,Call.operands,a5j];exact .inr (by simpa using c))
  rw[a,g]
 ·rw[wQ h]
def qA (h:∀x∈o.operands,ρ x=ρ' x):yW C o ρ ow d=yW C o ρ' ow d:=by
 unfold yW;split
 ·rw[h _ (by simp[Op.operands]),f5 h]
 ·rw[h _ (by simp[Op.operands]),h _ (by simp[Op.operands]),f5 h]
 ·rename_i t n ps
  have:(ps.toList.map λx=>(x.1,ρ x.2))=ps.toList.map λx=>(x.1,ρ' x.2):=a3h λp c=>by
   rw[h p.2 (by simp only[Op.operands,a8j,a2y];exact⟨p,c,rfl⟩)]
  rw[this,f5 h]
 ·rw[h _ (by simp[Op.operands]),h _ (by simp[Op.operands]),f5 h]
 ·rename_i e
  have a:∀x∈e.args,ρ x=ρ' x:=λx f=>h x (by simp[Op.operands,Call.operands,f])
  split
  ·rename_i s x t tx g b i
   rw[a s (by rw[<-a4w,b];simp),a x (by rw[<-a4w,b];simp),f5 h]
  ·exact f5 h
 ·exact f5 h
def DI (h:∀x∈o.operands,ρ x=ρ' x):tT C o ρ ow d=tT C o ρ' ow d:=by
 unfold tT;split
 ·rename_i f args a
  have b:ρ f=ρ' f:=h f (by simp[Op.operands,Call.operands]);have c:args.toList.map ρ=args.toList.map ρ':=a3h λx e=>h x (by simp only[Op.operands,Call.operands,a5j];exact .inr (by simpa using e))
  rw[b,c,qA h]
 ·exact qA h
def gL {P:Program} (h:∀x∈o.operands,ρ x=ρ' x):fM P o ρ ow=fM P o ρ' ow:=by
 unfold fM;split
 ·rw[h _ (by simp[Op.operands])]
 ·rw[h _ (by simp[Op.operands])]
 ·rw[h _ (by simp[Op.operands])]
 ·rfl
def s4 (h:iK ow d j=true):∃a,cy ow d j=some (.box a):=by
 unfold iK at h;split at h
 ·rename_i a b;exact⟨a,b⟩
 ·cases h
def g9 (m:∀d j n,cy ow d j=some n->cy ow' d j=some n) (h:fM C.P o ρ ow=some s):(Ae C o ρ ow').can λx=>x=s:=by
 have e:∀d j,iK ow d j=true->iK ow' d j=true:=by
  intro d j g;obtain⟨b,k⟩:=s4 g;simp[iK,m d j _ k]
 unfold fM at h;split at h
 ·rename_i t a
  split at h
  ·rename_i d j c i
   split at h
   ·rename_i b k
    simp only[Ae,pK,i,sJ,m d j _ k,h];exact rfl
   ·cases h
  ·cases h
 ·rename_i t a f
  split at h
  ·rename_i d j c q i l
   split at h
   ·cases h
   ·rename_i p
    split at h
    ·rename_i g
     cases h
     simp only[Ae,pK,i,kW,l,a0e p,e d j g,a1s];exact rfl
    ·cases h
  ·cases h
 ·rename_i a
  split at h
  ·rename_i d j c i
   split at h
   ·rename_i g
    cases h
    simp only[Ae,pK,i,mv,e d j g,a1s];exact rfl
   ·cases h
  ·cases h
 ·cases h
def Av {x:SV} (h:Ag o ρ=some x):(Ae C o ρ ow).can λs=>s=x:=by
 unfold Ag at h;split at h
 ·cases h;exact rfl
 ·cases h;exact rfl
 ·rename_i t i
  split at h
  ·rename_i l a
   simp only[Ae,pK,a,h];exact rfl
  ·cases h
 ·cases h
def s5:(l:List (Option OB))-> {j:Nat}-> {x:OB}->(n5 l)[j]?=some (some x)->l[j]?=some (some x)
 |[],_,_,h=>by cases h
 |o::r,j,x,h=>by
  unfold n5 at h;split at h
  ·simp at h
  ·cases j with
   |zero=>simpa using h
   |succ j=>exact s5 r (by simpa using h)
def DJ {a:List SV} (h:cy (yX ow) d j=some (.box a)):∃b,cy ow d j=some (.box b)/\a=b.map RQ:=by
 unfold cy yX at h;unfold cy;simp only[a5b]at h
 cases h1:ow[d]? with
 |none=>rw[h1]at h;cases h
 |some l=>
  rw[h1]at h;simp only[a1t]at h⊢;have e:(n5 (l.map Q8))[j]?=some (some (.box a)):=by
   split at h
   ·rename_i o f;rw[f,h]
   ·cases h
  have c:=s5 _ e;rw[a5b]at c
  cases h2:l[j]? with
  |none=>rw[h2]at c;cases c
  |some o=>
   rw[h2]at c;simp only[a1t,a0i]at c⊢;unfold Q8 at c;split at c
   ·rename_i b
    cases c
    exact⟨b,rfl,rfl⟩
   ·cases c
def DK (h:iK (yX ow) d j=true):iK ow d j=true:=by
 obtain⟨a,b⟩:=s4 h;obtain⟨c,b,_⟩:=DJ b;simp[iK,b]
def wU (h:fM C.P o ρ (yX ow)=some s) (l:LF s=true):fM C.P o ρ ow=some s:=by
 unfold fM at h⊢;split at h
 ·rename_i t a
  split at h
  ·rename_i d j c m
   split at h
   ·rename_i e n
    obtain⟨b,g,rfl⟩:=DJ n;rw[g];simp only;unfold dA at h⊢;split at h
    ·cases h
    ·split at h
     ·split at h
      ·cases h;cases l
      ·cases h
     ·rename_i i
      rw[a0e i];rw[<-List.map_drop]at h
      cases hd:b.drop c with
      |nil=>rw[hd]at h;cases h
      |cons x r=>
       rw[hd]at h;simp only[a2f,a0i]at h;subst h
       cases x<;>first|rfl|(simp[RQ,LF]at l)
   ·cases h
  ·cases h
 ·rename_i t a f
  split at h
  ·rename_i d j c u m p
   split at h
   ·cases h
   ·rename_i q
    rw[a0e q];split at h
    ·rename_i k
     rw[a0b (DK k)];exact h
    ·cases h
  ·cases h
 ·rename_i a
  split at h
  ·rename_i d j c m
   split at h
   ·rename_i k
    rw[a0b (DK k)];exact h
   ·cases h
  ·cases h
 ·cases h
def Aw {a:List SV} (h:cy (n7 ow) d j=some (.box a)):(∃c,cy ow d j=some (.box c))/\a=[]:=by
 unfold cy n7 at h;unfold cy;simp only[a5b]at h
 cases h1:ow[d]? with
 |none=>rw[h1]at h;cases h
 |some l=>
  rw[h1]at h;simp only[a1t]at h⊢;have e:(n5 (l.map LD))[j]?=some (some (.box a)):=by
   split at h
   ·rename_i o f;rw[f,h]
   ·cases h
  have b:=s5 _ e;rw[a5b]at b
  cases h2:l[j]? with
  |none=>rw[h2]at b;cases b
  |some o=>
   rw[h2]at b;simp only[a1t,a0i]at b⊢;unfold LD at b;split at b
   ·cases b
    exact⟨⟨_,rfl⟩,rfl⟩
   ·cases b
def Ax (h:iK (n7 ow) d j=true):iK ow d j=true:=by
 obtain⟨a,b⟩:=s4 h;obtain⟨⟨c,b⟩,_⟩:=Aw b;simp[iK,b]
def uz (h:fM C.P o ρ (n7 ow)=some s):fM C.P o ρ ow=some s:=by
 unfold fM at h⊢;split at h
 ·rename_i t a
  split at h
  ·rename_i d j c g
   split at h
   ·rename_i b i
    obtain⟨_,rfl⟩:=Aw i;unfold dA at h;split at h
    ·cases h
    ·split at h
     ·split at h
      ·rename_i k;simp at k;omega
      ·cases h
     ·simp at h
   ·cases h
  ·cases h
 ·rename_i t a f
  split at h
  ·rename_i d j c n g l
   split at h
   ·cases h
   ·rename_i m
    rw[a0e m];split at h
    ·rename_i e
     rw[a0b (Ax e)];exact h
    ·cases h
  ·cases h
 ·rename_i a
  split at h
  ·rename_i d j c g
   split at h
   ·rename_i e
    rw[a0b (Ax e)];exact h
   ·cases h
  ·cases h
 ·cases h
def iW {b:OB} (h:cy (aN K 0 ow) d j=some b):cy ow d j=some b:=by
 have a:=aA h
 cases hd:K.contains d with
 |true=>rw[fY hd]at a;rw[lQ,a];rfl
 |false=>rcases gS (ow:=ow) hd j with e|e<;>rw[e]at a<;>cases a
def DL (h:∀x∈o.operands,ρ x=ρ' x):Ah C o ρ=Ah C o ρ':=by
 unfold Ah;split
 ·rename_i f args a
  rw[h f (by simp[Op.operands,Call.operands])]
 ·rfl
def DM (h:∀x∈o.operands,ρ x=ρ' x):tS C o ρ ow d=tS C o ρ' ow d:=by
 unfold tS;split
 ·rename_i f args a
  have b:ρ f=ρ' f:=h f (by simp[Op.operands,Call.operands]);have c:args.toList.map ρ=args.toList.map ρ':=a3h λx e=>h x (by simp only[Op.operands,Call.operands,a5j];exact .inr (by simpa using e))
  rw[b,c]
 ·rfl
def DN (h:∀x∈o.operands,ρ x=ρ' x):Ag o ρ=Ag o ρ':=by
 unfold Ag;split
 ·rw[h _ (by simp[Op.operands])]
 ·rw[h _ (by simp[Op.operands])]
 ·rw[h _ (by simp[Op.operands])]
 ·rfl
def IS: {a b:SV}->RJ a b=true->a=b
 | .wh _ _ _ _,.wh _ _ _ _,h=>by simp only[RJ,a0c,a3f]at h;obtain⟨⟨⟨rfl,rfl⟩,rfl⟩,rfl⟩:=h;rfl
 | .bp _ _ _,.bp _ _ _,h=>by simp only[RJ,a0c,a3f]at h;obtain⟨⟨rfl,rfl⟩,rfl⟩:=h;rfl
 | .dead,.dead,_=>rfl
def Ay: {a b:List SV}->RK a b=true->a=b
 |[],[],_=>rfl
 |_::_,_::_,h=>by simp only[RK,a0c]at h;rw[IS h.1,Ay h.2]
def IT: {a b:Option OB}->Sl a b=true->a=b
 |some (.box _),some (.box _),h=>by rw[Ay h]
 |none,none,_=>rfl
def wV: {a b:List (Option OB)}->Oq a b=true->a=b
 |[],[],_=>rfl
 |_::_,_::_,h=>by simp only[Oq,a0c]at h;rw[IT h.1,wV h.2]
def DO (a:qm q=true) (b:q.2=false) (e:yX ow=yX ow') (h:∀x∈o.operands,ρ x=ρ' x):qn C c o q ρ ow d=qn C c' o q ρ' ow' d:=by
 unfold qn;rw[b,a,e,gL h];rfl
def Az (a:qm q=false) (b:vz q=true) (e:q.2=false) (f:n7 ow=n7 ow') (h:∀x∈o.operands,ρ x=ρ' x):qn C c o q ρ ow d=qn C c' o q ρ' ow' d:=by
 unfold qn;rw[e,a,b,f,gL h (ow:=n7 ow')];rfl
def pj (a:c=c') (h:∀x∈o.operands,ρ x=ρ' x):qn C c o q ρ ow d=qn C c' o q ρ' ow d:=by
 unfold qn;rw[a,Au h,gL h (ow:=ow),gL h (ow:=yX ow),gL h (ow:=n7 ow),DL h,DM h,DN h]
def FX (h:Ah C o ρ=true):LG o=true:=by
 unfold Ah at h;split at h
 ·rfl
 ·cases h
def Cd (h:(qn C c o q ρ ow d).outB b=some (s,r)):∀z,r=some z->z.1=Q5 d o q/\Dh q.1 z.2=true:=by
 intro z a;unfold qn at h;split at h
 ·rename_i i
  obtain⟨x,j,_,e⟩:=bc.outB_bind _ h;split at e
  ·rename_i f
   simp only[bc.outB,a0i,a0x]at e;simp only[a0c]at f;rw[<-e.2]at a
   cases a
   exact⟨by unfold Q5;rw[a0b i],f.1.1.1⟩
  ·cases e
 ·rename_i i
  split at h
  ·split at h
   ·split at h
    ·simp only[bc.outB,a0i,a0x]at h
     rw[<-h.2]at a;cases a
    ·cases h
   ·cases h
  split at h
  ·split at h
   ·simp only[bc.outB,a0i,a0x]at h
    rw[<-h.2]at a;cases a
   ·cases h
  split at h
  ·simp only[bc.outB,a0i,a0x]at h
   rw[<-h.2]at a;cases a
  ·split at h
   ·simp only[bc.outB,a0i,a0x]at h
    rw[<-h.2]at a;cases a
   ·split at h
    ·rename_i g
     obtain⟨x,j,_,e⟩:=bc.outB_bind _ h;split at e
     ·rename_i f
      simp only[bc.outB,a0i,a0x]at e;simp only[a0c]at f;rw[<-e.2]at a
      cases a
      exact⟨by unfold Q5;rw[a0e i,a0b (FX g)],f.1.1⟩
     ·cases e
    ·obtain⟨x,j,_,e⟩:=bc.outB_bind _ h
     split at e
     ·simp only[bc.outB,a0i,a0x]at e
      rw[<-e.2]at a;cases a
     ·cases e
def L0 (h:(qn C c o q ρ ow d).outB b=some (s,r)) (f:q.2=true) (g:wa q=true):∃z,r=some (q.1,z)/\BT q.1 d ow z=true:=by
 unfold qn at h;rw[a0b f]at h;obtain⟨x,i,_,e⟩:=bc.outB_bind _ h;split at e
 ·rename_i a
  simp only[bc.outB,a0i,a0x]at e;simp only[a0c,g,a0t,a6j]at a;exact⟨x.2,e.2.symm,a.1.2⟩
 ·cases e
def IU (h:(qn C c o q ρ ow d).outB b=some (s,r)) (f:q.2=true) (g:rj q=true):∃z,r=some (q.1,z)/\vw q.1 d ow z=true:=by
 unfold qn at h;rw[a0b f]at h;obtain⟨x,i,_,e⟩:=bc.outB_bind _ h;split at e
 ·rename_i a
  simp only[bc.outB,a0i,a0x]at e;simp only[a0c,g,a0t,a6j]at a;exact⟨x.2,e.2.symm,a.2⟩
 ·cases e
def wW (e:Option OB->Option OB) {b:List Nat} {z:OW} (f:v8 e b d (aN b 0 ow) z=true) (g:K.contains d=false):((aN K 0 (b8 b 0 ow z)).map λl=>n5 (l.map e))=(aN K 0 ow).map λl=>n5 (l.map e):=by
 apply a2e;intro n;simp only[a5b];rw[dV,dV,dJ]
 cases ho:ow[n]? with
 |none=>rfl
 |some x=>
  simp only[a1t,a1l,a0i]
  cases hk:K.contains n with
  |false=>rfl
  |true=>
   cases hx:b.contains n with
   |false=>rfl
   |true=>
    have c:n≠d:=λe=>by rw[e,g]at hk;cases hk
    have a:=a1g.1 f n (by simpa using hx);have h:(n==d)=false:=by simpa using c
    rw[h,a6j,dV,ho]at a;simp only[a1t,a1l,hx,a1s]at a
    cases hz:z[n]? with
    |none=>rw[hz]at a;cases a
    |some y=>
     rw[hz]at a;simp only[a1s,a2r];exact(wV a).symm
def FY (a:cY ow=true) (b:∀z,r=some z->cY z.2=true):cY (my ow r)=true:=by
 cases r with
 |none=>exact a
 |some z=>exact DG a (b z rfl)
def Ce (E:Oper->(Operand->SV)->OW->bc (SV×OW)):Prop:=∀(o:Oper) (ρ a:Operand->SV) (ow:OW),(∀x∈o.op.operands,ρ x=a x)->E o ρ ow=E o a ow
def kx {i:Nat} {st a:St} (h:ir C E dk B ops ks i st=some a):∃o,ops[i]?=some o/\
 ((dC ops o st.sl=some false/\a=⟨bm st.sl o.dst (.tup []),st.ow⟩)\/
 (dC ops o st.sl=some true/\∃q s r,ks[i]?=some q/\cY st.ow=true/\(qn C (E o (iL st.sl) (aN q.1 0 st.ow)) o.op q (iL st.sl) (aN q.1 0 st.ow) (dk o)).outB (B i)=some (s,r)/\a=⟨bm st.sl o.dst (dB (d9 ops i) s),my st.ow r⟩)):=by
 unfold ir at h
 cases ho:ops[i]? with
 |none=>rw[ho]at h;cases h
 |some o=>
  rw[ho]at h;refine⟨o,rfl,?_⟩;simp only at h
  cases hw:dC ops o st.sl with
  |none=>
   rw[hw]at h;simp only at h
   cases hk:ks[i]? with
   |none=>rw[hk]at h;cases h
   |some q=>rw[hk]at h;simp[OD,hw]at h
  |some b=>
   cases b with
   |false=>
    rw[hw]at h;simp only[a0i]at h;exact .inl ⟨rfl,h.symm⟩
   |true=>
    rw[hw]at h;simp only at h
    cases hk:ks[i]? with
    |none=>rw[hk]at h;cases h
    |some q=>
     rw[hk]at h;simp only[OD,hw,a2l]at h;obtain⟨x,c,rfl⟩:=h;split at c
     ·rename_i d
      rw[a2l]at c;obtain⟨⟨s,r⟩,e,rfl⟩:=c;exact .inr ⟨rfl,q,s,r,rfl,d,e,rfl⟩
     ·cases c
def eC {i:Nat} {st:St} {o:Oper} (b:ops[i]?=some o):
 (dC ops o st.sl=some false->ir C E dk B ops ks i st=some ⟨bm st.sl o.dst (.tup []),st.ow⟩)/\
 (dC ops o st.sl=some true->∀q s r,ks[i]?=some q->cY st.ow=true->(qn C (E o (iL st.sl) (aN q.1 0 st.ow)) o.op q (iL st.sl) (aN q.1 0 st.ow) (dk o)).outB (B i)=some (s,r)->ir C E dk B ops ks i st=some ⟨bm st.sl o.dst (dB (d9 ops i) s),my st.ow r⟩):=by
 refine⟨λa=>by simp[ir,b,a],λa q s r c d e=>by simp[ir,b,a,c,OD,d,e]⟩
def wX (V:Ce E) (i j:Nat) (s s1 s2:St) (X:qo dk ops ks i j=true) (h1:ir C E dk B ops ks i s=some s1) (Y:ir C E dk B ops ks j s1=some s2):∃S,ir C E dk B ops ks j s=some S/\ir C E dk B ops ks i S=some s2:=by
 obtain⟨x,hi,h1⟩:=kx h1;obtain⟨y,O,Y⟩:=kx Y;unfold qo ie at X;rw[hi,O]at X;simp only[a0c]at X;obtain⟨I,p⟩:=X;unfold Fx at I;simp only[a0c]at I;obtain⟨a1,a2⟩:=I;have k1:∀d,x.dst=some d->d∉km ops y/\y.dst≠some d:=by
  intro d f;rw[f]at a1;simpa using a1
 have k2:∀d,y.dst=some d->d∉km ops x:=by
  intro d f;rw[f]at a2;simpa using a2
 have t:∀(q:List SV) (u:SV),∀d∈km ops y,(bm q x.dst u)[d]?=q[d]?:=λq u d f=>lT λe=>(k1 d e).1 f
 have w:∀(q:List SV) (u:SV),∀d∈km ops x,(bm q y.dst u)[d]?=q[d]?:=λq u d f=>lT λe=>k2 d e f
 have l:∀(q:List SV) (u v:SV),bm (bm q x.dst u) y.dst v=bm (bm q y.dst v) x.dst u:=λq u v=>wS λd f=>(k1 d f).2
 rcases h1 with⟨w1,rfl⟩|⟨w1,H,A,J,e1,K,P,rfl⟩
 ·rcases Y with⟨L,rfl⟩|⟨L,F,D,m,Z,T,Q,rfl⟩
  ·have g:dC ops y s.sl=some false:=by rw[<-fe (t s.sl (.tup []))];exact L
   refine⟨_,(eC O).1 g,?_⟩;have k:dC ops x (bm s.sl y.dst (.tup []))=some false:=by rw[fe (w s.sl (.tup []))];exact w1
   rw[(eC hi).1 k];simp only[l]
  ·have g:dC ops y s.sl=some true:=by rw[<-fe (t s.sl (.tup []))];exact L
   have G:(qn C (E y (iL s.sl) (aN F.1 0 s.ow)) y.op F (iL s.sl) (aN F.1 0 s.ow) (dk y)).outB (B j)=some (D,m):=by rw[<-pj (V _ _ _ _ (ek (t s.sl (.tup [])))) (ek (t s.sl (.tup [])))];exact Q
   refine⟨_,(eC O).2 g F D m Z T G,?_⟩;have k:dC ops x (bm s.sl y.dst (dB (d9 ops j) D))=some false:=by rw[fe (w s.sl _)];exact w1
   rw[(eC hi).1 k];simp only[l]
 ·rcases Y with⟨L,rfl⟩|⟨L,F,D,m,Z,T,Q,rfl⟩
  ·have g:dC ops y s.sl=some false:=by rw[<-fe (t s.sl (dB (d9 ops i) A))];exact L
   refine⟨_,(eC O).1 g,?_⟩;have k:dC ops x (bm s.sl y.dst (.tup []))=some true:=by rw[fe (w s.sl (.tup []))];exact w1
   have M:(qn C (E x (iL (bm s.sl y.dst (.tup []))) (aN H.1 0 s.ow)) x.op H (iL (bm s.sl y.dst (.tup []))) (aN H.1 0 s.ow) (dk x)).outB (B i)=some (A,J):=by rw[pj (V _ _ _ _ (ek (w s.sl (.tup [])))) (ek (w s.sl (.tup [])))];exact P
   have N:=(eC (C:=C) (E:=E) (dk:=dk) (ks:=ks) (st:=⟨bm s.sl y.dst (.tup []),s.ow⟩) hi).2 k H A J e1 K M;refine N.trans ?_
   simp only[l]
  ·rw[e1,Z]at p
   simp only[hi,O,a0c]at p;have p1:=Cd P;have p2:=Cd Q;have dj:∀ {a b:List Nat},LH a b=true->∀d,a.contains d=true->b.contains d=false:=λ {a b} h d f=>by
    have:=a1g.1 h d (by simpa using f);simpa using this
   have clear:∀ {b:Option (Nat->Bool)} {d:Nat} {o:Op} {c:bc (SV×OW)} {R n:List Nat×Bool} {ρ:Operand->SV} {v:SV} {r:Option (List Nat×OW)} (W:OW),aN R.1 0 W=aN R.1 0 s.ow->BU d o R n=true->(qn C c o R ρ (aN R.1 0 s.ow) d).outB b=some (v,r)->aN n.1 0 (my W r)=aN n.1 0 W\/(qm n=true/\n.2=false/\yX (aN n.1 0 (my W r))=yX (aN n.1 0 W))\/(qm n=false/\vz n=true/\n.2=false/\n7 (aN n.1 0 (my W r))=n7 (aN n.1 0 W)):=by
    intro b d o c R n ρ v r W hW hc ho;have pa:=Cd ho;unfold BU at hc;rw[a4z,a4z]at hc;rcases hc with(hc|hc)|hc
    ·left
     cases r with
     |none=>rfl
     |some z=>exact FT (λd f=>dj hc d (by rw[<-(pa z rfl).1];exact f)) _ _
    ·right
     simp only[a0c,a2b]at hc;obtain⟨⟨⟨⟨c1,c2⟩,c3⟩,c4⟩,c5⟩:=hc;obtain⟨z,rfl,U⟩:=L0 ho c1 c2;rw[<-hW]at U;exact .inl ⟨c3,c4,wW Q8 U c5⟩
    ·right
     simp only[a0c,a2b]at hc;obtain⟨⟨⟨⟨⟨c1,c2⟩,c0⟩,c3⟩,c4⟩,c5⟩:=hc;obtain⟨z,rfl,U⟩:=IU ho c1 c2;rw[<-hW]at U;exact .inr ⟨c0,c3,c4,wW LD U c5⟩
   have S0:my (my s.ow J) m=my (my s.ow m) J:=by
    cases J with
    |none=>cases m<;>rfl
    |some z1=>
     cases m with
     |none=>rfl
     |some z2=>exact FU (λd f=>by rw[(p2 z2 rfl).1];exact dj p.2 d (by rw[<-(p1 z1 rfl).1];exact f)) _ _ _
   have S1:∀z,m=some z->cY z.2=true:=λz hz=>by
    have:=(p2 z hz).2;simp only[Dh,a0c]at this;exact this.2
   have g:dC ops y s.sl=some true:=by rw[<-fe (t s.sl (dB (d9 ops i) A))];exact L
   have G:(qn C (E y (iL s.sl) (aN F.1 0 s.ow)) y.op F (iL s.sl) (aN F.1 0 s.ow) (dk y)).outB (B j)=some (D,m):=by
    rcases clear s.ow rfl p.1.1 P with hm2|⟨hw,hq,hm2⟩|⟨h0,hw,hq,hm2⟩
    ·rw[<-pj (V _ _ _ _ (ek (t s.sl (dB (d9 ops i) A)))) (ek (t s.sl (dB (d9 ops i) A))),<-hm2];exact Q
    ·rw[<-Q];exact a1x (λc=>bc.outB c (B j)) (DO hw hq hm2.symm (λx hx=>(ek (t s.sl (dB (d9 ops i) A)) x hx).symm))
    ·rw[<-Q];exact a1x (λc=>bc.outB c (B j)) (Az h0 hw hq hm2.symm (λx hx=>(ek (t s.sl (dB (d9 ops i) A)) x hx).symm))
   refine⟨_,(eC O).2 g F D m Z K G,?_⟩;have k:dC ops x (bm s.sl y.dst (dB (d9 ops j) D))=some true:=by rw[fe (w s.sl _)];exact w1
   have M:(qn C (E x (iL (bm s.sl y.dst (dB (d9 ops j) D))) (aN H.1 0 (my s.ow m))) x.op H (iL (bm s.sl y.dst (dB (d9 ops j) D))) (aN H.1 0 (my s.ow m)) (dk x)).outB (B i)=some (A,J):=by
    rcases clear s.ow rfl p.1.2 G with hm1|⟨hw,hq,hm1⟩|⟨h0,hw,hq,hm1⟩
    ·rw[pj (V _ _ _ _ (ek (w s.sl _))) (ek (w s.sl _)),hm1];exact P
    ·rw[<-P];exact a1x (λc=>bc.outB c (B i)) (DO hw hq hm1 (ek (w s.sl _)))
    ·rw[<-P];exact a1x (λc=>bc.outB c (B i)) (Az h0 hw hq hm1 (ek (w s.sl _)))
   have N:=(eC (C:=C) (E:=E) (dk:=dk) (ks:=ks) (st:=⟨bm s.sl y.dst (dB (d9 ops j) D),my s.ow m⟩) hi).2 k H A J e1 (FY K S1) M;refine N.trans ?_
   simp only[l,S0]
def DP (d:Ce E) (B:Nat->Nat->Bool) (i j:Nat) (s b c:St) (e:qo dk ops ks i j=true) (f:ir C E dk (λ_=>some (B i)) ops ks i s=some b) (g:ir C E dk (λ_=>some (B j)) ops ks j b=some c):∃a,ir C E dk (λ_=>some (B j)) ops ks j s=some a/\ir C E dk (λ_=>some (B i)) ops ks i a=some c:=wX (B:=λn=>some (B n)) d i j s b c e f g
def mM {b:Option (Nat->Bool)} {args:List SV} {ow:OW} {d:Nat} {x:SV×OW}:(a:List jW)->(mw args ow d a).outB b=some x->∃c,cg ow d c=some x.2
 |[],h=>by cases h
 |sg::r,h=>by
  unfold mw at h;split at h
  ·split at h
   ·simp only[bc.outB,a1y]at h
    obtain⟨y,_,h⟩:=h;split at h
    ·rename_i ow' e
     simp only[bc.outB,a0i]at h;rw[<-h];exact⟨_,e⟩
    ·cases h
   ·exact mM r h
  ·exact mM r h
def wY {x:SV×OW} (h:(tS C o ρ ow d).outB b=some x):∃a,cg ow d a=some x.2:=by
 unfold tS at h;split at h
 ·split at h
  ·exact mM _ h
  ·cases h
 ·cases h
def AA {b:List OB} {z:OW} (h:cg (aN K 0 ow) d b=some z) (c:K.contains d=true):b8 [d] 0 ow z=b8 K 0 ow z:=by
 have f:∀n,n≠d->z[n]?=(aN K 0 ow)[n]?:=by
  intro n a;unfold cg at h;split at h
  ·rw[<-a1f h]
  ·split at h
   ·rw[<-a1f h,a3b (λe=>a e.symm)]
   ·cases h
 apply a2e;intro n;rw[dJ,dJ]
 cases ho:ow[n]? with
 |none=>rfl
 |some x=>
  simp only[a1t,a0i,a1l];by_cases a:n=d
  ·subst a
   have g:([n]:List Nat).contains n=true:=by simp
   rw[g,c]
  ·have i:([d]:List Nat).contains n=false:=by simp[a]
   rw[i]
   cases hk:K.contains n with
   |false=>rfl
   |true=>
    rw[f n a,dV,ho];simp only[a1t,a1l,hk,a1s,a2r];rfl
def Lh (C:gw) (o:Oper) (ρ:Operand->SV) (ow:OW):bc (SV×OW):=tT C o.op ρ ow (o.dst.getD 0)
def IV (C:gw):Ce (Lh C):=λo ρ a ow h=>DI h
def Rc (C:gw) (a:Option Nat->Nat) (o:Oper) (ρ:Operand->SV) (ow:OW):bc (SV×OW):=yW C o.op ρ ow (a o.dst)
def IW (C:gw) (a:Option Nat->Nat):Ce (Rc C a):=λo ρ b ow h=>qA h
def qB {α:Type} {C:gw} {a:Array Oper} {ks:List (List Nat×Bool)} {k:St->Option α} {r:α} (B:Nat->Nat->Bool):(l:List (Oper×Nat))->(∀p∈l,a[p.2]?=some p.1)-> {st:St}->sP C a ks l st k=some r->∃c,kR (ir C (Lh C) rm (λi=>some (B i)) a ks) (l.map (·.2)) st=some c/\k c=some r
 |[],_,st,h=>⟨st,rfl,h⟩
 |(o,i)::l,hl,st,h=>by
  have f:=hl (o,i) (by simp);simp only at f;have d:∀p∈l,a[p.2]?=some p.1:=λp n=>hl p (by simp[n])
  unfold sP at h;simp only[a2f,kR];split at h
  ·cases h
  ·rename_i g
   obtain⟨b,j,e⟩:=qB B l d h;rw[(eC (E:=Lh C) (dk:=rm) (B:=λi=>some (B i)) f).1 g];exact⟨b,j,e⟩
  ·rename_i g
   split at h
   ·rename_i q t
    split at h
    ·rename_i m
     obtain⟨s,j,e⟩:=bc.run_outB _ h (B i);rw[rI]at e;obtain⟨b,u,v⟩:=qB B l d e;rw[(eC (E:=Lh C) (dk:=rm) (B:=λi=>some (B i)) f).2 g q s.1 s.2 t m j];exact⟨b,u,v⟩
    ·cases h
   ·cases h
