/-
  What a line adds is right.
-/
import Derived.Test.YtjjmipjhddlncaaGreatDoorA06
import Derived.Test.YtjjmipjhddlncaaGreatDoorA05
import Derived.Lib.Join
set_option linter.all false
noncomputable section
open Go.IntKind (wrap)
namespace Go.Pev.F
variable {d:aw} {n:aU} {e:bh} {s:aT} {k i:Nat} {t:List bD} {leaf x al lo hi v:Int} {α:Type} {a:bA} {l:List aG} {c:Bool} {b:Ex}
def yz {n:Nat} (h:u2 n v=true):0<=v/\v<(n:Int):=by
 have:=a0z h;omega
def Is (h:hZ lo hi=true): -999999999999999999<=lo/\lo<=hi/\hi<=999999999999999999:=by
 simp only[hZ,a0c,a0q]at h;omega
def PU (h:bz d n=true) (a:n.1=1):(0<=n.2.1/\n.2.1<(d.1.length:Int))/\bI d n.2.2.2.1=1:=by
 unfold bz at h;rw[a0b a]at h;simp only[a0c,a3f]at h;exact⟨yz h.1,h.2.2.1⟩
def PV (h:bz d n=true) (a:n.1=2):(0<=n.2.1/\n.2.1<(d.2.1.length:Int))/\bI d n.2.2.2.1=2:=by
 unfold bz at h;rw[ifNegQ,a0b a]at h;simp only[a0c,a3f]at h;exact⟨yz h.1,h.2.2.1⟩
def Nz (h:bz d n=true) (a:n.1=3):(0<=n.2.1/\n.2.1<(d.2.2.1.length:Int))/\bI d n.2.2.1=1/\bI d n.2.2.2.1=1:=by
 unfold bz at h;rw[ifNegQ,ifNegQ,a0b a]at h;simp only[a0c,a3f]at h;exact⟨yz h.1,h.2.1,h.2.2.1⟩
def PW (h:bz d n=true) (a:n.1=4):(0<=n.2.1/\n.2.1<(d.1.length:Int))/\ -999999999999999999<=n.2.2.2.2.1/\n.2.2.2.2.1<=n.2.2.2.2.2.1/\n.2.2.2.2.2.1<=999999999999999999:=by
 unfold bz at h;rw[ifNegQ,ifNegQ,ifNegQ,a0b a]at h;simp only[a0c,a3f]at h;exact⟨yz h.1,Is h.2.2.2⟩
def yA (h:bz d n=true) (a:n.1=13):(0<=n.2.1/\n.2.1<(d.1.length:Int))/\ -999999999999999999<=n.2.2.2.2.1/\n.2.2.2.2.1<=n.2.2.2.2.2.1/\n.2.2.2.2.2.1<=999999999999999999/\n.2.2.2.2.2.1<=n.2.2.2.2.1+3:=by
 unfold bz at h;rw[ifNegQ,ifNegQ,ifNegQ,ifNegQ,a0b a]at h;simp only[a0c,a3f,a0q]at h;have:=Is h.2.2.2.1;exact⟨yz h.1,this.1,this.2.1,this.2.2,h.2.2.2.2⟩
def EU (h:bz d n=true) (b:n.1=5\/n.1=6\/n.1=9\/n.1=10\/n.1=11\/n.1=12:=by omega):bI d n.2.2.2.1=2:=by
 unfold bz at h;rw[ifNegQ,ifNegQ,ifNegQ,ifNegQ,ifNegQ]at h;by_cases a:n.1=10
 ·rw[a0b a]at h
  simp only[a0c,a3f]at h;exact h.2.2.1
 ·rw[a0e a,ifPosQ]at h
  simp only[a0c,a3f]at h;exact h.2.2.1
def Bo (h:bz d n=true):1<=n.1/\n.1<=14:=by
 unfold bz at h;by_cases a:1<=n.1/\n.1<=14
 ·exact a
 ·rw[ifNegQ,ifNegQ,ifNegQ,ifNegQ,ifNegQ,ifNegQ,ifNegQ,ifNegQ]at h
  cases h
def jd (h:c=true->bi d e):bi d (cond c e bC):=by
 cases c
 ·exact dR d
 ·exact h rfl
def gu (c:bi d e) (b:e.1=true) (v:Int) (f:bw a) (g:bj a=true):bi d (bS e v a):=by
 obtain⟨h,i,j⟩:=bK c b;exact M7 ⟨b,h,i,j⟩ v f g
def Bp (h:bz d n=true) (j:n.1=13) (a:bi d e) (b:e.1=true):bi d (Bi n e):=by
 obtain⟨f,hi,l⟩:=bK a b;obtain⟨⟨m,o⟩,p,q,r,s⟩:=yA h j;have g:n.2.1.toNat<e.2.1.length:=by rw[f.ints];omega
 have k:e.2.1.getD n.2.1.toNat fS∈e.2.1:=by rw[ay g];exact a0l g
 have i:=f.fi _ k;unfold Bi;refine tC (jd λc=>gu a b _ ?_ ?_) (jd λc=>gu a b _ ?_ ?_)
 ·exact lY i ⟨by unfold ar;simp only;omega,by unfold ar;simp only;omega⟩
 ·exact se c
 ·exact lY i ⟨by unfold ar;simp only;omega,by unfold ar;simp only;omega⟩
 ·exact se c
def yB (h:bz d n=true) (f:n.1=13) (c:Int) (b:d5 d leaf) (g:bi d e) (j:e.1=true):∀a∈kc n c t leaf e,yn d a:=by
 obtain⟨⟨l,m⟩,o,p,q,r⟩:=yA h f;intro a ha;unfold kc at ha;rcases a0k.1 ha with ha|ha
 ·obtain⟨i,hi,rfl⟩:=a2y.1 ha
  have k:=a2i.1 hi;refine⟨nf _ _ _,b,jd λs=>gu g j _ ?_ ?_⟩
  ·exact⟨by unfold ar;simp only;omega,by unfold ar;simp only;omega⟩
  ·exact a0f (a1d _)
 ·rw[a0v.1 ha]
  exact⟨nf _ _ _,b,Bp h f g j⟩
def Bq (n:aU) (a:Int) (b:bq t=true):bq (lD n a t)=true:=by
 unfold lD;split
 ·exact nf _ _ _
 split
 ·exact nf _ _ _
 ·exact b
def EV (n:aU) (a:Int) (b:bq t=true):bq (qh n a t)=true:=by
 unfold qh;split
 ·exact nf _ _ _
 ·exact b
def q7 (v:aY d=true) (h:bz d n=true) (g:Int) (i:bq t=true) (b:d5 d leaf) (c:bi d e) (j:e.1=true):∀a∈de d n g t leaf e,yn d a:=by
 obtain⟨s,hi,E⟩:=bK c j;have u:=ng c j;unfold de;split
 ·rename_i w
  obtain⟨k,l⟩:=PU h w;obtain⟨f,m,o,p⟩:=dx (show bI d n.2.2.2.1≠0 by omega);intro a ha;rw[a0v.1 ha];exact⟨i,b,jd λq=>gu c j _ (cO s leaf f).1 ((gc u leaf f).1 q)⟩
 split
 ·rename_i x
  obtain⟨k,l⟩:=PV h x;obtain⟨f,m,o,p⟩:=dx (show bI d n.2.2.2.1≠0 by omega);obtain⟨l1,l2⟩:=Bj v k b;intro a ha;simp only[a1e,a3y,a4r]at ha;rcases ha with ha|ha
  ·rw[ha];exact⟨i,l1,eO leaf f true c⟩
  ·rw[ha];exact⟨i,l2,eO leaf f false c⟩
 split
 ·rename_i y
  obtain⟨k,z,l⟩:=Nz h y;obtain⟨f,m,o,p⟩:=dx (show bI d n.2.2.2.1≠0 by omega);intro a ha;rw[a0v.1 ha];refine⟨i,b,jd λq=> ?_⟩;simp only[a0c]at q;exact KN c j (cO s leaf f).1 ((gc u leaf f).1 q.2)
 split
 ·rename_i A
  obtain⟨k,F,B,G⟩:=PW h A;intro a ha;rw[a0v.1 ha];exact⟨i,b,gu c j _ ⟨by unfold ar;simp only;omega,by unfold ar;simp only;omega⟩ (a0f B)⟩
 split
 ·rename_i r
  exact yB h r g b c j
 split
 ·intro a ha
  rw[a0v.1 ha];exact⟨rfl,b,c⟩
 split
 ·rename_i C
  have l:=EU h;obtain⟨f,m,o,p⟩:=dx (show bI d n.2.2.2.1≠0 by omega);intro a ha;rw[a0v.1 ha];exact⟨i,b,eO leaf f true c⟩
 split
 ·intro a ha
  rw[a0v.1 ha];exact⟨i,b,c⟩
 ·rename_i a1 H I J K L M N
  have D:=Bo h;have l:=EU h;obtain⟨f,m,o,p⟩:=dx (show bI d n.2.2.2.1≠0 by omega);intro a ha;simp only[a1e,a3y,a4r]at ha;rcases ha with ha|ha
  ·rw[ha];exact⟨Bq n g i,b,eO leaf f true c⟩
  ·rw[ha];exact⟨EV n g i,b,eO leaf f false c⟩
def K0 (h:bz d n=true) (g:Int) (t:List bD) (leaf:Int) (e:bh):(de d n g t leaf e).length<=5:=by
 have c:∀a:mg,([a]:List mg).length<=5:=λa=>by simp
 have f:∀a b:mg,([a,b]:List mg).length<=5:=λa b=>by simp
 unfold de;split
 ·exact c _
 split
 ·exact f _ _
 split
 ·exact c _
 split
 ·exact c _
 split
 ·rename_i i
  obtain⟨j,k,l,m,o⟩:=yA h i;simp only[kc,a0m,a2u,a6r,a0g,a0h];omega
 split
 ·exact c _
 split
 ·exact c _
 split
 ·exact c _
 ·exact f _ _
structure Sm (a b:mg):Prop where
 f:a.1=b.1
 t:a.2.1=b.2.1
 l:a.2.2.1=b.2.2.1
 e:Lr a.2.2.2 b.2.2.2
abbrev Sn:Type:=List bU×aT×List Int×Int×Unit
abbrev So:Type:=(Int×Int×Unit)×(Unit×Unit×Unit)
def It (k:Nat) (h:Sn->Option So) (l:List bU) (s:aT) (p:List Int) (i:Nat) (hi:i<1000) (a b:Int) (n:Nat) (j:n≠2) (m:Nat) (q:m<=p.length) (r:p.length<=1000) (x c:Int):pP.h25 k h (l,(s.1,s.2.1,s.2.2.1,()),p,(i:Int),(a,b,()),(n:Int),(m:Int),x,c,())=if c=0 then h (l,(s.1,s.2.1,s.2.2.1,()),p.take m++[x],((i+1:Nat):Int),())else some ((0,c,()),((),(),())):=by
 have o:¬((n:Int)=2):=by omega
 have e:0<=(m:Int)/\(m:Int)<=(p.length:Int):=by omega
 have f:((p.take m).length+([x]:List Int).length)*8<=af:=by simp only[a1m,a0g,a0h,af];omega
 simp only[pP.h25,bP,a0e o];by_cases d:c=0
 ·have g:(c !=0)=false:=by simpa using d
  rw[g,ah,a0b d];simp only[an,a0b e,r8,a0j,a0b f];rw[aH]
 ·have g:(c !=0)=true:=by simpa using d
  rw[g,ai,a0e d]
def Pn (k:Nat) (o:Sn->Option So) (l:List bU) (s:aT) (p:List Int) (i:Nat) (hi:i<1000) (op b:Int) (m:Nat) (w:m+2<=p.length) (y:p.length<=1000) (x a:Int) (q:ar (p.getD m 0)) (c:ar (p.getD (m+1) 0)) (d:op=20->zS (p.getD m 0)/\zS (p.getD (m+1) 0)):pP.h25 k o (l,(s.1,s.2.1,s.2.2.1,()),p,(i:Int),(op,b,()),((2:Nat):Int),(m:Int),x,a,())=if(i6 op (p.getD m 0) (p.getD (m+1) 0)).2=0 then o (l,(s.1,s.2.1,s.2.2.1,()),p.take m++[(i6 op (p.getD m 0) (p.getD (m+1) 0)).1],((i+1:Nat):Int),())else some ((0,(i6 op (p.getD m 0) (p.getD (m+1) 0)).2,()),((),(),())):=by
 have r:((2:Nat):Int)=2:=rfl;have g:0<=(m:Int)/\(m:Int)<(p.length:Int):=by omega
 have t:wrap .i64 ((m:Int)+1)=((m+1:Nat):Int):=by rw[ak (by omega) (by omega)];omega
 have e:0<=((m+1:Nat):Int)/\((m+1:Nat):Int)<(p.length:Int):=by omega
 have h:0<=(m:Int)/\(m:Int)<=(p.length:Int):=by omega
 have u:p[m]?=some (p.getD m 0):=by rw[ay (by omega)];exact a0a (by omega)
 have j:p[m+1]?=some (p.getD (m+1) 0):=by rw[ay (by omega)];exact a0a (by omega)
 simp only[pP.h25,bP,r,a1s,an,a0b g,a0j,u,aa,t,a0b e,j,M0 k op q c d]
 generalize i6 op (p.getD m 0) (p.getD (m+1) 0)=v
 have n:((p.take m).length+([v.1]:List Int).length)*8<=af:=by simp only[a1m,a0g,a0h,af];omega
 by_cases f:v.2=0
 ·have c:(v.2 !=0)=false:=by simpa using f
  rw[c,ah,a0b f];simp only[a0b h,r8,a0b n];rw[aH]
 ·have c:(v.2 !=0)=true:=by simpa using f
  rw[c,ai,a0e f]
def Aa (k:Nat) (hk:4194304<k) (O:lh d s) (l:List bU) (hl:l.length<=40) (V:∀t∈l,ck d t=true):∀(n i f:Nat) (p K P:List Int),i+n=l.length->n<f->p.length<=i->oR K p->f7 K (l.drop i)=some P->P≠[]->aP (pP.l0 k) f (l,(s.1,s.2.1,s.2.2.1,()),p,(i:Int),())=some (((aV s p (l.drop i)).1,(aV s p (l.drop i)).2,()),((),(),())):=by
 intro n
 induction n with
 |zero=>
  intro i f p K P hi hf hp r e B;obtain⟨f,rfl⟩:∃g,f=g+1:=⟨f-1,by omega⟩;have W:l.drop i=[]:=a1w (by omega);rw[W]at e⊢;simp only[f7,a0i]at e;subst e;have q:0<p.length:=by rw[r.len];exact a6c.2 B
  rw[az];have X:¬((i:Int)<(l.length:Int)):=by omega
  have Y:(0:Int)<=0/\(0:Int)<(p.length:Int):=by omega
  have e0:p[(0:Int).toNat]?=some (p.getD 0 0):=by
   rw[ay q];exact a0a q
  simp only[pP.l0,an,a0e X,a0b Y,e0,aa,aV]
 |succ n ih=>
  intro i f p K P hi hf hp r e B;obtain⟨f,rfl⟩:∃g,f=g+1:=⟨f-1,by omega⟩;have C:i<l.length:=by omega
  have W:l.drop i=l[i]::l.drop (i+1):=a1b C;have J:=V _ (a0l C);have S1:=jz J;rw[W]at e⊢;simp only[f7,a1y]at e;obtain⟨K1,c,e⟩:=e;obtain⟨hn,_,_⟩:=i8 c;have q:=r.len;have hv:=CO O r J c;have m:=ih (i+1) f (p.take (p.length-nT l[i].1)++[(mU s l[i] (p.getD (p.length-nT l[i].1) 0) (p.getD (p.length-nT l[i].1+1) 0)).1]) K1 P (by omega) (by omega) (by simp;omega) (r.push c hv.1 hv.2) e B;have X:((i:Int)<(l.length:Int)):=by omega
  have Y:(0:Int)<=(i:Int):=by omega
  have ew:wrap .i64 ((p.length:Int)-((nT l[i].1:Nat):Int))=((p.length-nT l[i].1:Nat):Int):=by rw[ak (by omega) (by omega)];omega
  rw[az];simp only[pP.l0,an,a0b X,a0b Y,a0j,a0a C,aa,xT,ew,bP,CM,fL];simp only[aV];have zero:∀x,nT l[i].1=0->pT s l[i]=x->pP.h25 k (aP (pP.l0 k) f) (l,(s.1,s.2.1,s.2.2.1,()),p,(i:Int),(l[i].1,l[i].2.1,()),((nT l[i].1:Nat):Int),((p.length-nT l[i].1:Nat):Int),x,0,())=some (((if(mU s l[i] (p.getD (p.length-nT l[i].1) 0) (p.getD (p.length-nT l[i].1+1) 0)).2=0 then aV s (p.take (p.length-nT l[i].1)++[(mU s l[i] (p.getD (p.length-nT l[i].1) 0) (p.getD (p.length-nT l[i].1+1) 0)).1]) (l.drop (i+1))else(0,(mU s l[i] (p.getD (p.length-nT l[i].1) 0) (p.getD (p.length-nT l[i].1+1) 0)).2)).1,(if(mU s l[i] (p.getD (p.length-nT l[i].1) 0) (p.getD (p.length-nT l[i].1+1) 0)).2=0 then aV s (p.take (p.length-nT l[i].1)++[(mU s l[i] (p.getD (p.length-nT l[i].1) 0) (p.getD (p.length-nT l[i].1+1) 0)).1]) (l.drop (i+1))else(0,(mU s l[i] (p.getD (p.length-nT l[i].1) 0) (p.getD (p.length-nT l[i].1+1) 0)).2)).2,()),((),(),())):=by
   intro x L Z;have D:mU s l[i] (p.getD (p.length-nT l[i].1) 0) (p.getD (p.length-nT l[i].1+1) 0)=(x,0):=by unfold mU;rw[a0b L,Z]
   rw[It k _ l s p i (by omega) _ _ _ (by omega) _ (by omega) (by omega),a0b rfl];rw[D]at m⊢;simp only[a1s];exact m
  have E:∀v:Int×Int,nT l[i].1=1->lC s l[i] (p.getD (p.length-nT l[i].1) 0)=v->pP.h25 k (aP (pP.l0 k) f) (l,(s.1,s.2.1,s.2.2.1,()),p,(i:Int),(l[i].1,l[i].2.1,()),((nT l[i].1:Nat):Int),((p.length-nT l[i].1:Nat):Int),v.1,v.2,())=some (((if(mU s l[i] (p.getD (p.length-nT l[i].1) 0) (p.getD (p.length-nT l[i].1+1) 0)).2=0 then aV s (p.take (p.length-nT l[i].1)++[(mU s l[i] (p.getD (p.length-nT l[i].1) 0) (p.getD (p.length-nT l[i].1+1) 0)).1]) (l.drop (i+1))else(0,(mU s l[i] (p.getD (p.length-nT l[i].1) 0) (p.getD (p.length-nT l[i].1+1) 0)).2)).1,(if(mU s l[i] (p.getD (p.length-nT l[i].1) 0) (p.getD (p.length-nT l[i].1+1) 0)).2=0 then aV s (p.take (p.length-nT l[i].1)++[(mU s l[i] (p.getD (p.length-nT l[i].1) 0) (p.getD (p.length-nT l[i].1+1) 0)).1]) (l.drop (i+1))else(0,(mU s l[i] (p.getD (p.length-nT l[i].1) 0) (p.getD (p.length-nT l[i].1+1) 0)).2)).2,()),((),(),())):=by
   intro v z Z;have D:mU s l[i] (p.getD (p.length-nT l[i].1) 0) (p.getD (p.length-nT l[i].1+1) 0)=v:=by unfold mU;rw[ifNegQ,a0b z,Z]
   rw[It k _ l s p i (by omega) _ _ _ (by omega) _ (by omega) (by omega)];rw[D]at m⊢;by_cases w:v.2=0
   ·rw[a0b w,a0b w]
    exact m
   ·rw[a0e w,a0e w]
  have F:l[i].1<=5->nT l[i].1=0:=λh=>by unfold nT;rw[a0b h]
  have G:l[i].1=6\/l[i].1=7\/l[i].1=19->nT l[i].1=1:=λh=>by
   unfold nT;rw[ifNegQ,ifPosQ]
  by_cases c2:l[i].1=2
  ·obtain⟨M,Q⟩:=mV J c2
   have u:l[i].2.1.toNat<s.1.length:=by rw[O.n0];exact Q
   rw[a0b c2,a0b M,a0a u,aa];exact zero _ (F (by omega)) (by unfold pT;rw[ifNegQ,a0b c2,ay u])
  rw[a0e c2];by_cases H:l[i].1=3
  ·obtain⟨M,Q⟩:=rZ J H
   have u:l[i].2.1.toNat<s.2.1.length:=by rw[O.n1];exact Q
   rw[a0b H,a0b M,a0a u,aa];exact zero _ (F (by omega)) (by unfold pT;rw[ifNegQ,a0e c2,a0b H,ay u])
  rw[a0e H];by_cases U:l[i].1=4
  ·rw[a0b U]
   exact zero _ (F (by omega)) (by unfold pT;rw[ifNegQ,a0e c2,a0e H,U];rfl)
  rw[a0e U];by_cases A:l[i].1=6
  ·have z:=G (.inl A)
   obtain⟨M,Q⟩:=qQ J A;have u:l[i].2.1.toNat<s.2.2.1.length:=by rw[O.n2];exact Q
   have hm:=O.m2 _ (a0l u);obtain⟨o,a1,y⟩:=r.arg c (j:=0) (by omega);rw[a2z]at o a1 y;have b:0<=((p.length-nT l[i].1:Nat):Int)/\((p.length-nT l[i].1:Nat):Int)<(p.length:Int):=by omega
   have N:p[p.length-nT l[i].1]?=some (p.getD (p.length-nT l[i].1) 0):=by rw[ay o];exact a0a o
   have R:lC s l[i] (p.getD (p.length-nT l[i].1) 0)=if 0<=p.getD (p.length-nT l[i].1) 0/\p.getD (p.length-nT l[i].1) 0<=((s.2.2.1[l[i].2.1.toNat]).length:Int)-1 then((s.2.2.1[l[i].2.1.toNat]).getD (p.getD (p.length-nT l[i].1) 0).toNat 0,0)else(0,5):=by
    unfold lC jI;rw[a0b A,ay u]
   rw[a0b A,a0b b,N,aa,a0b M,a0a u,aa,jV,aa,ak (n:=((s.2.2.1[l[i].2.1.toNat]).length:Int)-1) (by omega) (by omega)];by_cases e:0<=p.getD (p.length-nT l[i].1) 0/\p.getD (p.length-nT l[i].1) 0<=((s.2.2.1[l[i].2.1.toNat]).length:Int)-1
   ·have q3:(p.getD (p.length-nT l[i].1) 0).toNat<(s.2.2.1[l[i].2.1.toNat]).length:=by omega
    rw[a0b e]at R;simp only[a0f e,a0t,ah,aa,a0b e.1,a0b M,a0b b,N,a0a u,a0a q3];rw[ay q3]at R;exact E ((s.2.2.1[l[i].2.1.toNat])[(p.getD (p.length-nT l[i].1) 0).toNat],0) z R
   ·rw[a0e e]at R
    have D:mU s l[i] (p.getD (p.length-nT l[i].1) 0) (p.getD (p.length-nT l[i].1+1) 0)=(0,5):=by unfold mU;rw[ifNegQ,a0b z,R]
    simp only[a0n e,a0y,ai,D];rfl
  rw[a0e A];by_cases S:l[i].1=7
  ·have z:=G (.inr (.inl S))
   obtain⟨o,a1,y⟩:=r.arg c (j:=0) (by omega);rw[a2z]at o a1 y;have b:0<=((p.length-nT l[i].1:Nat):Int)/\((p.length-nT l[i].1:Nat):Int)<(p.length:Int):=by omega
   have N:p[p.length-nT l[i].1]?=some (p.getD (p.length-nT l[i].1) 0):=by rw[ay o];exact a0a o
   rw[a0b S,a0b b,N,aa,M0 k 9 (a:=0) ⟨by omega,by omega⟩ a1 (λh=>by omega),aa];refine E _ z ?_
   unfold lC i6;rw[a0e A,a0b S,ifNegQ,a0b rfl]
  rw[a0e S];by_cases I:l[i].1=19
  ·have z:=G (.inr (.inr I))
   obtain⟨o,a1,y⟩:=r.arg c (j:=0) (by omega);rw[a2z]at o a1 y;have b:0<=((p.length-nT l[i].1:Nat):Int)/\((p.length-nT l[i].1:Nat):Int)<(p.length:Int):=by omega
   have N:p[p.length-nT l[i].1]?=some (p.getD (p.length-nT l[i].1) 0):=by rw[ay o];exact a0a o
   rw[a0b I,a0b b,N,aa];refine E (wrap .i64 (1-p.getD (p.length-nT l[i].1) 0),0) z ?_
   unfold lC;rw[a0e A,a0e S]
  rw[a0e I];by_cases L:nT l[i].1=0
  ·refine zero _ L ?_
   unfold pT;by_cases c1:l[i].1=1
   ·rw[a0b c1]
   ·have h5:=RV L
    rw[a0e c1,a0e c2,a0e H,M2 J c1 c2 H A];have:(l[i].1==4)=false:=by simpa using U
    rw[this];rfl
  ·have T:¬nT l[i].1=1:=λh=>by have:=Rg h;omega
   have S0:=Rh L T;obtain⟨o,a1,y⟩:=r.arg c (j:=0) (by omega);rw[a2z]at o a1 y;obtain⟨b0,b1,b2⟩:=r.arg c (j:=1) (by omega);have D:mU s l[i] (p.getD (p.length-nT l[i].1) 0) (p.getD (p.length-nT l[i].1+1) 0)=i6 l[i].1 (p.getD (p.length-nT l[i].1) 0) (p.getD (p.length-nT l[i].1+1) 0):=by unfold mU;rw[a0e L,a0e T]
   rw[D]at m⊢;rw[S0]at m hn o a1 y b0 b1 b2⊢;rw[Pn k _ l s p i (by omega) _ _ _ (by omega) (by omega) _ _ a1 b1 (λh=>⟨y (CN),b2 (CN)⟩)];by_cases w:(i6 l[i].1 (p.getD (p.length-2) 0) (p.getD (p.length-2+1) 0)).2=0
   ·rw[a0b w,a0b w]
    exact m
   ·rw[a0e w,a0e w]
def kf (k:Nat) (e:4194304<k) (f:lh d s) (l:List bU) (a:bI d l≠0):pP k (l,s,())=some (((aV s [] l).1,(aV s [] l).2,()),((),(),()))/\Fi k (s,l,())=some (((aV s [] l).1,(aV s [] l).2,()),((),(),())):=by
 unfold bI at a
 cases hc:decide (l.length<=40)&& l.all (ck d)with
 |false=>rw[hc]at a;exact absurd rfl a
 |true=>
  rw[hc,a1r]at a;simp only[a0c,a0q,a1g]at hc;obtain⟨g,b⟩:=hc
  cases hr:f7 [] l with
  |none=>rw[hr]at a;exact absurd rfl a
  |some K'=>
   have c:K'≠[]:=by
    rintro rfl
    rw[hr]at a;exact a rfl
   have h:oR [] []:=⟨rfl,by simp,by simp⟩;refine⟨?_,?_⟩
   ·exact Aa k e f l g b l.length 0 k [] [] K' (by omega) (by omega) (by simp) h hr c
   ·exact zT k e f l g b l.length 0 k [] [] K' (by omega) (by omega) (by simp) h hr c
def mh (op:List Int):Int:=op.getLastD 0
def mi (op:List CV):CV:=op.getLastD (0,0,())
def lE (l:List aU):List Int->List Int->Nat->List Int->List Int
 |out,_,_,[]=>out
 |out,op,i,kd::r=>
  if ej kd=true then lE l (out++[((i+1:Nat):Int)]) (op++[(i:Int)]) (i+1) r
  else if kd=7 then lE l ((out++[((i+1:Nat):Int)]).set (mh op).toNat ((i+1:Nat):Int)) (op.dropLast++[(i:Int)]) (i+1) r
  else if kd=8 then
   (if eV (dg l (mh op))=true then lE l ((((out++[((i+1:Nat):Int)]).set (mh op).toNat (i:Int)).set (mh op).toNat ((i+1:Nat):Int)).set i (mh op)) op.dropLast (i+1) r
   else lE l ((out++[((i+1:Nat):Int)]).set (mh op).toNat (i:Int)) op.dropLast (i+1) r)
  else lE l (out++[((i+1:Nat):Int)]) op (i+1) r
def q8 (l:List aU):List Int->List CV->Nat->List Int->List Int
 |out,_,_,[]=>out
 |out,op,i,kd::r=>
  if ej kd=true then q8 l (out.set i ((i+1:Nat):Int)) (op++[((i:Int),(-1),())]) (i+1) r
  else if kd=7 then q8 l (out.set i ((i+1:Nat):Int)) (op.dropLast++[((mi op).1,(i:Int),())]) (i+1) r
  else if kd=8 then
   (if eV (dg l (mi op).1)=true then q8 l ((((out.set i ((i+1:Nat):Int)).set (mi op).1.toNat (i:Int)).set (mi op).1.toNat ((i+1:Nat):Int)).set i (mi op).1) op.dropLast (i+1) r
   else if(mi op).2.1>=0 then q8 l ((((out.set i ((i+1:Nat):Int)).set (mi op).1.toNat (i:Int)).set (mi op).1.toNat (wrap .i64 ((mi op).2.1+1))).set (mi op).2.1.toNat (i:Int)) op.dropLast (i+1) r
   else q8 l ((out.set i ((i+1:Nat):Int)).set (mi op).1.toNat (i:Int)) op.dropLast (i+1) r)
  else q8 l (out.set i ((i+1:Nat):Int)) op (i+1) r
def tL (a:List Int) (t:Int):mh (a++[t])=t:=by simp[mh]
def Br (a:List CV) (t:CV):mi (a++[t])=t:=by simp[mi]
def EW (f:CV):Int:=if f.2.1>=0 then f.2.1 else f.1
structure Fr (l:List aU) (i:Nat) (op:List CV):Prop where
 lo:∀f∈op,0<=f.1/\f.1<(i:Int)/\f.2.1<(i:Int)
 el:∀f∈op,f.2.1>=0->f.1<f.2.1/\eV (dg l f.1)=false/\dg l f.2.1=7
 up:op.Pairwise λx y=>x.1<y.1
def RZ (i:Nat) (op:List CV) (a b:List Int):Prop:=∀j:Nat,j<i->(∃f∈op,f.1=(j:Int)/\f.2.1>=0/\a.getD j 0=f.2.1+1)\/((∀f∈op,f.1=(j:Int)->f.2.1<0)/\a.getD j 0=b.getD j 0)
def eF (l:List Int) (i j:Nat) (x:Int) (hi:i<l.length):(l.set i x).getD j 0=if i=j then x else l.getD j 0:=by
 simp only[List.getD,List.getElem?_set];by_cases h:i=j
 ·subst h;simp[hi]
 ·simp[h]
def NA (l:List Int) (j:Nat) (x:Int):(l++[x]).getD j 0=if j<l.length then l.getD j 0 else if j=l.length then x else 0:=by
 simp only[List.getD];by_cases h:j<l.length
 ·rw[a1i h];simp[h]
 ·by_cases a:j=l.length
  ·subst a;simp
  ·rw[a0e h,a0e a,a0w (by simp;omega)];rfl
def QH (l:List aU) (hl:l.length<=30):∀(n i:Nat) (a b:List Int) (op:List CV),i+n=l.length->a.length=i->b.length=l.length->Fr l i op->RZ i op a b->kL (d4 ((op.map (cf l)).reverse) ((l.drop i).map (·.1)))=true->lE l a (op.map EW) i ((l.drop i).map (·.1))=q8 l b op i ((l.drop i).map (·.1)):=by
 intro n
 induction n with
 |zero=>
  intro i a b op hi Z hb u H o;rw[a1w (by omega)]at o⊢;simp only[a3x,d4,lE,q8]at o⊢;have A:op=[]:=by
   cases hr:((op.map (cf l)).reverse)with
   |nil=>simpa using hr
   |cons x r=>rw[hr]at o;cases o
  subst A;refine a8k (by omega) λj d m=> ?_
  rcases H j (by omega)with⟨f,hf,_⟩|⟨_,e⟩
  ·cases hf
  ·simpa [List.getD,a0a d,a0a m]using e
 |succ n ih=>
  intro i a b op hi Z hb u H o;have O:i<l.length:=by omega
  have ki:dg l (i:Int)=l[i].1:=by rw[fj l (by omega) (by simpa using O)];simp
  rw[a1b O,a2f]at o⊢;simp only[d4,a1y]at o
  cases hst:ff ((op.map (cf l)).reverse) l[i].1 with
  |none=>rw[hst]at o;cases o
  |some st=>
  rw[hst,a0d]at o;have q:∀j,(a++[((i+1:Nat):Int)]).getD j 0=if j<i then a.getD j 0 else if j=i then((i+1:Nat):Int)else 0:=λj=>by rw[NA,Z]
  have v:∀j,(b.set i ((i+1:Nat):Int)).getD j 0=if i=j then((i+1:Nat):Int)else b.getD j 0:=λj=>eF b i j _ (by omega)
  simp only[lE,q8]
  cases A:ej l[i].1 with
  |true=>
   simp only[a1s];have M:op.map EW++[(i:Int)]=(op++[((i:Int),(-1),())]).map EW:=by simp[EW]
   rw[M];refine ih (i+1) _ _ _ (by omega) (by simp;omega) (by simp;omega) ⟨λf hf=> ?_,λf hf h=> ?_,?_⟩ (λj z=> ?_) ?_
   ·rcases a0k.1 hf with hf|hf
    ·have:=u.lo f hf;omega
    ·simp at hf;subst hf;simp;omega
   ·rcases a0k.1 hf with hf|hf
    ·exact u.el f hf h
    ·simp at hf;subst hf;simp at h
   ·refine a4h.2 ⟨u.up,by simp,λx T y P=> ?_⟩
    simp at P;subst P;have:=u.lo x T;simp;omega
   ·by_cases c:j<i
    ·rcases H j c with⟨f,hf,d,m,I⟩|⟨d,m⟩
     ·exact .inl ⟨f,List.mem_append_left _ hf,d,m,by rw[q,a0b c,I]⟩
     ·refine .inr ⟨λf hf h=> ?_,by rw[q,v,a0b c,ifNegQ,m]⟩
      rcases a0k.1 hf with hf|hf
      ·exact d f hf h
      ·simp at hf;subst hf;simp
    ·have:j=i:=by omega
     subst this;refine .inr ⟨λf hf h=> ?_,by rw[q,v,ifNegQ,a0b rfl,a0b rfl]⟩;rcases a0k.1 hf with hf|hf
     ·have:=u.lo f hf;omega
     ·simp at hf;subst hf;simp
   ·have U:((op++[((i:Int),(-1),())]).map (cf l)).reverse=l[i].1::(op.map (cf l)).reverse:=by
     have:cf l ((i:Int),(-1),())=l[i].1:=by unfold cf;rw[a0e (show¬((-1:Int)>=0) by omega),ki]
     simp[this]
    have E:ff ((op.map (cf l)).reverse) l[i].1=some (l[i].1::(op.map (cf l)).reverse):=by unfold ff;rw[a0b A]
    rw[hst]at E;rw[U,<-a1f E];exact o
  |false=>
   simp only[a0u,a1z];rcases a4e op with hn|⟨ini,t,hc⟩
   ·subst hn
    by_cases F:l[i].1=7
    ·rw[F]at hst;simp[md]at hst
    ·by_cases K:l[i].1=8
     ·rw[K]at hst;simp[me]at hst
     ·simp only[a0e F,a0e K]
      have E:ff ((([]:List CV).map (cf l)).reverse) l[i].1=some ((([]:List CV).map (cf l)).reverse):=by
       unfold ff;rw[A];simp only[a0u,a1z,a0e F,a0e K]
      rw[hst]at E;rw[a1f E]at o;refine ih (i+1) _ _ [] (by omega) (by simp;omega) (by simp;omega) ⟨by simp,by simp,by simp⟩ (λj z=> ?_) o;refine .inr ⟨by simp,?_⟩;by_cases c:j<i
      ·rcases H j c with⟨f,hf,_⟩|⟨_,e⟩
       ·cases hf
       ·rw[q,v,a0b c,ifNegQ,e]
      ·rw[q,v,a0e c,ifPosQ,ifPosQ]
   ·rw[a3s]at hc
    subst hc;obtain⟨S0,V,S1⟩:=u.lo t (by simp);have B:=a4h.1 u.up;have g:∀f∈ini,f.1<t.1:=λf hf=>B.2.2 f hf t (by simp)
    have k:Fr l (i+1) ini:=⟨λf hf=>by have:=u.lo f (by simp[hf]);omega,λf hf h=>u.el f (by simp[hf]) h,B.1⟩;have ml:(ini++[t]).map EW=ini.map EW++[EW t]:=by simp
    have em:(((ini++[t]).map (cf l)).reverse)=cf l t::(ini.map (cf l)).reverse:=by simp
    rw[ml,tL,Br,a5x,a5x];rw[em]at hst;by_cases F:l[i].1=7
    ·simp only[a0b F]
     rw[F]at hst;by_cases w:cf l t=5\/cf l t=6
     ·rw[oW w]at hst
      have L:¬t.2.1>=0:=by
       intro h;unfold cf at w;rw[a0b h]at w;omega
      have W:dg l t.1=5\/dg l t.1=6:=by unfold cf at w;rwa [a0e L]at w
      have Q:eV (dg l t.1)=false:=by rcases W with h|h<;>rw[h]<;>rfl
      have M:EW t=t.1:=by unfold EW;rw[a0e L]
      have U:ini.map EW++[(i:Int)]=(ini++[(t.1,(i:Int),())]).map EW:=by simp[EW]
      rw[M,U];refine ih (i+1) _ _ _ (by omega) (by simp;omega) (by simp;omega) ⟨λf hf=> ?_,λf hf h=> ?_,?_⟩ (λj z=> ?_) ?_
      ·rcases a0k.1 hf with hf|hf
       ·exact k.lo f hf
       ·simp at hf;subst hf;simp;omega
      ·rcases a0k.1 hf with hf|hf
       ·exact k.el f hf h
       ·simp at hf;subst hf;exact⟨V,Q,by rw[<-F];exact ki⟩
      ·refine a4h.2 ⟨B.1,by simp,λx T y P=> ?_⟩
       simp at P;subst P;exact g x T
      ·have s:((a++[((i+1:Nat):Int)]).set t.1.toNat ((i+1:Nat):Int)).getD j 0=if t.1.toNat=j then((i+1:Nat):Int)else(a++[((i+1:Nat):Int)]).getD j 0:=eF _ _ _ _ (by simp;omega)
       by_cases J:t.1.toNat=j
       ·refine .inl ⟨(t.1,(i:Int),()),by simp,by simp;omega,by simp,?_⟩
        rw[s,a0b J];simp
       ·by_cases c:j<i
        ·rcases H j c with⟨f,hf,d,m,I⟩|⟨d,m⟩
         ·rcases a0k.1 hf with hf|hf
          ·exact .inl ⟨f,List.mem_append_left _ hf,d,m,by rw[s,a0e J,q,a0b c,I]⟩
          ·simp at hf;subst hf;omega
         ·refine .inr ⟨λf hf h=> ?_,by rw[s,a0e J,q,v,a0b c,ifNegQ,m]⟩
          rcases a0k.1 hf with hf|hf
          ·exact d f (by simp[hf]) h
          ·simp at hf;subst hf;simp at h;omega
        ·have:j=i:=by omega
         subst this;refine .inr ⟨λf hf h=> ?_,by rw[s,a0e J,q,v,ifNegQ,a0b rfl,a0b rfl]⟩;rcases a0k.1 hf with hf|hf
         ·have:=k.lo f hf;have:=g f hf;omega
         ·simp at hf;subst hf;simp at h;omega
      ·have k7:cf l (t.1,(i:Int),())=7:=by unfold cf;rw[a0b (by simp)]
       have E:((ini++[(t.1,(i:Int),())]).map (cf l)).reverse=7::(ini.map (cf l)).reverse:=by simp[k7]
       rw[E,a1f hst];exact o
     ·rw[oX w]at hst;cases hst
    ·by_cases K:l[i].1=8
     ·simp only[a0e F,a0b K]
      rw[K,oY]at hst;rw[<-a1f hst]at o;by_cases C:t.2.1>=0
      ·obtain⟨q1,q2,q3⟩:=u.el t (by simp) C
       have M:EW t=t.2.1:=by unfold EW;rw[a0b C]
       have e7:eV (dg l t.2.1)=false:=by rw[q3];rfl
       rw[M,e7,q2];simp only[a0u,a1z,a0b C];rw[ak (n:=t.2.1+1) (by omega) (by omega)];refine ih (i+1) _ _ ini (by omega) (by simp;omega) (by simp;omega) k (λj z=> ?_) o;have s:((a++[((i+1:Nat):Int)]).set t.2.1.toNat (i:Int)).getD j 0=if t.2.1.toNat=j then(i:Int)else(a++[((i+1:Nat):Int)]).getD j 0:=eF _ _ _ _ (by simp;omega)
       have G:((((b.set i ((i+1:Nat):Int)).set t.1.toNat (i:Int)).set t.1.toNat (t.2.1+1)).set t.2.1.toNat (i:Int)).getD j 0=if t.2.1.toNat=j then(i:Int)else if t.1.toNat=j then t.2.1+1 else(b.set i ((i+1:Nat):Int)).getD j 0:=by
        rw[eF _ _ _ _ (by simp;omega),eF _ _ _ _ (by simp;omega),eF _ _ _ _ (by simp;omega)];by_cases h:t.1.toNat=j<;>simp[h]
       by_cases p:t.2.1.toNat=j
       ·refine .inr ⟨λf hf h=> ?_,by rw[s,G,a0b p,a0b p]⟩
        have:=g f hf;omega
       ·by_cases D:t.1.toNat=j
        ·refine .inr ⟨λf hf h=> ?_,?_⟩
         ·have:=g f hf;omega
         ·rw[s,G,a0e p,a0e p,a0b D,q,ifPosQ]
          rcases H j (by omega)with⟨f,hf,d,m,I⟩|⟨d,m⟩
          ·rcases a0k.1 hf with hf|hf
           ·have:=g f hf;omega
           ·simp at hf;subst hf;exact I
          ·have:=d t (by simp) (by omega);omega
        ·by_cases c:j<i
         ·rcases H j c with⟨f,hf,d,m,I⟩|⟨d,m⟩
          ·rcases a0k.1 hf with hf|hf
           ·exact .inl ⟨f,hf,d,m,by rw[s,a0e p,q,a0b c,I]⟩
           ·simp at hf;subst hf;omega
          ·exact .inr ⟨λf hf h=>d f (by simp[hf]) h,by rw[s,G,a0e p,a0e p,a0e D,q,v,a0b c,ifNegQ,m]⟩
         ·have:j=i:=by omega
          subst this;refine .inr ⟨λf hf h=> ?_,by rw[s,G,a0e p,a0e p,a0e D,q,v,ifNegQ,a0b rfl,a0b rfl]⟩;have:=k.lo f hf;have:=g f hf;omega
      ·have M:EW t=t.1:=by unfold EW;rw[a0e C]
       rw[M];have QX:∀(R S:List Int),R.length=i+1->S.length=l.length->(∀j,j<i+1->(t.1.toNat=j\/j=i)->R.getD j 0=S.getD j 0)->(∀j,j<i->t.1.toNat≠j->R.getD j 0=a.getD j 0/\S.getD j 0=b.getD j 0)->lE l R (ini.map EW) (i+1) ((l.drop (i+1)).map (·.1))=q8 l S ini (i+1) ((l.drop (i+1)).map (·.1)):=by
        intro R S la lb d m;refine ih (i+1) _ _ ini (by omega) la lb k (λj z=> ?_) o;by_cases D:t.1.toNat=j\/j=i
        ·refine .inr ⟨λf hf h=> ?_,d j z D⟩
         have:=k.lo f hf;have:=g f hf;omega
        ·obtain⟨g1,g2⟩:=m j (by omega) (by omega)
         rcases H j (by omega)with⟨f,hf,X,Y,p3⟩|⟨X,Y⟩
         ·rcases a0k.1 hf with hf|hf
          ·exact .inl ⟨f,hf,X,Y,by rw[g1,p3]⟩
          ·simp at hf;subst hf;omega
         ·exact .inr ⟨λf hf h=>X f (by simp[hf]) h,by rw[g1,g2,Y]⟩
       cases Q:eV (dg l t.1)with
       |true=>
        simp only[a1s];have s:∀j,((((a++[((i+1:Nat):Int)]).set t.1.toNat (i:Int)).set t.1.toNat ((i+1:Nat):Int)).set i t.1).getD j 0=if i=j then t.1 else if t.1.toNat=j then((i+1:Nat):Int)else(a++[((i+1:Nat):Int)]).getD j 0:=λj=>by
         rw[eF _ _ _ _ (by simp;omega),eF _ _ _ _ (by simp;omega),eF _ _ _ _ (by simp;omega)];by_cases h:t.1.toNat=j<;>simp[h]
        have G:∀j,((((b.set i ((i+1:Nat):Int)).set t.1.toNat (i:Int)).set t.1.toNat ((i+1:Nat):Int)).set i t.1).getD j 0=if i=j then t.1 else if t.1.toNat=j then((i+1:Nat):Int)else(b.set i ((i+1:Nat):Int)).getD j 0:=λj=>by
         rw[eF _ _ _ _ (by simp;omega),eF _ _ _ _ (by simp;omega),eF _ _ _ _ (by simp;omega)];by_cases h:t.1.toNat=j<;>simp[h]
        refine QX _ _ (by simp;omega) (by simp;omega) (λj z h=> ?_) (λj z h=> ?_)
        ·rw[s,G]
         by_cases d:i=j
         ·rw[a0b d,a0b d]
         ·rw[a0e d,a0e d,ifPosQ,ifPosQ]
        ·have N:¬i=j:=by omega
         simp only[s,G,q,v,a0e N,a0e h,a0b z];exact⟨trivial,trivial⟩
       |false=>
        simp only[a0u,a1z,a0e C];have s:∀j,((a++[((i+1:Nat):Int)]).set t.1.toNat (i:Int)).getD j 0=if t.1.toNat=j then(i:Int)else(a++[((i+1:Nat):Int)]).getD j 0:=λj=>eF _ _ _ _ (by simp;omega)
        have G:∀j,((b.set i ((i+1:Nat):Int)).set t.1.toNat (i:Int)).getD j 0=if t.1.toNat=j then(i:Int)else(b.set i ((i+1:Nat):Int)).getD j 0:=λj=>eF _ _ _ _ (by simp;omega)
        refine QX _ _ (by simp;omega) (by simp;omega) (λj z h=> ?_) (λj z h=> ?_)
        ·rw[s,G]
         by_cases d:t.1.toNat=j
         ·rw[a0b d,a0b d]
         ·rw[a0e d,a0e d,q,v,ifNegQ,ifPosQ,ifPosQ]
        ·have N:¬i=j:=by omega
         simp only[s,G,q,v,a0e N,a0e h,a0b z];exact⟨trivial,trivial⟩
     ·simp only[a0e F,a0e K]
      have E:ff (cf l t::(ini.map (cf l)).reverse) l[i].1=some (cf l t::(ini.map (cf l)).reverse):=by
       unfold ff;rw[A];simp only[a0u,a1z,a0e F,a0e K]
      rw[hst]at E;rw[a1f E,<-em]at o;rw[<-ml];refine ih (i+1) _ _ (ini++[t]) (by omega) (by simp;omega) (by simp;omega) ⟨λf hf=>by have:=u.lo f hf;omega,u.el,u.up⟩ (λj z=> ?_) o;by_cases c:j<i
      ·rcases H j c with⟨f,hf,d,m,I⟩|⟨d,m⟩
       ·exact .inl ⟨f,hf,d,m,by rw[q,a0b c,I]⟩
       ·exact .inr ⟨d,by rw[q,v,a0b c,ifNegQ,m]⟩
      ·have:j=i:=by omega
       subst this;exact .inr ⟨λf hf h=>by have:=u.lo f hf;omega,by rw[q,v,ifNegQ,a0b rfl,a0b rfl]⟩
def Hj (l:List aU) (w:l.length<=30):∀(n i:Nat) (a op:List Int),i+n=l.length->a.length=i->(∀x∈a,0<=x/\x<=(l.length:Int))->(∀x∈op,0<=x/\x<(i:Int))->(lE l a op i ((l.drop i).map (·.1))).length=l.length/\∀x∈lE l a op i ((l.drop i).map (·.1)),0<=x/\x<=(l.length:Int):=by
 intro n
 induction n with
 |zero=>
  intro i a op hi q f g;rw[a1w (by omega)];simp only[a3x,lE];exact⟨by omega,f⟩
 |succ n ih=>
  intro i a op hi q f g;have k:i<l.length:=by omega
  rw[a1b k,a2f];simp only[lE];have b:∀x∈a++[((i+1:Nat):Int)],0<=x/\x<=(l.length:Int):=λx hx=>by
   rcases a0k.1 hx with hx|hx
   ·exact f x hx
   ·simp at hx;omega
  have st:∀(c:List Int) (j:Nat) (v:Int),(∀x∈c,0<=x/\x<=(l.length:Int))->0<=v->v<=(l.length:Int)->∀x∈c.set j v,0<=x/\x<=(l.length:Int):=λc j v r s u x hx=>by
   rcases a1v hx with hx|rfl
   ·exact r x hx
   ·exact⟨s,u⟩
  have m:∀x∈op,0<=x/\x<((i+1:Nat):Int):=λx hx=>by have:=g x hx;omega
  have d:∀x∈op.dropLast,0<=x/\x<((i+1:Nat):Int):=λx hx=>m x (List.dropLast_subset _ hx)
  have e:∀o:List Int,(∀x∈o,0<=x/\x<((i+1:Nat):Int))->∀x∈o++[(i:Int)],0<=x/\x<((i+1:Nat):Int):=λo h x hx=>by
   rcases a0k.1 hx with hx|hx
   ·exact h x hx
   ·simp at hx;omega
  have p:0<=mh op/\mh op<=(l.length:Int):=by
   rcases a4e op with rfl|⟨ini,t,rfl⟩
   ·simp[mh]
   ·rw[a3s,tL]
    have:=g t (by simp[a3s]);omega
  split
  ·exact ih (i+1) _ _ (by omega) (by simp;omega) b (e op m)
  split
  ·exact ih (i+1) _ _ (by omega) (by simp;omega) (st _ _ _ b (by omega) (by omega)) (e _ d)
  split
  ·split
   ·exact ih (i+1) _ _ (by omega) (by simp;omega) (st _ _ _ (st _ _ _ (st _ _ _ b (by omega) (by omega)) (by omega) (by omega)) p.1 p.2) d
   ·exact ih (i+1) _ _ (by omega) (by simp;omega) (st _ _ _ b (by omega) (by omega)) d
  ·exact ih (i+1) _ _ (by omega) (by simp;omega) b m
def cd (l:List aU):List Int:=lE l [] [] 0 (l.map (·.1))
def su (l:List aU) (a:l.length<=30):(cd l).length=l.length/\∀x∈cd l,0<=x/\x<=(l.length:Int):=Hj l a l.length 0 [] [] (by omega) rfl (by simp) (by simp)
def EX (l:List aU) (a:l.length<=30) (c:mc l=true) (b:List Int) (h:b.length=l.length):q8 l b [] 0 (l.map (·.1))=cd l:=(QH l a l.length 0 [] b [] (by omega) rfl h ⟨by simp,by simp,by simp⟩ (λj d=>absurd d (Nat.not_lt_zero _)) c).symm
def CY (k:Nat) (l:List aU) (hl:l.length<=30):∀(n i f:Nat) (a op:List Int),i+n=l.length->n<f->a.length=i->op.length<=i->(∀x∈op,0<=x/\x<(i:Int))->kL (d4 ((op.map (dg l)).reverse) ((l.drop i).map (·.1)))=true->∃m,aP (vF.l0 k) f (l,a,op,(i:Int),())=some ((lE l a op i ((l.drop i).map (·.1)),m,()),((),())):=by
 intro n
 induction n with
 |zero=>
  intro i f a op hi T U C hx c;obtain⟨f,rfl⟩:∃g,f=g+1:=⟨f-1,by omega⟩;have D:¬((i:Int)<(l.length:Int)):=by omega
  rw[a1w (by omega)]at c⊢;have b:op=[]:=by
   simp only[a3x,d4]at c
   cases hr:((op.map (dg l)).reverse)with
   |nil=>simpa using hr
   |cons x r=>rw[hr]at c;cases c
  subst b;rw[az];have A:¬((([]:List Int).length:Int)>0):=by simp
  simp only[vF.l0,an,a0e D,a0e A,a3x,lE];exact⟨_,rfl⟩
 |succ n ih=>
  intro i f a op hi T U C hx c;obtain⟨f,rfl⟩:∃g,f=g+1:=⟨f-1,by omega⟩;have u:i<l.length:=by omega
  have D:((i:Int)<(l.length:Int)):=by omega
  have E:(0:Int)<=(i:Int):=by omega
  have K:(a.length+([((i+1:Nat):Int)]:List Int).length)*8<=af:=by simp[af];omega
  have L:(op.length+([(i:Int)]:List Int).length)*8<=af:=by simp[af];omega
  have M:=aH (i:=i);have N:dg l (i:Int)=l[i].1:=by rw[fj l E (by simpa using u)];simp
  rw[a1b u,a2f]at c⊢;rw[az];have B:∀o:List Int,(∀x∈o,0<=x/\x<(i:Int))->∀x∈o++[(i:Int)],0<=x/\x<((i+1:Nat):Int):=λo h x hx=>by
   rcases a0k.1 hx with hx|hx
   ·have:=h x hx;omega
   ·simp at hx;omega
  have j:ej l[i].1=true->∃m,aP (vF.l0 k) f (l,a++[((i+1:Nat):Int)],op++[(i:Int)],((i+1:Nat):Int),())=some ((lE l (a++[((i+1:Nat):Int)]) (op++[(i:Int)]) (i+1) ((l.drop (i+1)).map (·.1)),m,()),((),())):=by
   intro b;refine ih (i+1) f _ _ (by omega) (by omega) (by simp;omega) (by simp;omega) (B op hx) ?_
   rw[a3d,a5f];simp only[d4,ff,a0b b,a0d]at c;simpa [N]using c
  have q:ej l[i].1=false->l[i].1≠7->l[i].1≠8->∃m,aP (vF.l0 k) f (l,a++[((i+1:Nat):Int)],op,((i+1:Nat):Int),())=some ((lE l (a++[((i+1:Nat):Int)]) op (i+1) ((l.drop (i+1)).map (·.1)),m,()),((),())):=by
   intro b e s;refine ih (i+1) f _ _ (by omega) (by omega) (by simp;omega) (by omega) (λx h=>by have:=hx x h;omega) ?_
   simpa only[d4,ff,b,a0u,a1z,a0e e,a0e s,a0d]using c
  rcases a4e op with hn|⟨ini,t,hc⟩
  ·subst hn
   have A:¬((([]:List Int).length:Int)>0):=by simp
   simp only[vF.l0,an (p:=(i:Int)<(l.length:Int)),a0b D,an (p:=(0:Int)<=(i:Int)),a0b E,M,an (p:=(a.length+([((i+1:Nat):Int)]:List Int).length)*8<=af),a0b K,an (p:=(([]:List Int).length:Int)>0),a0e A,a0j,a0a u,aa,nd,lE]
   cases b:ej l[i].1 with
   |true=>
    simp only[ai,an,a0b L,a1s];exact j b
   |false=>
    simp only[ah,bP,a0u,a1z];by_cases e:l[i].1=7
    ·rw[e]at c;simp[d4,md,kL]at c
    ·by_cases s:l[i].1=8
     ·rw[s]at c;simp[d4,me,kL]at c
     ·simp only[a0e e,a0e s]
      exact q b e s
  ·rw[a3s]at hc
   subst hc;have F:=hx t (by simp);have v:t.toNat<l.length:=by omega
   have A:(((ini++[t]).length:Int)>0):=by simp only[a0m,a0g,a0h];omega
   have V:(((ini++[t]).length:Int)-1)=(ini.length:Int):=by simp
   have G:wrap .i64 (ini.length:Int)=(ini.length:Int):=ak (by omega) (by simp at C;omega);have c1:0<=(ini.length:Int)/\(ini.length:Int)<((ini++[t]).length:Int):=by simp only[a0m,a0g,a0h];omega
   have c2:0<=(ini.length:Int)/\(ini.length:Int)<=((ini++[t]).length:Int):=by simp only[a0m,a0g,a0h];omega
   have W:(ini++[t])[ini.length]?=some t:=by simp
   have O:=fj l F.1 v;have P:0<=t/\t<((a++[((i+1:Nat):Int)]).length:Int):=by simp;omega
   have Q:¬t<0:=by omega
   obtain⟨y8,R⟩:∃y,(a++[((i+1:Nat):Int)])[t.toNat]?=some y:=⟨_,a0a (by simp;omega)⟩;have X:aO (ini++[t]) ((0:Int).toNat) (ini.length-(0:Int).toNat)=ini:=by simp[aO]
   have S:(((ini++[t]).map (dg l)).reverse)=l[t.toNat].1::(ini.map (dg l)).reverse:=by simp[O]
   simp only[vF.l0,an (p:=(i:Int)<(l.length:Int)),a0b D,an (p:=(0:Int)<=(i:Int)),a0b E,M,an (p:=(a.length+([((i+1:Nat):Int)]:List Int).length)*8<=af),a0b K,an (p:=((ini++[t]).length:Int)>0),a0b A,V,G,an (p:=0<=(ini.length:Int)/\(ini.length:Int)<((ini++[t]).length:Int)),a0b c1,a0j,W,a0a u,aa,nd,lE,tL,a5x]
   cases b:ej l[i].1 with
   |true=>
    simp only[ai,an,a0b L,a1s];exact j b
   |false=>
    simp only[ah,bP,a0u,a1z];by_cases e:l[i].1=7
    ·simp only[a0b e,an,a0e Q,a0b F.1,a0a v,aa]
     rw[S,e]at c;by_cases w:l[t.toNat].1=5\/l[t.toNat].1=6
     ·have Y:(br k (l[t.toNat].1 !=5) (some (l[t.toNat].1 !=6,())) (some (false,())):Option (Bool×Unit))=some (false,()):=by
       rcases w with h|h<;>simp[h]
      simp only[Y,a0d,ah,a0b P,R,aa,a0b c1];have H:(ini++[t]).set ini.length (i:Int)=ini++[(i:Int)]:=by simp
      rw[H];refine ih (i+1) f _ _ (by omega) (by omega) (by simp;omega) (by simp at C⊢;omega) (B ini λx h=>hx x (by simp[h])) ?_
      simp only[d4,oW w,a0d]at c;simpa [N,e]using c
     ·simp[d4,oX w,kL]at c
    ·by_cases s:l[i].1=8
     ·rw[S,s]at c
      simp only[d4,oY,a0d]at c;have done:∀d:List Int,d.length=i+1->∃m,aP (vF.l0 k) f (l,d,ini,((i+1:Nat):Int),())=some ((lE l d ini (i+1) ((l.drop (i+1)).map (·.1)),m,()),((),())):=by
       intro d I;exact ih (i+1) f d ini (by omega) (by omega) I (by simp at C;omega) (λx h=>by have:=hx x (by simp[h]);omega) c
      have Z:0<=t/\t<(((a++[((i+1:Nat):Int)]).set t.toNat (i:Int)).length:Int):=by simp;omega
      obtain⟨z,ez⟩:∃y,((a++[((i+1:Nat):Int)]).set t.toNat (i:Int))[t.toNat]?=some y:=⟨_,a0a (by simp;omega)⟩;have c6:0<=(i:Int)/\(i:Int)<((((a++[((i+1:Nat):Int)]).set t.toNat (i:Int)).set t.toNat ((i+1:Nat):Int)).length:Int):=by simp;omega
      obtain⟨z2,J⟩:∃y,(((a++[((i+1:Nat):Int)]).set t.toNat (i:Int)).set t.toNat ((i+1:Nat):Int))[i]?=some y:=⟨_,a0a (by simp;omega)⟩;simp only[a0e e,a0b s,an,a0e Q,a0b c2,a0b P,R,aa,a0b F.1,a0a v,qX,X,a0b Z,ez,a0b c6,J,O]
      cases eV l[t.toNat].1 with
      |true=>simp only[ai,a1s];exact done _ (by simp;omega)
      |false=>simp only[ah,a0u,a1z];exact done _ (by simp;omega)
     ·simp only[a0e e,a0e s]
      exact q b e s
def CZ (k:Nat) (l:List aU) (hl:l.length<=30):∀(n i f:Nat) (a:List Int) (op:List CV),i+n=l.length->n<f->a.length=l.length->op.length<=i->Fr l i op->kL (d4 ((op.map (cf l)).reverse) ((l.drop i).map (·.1)))=true->∃q,aP (zC.l0 k) f (l,a,(op,()),(l.length:Int),(i:Int),())=some ((q8 l a op i ((l.drop i).map (·.1)),q,()),((),())):=by
 intro n
 induction n with
 |zero=>
  intro i f a op hi hf Z F e b;obtain⟨f,rfl⟩:∃g,f=g+1:=⟨f-1,by omega⟩;have H:¬((i:Int)<(l.length:Int)):=by omega
  rw[az,a1w (by omega)];simp only[zC.l0,an,a0e H,a3x,q8];exact⟨_,rfl⟩
 |succ n ih=>
  intro i f a op hi hf Z F e b;have hx:=e.lo;obtain⟨f,rfl⟩:∃g,f=g+1:=⟨f-1,by omega⟩;have w:i<l.length:=by omega
  have H:((i:Int)<(l.length:Int)):=by omega
  have W:(0:Int)<=(i:Int):=by omega
  have h4:0<=(i:Int)/\(i:Int)<(a.length:Int):=by omega
  have m2:(op.length+([((i:Int),(-1),())]:List CV).length)*16<=af:=by simp[af];omega
  have ew:=aH (i:=i);have X:dg l (i:Int)=l[i].1:=by rw[fj l W (by simpa using w)];simp
  have I:cf l ((i:Int),(-1),())=l[i].1:=by
   unfold cf;rw[a0e (show¬((-1:Int)>=0) by decide),X]
  obtain⟨y1,eo⟩:∃y,a[i]?=some y:=⟨_,a0a (by omega)⟩;have G:(a.set i ((i+1:Nat):Int)).length=l.length:=by simp;omega
  have J:Fr l (i+1) op:=⟨λf hf=>by have:=e.lo f hf;omega,e.el,e.up⟩;rw[a1b w,a2f]at b⊢;rw[az];simp only[zC.l0,Jx,an (p:=(i:Int)<(l.length:Int)),a0b H,an (p:=(0:Int)<=(i:Int)),a0b W,an (p:=0<=(i:Int)/\(i:Int)<(a.length:Int)),a0b h4,ew,a0j,eo,a0a w,aa,lk,pE,q8];have hq:(br k (l[i].1==5||l[i].1==6) (some (true,())) (some (eV l[i].1,())):Option (Bool×Unit))=some (ej l[i].1,()):=by
   rw[u1];cases (l[i].1==5||l[i].1==6)<;>simp
  simp only[hq,a0d]
  cases hop:ej l[i].1 with
  |true=>
   have s:(l[i].1 !=8)=true:=by
    by_cases h:l[i].1=8
    ·rw[h]at hop;exact absurd hop (by decide)
    ·simpa using h
   simp only[ai,an,a0b m2,aa,a0t,ah,s,a1s];refine ih (i+1) f _ _ (by omega) (by omega) G (by simp;omega) ⟨λf hf=> ?_,λf hf h=> ?_,?_⟩ ?_
   ·rcases a0k.1 hf with hf|hf
    ·have:=e.lo f hf;omega
    ·simp at hf;subst hf;simp;omega
   ·rcases a0k.1 hf with hf|hf
    ·exact e.el f hf h
    ·simp at hf;subst hf;simp at h
   ·refine a4h.2 ⟨e.up,by simp,λx z y D=> ?_⟩
    simp at D;subst D;have:=e.lo x z;simp;omega
   ·simp only[d4,ff,a0b hop,a0d]at b
    simpa [I]using b
  |false=>
   simp only[ah,bP,a0u,a1z];rcases a4e op with hn|⟨ini,t,hc⟩
   ·subst hn
    have K:wrap .i64 ((([]:List CV).length:Int)-1)<0:=by rw[ak (by simp) (by simp)];simp
    by_cases j:l[i].1=7
    ·rw[j]at b;simp[d4,md,kL]at b
    ·by_cases m:l[i].1=8
     ·rw[m]at b;simp[d4,me,kL]at b
     ·have s:(l[i].1 !=8)=true:=by simpa using m
      simp only[a0e j,a0e m,aa,a0t,ah,s,ai];refine ih (i+1) f _ [] (by omega) (by omega) G (by simp) ⟨by simp,by simp,by simp⟩ ?_
      simpa only[d4,ff,hop,a0u,a1z,a0e j,a0e m,a0d]using b
   ·rw[a3s]at hc
    subst hc;obtain⟨A,L,S0⟩:=hx t (by simp);have B:t.1.toNat<l.length:=by omega
    have o:=a4h.1 e.up;have C:∀f∈ini,f.1<t.1:=λf hf=>o.2.2 f hf t (by simp)
    have r:Fr l (i+1) ini:=⟨λf hf=>by have:=e.lo f (by simp[hf]);omega,λf hf h=>e.el f (by simp[hf]) h,o.1⟩;have el:(((ini++[t]).length:Int)-1)=(ini.length:Int):=by simp
    have M:wrap .i64 (ini.length:Int)=(ini.length:Int):=ak (by omega) (by simp at F;omega);have K:¬(ini.length:Int)<0:=by omega
    have c1:0<=(ini.length:Int)/\(ini.length:Int)<((ini++[t]).length:Int):=by simp only[a0m,a0g,a0h];omega
    have c2:0<=(ini.length:Int)/\(ini.length:Int)<=((ini++[t]).length:Int):=by simp only[a0m,a0g,a0h];omega
    have eg:(ini++[t])[ini.length]?=some t:=by simp
    have N:=fj l A B;have es:aO (ini++[t]) ((0:Int).toNat) (ini.length-(0:Int).toNat)=ini:=by simp[aO]
    have Y:(((ini++[t]).map (cf l)).reverse)=cf l t::(ini.map (cf l)).reverse:=by simp
    simp only[el,M,a0j,eg,Br,a5x];by_cases j:l[i].1=7
    ·simp only[a0b j,an,a0e K,a0b c1,a0b A,aa,a0a B,lk]
     rw[Y,j]at b;by_cases d:cf l t=5\/cf l t=6
     ·have u:¬t.2.1>=0:=by
       intro h;unfold cf at d;rw[a0b h]at d;omega
      have E:l[t.1.toNat].1=5\/l[t.1.toNat].1=6:=by
       unfold cf at d;rw[a0e u,N]at d;exact d
      have O:(br k (!(l[t.1.toNat].1==5||l[t.1.toNat].1==6)) (some (true,())) (some (decide (t.2.1>=0),())):Option (Bool×Unit))=some (false,()):=by
       have:(l[t.1.toNat].1==5||l[t.1.toNat].1==6)=true:=by rcases E with h|h<;>simp[h]
       rw[this,a0t,ah,a0n u]
      have s:(l[i].1 !=8)=true:=by rw[j];decide
      simp only[O,a0d,ah,aa,a0t,s,ai];have P:(ini++[t]).set ini.length (t.1,(i:Int),())=ini++[(t.1,(i:Int),())]:=by simp
      rw[P];have k7:cf l (t.1,(i:Int),())=7:=by unfold cf;rw[a0b (show((i:Int)>=0) by omega)]
      have Q:eV (dg l t.1)=false:=by rw[N];rcases E with h|h<;>rw[h]<;>rfl
      refine ih (i+1) f _ _ (by omega) (by omega) G (by simp at F⊢;omega) ⟨λf hf=> ?_,λf hf h=> ?_,?_⟩ ?_
      ·rcases a0k.1 hf with hf|hf
       ·exact r.lo f hf
       ·simp at hf;subst hf;simp;omega
      ·rcases a0k.1 hf with hf|hf
       ·exact r.el f hf h
       ·simp at hf;subst hf;exact⟨L,Q,by rw[<-j];exact X⟩
      ·refine a4h.2 ⟨o.1,by simp,λx z y D=> ?_⟩
       simp at D;subst D;exact C x z
      ·simp only[d4,oW d,a0d]at b
       simpa [k7]using b
     ·simp[d4,oX d,kL]at b
    ·by_cases m:l[i].1=8
     ·rw[Y,m]at b
      simp only[d4,oY,a0d]at b;have s:(l[i].1 !=8)=false:=by rw[m];decide
      have done:∀c:List Int,c.length=l.length->∃q,aP (zC.l0 k) f (l,c,(ini,()),(l.length:Int),((i+1:Nat):Int),())=some ((q8 l c ini (i+1) ((l.drop (i+1)).map (·.1)),q,()),((),())):=λc R=>ih (i+1) f c ini (by omega) (by omega) R (by simp at F;omega) r b
      simp only[a0e j,a0b m,an,a0e K,a0b c1,a0b c2,es,aa,a0t,ah,s];have c3:0<=t.1/\t.1<((a.set i ((i+1:Nat):Int)).length:Int):=by simp;omega
      obtain⟨a1,S⟩:∃y,(a.set i ((i+1:Nat):Int))[t.1.toNat]?=some y:=⟨_,a0a (by simp;omega)⟩;have c4:0<=t.1/\t.1<(((a.set i ((i+1:Nat):Int)).set t.1.toNat (i:Int)).length:Int):=by simp;omega
      obtain⟨a2,T⟩:∃y,((a.set i ((i+1:Nat):Int)).set t.1.toNat (i:Int))[t.1.toNat]?=some y:=⟨_,a0a (by simp;omega)⟩;have c5:0<=(i:Int)/\(i:Int)<((((a.set i ((i+1:Nat):Int)).set t.1.toNat (i:Int)).set t.1.toNat ((i+1:Nat):Int)).length:Int):=by simp;omega
      obtain⟨a3,U⟩:∃y,(((a.set i ((i+1:Nat):Int)).set t.1.toNat (i:Int)).set t.1.toNat ((i+1:Nat):Int))[i]?=some y:=⟨_,a0a (by simp;omega)⟩;simp only[a0b c3,S,aa,a0b A,a0a B,pE,a0b c4,T,a0b c5,U,N]
      cases eV l[t.1.toNat].1 with
      |true=>simp only[ai,a1s];exact done _ (by simp;omega)
      |false=>
       simp only[ah,a0u,a1z];by_cases v:t.2.1>=0
       ·have c6:0<=t.2.1/\t.2.1<((((a.set i ((i+1:Nat):Int)).set t.1.toNat (i:Int)).set t.1.toNat (wrap .i64 (t.2.1+1))).length:Int):=by simp;omega
        obtain⟨a4,V⟩:∃y,(((a.set i ((i+1:Nat):Int)).set t.1.toNat (i:Int)).set t.1.toNat (wrap .i64 (t.2.1+1)))[t.2.1.toNat]?=some y:=⟨_,a0a (by simp;omega)⟩;simp only[a0b v,a0b c6,V,aa];exact done _ (by simp;omega)
       ·simp only[a0e v]
        exact done _ (by simp;omega)
     ·have s:(l[i].1 !=8)=true:=by simpa using m
      simp only[a0e j,a0e m,aa,a0t,ah,s,ai];refine ih (i+1) f _ (ini++[t]) (by omega) (by omega) G (by omega) J ?_
      simpa only[d4,ff,hop,a0u,a1z,a0e j,a0e m,a0d]using b
def eG {p:b7} (h:gG p=true):aY (aF p)=true/\p.2.2.2.1.length<=30/\(∀n∈p.2.2.2.1,bz (aF p) n=true)/\mc p.2.2.2.1=true:=by
 unfold gG at h;simp only[a0c,a0q,a1g]at h;exact⟨h.1,h.2.1,h.2.2.1,h.2.2.2⟩
def yC (k:Nat) (f:4194304<k) (b:k<=4611686018427387903) (p:b7) (g:gF p) (a:gG p=true):Jo k (p,())=some ((cd p.2.2.2.1,()),((),())):=by
 obtain⟨_,c,_,i⟩:=eG a;unfold Jo;obtain⟨m,e⟩:=CY k p.2.2.2.1 c p.2.2.2.1.length 0 k [] [] (by omega) (by omega) rfl (a1n _) (λx h=>by simp at h) i;have j:vF k (p.2.2.2.1,())=some ((cd p.2.2.2.1,m,()),((),())):=e;have d:=qf k f b p g;rw[a]at d;simp only[d,aa,a0t,ah,j]
def o6 (k:Nat) (h:4194304<k) (p:b7) (b:gG p=true):Ec k (p,())=some ((cd p.2.2.2.1,()),((),())):=by
 obtain⟨_,a,_,c⟩:=eG b;unfold Ec zC;have d:0<=(p.2.2.2.1.length:Int)/\(p.2.2.2.1.length:Int)<=(p.2.2.2.1.length:Int)/\(p.2.2.2.1.length:Int)*8<=af:=by simp[af];omega
 obtain⟨q,e⟩:=CZ k p.2.2.2.1 a p.2.2.2.1.length 0 k (List.replicate p.2.2.2.1.length (Kd.z (.int .i64))) [] (by omega) (by omega) (by simp) (a1n _) ⟨by simp,by simp,by simp⟩ c;have f:=EX p.2.2.2.1 a c (List.replicate p.2.2.2.1.length (Kd.z (.int .i64))) (by simp);have g:aP (zC.l0 k) k (p.2.2.2.1,List.replicate p.2.2.2.1.length (Kd.z (.int .i64)),([],()),(p.2.2.2.1.length:Int),0,())=some ((cd p.2.2.2.1,q,()),((),())):=by rw[<-f];exact e
 simp only[an,a0b d,a0j,g,aa]
structure NB (s:aT):Prop where
 n0:s.1.length<=1000
 n1:s.2.1.length<=1000
 n2:s.2.2.1.length<=1000
 m2:∀r∈s.2.2.1,r.length<=1000
 f0:∀x∈s.1,Er x
 f2:∀r∈s.2.2.1,∀x∈r,Er x
def NB.small (h:NB s):Ql s:=by
 have b:=h.n0;have c:=h.n1;have n2:=h.n2;exact⟨by omega,by omega,by omega,λr a=>by have:=h.m2 r a;omega⟩
def NB.wf (h:NB s):O0.WF s:=by
 have c:=h.n0;have d:=h.n1;have n2:=h.n2;exact⟨⟨by omega,λx a=>h.f0 x a⟩,⟨by omega,λx a=>trivial⟩,⟨by omega,λr b=>⟨by have:=h.m2 r b;omega,λx a=>h.f2 r b x a⟩⟩,trivial⟩
def ge (d:aw):aT:=(List.replicate d.1.length (0:Int),List.replicate d.2.1.length false,d.2.2.1.map λa=>List.replicate a.2.1.toNat (0:Int),())
def je (h:aY d=true):(d.1.length<=5/\d.2.1.length<=3/\d.2.2.1.length<=2)/\∀a∈d.2.2.1,1<=a.2.1/\a.2.1<=16:=by
 simp only[aY,a0c,a0q]at h;refine⟨h.1,λa b=> ?_⟩;have:=h.2.1;simp only[qL,a2b,a5t,a2b,a6m,a0q]at this;have:=this a b;simpa using this
def NC (h:aY d=true):NB (ge d):=by
 obtain⟨⟨g,i,j⟩,f⟩:=je h;refine⟨by simp[ge];omega,by simp[ge];omega,by simp[ge];omega,?_,?_,?_⟩
 ·intro r b
  obtain⟨a,e,rfl⟩:=a2y.1 b;have:=f a e;simp;omega
 ·intro x c
  have:=a6e c;simp[Er,this]
 ·intro r b x c
  obtain⟨a,e,rfl⟩:=a2y.1 b;have:=a6e c;simp[Er,this]
abbrev Rq:Type:=aw×aT×aT×Int×Unit
def R0 (d:aw) (x:Rq):Prop:=x.1=d/\0<=x.2.2.2.1/\x.2.2.2.1<=d.2.2.1.length/\x.2.2.1=(List.replicate d.1.length (0:Int),List.replicate d.2.1.length false,(d.2.2.1.take x.2.2.2.1.toNat).map λa=>List.replicate a.2.1.toNat (0:Int),())
def Hk (k:Nat) (g:4194304<k) (h:eL d):ax (xd k (d,())) λy=>y.1.1=cond (aY d) (ge d) ([],[],[],()):=by
 unfold xd;simp only[lw k g d h,aa]
 cases hdo:aY d with
 |false=>simp only[a0y,ai];exact ax.ret rfl
 |true=>
  simp only[a0t,ah,a1r];obtain⟨⟨j,l,m⟩,e⟩:=je hdo;refine ax.chk (by simp only[af];omega) (ax.chk (by simp only[af];omega) ?_);refine ax.loop (R0 d) (λx=>((d.2.2.1.length:Int)-x.2.2.2.1).toNat) ?_ k _ ⟨rfl,by simp,by simp,rfl⟩ (by simp only;omega)
  rintro G ⟨⟨u,v,w,⟨⟩⟩,⟨z,A,B,⟨⟩⟩,⟨C,D,E,⟨⟩⟩,i,⟨⟩⟩ ⟨rfl,f,o,a⟩ hG
  simp only at j l m e f o a;simp only[a0x]at a;obtain⟨rfl,rfl,rfl,_⟩:=a;simp only[xd.l0];refine ax.dec (λb=>ax.chk f (ax.get (by omega) λp c s=> ?_)) λb=>ax.ret ?_
  ·have F:=e p c
   refine ax.chk (by simp only[af];omega) (ax.chk (by simp only[a2u,a1m,a0g,a0h,af];omega) ?_);rw[ak (n:=i+1) (by omega) (by omega)];refine hG _ ⟨rfl,?_,?_,?_⟩ (by simp only;omega)
   ·simp only;omega
   ·simp only;omega
   ·have t:(i+1).toNat=i.toNat+1:=by omega
    obtain⟨q,r⟩:=a0p.1 s;simp only[t];rw[<-a2v q,a3d,r];rfl
  ·simp only[ge]
   rw[a3a (by omega)]
def ND (lo hi x:Int):Int:=if x.tmod (hi-lo+1)<0 then lo+(x.tmod (hi-lo+1)+(hi-lo+1))else lo+x.tmod (hi-lo+1)
def Fk (lo hi:Int) (b:List Int) (a:Int):Int×Int:=if a>=(b.length:Int)then(lo,a)else(ND lo hi (b.getD a.toNat 0),a+1)
def aQ (n:aU) (d:List Int) (c b a:Int) (s:aT):Int×aT×Int×Int:=
 if n.1=3 then
  (if(aV s [] n.2.2.1).2≠0 then(b,s,a,(aV s [] n.2.2.1).2)
  else if(aV s [] n.2.2.2.1).2≠0 then(b,s,a,(aV s [] n.2.2.2.1).2)
  else if 0<=(aV s [] n.2.2.1).1/\(aV s [] n.2.2.1).1<=((jI s n.2.1).length:Int)-1 then(c,(s.1,s.2.1,s.2.2.1.set n.2.1.toNat ((jI s n.2.1).set (aV s [] n.2.2.1).1.toNat (aV s [] n.2.2.2.1).1),()),a,0)
  else(b,s,a,5))
 else if bn n.1>0/\(aV s [] n.2.2.2.1).2≠0 then(b,s,a,(aV s [] n.2.2.2.1).2)
 else if n.1=1 then(c,(s.1.set n.2.1.toNat (aV s [] n.2.2.2.1).1,s.2.1,s.2.2.1,()),a,0)
 else if n.1=2 then(c,(s.1,s.2.1.set n.2.1.toNat ((aV s [] n.2.2.2.1).1==1),s.2.2.1,()),a,0)
 else if n.1=4 then(c,(s.1.set n.2.1.toNat (Fk n.2.2.2.2.1 n.2.2.2.2.2.1 d a).1,s.2.1,s.2.2.1,()),(Fk n.2.2.2.2.1 n.2.2.2.2.2.1 d a).2,0)
 else if n.1=5\/n.1=6\/n.1=9\/n.1=10 then(if(aV s [] n.2.2.2.1).1=1 then b+1 else c,s,a,0)
 else if n.1=11 then(if(aV s [] n.2.2.2.1).1=0 then(b,s,a,7)else(c,s,a,0))
 else if n.1=12 then(if(aV s [] n.2.2.2.1).1=0 then(b,s,a,3)else(c,s,a,0))
 else(c,s,a,0)
def yD (x:Int) {m:Int} (h:1<=m): -m<x.tmod m/\x.tmod m<m:=by
 have a:=a8y x m;have b:=a9l x.natAbs (show 0<m.natAbs by omega);omega
def NE (h:hZ lo hi=true):lo<=ND lo hi x/\ND lo hi x<=hi:=by
 simp only[hZ,a0c,a0q]at h;obtain⟨a,b⟩:=yD x (show 1<=hi-lo+1 by omega);unfold ND;split<;>omega
def pH (h:hZ lo hi=true): -999999999999999999<=lo/\lo<=hi/\hi<=999999999999999999:=by
 simp only[hZ,a0c,a0q]at h;omega
def QJ (h:hZ lo hi=true) (b:List Int) {a:Int} (c:0<=a) (d:a<=b.length):(lo<=(Fk lo hi b a).1/\(Fk lo hi b a).1<=hi)/\a<=(Fk lo hi b a).2/\(Fk lo hi b a).2<=b.length:=by
 have e:=pH h;unfold Fk;split
 ·exact⟨⟨by omega,by omega⟩,by simp only;omega,by simp only;omega⟩
 ·have:=NE (x:=b.getD a.toNat 0) h
  exact⟨this,by simp only;omega,by simp only;omega⟩
def NF (j:lh d s):∀(l:List bU) (p K h:List Int),(∀t∈l,ck d t=true)->oR K p->f7 K l=some h->h≠[]->ar (aV s p l).1:=by
 intro l
 induction l with
 |nil=>
  intro p K h a e b c;simp only[f7,a0i]at b;subst b;have f:0<p.length:=by rw[e.len];exact a6c.2 c
  simp only[aV];rw[ay f];exact e.fit _ (a0l _)
 |cons t r ih=>
  intro p K h a e b c;simp only[f7,a1y]at b;obtain⟨m,g,b⟩:=b;have i:=CO j e (a t (by simp)) g;simp only[aV];split
  ·exact ih _ _ _ (λu k=>a u (by simp[k])) (e.push g i.1 i.2) b c
  ·simp[ar]
def qi (c:Int):Prop:=c=0\/c=4\/c=5\/c=6
def kO (p:Int×Int):qi (gO p).2:=by
 unfold gO qi;split<;>simp
def NG (s:aT) (t:bU) (a b:Int):qi (mU s t a b).2:=by
 have z:qi 0:= .inl rfl;unfold mU;split
 ·exact z
 split
 ·unfold lC
  split
  ·split<;>simp[qi]
  split
  ·exact kO _
  ·exact z
 ·unfold i6
  split
  ·exact kO _
  split
  ·exact kO _
  split
  ·exact kO _
  split
  ·split
   ·simp[qi]
   ·exact kO _
  split
  ·split<;>simp[qi]
  split
  ·exact z
  split<;>exact z
def nh (s:aT):∀(l:List bU) (p:List Int),qi (aV s p l).2
 |[],p=> .inl rfl
 |t::r,p=>by
  simp only[aV];split
  ·exact nh s r _
  ·exact NG _ _ _ _
def Bs (b:lh d s) {l:List bU} (a:bI d l≠0):ar (aV s [] l).1:=by
 unfold bI at a
 cases hc:decide (l.length<=40)&& l.all (ck d)with
 |false=>rw[hc]at a;exact absurd rfl a
 |true=>
  rw[hc,a1r]at a;simp only[a0c,a0q,a1g]at hc
  cases hr:f7 [] l with
  |none=>rw[hr]at a;exact absurd rfl a
  |some K'=>
   refine NF b l [] [] K' hc.2 ⟨rfl,by simp,by simp⟩ hr ?_
   rintro rfl
   rw[hr]at a;exact a rfl
def K2 (i:lh d s):∀(l:List bU) (p K:List Int),(∀t∈l,ck d t=true)->oR K p->f7 K l=some [2]->(aV s p l).2=0->zS (aV s p l).1:=by
 intro l
 induction l with
 |nil=>
  intro p K a f b _;simp only[f7,a0i]at b;subst b;simp only[aV];exact f.bit 0 rfl
 |cons t r ih=>
  intro p K a f b c;simp only[f7,a1y]at b;obtain⟨k,e,b⟩:=b;have h:=CO i f (a t (by simp)) e;simp only[aV]at c⊢;split
  ·rename_i g
   rw[a0b g]at c;exact ih _ _ (λu j=>a u (by simp[j])) (f.push e h.1 h.2) b c
  ·rename_i g
   rw[a0e g]at c;exact absurd c g
def NH (b:lh d s) {l:List bU} (a:bI d l=2) (c:(aV s [] l).2=0):zS (aV s [] l).1:=by
 unfold bI at a
 cases h:decide (l.length<=40)&& l.all (ck d)with
 |false=>rw[h]at a;simp at a
 |true=>
  rw[h,a1r]at a;simp only[a0c,a0q,a1g]at h;refine K2 b l [] [] h.2 ⟨rfl,by simp,by simp⟩ ?_ c
  cases hr:f7 [] l with
  |none=>rw[hr]at a;simp[qP]at a
  |some K'=>
   rw[hr]at a
   match K',a with
   |[],a=>simp[qP]at a
   |[x],a=>simp[qP]at a;rw[a]
   |_::_::_,a=>simp[qP]at a
def tM {l:List bU} (a:bI d l≠0):fK l=false:=by
 cases l with
 |nil=>exact absurd rfl a
 |cons t r=>simp[fK];omega
structure u6 (d:aw) (n:aU):Prop where
 kind:1<=n.1/\n.1<=14
 var:n.1=1\/n.1=4\/n.1=13->0<=n.2.1/\n.2.1.toNat<d.1.length
 flag:n.1=2->0<=n.2.1/\n.2.1.toNat<d.2.1.length
 arr:n.1=3->(0<=n.2.1/\n.2.1.toNat<d.2.2.1.length)/\bI d n.2.2.1≠0
 noI:n.1≠3->fK n.2.2.1=true
 ex:bn n.1>0->bI d n.2.2.2.1≠0
 noE:¬bn n.1>0->fK n.2.2.2.1=true
 ends:n.1=4->hZ n.2.2.2.2.1 n.2.2.2.2.2.1=true
 pick:n.1=13->hZ n.2.2.2.2.1 n.2.2.2.2.2.1=true/\n.2.2.2.2.2.1<=n.2.2.2.2.1+3
 cnt:n.1=10->1<=n.2.2.2.2.1/\n.2.2.2.2.1<=3
 bool:n.1=6\/n.1=10->bI d n.2.2.2.1=2
def NI {n:Nat} (h:u2 n v=true):0<=v/\v.toNat<n:=by
 unfold u2 at h;have:=a0z h;omega
def C0 (h:bz d n=true):u6 d n:=by
 obtain⟨b,v,I,E,lo,hi,⟨⟩⟩:=n;unfold bz at h;simp only at h;rcases gW b with rfl|rfl|rfl|rfl|rfl|rfl|rfl|rfl|rfl|rfl|rfl|rfl|rfl|rfl|hk
 case inr.inr.inr.inr.inr.inr.inr.inr.inr.inr.inr.inr.inr.inr=>
  rw[ifNegQ,ifNegQ,ifNegQ,ifNegQ,ifNegQ,ifNegQ,ifNegQ,ifNegQ]at h
  cases h
 all_goals
  simp only[Int.reduceEq,↓reduceIte,a9i,a8e,a8f,a4r,a6t,a0c,a3f,a0q]at h;refine⟨⟨by simp only;omega,by simp only;omega⟩,λa=> ?_,λa=> ?_,λa=> ?_,λa=> ?_,λa=> ?_,λa=> ?_,λa=> ?_,λa=> ?_,λa=> ?_,λa=> ?_⟩
  all_goals first
   |exact absurd a (by simp only;omega)
   |(refine absurd a ?_;simp[bn];done)
   |exact NI h.1
   |exact⟨NI h.1,by simp only;omega⟩
   |exact h.2.1
   |(simp only;omega)
   |exact h.2.2.1
   |exact h.2.2.2
   |exact⟨h.2.2.2.1,h.2.2.2.2⟩
   |exact h.2.2.2.1
   |exact absurd rfl a
def lh.set0 (a:lh d s) (i:Nat) (c:ar x):lh d (s.1.set i x,s.2.1,s.2.2.1,()):=⟨by simpa using a.n0,a.n1,a.n2,λy b=>by
 rcases a1v b with b|rfl
 ·exact a.f0 y b
 ·exact c,a.f2,a.m2⟩
def lh.set1 (a:lh d s) (i:Nat) (x:Bool):lh d (s.1,s.2.1.set i x,s.2.2.1,()):=⟨a.n0,by simpa using a.n1,a.n2,a.f0,a.f2,a.m2⟩
def lh.set2 (a:lh d s) (hi:i<s.2.2.1.length) (j:Nat) (f:ar x):lh d (s.1,s.2.1,s.2.2.1.set i ((s.2.2.1.getD i []).set j x),()):=by
 have e:s.2.2.1.getD i []∈s.2.2.1:=by rw[ay hi];exact a0l _
 refine⟨a.n0,a.n1,by simpa using a.n2,a.f0,λr b=> ?_,λr b=> ?_⟩
 ·rcases a1v b with b|rfl
  ·exact a.f2 r b
  ·intro y c
   rcases a1v c with c|rfl
   ·exact a.f2 _ e y c
   ·exact f
 ·rcases a1v b with b|rfl
  ·exact a.m2 r b
  ·simpa using a.m2 _ e
structure C1 (d:aw) (n:aU) (inp:List Int) (nx cur used:Int) (s:aT) (q:Int×aT×Int×Int):Prop where
 st:lh d q.2.1
 lens:q.2.1.2.2.1.map List.length=s.2.2.1.map List.length
 use:used<=q.2.2.1/\q.2.2.1<=inp.length
 go:q.2.2.2=0->q.1=nx\/q.1=cur+1
 keep:q.2.2.2≠0->q.2.1=s
 stay:q.2.2.2≠0->q.1=cur
 code:q.2.2.2≠1/\q.2.2.2≠2/\(q.2.2.2=7->n.1=11)/\(q.2.2.2=3->n.1=12)
def Iu (o:u6 d n) (e:List Int) (p i:Int) {a:Int} (u:0<=a) (m:a<=e.length) (b:lh d s):C1 d n e p i a s (aQ n e p i a s):=by
 have v:∀c:Int,qi c->c≠0->c≠1/\c≠2/\(c=7->n.1=11)/\(c=3->n.1=12):=λc j h=>by
  rcases j with rfl|rfl|rfl|rfl
  ·exact absurd rfl h
  all_goals exact⟨by omega,by omega,λh=>by omega,λh=>by omega⟩
 have g:∀q:aT,lh d q->q.2.2.1.map List.length=s.2.2.1.map List.length->C1 d n e p i a s (p,q,a,0):=λq r w=>⟨r,w,⟨a1d _,m⟩,λ_=> .inl rfl,λh=>absurd rfl h,λh=>absurd rfl h,by simp only;omega,by simp only;omega,by simp only;omega,by simp only;omega⟩
 have k:∀c:Int,qi c->c≠0->C1 d n e p i a s (i,s,a,c):=λc j h=>⟨b,rfl,⟨a1d _,m⟩,λx=>absurd x h,λ_=>rfl,λ_=>rfl,v c j h⟩
 unfold aQ;split
 ·rename_i t
  obtain⟨⟨A,a1⟩,B⟩:=o.arr t;have y:=o.ex (by rw[t];decide);split
  ·rename_i j;exact k _ (nh s _ _) j
  split
  ·rename_i j;exact k _ (nh s _ _) j
  split
  ·have l:n.2.1.toNat<s.2.2.1.length:=by rw[b.n2];exact a1
   refine g _ (b.set2 l _ (Bs b y)) ?_
   simp only[jI];rw[List.map_set,a3j,ay l,<-a3i (f:=List.length),a4t];simpa using l
  ·exact k 5 (.inr (.inr (.inl rfl))) (by omega)
 split
 ·rename_i j;exact k _ (nh s _ _) j.2
 split
 ·rename_i h
  exact g _ (b.set0 _ (Bs b (o.ex (by rw[h];decide)))) rfl
 split
 ·exact g _ (b.set1 _ _) rfl
 split
 ·rename_i h
  have C:=pH (o.ends h);obtain⟨D,z⟩:=QJ (o.ends h) e u m;exact⟨b.set0 _ (by unfold ar;omega),rfl,z,λ_=> .inl rfl,λh=>absurd rfl h,λh=>absurd rfl h,by simp only;omega,by simp only;omega,by simp only;omega,by simp only;omega⟩
 split
 ·refine⟨b,rfl,⟨a1d _,m⟩,λ_=> ?_,λh=>absurd rfl h,λh=>absurd rfl h,by simp only;omega,by simp only;omega,by simp only;omega,by simp only;omega⟩
  simp only;split
  ·exact .inr rfl
  ·exact .inl rfl
 split
 ·rename_i h
  split
  ·exact⟨b,rfl,⟨a1d _,m⟩,λh=>by simp at h,λ_=>rfl,λ_=>rfl,by simp only;omega,by simp only;omega,λ_=>h,λh=>by simp at h⟩
  ·exact g _ b rfl
 split
 ·rename_i h
  split
  ·exact⟨b,rfl,⟨a1d _,m⟩,λh=>by simp at h,λ_=>rfl,λ_=>rfl,by simp only;omega,by simp only;omega,λh=>by simp at h,λ_=>h⟩
  ·exact g _ b rfl
 ·exact g _ b rfl
def bN (s:aT):Ex->Int×Int
 | .leaf t=>(pT s t,0)
 | .one t a=>if(bN s a).2=0 then lC s t (bN s a).1 else(0,(bN s a).2)
 | .two t a b=>if(bN s a).2=0 then(if(bN s b).2=0 then i6 t.1 (bN s a).1 (bN s b).1 else(0,(bN s b).2))else(0,(bN s a).2)
def yE {t:bU} {a:Ex} (h:(bN s a).2=0):bN s (.one t a)=lC s t (bN s a).1:=by
 conv=>lhs;unfold bN
 rw[a0b h]
def yF {t:bU} {a:Ex} (h:¬(bN s a).2=0):bN s (.one t a)=(0,(bN s a).2):=by
 conv=>lhs;unfold bN
 rw[a0e h]
def yG {t:bU} {a:Ex} (h:(bN s a).2=0) (c:(bN s b).2=0):bN s (.two t a b)=i6 t.1 (bN s a).1 (bN s b).1:=by
 conv=>lhs;unfold bN
 rw[a0b h,a0b c]
def yH {t:bU} {a:Ex} (h:(bN s a).2=0) (c:¬(bN s b).2=0):bN s (.two t a b)=(0,(bN s b).2):=by
 conv=>lhs;unfold bN
 rw[a0b h,a0e c]
def yI {t:bU} {a:Ex} (h:¬(bN s a).2=0):bN s (.two t a b)=(0,(bN s a).2):=by
 conv=>lhs;unfold bN
 rw[a0e h]
def Hl (s:aT):∀(x:Ex),x.Ok d->∀(p:List Int) (r:List bU),aV s p (x.flat++r)=if(bN s x).2=0 then aV s (p++[(bN s x).1]) r else(0,(bN s x).2):=by
 intro x
 induction x with
 |leaf t=>
  intro e p r;have f:nT t.1=0:=e.1;simp only[Ex.flat,a3o,aV,mU,f,a1s,a7l,a2a,bN]
 |one t a ih=>
  intro e p r;have h:nT t.1=1:=e.1;have f:¬nT t.1=0:=by omega
  simp only[Ex.flat,a1q,a3o];rw[ih e.2.2.2];by_cases c:(bN s a).2=0
  ·rw[a0b c,yE c]
   conv=>lhs;unfold aV
   simp only[mU,a0e f,a0b h];rw[h,A3];have i:(p++[(bN s a).1]).take ((p++[(bN s a).1]).length-1)=p:=by simp
   rw[i]
  ·rw[a0e c,yF c,a0e c]
 |two t a b iha ihb=>
  intro e p r;have j:nT t.1=2:=e.1;have f:¬nT t.1=0:=by omega
  have h:¬nT t.1=1:=by omega
  simp only[Ex.flat,a1q,a3o];rw[iha e.2.2.2.2.1];by_cases c:(bN s a).2=0
  ·rw[a0b c,ihb e.2.2.2.2.2]
   by_cases g:(bN s b).2=0
   ·rw[a0b g,yG c g]
    conv=>lhs;unfold aV
    simp only[mU,a0e f,a0e h];rw[j,(mX p _ _ _).1,(mX p _ _ _).2];have i:(p++[(bN s a).1]++[(bN s b).1]).take ((p++[(bN s a).1]++[(bN s b).1]).length-2)=p:=by simp
    rw[i]
   ·rw[a0e g,yH c g,a0e g]
  ·rw[a0e c,yI c,a0e c]
def Hm (s:aT) {x:Ex} (b:x.Ok d):(aV s [] x.flat).2=(bN s x).2/\((bN s x).2=0->(aV s [] x.flat).1=(bN s x).1):=by
 have h:=Hl (d:=d) s x b [] [];rw[a2m]at h;rw[h];by_cases a:(bN s x).2=0
 ·rw[a0b a];exact⟨a.symm,λ_=>rfl⟩
 ·rw[a0e a];exact⟨rfl,λh=>absurd h a⟩
structure yS (e:bh) (s:aT):Prop where
 l:e.1=true
 i:∀j,fP (s.1.getD j 0) (e.2.1.getD j fS)
 a:∀j,∀x∈s.2.2.1.getD j [],fP x (e.2.2.1.getD j fS)
def yS.mono {e c:bh} {s:aT} (h:yS e s) (b:Lr e c):yS c s:=by
 obtain⟨d,hi,f⟩:=b h.l;exact⟨d,λj=>(h.i j).mono (hi.2 j),λj x g=>(h.a j x g).mono (f.2 j)⟩
def u7 (d:aw) (s:aT):Prop:=∀(j:Nat) (h:j<d.2.2.1.length),((s.2.2.1.getD j []).length:Int)=d.2.2.1[j].2.1
def Iv (l:List α) (i j:Nat) (a z:α):(l.set i a).getD j z=if i=j/\j<l.length then a else l.getD j z:=by
 simp only[a5v,List.getElem?_set];by_cases h:i=j
 ·subst h
  by_cases b:i<l.length<;>simp[b]
 ·simp[h]
def yS.put (h:yS e s) (v:Int) (b:e.2.1.length=s.1.length) (c:fP x a):yS (bS e v a) (s.1.set v.toNat x,s.2.1,s.2.2.1,()):=by
 refine⟨h.l,λj=> ?_,h.a⟩;show fP ((s.1.set v.toNat x).getD j 0) ((e.2.1.set v.toNat a).getD j fS);rw[Iv,Iv,b];split
 ·exact c
 ·exact h.i j
def Rr:∀a:Bool,tu (cp [a]) 0=iP a:=by decide
def PX:∀a b:Bool,tu (cp [a,b]) 0=iP a/\tu (cp [a,b]) 1=iP b:=by decide
def NJ:∀a b c:Bool,tu (cp [a,b,c]) 0=iP a/\tu (cp [a,b,c]) 1=iP b/\tu (cp [a,b,c]) 2=iP c:=by decide
def NK:∀(l:List Bool),l.length<=3->∀v:Nat,v<l.length->tu (cp l) (v:Int)=iP (l.getD v false)
 |[],_,v,h=>by simp at h
 |[a],_,v,h=>by
  obtain rfl:v=0:=by simpa using h
  exact Rr a
 |[a,b],_,v,h=>by
  have:v=0\/v=1:=by simp only[a0g,a0h]at h;omega
  rcases this with rfl|rfl
  ·exact(PX a b).1
  ·exact(PX a b).2
 |[a,b,c],_,v,h=>by
  have:v=0\/v=1\/v=2:=by simp only[a0g,a0h]at h;omega
  rcases this with rfl|rfl|rfl
  ·exact(NJ a b c).1
  ·exact(NJ a b c).2.1
  ·exact(NJ a b c).2.2
 |a::b::c::e::r,h,v,_=>by simp only[a0g]at h;omega
def EY (a:aY d=true) (b:lh d s):s.2.1.length<=3:=by
 have:=(ja a).2.1;have:=b.n1;omega
def NL (j:aY d=true) (h:yS e s) (f:lh d s) {t:bU} (k:ck d t=true):fP (pT s t) (fJ e (cp s.2.1) t):=by
 unfold pT fJ;by_cases b:t.1=1
 ·rw[a0b b,a0b b];exact⟨a1d _,a1d _⟩
 rw[a0e b,a0e b];by_cases c:t.1=2
 ·rw[a0b c,a0b c];exact h.i _
 rw[a0e c,a0e c];by_cases a:t.1=3
 ·rw[a0b a,a0b a]
  obtain⟨l,m⟩:=rZ k a;have g:=NK s.2.1 (EY j f) t.2.1.toNat (by rw[f.n1];exact m);rw[Int.toNat_of_nonneg l]at g;rw[g];exact⟨a1d _,a1d _⟩
 ·rw[a0e a,a0e a];exact⟨a1d _,a1d _⟩
def Bt {p:Int×Int} {v:gN} (al:Int) (h:tJ p v):tJ p (dw al v):=by
 refine⟨λa=> ?_,λa=> ?_⟩
 ·obtain⟨b,c⟩:=h.1 a
  rw[mW b];exact⟨rfl,c⟩
 ·rw[pG];exact(h.2 a).trans (cj.right _ _)
def Po (u:aY d=true) (h:yS e s) (v:u7 d s) {t:bU} (w:ck d t=true) (z:nT t.1=1) (l:bj a=true) (m:t.1=19->jN a) (o:fP x a):tJ (lC s t x) (Ig d e t a):=by
 have C:=o.1;have D:=o.2;unfold Ig lC;by_cases b:t.1=6
 ·rw[a0b b,a0b b]
  obtain⟨E,p⟩:=qQ w b;rw[a0a p];have c:=Ir u _ (a0l p);have A:=v t.2.1.toNat p;have f:jI s t.2.1=s.2.2.1.getD t.2.1.toNat []:=rfl;rw[<-f]at A;simp only;by_cases r:0<=x/\x<=((jI s t.2.1).length:Int)-1
  ·rw[a0b r,cT ((ET c l).2 (by omega))]
   have i:x.toNat<(jI s t.2.1).length:=by omega
   refine⟨λ_=>⟨rfl,?_⟩,λj=>absurd rfl j⟩;show fP ((jI s t.2.1).getD x.toNat 0) (e.2.2.1.getD t.2.1.toNat fS);rw[ay i];exact h.a _ _ (a0l i)
  ·rw[a0e r]
   refine⟨λj=>(by cases j),λ_=> ?_⟩;have B:iB d.2.2.1[t.2.1.toNat] a=2:=by rw[yy c l,ifNegQ]
   rw[B];show cj 2 _
   cases fR d.2.2.1[t.2.1.toNat] a<;>exact cj.refl _
 rw[a0e b,a0e b];by_cases k:t.1=7
 ·rw[a0b k,a0b k]
  exact vK (g:=λx y=>x-y) (λ_ _=>rfl) In rfl l ⟨a1d _,a1d _⟩ o
 ·rw[a0e k,a0e k]
  have q:t.1=19:=by rcases Rg z with h|h|h<;>omega
  obtain⟨F,G⟩:=m q;rw[ak (n:=1-a.2.1) (by omega) (by omega),ak (n:=1-a.1) (by omega) (by omega),ak (n:=1-x) (by omega) (by omega)];exact⟨λ_=>⟨rfl,by show 1-a.2.1<=1-x;omega,by show 1-x<=1-a.1;omega⟩,λj=>absurd rfl j⟩
def sw {d:aw} (g:aY d=true) {e:bh} {s:aT} (f:yt d e) (h:yS e s) (o:lh d s) (p:u7 d s):∀ {x:Ex},x.Ok d->tJ (bN s x) (aB d e (cp s.2.1) x)
 | .leaf t,hx=>⟨λ_=>⟨rfl,NL g h o hx.2⟩,λc=>absurd rfl c⟩
 | .one t a,hx=>by
  have ih:=sw g f h o p hx.2.2.2;by_cases c:(bN s a).2=0
  ·obtain⟨l,hi⟩:=ih.1 c
   have v:=gc f (cp s.2.1) hx.2.2.2;rw[yE c,l7 l];exact Bt _ (Po g h p hx.2.1 hx.1 (v.1 l) (λq=>v.2 (by rw[hx.2.2.1,q];rfl) l) hi)
  ·rw[yF c]
   exact⟨λi=>absurd i c,λ_=>(ih.2 c).trans QF⟩
 | .two t a b,hx=>by
  have j:=sw g f h o p hx.2.2.2.2.1;have k:=sw g f h o p hx.2.2.2.2.2;by_cases c:(bN s a).2=0
  ·obtain⟨l,hi⟩:=j.1 c
   by_cases n:(bN s b).2=0
   ·obtain⟨m,r⟩:=k.1 n
    rw[yG c n,ka l m];exact Bt _ (Ny hx.1 (jz hx.2.1) (cO f.ok _ hx.2.2.2.2.2).1 ((gc f _ hx.2.2.2.2.1).1 l) ((gc f _ hx.2.2.2.2.2).1 m) hi r)
   ·rw[yH c n]
    exact⟨λi=>absurd i n,λ_=>((k.2 n).trans (cj.right _ _)).trans (Pk l)⟩
  ·rw[yI c]
   exact⟨λi=>absurd i c,λ_=>(j.2 c).trans QG⟩
abbrev Rs:=dM×dM×List kF×Int×Int×List bU×List bU×Int×Int×Int×dM×dM×List kF×List aG×dM×dM×List kF×List aG×Int×Unit
def fT (d:aw) (n:aU) (a:Int) (s:List aG×List aG) (al:Int):Rs:=(d.1,d.2.1,d.2.2.1,n.1,n.2.1,n.2.2.1,n.2.2.2.1,n.2.2.2.2.1,n.2.2.2.2.2.1,a,d.1,d.2.1,d.2.2.1,s.1,d.1,d.2.1,d.2.2.1,s.2,al,())
def cU (h:e.1=false):zY d l t leaf e=l:=by unfold zY;rw[cF h]
def cz (h:e.1=true):zY d l t leaf e=jA none l (t,dh d leaf e,()):=by unfold zY;rw[cT h]
def gv (h:c=true) (x y:Option α):br k (!c) x y=y:=by rw[h,a0t,ah]
def jB (h:c=false) (x y:Option α):br k (!c) x y=x:=by rw[h,a0y,ai]
def QL (a:aY d=true):0<=(2:Int)^d.2.1.length/\(2:Int)^d.2.1.length<=(2:Int)^d.2.1.length/\(2:Int)^d.2.1.length*56<=af/\((2:Int)^d.2.1.length).toNat=2^d.2.1.length:=by
 have b:=(ja a).2.1;have:d.2.1.length=0\/d.2.1.length=1\/d.2.1.length=2\/d.2.1.length=3:=by omega
 rcases this with h|h|h|h<;>rw[h]<;>decide
def mj (i:4194304<k) (f:aY d=true) {L:List aG} (j:eW d L) (v:L.length<=90000) (l:bq t=true) (a:d5 d leaf) (m:bi d e) (F:(List aG×Unit)×fm->Option α):(bd k (p8 k ((d.1,d.2.1,d.2.2.1,()),())) λb=>
 br k (decide (0<=b.1.1/\b.1.1<=b.1.1/\b.1.1*56<=af))
 (br k (decide (0<=leaf/\leaf<((List.replicate b.1.1.toNat (Kd.z dW)).length:Int)))
 (bd k ((List.replicate b.1.1.toNat (Kd.z dW))[leaf.toNat]?) λw=>
 bd k (oM k (L,([(t,(List.replicate b.1.1.toNat (Kd.z dW)).set leaf.toNat e,())]:List cw),(()),())) F)
 none)
 none)=F ((jA none L (t,dh d leaf e,()),()),((),(),(),())):=by
 have n:=(ja f).2.1;obtain⟨o,p,q,r⟩:=QL f;have g:=Ba k d n;have c:p8 k ((d.1,d.2.1,d.2.2.1,()),())=some (((2:Int)^d.2.1.length,()),((),())):=g;have h:leaf.toNat<2^d.2.1.length:=by have:=a.1;have:=a.2;omega
 have s:oM k (L,[(t,dh d leaf e,())],(),())=some ((qY none L [(t,dh d leaf e,())],()),((),(),(),())):=zW i f j (λx u=>by rw[a0v.1 u];exact⟨l,ll m⟩) (by simp;omega)
 rw[c,aa,a0f ⟨o,p,q⟩,ai];simp only[r];rw[a0f (show 0<=leaf/\leaf<((List.replicate (2^d.2.1.length) (Kd.z dW)).length:Int) by rw[a1o];have:=a.1;omega),ai,a0a (by rw[a1o];exact h),aa];refine Eq.trans (a1x (λz=>bd k z F) s) ?_
 rw[aa];rfl
def ni (b:4194304<k) (c:Kn d e) (leaf:Int) {x:Ex} (f:x.Ok d) (g:x.size<=40) (n:aU) (a:Int) (s:List aG×List aG) (al:Int):zJ k (fT d n a s al,iI d e leaf,x.flat,())=some ((aB d e leaf x,()),(fT d n a s (en al (ce (aB d e leaf x))),(),(),())):=by
 simp only[zJ,fT,iI,mY b c leaf f g,aa];rfl
def nj (f:4194304<k) (g:aY d=true) (h:bi d e) (i:e.1=true) (leaf:Int) {x:Ex} (j:x.Ok d) (c:x.kind=2) (l:x.size<=40) (a:Bool) (m:n.2.2.2.1=x.flat) (b:Int) (s:List aG×List aG) (al:Int):AL k (fT d n b s al,iI d e leaf,a,())=some ((dZ d leaf x a e,()),(fT d n b s (en al (ce (aB d e leaf x))),(),(),())):=by
 simp only[AL,fT,iI,m,Na f g leaf j c l a h i,aa];rfl
def Pp (u:4194304<k) (l:aY d=true) (h:bz d n=true) (G:n.1=2) (a:Int) (v:bq t=true) (y:d5 d leaf) (w:bi d e) (H:e.1=true) {s:List aG×List aG} (z:lm d s) (V:s.1.length+s.2.length<=80000) (al:Int):J1 k (fT d n a s al,t,iI d e leaf,())=some ((),(fT d n a ((de d n a t leaf e).foldl (da d) s) (en al (cQ d n leaf e)),(),(),())):=by
 obtain⟨I,L⟩:=PV h G;obtain⟨x,M,N,O⟩:=dx (show bI d n.2.2.2.1≠0 by omega);have A:(dO d n.2.2.2.1).kind=2:=by rw[<-N];exact L
 obtain⟨l1,l2⟩:=Bj l I y;obtain⟨P,hi,W⟩:=bK w H;have Q:=(cO P leaf x).2;have J:=λm B R S=>nj u l w H leaf x A O m M a (R,S) B
 have T:de d n a t leaf e=[(false,t,q5 leaf n.2.1,dZ d leaf (dO d n.2.2.2.1) true e),(false,t,sk leaf n.2.1,dZ d leaf (dO d n.2.2.2.1) false e)]:=by
  unfold de;rw[ifNegQ,a0b G]
 have U:cQ d n leaf e=ce (aB d e leaf (dO d n.2.2.2.1)):=by
  unfold cQ;rw[ifNegQ,ifNegQ,ifNegQ]
 have C:=eO leaf x true w;have D:=eO leaf x false w;rw[T,U];simp only[a2o,a4c,da,a2p];have c:en (en al (ce (aB d e leaf (dO d n.2.2.2.1)))) (ce (aB d e leaf (dO d n.2.2.2.1)))=en al (ce (aB d e leaf (dO d n.2.2.2.1))):=by
  rw[ep,r9 Q]
 obtain⟨o,p⟩:∃g,g=dZ d leaf (dO d n.2.2.2.1) true e:=⟨_,rfl⟩;obtain⟨i,q⟩:∃g,g=dZ d leaf (dO d n.2.2.2.1) false e:=⟨_,rfl⟩;rw[<-p]at C⊢;rw[<-q]at D⊢;have j:=J true;have f:=J false;rw[<-p]at j;rw[<-q]at f;simp only[fT,iI]at j f⊢;simp only[J1,j,aa,a0f I.1,ai];have E:d5 d (wrap .i64 (((BitVec.ofInt 64 leaf|||BitVec.ofInt 64 (wrap .i64 (1*2^(min n.2.1.toNat 64)))).toNat:Int))):=l1;have r:d5 d (wrap .i64 (((BitVec.ofInt 64 leaf&&& ~~~BitVec.ofInt 64 (wrap .i64 (1*2^(min n.2.1.toNat 64)))).toNat:Int))):=l2;rcases a0r o.1 with hlt|hlt
 ·rw[gv hlt,mj u l z.b (by omega) v E (show bi d (o.1,o.2.1,o.2.2.1,())from C)]
  simp only[f,aa];have K:=tH z.b v (q5 leaf n.2.1) C;have F:=yp d s.2 t (q5 leaf n.2.1) o;rw[cz hlt]at K F⊢;rcases a0r i.1 with hlf2|hlf2
  ·rw[cz hlf2,gv hlf2]
   refine(mj u l K (by omega) v r (show bi d (i.1,i.2.1,i.2.2.1,())from D) _).trans ?_
   simp only[c];rfl
  ·rw[cU hlf2,jB hlf2]
   simp only[c];rfl
 ·rw[cU hlt,jB hlt]
  simp only[f,aa];rcases a0r i.1 with hlf2|hlf2
  ·rw[cz hlf2,gv hlf2,mj u l z.b (by omega) v r (show bi d (i.1,i.2.1,i.2.2.1,())from D)]
   simp only[c];rfl
  ·rw[cU hlf2,jB hlf2]
   simp only[c]
def K3 (l:4194304<k) (v:aY d=true) (h:bz d n=true) (h5:n.1=5\/n.1=6\/n.1=9\/n.1=10) (c:Int) (K:bq t=true) (i:d5 d leaf) (I:bi d e) (Q:e.1=true) {s:List aG×List aG} (w:lm d s) (hn:s.1.length+s.2.length<=80000) (al:Int):Ep k (fT d n c s al,t,iI d e leaf,())=some ((),(fT d n c ((de d n c t leaf e).foldl (da d) s) (en al (cQ d n leaf e)),(),(),())):=by
 have T:=EU h;obtain⟨J,U,V,W⟩:=dx (show bI d n.2.2.2.1≠0 by omega);have L:(dO d n.2.2.2.1).kind=2:=by rw[<-V];exact T
 obtain⟨X,hi,hr⟩:=bK I Q;have Y:=(cO X leaf J).2;have R:=λC M Z jp=>nj l v I Q leaf J L W C U c (Z,jp) M
 have em:de d n c t leaf e=[(true,lD n c t,leaf,dZ d leaf (dO d n.2.2.2.1) true e),(false,qh n c t,leaf,dZ d leaf (dO d n.2.2.2.1) false e)]:=by
  unfold de;rw[ifNegQ,ifNegQ,ifNegQ,ifNegQ,ifNegQ,ifNegQ,ifNegQ,ifNegQ]
 have la:cQ d n leaf e=ce (aB d e leaf (dO d n.2.2.2.1)):=by
  unfold cQ;rw[ifNegQ,ifNegQ,ifNegQ]
 have S:=eO leaf J true I;have N:=eO leaf J false I;have ty:=Bq n c K;have x:=EV n c K;rw[em,la];simp only[a2o,a4c,da,a2p,a1r];have f:en (en al (ce (aB d e leaf (dO d n.2.2.2.1)))) (ce (aB d e leaf (dO d n.2.2.2.1)))=en al (ce (aB d e leaf (dO d n.2.2.2.1))):=by
  rw[ep,r9 Y]
 obtain⟨B,D⟩:∃g,g=dZ d leaf (dO d n.2.2.2.1) true e:=⟨_,rfl⟩;obtain⟨y,E⟩:∃g,g=dZ d leaf (dO d n.2.2.2.1) false e:=⟨_,rfl⟩;rw[<-D]at S⊢;rw[<-E]at N⊢;have m:=R true;have j:=R false;rw[<-D]at m;rw[<-E]at j;have O:=vJ K;have F:=oZ (k:=k) l t c;have G:=zX (k:=k) (by omega) O c;simp only[fT,iI]at m j⊢;have A:bi d (B.1,B.2.1,B.2.2.1,()):=S;have o:bi d (y.1,y.2.1,y.2.2.1,()):=N;by_cases z:n.1=6
 ·have p:lD n c t=qZ t c 1:=by unfold lD;rw[a0b z]
  have q:qh n c t=qZ t c 0:=by unfold qh;rw[a0b z]
  have H:(n.1==6)=true:=by simp[z]
  simp only[Ep,H,ai,F,aa,m];rw[p]at ty⊢;rw[q]at x⊢;rcases a0r B.1 with hlt|hlt
  ·rw[gv hlt,mj l v w.a (by omega) ty i A]
   simp only[j,aa];rw[cz hlt];rcases a0r y.1 with hlf2|hlf2
   ·rw[cz hlf2,gv hlf2]
    refine(mj l v w.b (by omega) x i N _).trans ?_
    simp only[f]<;>rfl
   ·rw[cU hlf2,jB hlf2]
    simp only[f]<;>rfl
  ·rw[cU hlt,jB hlt]
   simp only[j,aa];rcases a0r y.1 with hlf2|hlf2
   ·rw[cz hlf2,gv hlf2]
    refine(mj l v w.b (by omega) x i o _).trans ?_
    simp only[f]<;>rfl
   ·rw[cU hlf2,jB hlf2]
    simp only[f]<;>rfl
 by_cases r:n.1=10/\kM t c<n.2.2.2.2.1
 ·have p:lD n c t=qZ t c 1:=by unfold lD;rw[a0e z,a0b r]
  have q:qh n c t=t:=by unfold qh;rw[a0e z]
  have H:(n.1==6)=false:=by simpa using z
  have u:(n.1==10)=true:=by simp[r.1]
  simp only[Ep,H,u,ai,ah,G,F,aa,a0f r.2,a0d,m];rw[p]at ty⊢;rw[q]at x⊢;rcases a0r B.1 with hlt|hlt
  ·rw[gv hlt,mj l v w.a (by omega) ty i A]
   simp only[j,aa];rw[cz hlt];rcases a0r y.1 with hlf2|hlf2
   ·rw[cz hlf2,gv hlf2]
    refine(mj l v w.b (by omega) x i o _).trans ?_
    simp only[f]<;>rfl
   ·rw[cU hlf2,jB hlf2]
    simp only[f]<;>rfl
  ·rw[cU hlt,jB hlt]
   simp only[j,aa];rcases a0r y.1 with hlf2|hlf2
   ·rw[cz hlf2,gv hlf2]
    refine(mj l v w.b (by omega) x i o _).trans ?_
    simp only[f]<;>rfl
   ·rw[cU hlf2,jB hlf2]
    simp only[f]<;>rfl
 ·have p:lD n c t=t:=by unfold lD;rw[a0e z,a0e r]
  have q:qh n c t=t:=by unfold qh;rw[a0e z]
  have H:(n.1==6)=false:=by simpa using z
  have hj:(br k (n.1==10) (some (decide (kM t c<n.2.2.2.2.1),())) (some (false,())):Option (Bool×Unit))=some (false,()):=by
   by_cases P:n.1=10
   ·have u:(n.1==10)=true:=by simp[P]
    rw[u,ai,a0n (λh2=>r ⟨P,h2⟩)]
   ·have u:(n.1==10)=false:=by simpa using P
    rw[u,ah]
  simp only[Ep,H,ah,G,aa,hj,a0d,m];rw[p]at ty⊢;rw[q]at x⊢;rcases a0r B.1 with hlt|hlt
  ·rw[gv hlt,mj l v w.a (by omega) ty i A]
   simp only[j,aa];rw[cz hlt];rcases a0r y.1 with hlf2|hlf2
   ·rw[cz hlf2,gv hlf2]
    refine(mj l v w.b (by omega) x i o _).trans ?_
    simp only[f]<;>rfl
   ·rw[cU hlf2,jB hlf2]
    simp only[f]<;>rfl
  ·rw[cU hlt,jB hlt]
   simp only[j,aa];rcases a0r y.1 with hlf2|hlf2
   ·rw[cz hlf2,gv hlf2]
    refine(mj l v w.b (by omega) x i o _).trans ?_
    simp only[f]<;>rfl
   ·rw[cU hlf2,jB hlf2]
    simp only[f]<;>rfl
def NM (a:aY d=true) {v:Nat} (b:v<d.2.2.1.length):1<=d.2.2.1[v].2.1/\d.2.2.1[v].2.1<=16:=by
 simp only[aY,a0c,a0q]at a;have h:=a.2.1;unfold qL at h;simp only[a2b,a5t,a5g,a6m,a0q]at h;exact a0z (by simpa using h _ (a0l b))
def Hn {b:bA} (c:bj a=true) (d:bj b=true):mR a b=jH a b:=by
 unfold mR co;rw[c,d];rfl
def EZ (k:Nat) (n:aY d=true) (o:bi d e) (r:e.1=true) (p:0<=v/\v<(d.2.2.1.length:Int)) (b:bA) (s:bj a=true):GI k (d,e,v,b,a,())=some ((Hg d e v b a,yq d v b,()),((),(),(),(),(),())):=by
 obtain⟨t,hi,u⟩:=bK o r;have f:v.toNat<d.2.2.1.length:=by omega
 have c:v.toNat<e.2.2.1.length:=by rw[t.arrs];exact f
 have i:d.2.2.1[v.toNat]?=some d.2.2.1[v.toNat]:=a0a f;have w:=NM n f;have j:=A0 k d p.1 i b;have g:Cv k (d,v,b,())=some ((iB d.2.2.1[v.toNat] b,fR d.2.2.1[v.toNat] b,()),((),(),(),())):=j;have h:e.2.2.1[v.toNat]?=some (e.2.2.1.getD v.toNat fS):=by rw[ay c];exact a0a c
 have l:bj (e.2.2.1.getD v.toNat fS)=true:=by rw[ay c];exact u _ (a0l c)
 have x:Hg d e v b a=cond (fR d.2.2.1[v.toNat] b) (e.1,e.2.1,e.2.2.1.set v.toNat (if d.2.2.1[v.toNat].2.1=1 then a else jH (e.2.2.1.getD v.toNat fS) a),()) bC:=by unfold Hg;rw[i]
 have y:yq d v b=iB d.2.2.1[v.toNat] b:=by unfold yq;rw[i]
 have m:0<=v/\v<(e.2.2.1.length:Int):=by omega
 rw[x,y];simp only[GI,g,aa,qS k e (dY n o).1,a0f p.1,ai,i,a0f m,h,uG,Hn l s]
 cases fR d.2.2.1[v.toNat] b
 ·simp only[a0y,ai,a2p,bC]
 ·simp only[a0t,ah,a1r]
  by_cases q:d.2.2.1[v.toNat].2.1=1
  ·rw[a0b q,a0n (by omega),ah]
  ·rw[a0e q,a0f (by omega),ai]
def yJ (d:aw) (n:aU) (leaf:Int) (e:bh):bh:=cond (aC (aB d e leaf (dO d n.2.2.1))&& aC (aB d e leaf (dO d n.2.2.2.1))) (Hg d e n.2.1 (bR (aB d e leaf (dO d n.2.2.1))) (bR (aB d e leaf (dO d n.2.2.2.1)))) bC
def NN (l:4194304<k) (t:aY d=true) (h:bz d n=true) (m:n.1=3) (a:Int) (c:bi d e) (f:e.1=true) (s:List aG×List aG) (al:Int):J2 k (fT d n a s al,iI d e leaf,())=some ((yJ d n leaf e,()),(fT d n a s (en al (cQ d n leaf e)),(),())):=by
 obtain⟨u,v,E⟩:=Nz h m;obtain⟨o,w,F,x⟩:=dx (show bI d n.2.2.2.1≠0 by omega);obtain⟨y,z,G,A⟩:=dx (show bI d n.2.2.1≠0 by omega);obtain⟨p,hi,H⟩:=bK c f;have B:=ng c f;have C:cQ d n leaf e=cond (aC (aB d e leaf (dO d n.2.2.1)))
  (cond (aC (aB d e leaf (dO d n.2.2.2.1))) (en (en (ce (aB d e leaf (dO d n.2.2.1))) (ce (aB d e leaf (dO d n.2.2.2.1)))) (yq d n.2.1 (bR (aB d e leaf (dO d n.2.2.1))))) (en (ce (aB d e leaf (dO d n.2.2.1))) (ce (aB d e leaf (dO d n.2.2.2.1)))))
  (ce (aB d e leaf (dO d n.2.2.1))):=by
  unfold cQ;rw[ifNegQ,a0b m]
 have g:=λb=>ni l p leaf y A n a s b
 have i:=λb=>ni l p leaf o x n a s b
 rw[<-z]at g;rw[<-w]at i;rw[C];unfold yJ;simp only[fT,iI]at g i⊢;simp only[J2,g,aa];have q:(aB d e leaf (dO d n.2.2.1)).2.2.1=aC (aB d e leaf (dO d n.2.2.1)):=rfl;have r:(aB d e leaf (dO d n.2.2.2.1)).2.2.1=aC (aB d e leaf (dO d n.2.2.2.1)):=rfl;rcases a0r (aC (aB d e leaf (dO d n.2.2.1)))with h1|h1
 ·rw[q,gv h1]
  simp only[i,aa];rcases a0r (aC (aB d e leaf (dO d n.2.2.2.1)))with h2|h2
  ·rw[r,gv h2,cT (show(aC (aB d e leaf (dO d n.2.2.1))&& aC (aB d e leaf (dO d n.2.2.2.1)))=true by rw[h1,h2];rfl),cT h1,cT h2]
   have D:=EZ k t c f u (bR (aB d e leaf (dO d n.2.2.1))) ((gc B leaf o).1 h2);have j:GI k ((d.1,d.2.1,d.2.2.1,()),(e.1,e.2.1,e.2.2.1,()),n.2.1,((aB d e leaf (dO d n.2.2.1)).1,(aB d e leaf (dO d n.2.2.1)).2.1,()),((aB d e leaf (dO d n.2.2.2.1)).1,(aB d e leaf (dO d n.2.2.2.1)).2.1,()),())=_:=D;simp only[j,aa];rw[<-ep,<-ep];rfl
  ·rw[r,jB h2,cF (show(aC (aB d e leaf (dO d n.2.2.1))&& aC (aB d e leaf (dO d n.2.2.2.1)))=false by rw[h1,h2];rfl),cT h1,cF h2,<-ep]
   rfl
 ·rw[q,jB h1,cF (show(aC (aB d e leaf (dO d n.2.2.1))&& aC (aB d e leaf (dO d n.2.2.2.1)))=false by rw[h1];rfl),cF h1]
  rfl
def Ho (f:Nat->mg) (s:List aG×List aG) (i:Nat):((List.range (i+1)).map f).foldl (da d) s=da d (((List.range i).map f).foldl (da d) s) (f i):=by
 rw[a9b,a3d,a4a];rfl
def NO (k:Nat) (h:bz d n=true) (a:n.1=13) (hi:(i:Int)<=n.2.2.2.2.2.1-n.2.2.2.2.1):MA k (n,n.2.2.2.2.1+(i:Int),())=some (((i:Int),()),((),(),())):=by
 obtain⟨⟨b,c⟩,e,f,g,j⟩:=yA h a;simp only[MA,cI,aa];rw[a0f (show n.2.2.2.2.1<=n.2.2.2.2.1+(i:Int)/\n.2.2.2.2.1+(i:Int)<=n.2.2.2.2.2.1 by omega),a0t,ah,ak (by omega) (by omega)];rw[show n.2.2.2.2.1+(i:Int)-n.2.2.2.2.1=(i:Int) by omega]
def NP (T:4194304<k) (J:aY d=true) (h:bz d n=true) (u:n.1=13) (c:Int) (t:List bD) (A:d5 d leaf) (B:bi d e) (x:e.1=true) {s:List aG×List aG} (hs:lm d s) (hn:s.1.length+s.2.length<=80000) (V:ar al):zL k (fT d n c s al,t,iI d e leaf,())=some ((),(fT d n c ((de d n c t leaf e).foldl (da d) s) (en al (cQ d n leaf e)),(),(),())):=by
 obtain⟨⟨v0,v1⟩,b0,b1,b2,b3⟩:=yA h u;obtain⟨hE,hi,hr⟩:=bK B x;have W:=(dY J B).1;have em:de d n c t leaf e=kc n c t leaf e:=by
  unfold de;rw[ifNegQ,ifNegQ,ifNegQ,ifNegQ,a0b u]
 have la:cQ d n leaf e=0:=by unfold cQ;rw[ifPosQ]
 have q:=yB h u c (t:=t) A B x;rw[em,la,pB V];have U:n.2.1.toNat<e.2.1.length:=by rw[hE.ints];omega
 have y:e.2.1[n.2.1.toNat]?=some (e.2.1.getD n.2.1.toNat fS):=by rw[ay U];exact a0a U
 obtain⟨g,p⟩:∃o,o=e.2.1.getD n.2.1.toNat fS:=⟨_,rfl⟩;have K:0<=n.2.1/\n.2.1<(e.2.1.length:Int):=by omega
 have z:=λa=>qT k W K a
 obtain⟨m,hm⟩:∃m:Nat,(m:Int)=n.2.2.2.2.2.1-n.2.2.2.2.1+1:=⟨(n.2.2.2.2.2.1-n.2.2.2.2.1+1).toNat,by omega⟩;have X:(n.2.2.2.2.2.1-n.2.2.2.2.1+1).toNat=m:=by omega
 unfold kc at q⊢;rw[X]at q⊢;rw[a4a,a2o,a4c];have sg:∀i,i<=m->lm d (((List.range i).map (f9 n c t leaf e)).foldl (da d) s)/\(((List.range i).map (f9 n c t leaf e)).foldl (da d) s).1.length+(((List.range i).map (f9 n c t leaf e)).foldl (da d) s).2.length<=80000+i:=by
  intro i Y;refine⟨pF hs λa ha=> ?_,?_⟩
  ·obtain⟨j,hj,rfl⟩:=a2y.1 ha
   exact q _ (a0k.2 (Or.inl (a2y.2 ⟨j,a2i.2 (by have:=a2i.1 hj;omega),rfl⟩)))
  ·have:=o4 d ((List.range i).map (f9 n c t leaf e)) s
   simp only[a2u,a6r]at this;omega
 unfold fT iI;simp only[zL,a0f v0,ai,y,aa];rw[<-p]at y⊢;have C:n.2.2.2.2.1=n.2.2.2.2.1+((0:Nat):Int):=by omega
 refine Eq.trans (?_:_=aP (zL.l0 k) k ((λi:Nat=>(fT d n c (((List.range i).map (f9 n c t leaf e)).foldl (da d) s) al,t,iI d e leaf,g,n.2.2.2.2.1+(i:Int),())) 0)) (ca (b:=zL.l0 k) (λi:Nat=>(fT d n c (((List.range i).map (f9 n c t leaf e)).foldl (da d) s) al,t,iI d e leaf,g,n.2.2.2.2.1+(i:Int),())) m (λG i Y=> ?_) (λG=> ?_) (by omega))
 ·simp only[fT,iI]
  rw[<-C];rfl
 ·obtain⟨Z,S0⟩:=sg i (by omega)
  have S1:=NO k h u (i:=i) (by omega);have L:MA k ((n.1,n.2.1,n.2.2.1,n.2.2.2.1,n.2.2.2.2.1,n.2.2.2.2.2.1,()),n.2.2.2.2.1+(i:Int),())=_:=S1;have l:∀a,H7 k ((e.1,e.2.1,e.2.2.1,()),n.2.1,a,())=_:=z;rw[Ho];have M:f9 n c t leaf e i=(false,qZ t c (i:Int),leaf,cond (iO g (n.2.2.2.2.1+(i:Int))) (bS e n.2.1 (n.2.2.2.2.1+(i:Int),n.2.2.2.2.1+(i:Int),())) bC):=by unfold f9;rw[<-p]
  rw[M];have N:wrap .i64 (n.2.2.2.2.1+(i:Int)+1)=n.2.2.2.2.1+((i+1:Nat):Int):=by rw[ak (by omega) (by omega)];omega
  simp only[fT,iI];simp only[zL.l0];rw[a0f (show n.2.2.2.2.1+(i:Int)<=n.2.2.2.2.2.1 by omega),ai,N];have hiv:Ej k ((g.1,g.2.1,()),n.2.2.2.2.1+(i:Int),())=some ((iO g (n.2.2.2.2.1+(i:Int)),()),((),(),())):=mS k g _;have eg:bi d (bS e n.2.1 (n.2.2.2.2.1+(i:Int),n.2.2.2.2.1+(i:Int),())):=gu B x _ ⟨by unfold ar;simp only;omega,by unfold ar;simp only;omega⟩ (a0f (a1d _));simp only[hiv,aa,L,oZ T,jy,l];unfold da;rcases a0r (iO g (n.2.2.2.2.1+(i:Int)))with hc|hc
  ·rw[hc,ai,cT rfl,cF rfl,cz (show(bS e n.2.1 (n.2.2.2.2.1+(i:Int),n.2.2.2.2.1+(i:Int),())).1=true from x),gv (show(bS e n.2.1 (n.2.2.2.2.1+(i:Int),n.2.2.2.2.1+(i:Int),())).1=true from x)]
   refine(mj T J Z.b (by omega) (nf t c (i:Int)) A eg _).trans ?_
   rfl
  ·rw[hc,ah,cF rfl,cF rfl,cU rfl]
 ·obtain⟨S2,S0⟩:=sg m (a1n _)
  have O:=Bp h u B x;have w1:wrap .i64 (n.2.2.2.2.1-1)=n.2.2.2.2.1-1:=ak (by omega) (by omega);have w2:wrap .i64 (n.2.2.2.2.2.1+1)=n.2.2.2.2.2.1+1:=ak (by omega) (by omega);have w3:wrap .i64 (n.2.2.2.2.2.1-n.2.2.2.2.1)=n.2.2.2.2.2.1-n.2.2.2.2.1:=ak (by omega) (by omega);have w4:wrap .i64 (n.2.2.2.2.2.1-n.2.2.2.2.1+1)=n.2.2.2.2.2.1-n.2.2.2.2.1+1:=ak (by omega) (by omega);have w5:wrap .i64 (0+1)=1:=ak (by omega) (by omega);have w6:wrap .i64 (1+1)=2:=ak (by omega) (by omega);have fi:bw g:=by rw[p,ay U];exact hE.fi _ (a0l U)
  have hB:jb n e=dG g (-9223372036854775808,n.2.2.2.2.1-1,()):=by unfold jb;rw[p]
  have hA:jc n e=dG g (n.2.2.2.2.2.1+1,9223372036854775807,()):=by unfold jc;rw[p]
  have P:bi d (cond (jb n e).2.1 (bS e n.2.1 (jb n e).1) bC):=jd λhc=>gu B x _ (by rw[hB];exact lY fi ⟨by unfold ar;simp only;omega,by unfold ar;simp only;omega⟩) (se hc)
  have gA:bi d (cond (jc n e).2.1 (bS e n.2.1 (jc n e).1) bC):=jd λhc=>gu B x _ (by rw[hA];exact lY fi ⟨by unfold ar;simp only;omega,by unfold ar;simp only;omega⟩) (se hc)
  have l:∀a,H7 k ((e.1,e.2.1,e.2.2.1,()),n.2.1,a,())=_:=z;obtain⟨v,D⟩:∃r,r=cond (jb n e).2.1 (bS e n.2.1 (jb n e).1) bC:=⟨_,rfl⟩;obtain⟨E,Q⟩:∃r,r=Bi n e:=⟨_,rfl⟩;have F:∀G,zL.l2 k G (fT d n c (((List.range m).map (f9 n c t leaf e)).foldl (da d) s) al,t,iI d e leaf,g,bC,([((-9223372036854775808),n.2.2.2.2.1-1,()),(n.2.2.2.2.2.1+1,9223372036854775807,())]:List bA),2,0,())=G (fT d n c (((List.range m).map (f9 n c t leaf e)).foldl (da d) s) al,t,iI d e leaf,g,v,([((-9223372036854775808),n.2.2.2.2.1-1,()),(n.2.2.2.2.2.1+1,9223372036854775807,())]:List bA),2,1,()):=by
   intro G;have H:AH k ((g.1,g.2.1,()),((-9223372036854775808:Int),n.2.2.2.2.1-1,()),())=some (jb n e,((),(),())):=by rw[hB];exact jw k g _
   simp only[fT,iI,bC];simp only[zL.l2];rw[a0f (show(0:Int)<2 by omega),a0f (show(0:Int)<=0/\(0:Int)<(([((-9223372036854775808),n.2.2.2.2.1-1,()),(n.2.2.2.2.2.1+1,9223372036854775807,())]:List bA).length:Int) by simp)];simp only[ai,a4b,a1p,aa,H,l,w5];rw[D];rcases a0r (jb n e).2.1 with hc|hc
   ·have gs:bi d (bS e n.2.1 (jb n e).1):=by rw[hc]at P;exact P
    have N:En k ((false,[],[],()),bS e n.2.1 (jb n e).1,(()),())=some ((fh bC (bS e n.2.1 (jb n e).1),()),((),(),(),())):=nb (by omega) J (dR d) gs;rw[hc,ai];simp only[N,aa];rfl
   ·rw[hc,ah]
    rfl
  have I:∀G,zL.l2 k G (fT d n c (((List.range m).map (f9 n c t leaf e)).foldl (da d) s) al,t,iI d e leaf,g,v,([((-9223372036854775808),n.2.2.2.2.1-1,()),(n.2.2.2.2.2.1+1,9223372036854775807,())]:List bA),2,1,())=G (fT d n c (((List.range m).map (f9 n c t leaf e)).foldl (da d) s) al,t,iI d e leaf,g,E,([((-9223372036854775808),n.2.2.2.2.1-1,()),(n.2.2.2.2.2.1+1,9223372036854775807,())]:List bA),2,2,()):=by
   intro G;have H:AH k ((g.1,g.2.1,()),(n.2.2.2.2.2.1+1,(9223372036854775807:Int),()),())=some (jc n e,((),(),())):=by rw[hA];exact jw k g _
   have g1:([((-9223372036854775808),n.2.2.2.2.1-1,()),(n.2.2.2.2.2.1+1,9223372036854775807,())]:List bA)[(1:Int).toNat]?=some (n.2.2.2.2.2.1+1,9223372036854775807,()):=rfl;simp only[fT,iI];simp only[zL.l2];rw[a0f (show(1:Int)<2 by omega),a0f (show(0:Int)<=1/\(1:Int)<(([((-9223372036854775808),n.2.2.2.2.1-1,()),(n.2.2.2.2.2.1+1,9223372036854775807,())]:List bA).length:Int) by simp)];simp only[ai,g1,aa,H,l,w6];have w:E=fh v (cond (jc n e).2.1 (bS e n.2.1 (jc n e).1) bC):=by rw[Q,D];rfl
   rw[<-D]at P;rcases a0r (jc n e).2.1 with hc|hc
   ·have gs:bi d (bS e n.2.1 (jc n e).1):=by rw[hc]at gA;exact gA
    have N:En k ((v.1,v.2.1,v.2.2.1,()),bS e n.2.1 (jc n e).1,(()),())=some ((fh v (bS e n.2.1 (jc n e).1),()),((),(),(),())):=nb (by omega) J P gs;rw[hc]at w;rw[hc,ai,w];simp only[N,aa];rfl
   ·rw[hc]at w
    have:fh v bC=v:=by
     unfold fh;rcases a0r v.1 with h1|h1
     ·rw[cT h1];rfl
     ·rw[cF h1,Kt P h1]
    rw[hc,ah,w,a2p,this]
  have R:∀G,zL.l2 k G (fT d n c (((List.range m).map (f9 n c t leaf e)).foldl (da d) s) al,t,iI d e leaf,g,E,([((-9223372036854775808),n.2.2.2.2.1-1,()),(n.2.2.2.2.2.1+1,9223372036854775807,())]:List bA),2,2,())=some ((),(fT d n c (da d (((List.range m).map (f9 n c t leaf e)).foldl (da d) s) (false,qZ t c (n.2.2.2.2.2.1-n.2.2.2.2.1+1),leaf,Bi n e)) al,(),(),())):=by
   intro G;rw[<-Q]at O⊢;simp only[fT,iI];simp only[zL.l2];rw[a0n (show¬(2:Int)<2 by omega),ah,w3,w4];simp only[oZ T,aa];unfold da;rcases a0r E.1 with hc|hc
   ·rw[cF rfl,cz hc,gv hc]
    refine(mj T J S2.b (by omega) (nf t c _) A (show bi d (E.1,E.2.1,E.2.2.1,())from O) _).trans ?_
    rfl
   ·rw[cF rfl,cU hc,jB hc]
  obtain⟨f,hf⟩:∃f,k=f+1+1+1:=⟨k-3,by omega⟩;have S3:(([((-9223372036854775808),n.2.2.2.2.1-1,()),(n.2.2.2.2.2.1+1,9223372036854775807,())]:List bA).length:Int)=2:=rfl;have S:aP (zL.l2 k) k (fT d n c (((List.range m).map (f9 n c t leaf e)).foldl (da d) s) al,t,iI d e leaf,g,bC,([((-9223372036854775808),n.2.2.2.2.1-1,()),(n.2.2.2.2.2.1+1,9223372036854775807,())]:List bA),2,0,())=some ((),(fT d n c (da d (((List.range m).map (f9 n c t leaf e)).foldl (da d) s) (false,qZ t c (n.2.2.2.2.2.1-n.2.2.2.2.1+1),leaf,Bi n e)) al,(),(),())):=by
   conv=>lhs;arg 2;rw[hf]
   rw[az,F,az,I,az,R]
  simp only[fT,iI]at S⊢;simp only[zL.l0];rw[a0n (show¬n.2.2.2.2.1+(m:Int)<=n.2.2.2.2.2.1 by omega),ah,w1,w2];exact S
def QM (m:4194304<k) (o:aY d=true) (h:bz d n=true) (u:n.1=11\/n.1=12) (a:Int) (v:bq t=true) (f:d5 d leaf) (p:bi d e) (w:e.1=true) {s:List aG×List aG} (x:lm d s) (C:s.1.length+s.2.length<=80000) (al:Int):kC.h23 k (fT d n a s al,t,iI d e leaf,())=some ((),(fT d n a (da d s (false,t,leaf,dZ d leaf (dO d n.2.2.2.1) true e)) (en al (ce (aB d e leaf (dO d n.2.2.2.1)))),(),(),())):=by
 have y:=EU h;obtain⟨q,z,A,B⟩:=dx (show bI d n.2.2.2.1≠0 by omega);have i:(dO d n.2.2.2.1).kind=2:=by rw[<-A];exact y
 have j:=nj m o p w leaf q i B true z a s al;have r:=eO leaf q true p;obtain⟨c,l⟩:∃g,g=dZ d leaf (dO d n.2.2.2.1) true e:=⟨_,rfl⟩;rw[<-l]at r j⊢;simp only[fT,iI]at j⊢;simp only[kC.h23,j,aa];unfold da;rcases a0r c.1 with hc|hc
 ·rw[cF rfl,cz hc,gv hc]
  refine(mj m o x.b (by omega) v f (show bi d (c.1,c.2.1,c.2.2.1,())from r) _).trans ?_
  rfl
 ·rw[cF rfl,cU hc,jB hc]
def NQ (p:4194304<k) (x:aY d=true) (h:bz d n=true) (g:n.1=11\/n.1=12) (a:Int) (y:bq t=true) (i:d5 d leaf) (q:bi d e) (r:e.1=true) {s:List aG×List aG} (z:lm d s) (A:s.1.length+s.2.length<=80000) (al:Int):kC.h20 k (fT d n a s al,t,iI d e leaf,())=some ((),(fT d n a ((de d n a t leaf e).foldl (da d) s) (en al (cQ d n leaf e)),(),(),())):=by
 have I:=EU h;obtain⟨u,B,J,C⟩:=dx (show bI d n.2.2.2.1≠0 by omega);obtain⟨w,hi,K⟩:=bK q r;have j:=(cO w leaf u).2;have D:de d n a t leaf e=[(false,t,leaf,dZ d leaf (dO d n.2.2.2.1) true e)]:=by
  unfold de;rw[ifNegQ,ifNegQ,ifNegQ,ifNegQ,ifNegQ,ifNegQ,ifPosQ]
 have f:=ni p w leaf u C n a s al;rw[<-B]at f;have b:=λl=>QM p x h g a y i q r z A l
 rw[D,a2o,a4c];obtain⟨v,c⟩:∃v,v=aB d e leaf (dO d n.2.2.2.1):=⟨_,rfl⟩;have E:v.2.2.1=aC v:=rfl;have F:Ej k ((v.1,v.2.1,()),0,())=some ((iO (bR v) 0,()),((),(),())):=mS k _ _;rw[<-c]at f j b;have m:cQ d n leaf e=if n.1=11 then cond (aC v&& iO (bR v) 0) (en (ce v) 8) (ce v)else ce v:=by
  unfold cQ;rw[ifNegQ,ifNegQ,<-c]
 rw[m];have G:(br k (n.1==11) (br k v.2.2.1 (some (iO (bR v) 0,())) (some (false,()))) (some (false,())):Option (Bool×Unit))=some ((n.1==11)&& (aC v&& iO (bR v) 0),()):=by
  rw[E]
  cases (n.1==11)<;>cases aC v<;>simp
 simp only[fT,iI]at f b⊢;simp only[kC.h20,f,aa,F,G,a0d,fL];rcases a0r ((n.1==11)&& (aC v&& iO (bR v) 0))with hc|hc
 ·rw[hc,ai]
  refine(b (en (en al (ce v)) 8)).trans ?_
  simp only[a0c,a3f]at hc;rw[a0b hc.1,cT (by rw[hc.2.1,hc.2.2];rfl)];have:en (en (en al (ce v)) 8) (ce v)=en al (en (ce v) 8):=by
   rw[ep,ep,xV 8,O4 j]
  rw[this]
 ·rw[hc,ah]
  refine(b (en al (ce v))).trans ?_
  rw[ep,r9 j];by_cases o:n.1=11
  ·rw[a0b o]
   have H:(n.1==11)=true:=by simp[o]
   rw[H,a2d]at hc;rw[cF hc]
  ·rw[a0e o]
def QN (p:4194304<k) (q:aY d=true) (h:bz d n=true) (A:n.1=7\/n.1=8\/n.1=13\/n.1=14) (a:Int) (w:bq t=true) (f:d5 d leaf) (r:bi d e) (m:e.1=true) {s:List aG×List aG} (u:lm d s) (x:s.1.length+s.2.length<=80000) (o:ar al):kC.h24 k (fT d n a s al,t,iI d e leaf,n.1,())=some ((),(fT d n a ((de d n a t leaf e).foldl (da d) s) (en al (cQ d n leaf e)),(),(),())):=by
 by_cases g:n.1=13
 ·have c:(n.1==13)=true:=by simp[g]
  have i:=NP p q h g a t f r m u x o;obtain⟨S,y⟩:∃S,S=(de d n a t leaf e).foldl (da d) s:=⟨_,rfl⟩;rw[<-y]at i⊢;simp only[fT,iI]at i⊢;simp only[kC.h24,c,ai,i,aa]
 ·have c:(n.1==13)=false:=by simpa using g
  have z:cQ d n leaf e=0:=by unfold cQ;rw[ifPosQ]
  rw[z,pB o];by_cases j:n.1=14
  ·have l:(n.1==14)=true:=by simp[j]
   have v:de d n a t leaf e=[(false,[],leaf,e)]:=by
    unfold de;rw[ifNegQ,ifNegQ,ifNegQ,ifNegQ,ifNegQ,a0b j]
   rw[v,a2o,a4c];simp only[fT,iI];simp only[kC.h24,c,ah,l,ai];unfold da;rw[cF rfl,cz m,gv m];refine(mj p q u.b (by omega) (show bq []=true from rfl) f (show bi d (e.1,e.2.1,e.2.2.1,())from r) _).trans ?_
   rfl
  ·have l:(n.1==14)=false:=by simpa using j
   have v:de d n a t leaf e=[(false,t,leaf,e)]:=by
    unfold de;rw[ifNegQ,ifNegQ,ifNegQ,ifNegQ,ifNegQ,ifNegQ,ifNegQ,ifPosQ]
   rw[v,a2o,a4c];simp only[fT,iI];simp only[kC.h24,c,ah,l];unfold da;rw[cF rfl,cz m,gv m];refine(mj p q u.b (by omega) w f (show bi d (e.1,e.2.1,e.2.2.1,())from r) _).trans ?_
   rfl
def Pq (r:4194304<k) (m:aY d=true) (h:bz d n=true) (a:Int) (u:bq t=true) (i:d5 d leaf) (o:bi d e) (l:e.1=true) {s:List aG×List aG} (B:lm d s) (K:s.1.length+s.2.length<=80000) (L:ar al):kC k (fT d n a s al,t,iI d e leaf,())=some ((),(fT d n a ((de d n a t leaf e).foldl (da d) s) (en al (cQ d n leaf e)),(),(),())):=by
 have S0:=Bo h;obtain⟨Y,hi,hr⟩:=bK o l;have hR:=ng o l;have M:=(dY m o).1;by_cases H:n.1=1
 ·obtain⟨N,hx⟩:=PU h H
  obtain⟨x1,x2,x3,x4⟩:=dx (show bI d n.2.2.2.1≠0 by omega);have w:(n.1==1)=true:=by simp[H]
  have O:de d n a t leaf e=[(false,t,leaf,cond (aC (aB d e leaf (dO d n.2.2.2.1))) (bS e n.2.1 (bR (aB d e leaf (dO d n.2.2.2.1)))) bC)]:=by
   unfold de;rw[a0b H]
  have la:cQ d n leaf e=ce (aB d e leaf (dO d n.2.2.2.1)):=by
   unfold cQ;rw[ifNegQ,ifNegQ,ifNegQ]
  rw[O,la,a2o,a4c];have x:=ni r Y leaf x1 x4 n a s al;rw[<-x2]at x;obtain⟨v,D⟩:∃v,v=aB d e leaf (dO d n.2.2.2.1):=⟨_,rfl⟩;have fv:bw (bR v):=by rw[D];exact(cO Y leaf x1).1
  have ov:KO v:=by rw[D];exact(gc hR leaf x1).1
  rw[<-D]at x⊢;have ea:v.2.2.1=aC v:=rfl;have p:H7 k ((e.1,e.2.1,e.2.2.1,()),n.2.1,(v.1,v.2.1,()),())=some ((bS e n.2.1 (bR v),()),((),(),(),())):=qT k M ⟨N.1,by rw[Y.ints];exact N.2⟩ _;simp only[fT,iI]at x⊢;simp only[kC,w,ai,x,aa,p];unfold da;rcases a0r (aC v)with hc|hc
  ·have I:=gu o l n.2.1 fv (ov hc)
   have q:(bS e n.2.1 (bR v)).1=true:=l;rw[ea,hc,ai,cF rfl,cT rfl,cz q,gv q];refine(mj r m B.b (by omega) u i (show bi d ((bS e n.2.1 (bR v)).1,(bS e n.2.1 (bR v)).2.1,(bS e n.2.1 (bR v)).2.2.1,())from I) _).trans ?_
   rfl
  ·rw[ea,hc,ah,cF rfl,cF rfl,cU rfl]
 have w:(n.1==1)=false:=by simpa using H
 by_cases P:n.1=2
 ·have y:(n.1==2)=true:=by simp[P]
  have c:=Pp r m h P a u i o l B K al;obtain⟨S,z⟩:∃S,S=(de d n a t leaf e).foldl (da d) s:=⟨_,rfl⟩;rw[<-z]at c⊢;simp only[fT,iI]at c⊢;simp only[kC,w,y,ai,ah,c,aa]
 have y:(n.1==2)=false:=by simpa using P
 by_cases Q:n.1=3
 ·have C:(n.1==3)=true:=by simp[Q]
  have c:=NN r m h Q a (leaf:=leaf) o l s al;have O:de d n a t leaf e=[(false,t,leaf,yJ d n leaf e)]:=by
   unfold de;rw[a0e H,a0e P,a0b Q];rfl
  have R:=q7 m h a u i o l;rw[O]at R⊢;have I:bi d (yJ d n leaf e):=(R _ List.mem_cons_self).e;obtain⟨g,hg⟩:∃g,g=yJ d n leaf e:=⟨_,rfl⟩;rw[<-hg]at I c⊢;rw[a2o,a4c];simp only[fT,iI]at c⊢;simp only[kC,w,y,C,ai,ah,c,aa];unfold da;rcases a0r g.1 with hc|hc
  ·rw[cF rfl,cz hc,gv hc]
   refine(mj r m B.b (by omega) u i (show bi d (g.1,g.2.1,g.2.2.1,())from I) _).trans ?_
   rfl
  ·rw[cF rfl,cU hc,jB hc]
 have C:(n.1==3)=false:=by simpa using Q
 by_cases Z:n.1=4
 ·have E:(n.1==4)=true:=by simp[Z]
  obtain⟨N,c0,c1,c2⟩:=PW h Z;have O:de d n a t leaf e=[(false,t,leaf,bS e n.2.1 (n.2.2.2.2.1,n.2.2.2.2.2.1,()))]:=by
   unfold de;rw[a0e H,a0e P,a0e Q,a0b Z]
  have la:cQ d n leaf e=0:=by unfold cQ;rw[ifPosQ]
  have R:=q7 m h a u i o l;rw[O]at R⊢;rw[la,pB L];have I:bi d (bS e n.2.1 (n.2.2.2.2.1,n.2.2.2.2.2.1,())):=(R _ List.mem_cons_self).e;have q:(bS e n.2.1 (n.2.2.2.2.1,n.2.2.2.2.2.1,())).1=true:=l;have p:H7 k ((e.1,e.2.1,e.2.2.1,()),n.2.1,(n.2.2.2.2.1,n.2.2.2.2.2.1,()),())=some ((bS e n.2.1 (n.2.2.2.2.1,n.2.2.2.2.2.1,()),()),((),(),(),())):=qT k M ⟨N.1,by rw[Y.ints];exact N.2⟩ _;rw[a2o,a4c];simp only[fT,iI];simp only[kC,w,y,C,E,ai,ah,p,aa];unfold da;rw[cF rfl,cz q,gv q];refine(mj r m B.b (by omega) u i I _).trans ?_
  rfl
 have E:(n.1==4)=false:=by simpa using Z
 have f:n.1=5\/n.1=6\/n.1=9\/n.1=10->kC.h17 k (fT d n a s al,t,iI d e leaf,())=some ((),(fT d n a ((de d n a t leaf e).foldl (da d) s) (en al (cQ d n leaf e)),(),(),())):=by
  intro T;have c:=K3 r m h T a u i o l B K al;obtain⟨S,z⟩:∃S,S=(de d n a t leaf e).foldl (da d) s:=⟨_,rfl⟩;rw[<-z]at c⊢;simp only[fT,iI]at c⊢;simp only[kC.h17,c,aa]
 have j:¬(n.1=5\/n.1=6\/n.1=9\/n.1=10)->kC.h18 k (fT d n a s al,t,iI d e leaf,n.1,())=some ((),(fT d n a ((de d n a t leaf e).foldl (da d) s) (en al (cQ d n leaf e)),(),(),())):=by
  intro T;obtain⟨S,z⟩:∃S,S=(de d n a t leaf e).foldl (da d) s:=⟨_,rfl⟩;by_cases U:n.1=11
  ·have c:=NQ r m h (by omega) a u i o l B K al
   have A:(n.1==11)=true:=by simp[U]
   rw[<-z]at c⊢;simp only[fT,iI]at c⊢;simp only[kC.h18,A,ai,fL,c]
  ·have A:(n.1==11)=false:=by simpa using U
   by_cases V:n.1=12
   ·have c:=NQ r m h (by omega) a u i o l B K al
    have F:(n.1==12)=true:=by simp[V]
    rw[<-z]at c⊢;simp only[fT,iI]at c⊢;simp only[kC.h18,A,F,ai,ah,fL,c]
   ·have c:=QN r m h (by omega) a u i o l B K L
    have F:(n.1==12)=false:=by simpa using V
    rw[<-z]at c⊢;simp only[fT,iI]at c⊢;simp only[kC.h18,A,F,ai,ah,fL,c]
 obtain⟨S,z⟩:∃S,S=(de d n a t leaf e).foldl (da d) s:=⟨_,rfl⟩;rw[<-z]at f j⊢;by_cases T:n.1=5
 ·have c:=f (by omega)
  have J:(n.1==5)=true:=by simp[T]
  simp only[fT,iI]at c⊢;simp only[kC,w,y,C,E,J,ai,ah,fL,c]
 have J:(n.1==5)=false:=by simpa using T
 by_cases h6:n.1=6
 ·have c:=f (by omega)
  have W:(n.1==6)=true:=by simp[h6]
  simp only[fT,iI]at c⊢;simp only[kC,w,y,C,E,J,W,ai,ah,fL,c]
 have W:(n.1==6)=false:=by simpa using h6
 by_cases h9:n.1=9
 ·have c:=f (by omega)
  have b9:(n.1==9)=true:=by simp[h9]
  simp only[fT,iI]at c⊢;simp only[kC,w,y,C,E,J,W,b9,ai,ah,fL,c]
 have b9:(n.1==9)=false:=by simpa using h9
 by_cases X:n.1=10
 ·have c:=f (by omega)
  have G:(n.1==10)=true:=by simp[X]
  simp only[fT,iI]at c⊢;simp only[kC,w,y,C,E,J,W,b9,G,ai,ah,fL,c]
 have G:(n.1==10)=false:=by simpa using X
 have c:=j (by omega);simp only[fT,iI]at c⊢;simp only[kC,w,y,C,E,J,W,b9,G,ai,ah,fL,c]
abbrev iQ:=Int×List aG×Unit
abbrev tN:=List iQ×Int×Bool×Unit
def ft (d:aw) (n:aU) (a:Int) (t:List bD) (T:List bh) (j:Nat):List mg:=cond (T.getD j bC).1 (de d n a t (j:Int) (T.getD j bC)) []
def lF (d:aw) (n:aU) (T:List bh) (j:Nat):Int:=cond (T.getD j bC).1 (cQ d n (j:Int) (T.getD j bC)) 0
def sx (d:aw) (n:aU) (a:Int) (p:aG):List mg:=(List.range p.2.1.length).flatMap (ft d n a p.1 p.2.1)
def jK (d:aw) (n:aU) (al:Int) (p:aG):Int:=(List.range p.2.1.length).foldl (λa j=>en a (lF d n p.2.1 j)) al
def iE (d:aw) (n:aU) (a:Int) (l:List aG):List mg:=l.flatMap (sx d n a)
def yK (d:aw) (n:aU) (l:List aG):Int:=l.foldl (jK d n) 0
def mm (d:aw) (n:aU) (a:Int) (l:List aG):List aG×List aG:=(iE d n a l).foldl (da d) ([],[])
def vL (a b:Int) (s:List aG×List aG):List iQ:=(if s.1.length>0 then [(a+1,s.1,())]else [])++(if s.2.length>0 then [(b,s.2,())]else [])
def sy (d:aw) (n:aU) (a b:Int) (l:List aG):tN:=cond (decide ((mm d n a l).1.length>100)||decide ((mm d n a l).2.length>100)) ([],0,true,()) (vL a b (mm d n a l),yK d n l,false,())
def yL (d:aw):eW d []:=⟨λx a=>(by cases a),List.Pairwise.nil⟩
def K4 (d:aw):lm d ([],[]):=⟨yL d,yL d⟩
def qj (i:aY d=true) (h:bz d n=true) (b:Int) {p:aG} (c:mf d p) {j:Nat} (g:j<p.2.1.length):(∀a∈ft d n b p.1 p.2.1 j,yn d a)/\(ft d n b p.1 p.2.1 j).length<=5:=by
 have k:p.2.1.getD j bC∈p.2.1:=by rw[ay g];exact a0l g
 have l:=c.m.e _ k;have f:d5 d (j:Int):=⟨by omega,by
  have:=c.m.n;have o:((j:Nat):Int)<((2^d.2.1.length:Nat):Int):=by omega
  simpa using o⟩
 unfold ft;rcases a0r (p.2.1.getD j bC).1 with hc|hc
 ·rw[cT hc];exact⟨q7 i h b c.t f l hc,K0 h _ _ _ _⟩
 ·rw[cF hc];exact⟨λa q=>(by cases q),a5c _⟩
def lG {α β:Type} (f:α->List β) (b:Nat):∀(l:List α),(∀x∈l,(f x).length<=b)->(l.flatMap f).length<=l.length*b
 |[],_=>by simp
 |x::l,h=>by
  have c:=lG f b l (λy a=>h y (by simp[a]));have d:=h x (by simp);simp only[a5s,a0m,a0g,a1a];omega
def lH (c:aY d=true) (h:bz d n=true) (b:Int) {p:aG} (e:mf d p) {m:Nat} (i:m<=p.2.1.length):(∀a∈(List.range m).flatMap (ft d n b p.1 p.2.1),yn d a)/\((List.range m).flatMap (ft d n b p.1 p.2.1)).length<=40:=by
 have k:=ma c e.m;refine⟨λa f=> ?_,?_⟩
 ·obtain⟨j,g,f⟩:=a3q.1 f
  exact(qj c h b e (by have:=a2i.1 g;omega)).1 a f
 ·have:=lG (ft d n b p.1 p.2.1) 5 (List.range m) (λj g=>(qj c h b e (by have:=a2i.1 g;omega)).2)
  rw[a6r]at this;omega
def lI (f:aY d=true) (h:bz d n=true) (b:Int) (g:∀p∈l,mf d p):(∀a∈iE d n b l,yn d a)/\(iE d n b l).length<=l.length*40:=by
 refine⟨λa c=> ?_,lG _ 40 l λp e=>(lH f h b (g p e) (a1n _)).2⟩;obtain⟨p,e,c⟩:=a3q.1 c;exact(lH f h b (g p e) (a1n _)).1 a c
def o7 (f:Nat->Int):∀(l:List Nat) {al:Int},ar al->ar (l.foldl (λa j=>en a (f j)) al)
 |[],al,h=>h
 |j::l,al,h=>o7 f l (sd _ _)
def E0 (a:ar al) (p:aG):ar (jK d n al p):=o7 _ _ a
def u9 (d:aw) (n:aU):∀(l:List aG) {al:Int},ar al->ar (l.foldl (jK d n) al)
 |[],al,h=>h
 |p::l,al,h=>u9 d n l (E0 h p)
def Hp {α β:Type} (f:Nat->List β) (i:Nat):(List.range (i+1)).flatMap f=(List.range i).flatMap f++f i:=by
 rw[a9b,a7f];simp
def Hq (f:α->Nat->α) (z:α) (i:Nat):(List.range (i+1)).foldl f z=f ((List.range i).foldl f z) i:=by
 rw[a9b,a4a];rfl
def Ab (L:4194304<k) (p:b7) (x:d=aF p) (y:aY d=true) (h:bz d n=true) (z:List Int) (c:Int) {q:aG} (u:mf d q) {s:List aG×List aG} (M:lm d s) (T:s.1.length+s.2.length<=70000) (B:ar al) (g:tN) (l:List aG) (len o:Int) (G0):aP (sG.l2 k G0) k (z,c,(p.1,p.2.1,p.2.2.1,p.2.2.2.1,()),(g.1,g.2.1,g.2.2.1,()),fT d n c s al,(q.1,q.2.1,()),l,len,o,q.2.1,(q.2.1.length:Int),0,())=G0 (z,c,(p.1,p.2.1,p.2.2.1,p.2.2.2.1,()),(g.1,g.2.1,g.2.2.1,()),fT d n c ((sx d n c q).foldl (da d) s) (jK d n al q),l,len,wrap .i64 (o+1),()):=by
 have U:=ma y u.m;refine ca (b:=sG.l2 k G0) (λi=>(z,c,(p.1,p.2.1,p.2.2.1,p.2.2.2.1,()),(g.1,g.2.1,g.2.2.1,()),fT d n c (((List.range i).flatMap (ft d n c q.1 q.2.1)).foldl (da d) s) ((List.range i).foldl (λa j=>en a (lF d n q.2.1 j)) al),(q.1,q.2.1,()),l,len,o,q.2.1,(q.2.1.length:Int),(i:Int),())) q.2.1.length (λG i hi=> ?_) (λG=> ?_) (by omega)
 ·obtain⟨N,V⟩:=lH y h c u (m:=i) (by omega)
  have J:=pF M N;have O:=o4 d ((List.range i).flatMap (ft d n c q.1 q.2.1)) s;have r:=o7 (lF d n q.2.1) (List.range i) B;have v:q.2.1.getD i bC=q.2.1[i]:=ay hi _;have C:=u.m.e _ (a0l hi);have D:d5 d (i:Int):=⟨by omega,by
   have:=u.m.n;have P:((i:Nat):Int)<((2^d.2.1.length:Nat):Int):=by omega
   simpa using P⟩
  rw[Hp (α:=Nat),Hq,a4a];obtain⟨S,Q⟩:∃S,S=((List.range i).flatMap (ft d n c q.1 q.2.1)).foldl (da d) s:=⟨_,rfl⟩;obtain⟨A,R⟩:∃A,A=(List.range i).foldl (λa j=>en a (lF d n q.2.1 j)) al:=⟨_,rfl⟩;rw[<-Q]at J O⊢;rw[<-R]at r⊢;have w:=aH (i:=i);have E:ft d n c q.1 q.2.1 i=cond q.2.1[i].1 (de d n c q.1 (i:Int) q.2.1[i]) []:=by unfold ft;rw[v]
  have F:lF d n q.2.1 i=cond q.2.1[i].1 (cQ d n (i:Int) q.2.1[i]) 0:=by unfold lF;rw[v]
  rw[E,F];rcases a0r q.2.1[i].1 with hc|hc
  ·have f:=Pq L y h c u.t D C hc J (by omega) r
   rw[cT hc,cT hc];obtain⟨K,H⟩:∃K,K=(de d n c q.1 (i:Int) q.2.1[i]).foldl (da d) S:=⟨_,rfl⟩;rw[<-H]at f⊢;have I:d.1=p.1/\d.2.1=p.2.1/\d.2.2.1=p.2.2.1:=by rw[x];exact⟨rfl,rfl,rfl⟩
   simp only[fT,iI]at f⊢;rw[I.1,I.2.1,I.2.2]at f⊢;simp only[sG.l2];rw[a0f (show(i:Int)<(q.2.1.length:Int) by omega),a0f (show(0:Int)<=(i:Int) by omega)];simp only[ai,a0j,a0a hi,aa];rw[w,hc,ai];rw[hc]at f;simp only[f,aa]
  ·rw[cF hc,cF hc,pB r,a4c]
   simp only[fT];simp only[sG.l2];rw[a0f (show(i:Int)<(q.2.1.length:Int) by omega),a0f (show(0:Int)<=(i:Int) by omega)];simp only[ai,a0j,a0a hi,aa];rw[w,hc,ah]
 ·simp only[fT]
  simp only[sG.l2];rw[a0n (show¬(q.2.1.length:Int)<(q.2.1.length:Int) by omega),ah];rfl
def Hr {β:Type} (f:α->List β) {l:List α} (hi:i<l.length):(l.take (i+1)).flatMap f=(l.take i).flatMap f++f l[i]:=by
 rw[a2n hi,a7f];simp
def Sp (n:Nat):decide ((n:Int)>100)=decide (n>100):=by
 by_cases h:n>100
 ·rw[a0f h,a0f (by omega)]
 ·rw[a0n h,a0n (by omega)]
def K5 (P:4194304<k) (p:b7) (C:aY (aF p)=true) (h:bz (aF p) n=true) {a:Nat} (D:p.2.2.2.1[a]?=some n) (Q:a<=1000) (m:List Int) {c:Int} (E:m[a]?=some c) (F:∀q∈l,mf (aF p) q) (hn:l.length<=1000):sG k (p,m,(a:Int),l,())=some ((sy (aF p) n (a:Int) c l,()),((),(),(),(),())):=by
 simp only[sG,a0f (show 0<=(a:Int) by omega),ai,a0j,D,aa];have M:=(lI C h (a:Int) F).2;have e:∀G,sG.l0 k G (m,(a:Int),(p.1,p.2.1,p.2.2.1,p.2.2.2.1,()),([],0,false,()),fT (aF p) n (a:Int) (mm (aF p) n (a:Int) l) (yK (aF p) n l),l,(l.length:Int),(l.length:Int),())=some ((sy (aF p) n (a:Int) c l,()),((),(),(),(),())):=by
  intro G;have s:sy (aF p) n (a:Int) c l=cond (decide ((mm (aF p) n (a:Int) l).1.length>100)||decide ((mm (aF p) n (a:Int) l).2.length>100)) ([],0,true,()) (vL (a:Int) c (mm (aF p) n (a:Int) l),yK (aF p) n l,false,()):=rfl;obtain⟨S,z⟩:∃S,S=mm (aF p) n (a:Int) l:=⟨_,rfl⟩;obtain⟨A,B⟩:∃A,A=yK (aF p) n l:=⟨_,rfl⟩;rw[<-z,<-B]at s;rw[<-z,<-B,s];have w1:wrap .i64 ((a:Int)+1)=(a:Int)+1:=ak (by omega) (by omega);simp only[fT];simp only[sG.l0];rw[a0n (show¬(l.length:Int)<(l.length:Int) by omega),ah,Sp,Sp,w1];have H:(br k (decide (S.1.length>100)) (some (true,())) (some (decide (S.2.length>100),())):Option (Bool×Unit))=some (decide (S.1.length>100)||decide (S.2.length>100),()):=by
   cases decide (S.1.length>100)<;>simp
  rw[H,a0d]
  cases (decide (S.1.length>100)||decide (S.2.length>100))
  ·simp only[ah,a2p,a0f (show 0<=(a:Int) by omega),ai,a0j,E,aa]
   obtain⟨f,R⟩:∃f,k=f+1+1+1:=⟨k-3,by omega⟩;have t:(([((a:Int)+1,S.1,()),(c,S.2,())]:List iQ).length:Int)=2:=rfl;have T:([((a:Int)+1,S.1,()),(c,S.2,())]:List iQ)[(0:Int).toNat]?=some ((a:Int)+1,S.1,()):=rfl;have U:([((a:Int)+1,S.1,()),(c,S.2,())]:List iQ)[(1:Int).toNat]?=some (c,S.2,()):=rfl;have V:wrap .i64 (0+1)=1:=ak (by omega) (by omega);have W:wrap .i64 (1+1)=2:=ak (by omega) (by omega);have u:∀(o:List iQ) (x:iQ),o.length<=1->(o.length+([x]:List iQ).length)*32<=af:=by intro o x N;simp only[a0g,a0h,af];omega
   have g:∀G,sG.l4 k G (([],0,false,()),([],A,false,()),([((a:Int)+1,S.1,()),(c,S.2,())]:List iQ),2,0,())=G (([],0,false,()),(if S.1.length>0 then [((a:Int)+1,S.1,())]else [],A,false,()),([((a:Int)+1,S.1,()),(c,S.2,())]:List iQ),2,1,()):=by
    intro G;simp only[sG.l4];rw[a0f (show(0:Int)<2 by omega),ai,a0f (show(0:Int)<=0/\(0:Int)<(([((a:Int)+1,S.1,()),(c,S.2,())]:List iQ).length:Int) by rw[t];omega),ai,T,aa,V];by_cases v:S.1.length>0
    ·rw[a0f (show((S.1.length:Nat):Int)>0 by omega),ai,a0f (u [] _ (a5c _)),ai,a0b v]
     rfl
    ·rw[a0n (show¬((S.1.length:Nat):Int)>0 by omega),ah,a0e v]
   have j:∀G o,o.length<=1->sG.l4 k G (([],0,false,()),(o,A,false,()),([((a:Int)+1,S.1,()),(c,S.2,())]:List iQ),2,1,())=G (([],0,false,()),(o++(if S.2.length>0 then [(c,S.2,())]else []),A,false,()),([((a:Int)+1,S.1,()),(c,S.2,())]:List iQ),2,2,()):=by
    intro G o N;simp only[sG.l4];rw[a0f (show(1:Int)<2 by omega),ai,a0f (show(0:Int)<=1/\(1:Int)<(([((a:Int)+1,S.1,()),(c,S.2,())]:List iQ).length:Int) by rw[t];omega),ai,U,aa,W];by_cases v:S.2.length>0
    ·rw[a0f (show((S.2.length:Nat):Int)>0 by omega),ai,a0f (u o _ N),ai,a0b v]
    ·rw[a0n (show¬((S.2.length:Nat):Int)>0 by omega),ah,a0e v,a2m]
   have y:∀G o,sG.l4 k G (([],0,false,()),(o,A,false,()),([((a:Int)+1,S.1,()),(c,S.2,())]:List iQ),2,2,())=some (((o,A,false,()),()),((),(),(),(),())):=by
    intro G o;simp only[sG.l4];rw[a0n (show¬(2:Int)<2 by omega),ah]
   have I:aP (sG.l4 k) k (([],0,false,()),([],A,false,()),([((a:Int)+1,S.1,()),(c,S.2,())]:List iQ),2,0,())=some (((vL (a:Int) c S,A,false,()),()),((),(),(),(),())):=by
    conv=>lhs;arg 2;rw[R]
    rw[az,g,az,j _ _ (by split<;>simp),az,y];rfl
   exact I
  ·simp only[ai,a1r]
 refine Eq.trans ?_ (Eq.trans (ca (b:=sG.l0 k) (λi=>(m,(a:Int),(p.1,p.2.1,p.2.2.1,p.2.2.2.1,()),([],0,false,()),fT (aF p) n (a:Int) ((iE (aF p) n (a:Int) (l.take i)).foldl (da (aF p)) ([],[])) ((l.take i).foldl (jK (aF p) n) 0),l,(l.length:Int),(i:Int),())) l.length (r:=some ((sy (aF p) n (a:Int) c l,()),((),(),(),(),()))) (λG i hi=> ?_) (λG=> ?_) (f:=k) (by omega)) rfl)
 ·rfl
 ·have J:=F _ (a0l hi)
  obtain⟨X,Y⟩:=lI C h (a:Int) (l:=l.take i) (λq Z=>F q (a4g Z));have sg:=pF (K4 (aF p)) X;have sl:=o4 (aF p) (iE (aF p) n (a:Int) (l.take i)) ([],[]);have K:=u9 (aF p) n (l.take i) bM;rw[a1m]at Y;simp only[a0h]at sl;have d:=λG0=>Ab P p rfl C h m (a:Int) J sg (by omega) K ([],0,false,()) l (l.length:Int) (i:Int) G0
  have e1:(iE (aF p) n (a:Int) (l.take (i+1)))=iE (aF p) n (a:Int) (l.take i)++sx (aF p) n (a:Int) l[i]:=Hr _ hi;have e2:(l.take (i+1)).foldl (jK (aF p) n) 0=jK (aF p) n ((l.take i).foldl (jK (aF p) n) 0) l[i]:=kG _ _ _ hi;rw[e1,e2,a4a];obtain⟨S,z⟩:∃S,S=(iE (aF p) n (a:Int) (l.take i)).foldl (da (aF p)) ([],[]):=⟨_,rfl⟩;obtain⟨A,B⟩:∃A,A=(l.take i).foldl (jK (aF p) n) 0:=⟨_,rfl⟩;rw[<-z,<-B]at d⊢;have w:=aH (i:=i);rw[w]at d;obtain⟨O,L⟩:∃O,O=(sx (aF p) n (a:Int) l[i]).foldl (da (aF p)) S:=⟨_,rfl⟩;rw[<-L]at d⊢;simp only[fT]at d⊢;simp only[sG.l0];rw[a0f (show(i:Int)<(l.length:Int) by omega),a0f (show(0:Int)<=(i:Int) by omega)];simp only[ai,a0j,a0a hi,aa];exact d G
 ·rw[a2a]
  exact e G
def Pr (l:List Int) (n:Int):List Int:=if l.length<100/\l.contains n=false then l++[n]else l
def R1 (l:List Int) (t:bU):List Int:=if t.1=1 then Pr (Pr l t.2.1) (wrap .i64 (0-t.2.1))else l
def R2 (l:List Int) (n:aU):List Int:=(n.2.2.1++n.2.2.2.1).foldl R1 (Pr (Pr l n.2.2.2.2.1) n.2.2.2.2.2.1)
def R3 (p:b7):List Int:=p.2.2.2.1.foldl R2 [0]
def QO (p:b7):List Int:=(R3 p).mergeSort (λa b=>decide (a<=b))
structure Sq (l:List Int):Prop where
 n:l.length<=100
 d:l.Nodup
 f:∀x∈l,ar x
 z:0<l.length
def Hs (h:jo d l=true):l.length<=100/\(∀p∈l,bq p.1=true/\lj d p.2.1=true/\kb p.2.1=true)/\l.Pairwise λp q=>eD p.1 q.1<0:=by
 unfold jo at h;simp only[a0c,a0q]at h;refine⟨h.1,λp a=> ?_,(EI l none h.2.2).2⟩;have:=a1g.1 h.2.1 p a;simpa only[iD,a0c]using this
def Ht {t:List bh} (h:lj d t=true):(t.length:Int)=2^d.2.1.length/\∀e∈t,iw d e=true:=by
 unfold lj at h;simp only[a0c,a0q]at h;exact⟨h.1,a1g.1 h.2⟩
end Go.Pev.F
namespace Go.Pev.F.Cp
end Go.Pev.F.Cp
namespace Go.Pev.F
variable {d:aw} {s:aT} {n:aU} {used leaf ln lo hi:Int} {i k:Nat} {t:List bD} {r:List Int×Int×Unit} {e:bh} {inp T:List Int} {l:List aG} {p:b7} {L:List aU}
abbrev R4:=List aG×Unit
def Rt (e:bh):Prop:=(∀x∈e.2.1,bw x)/\∀x∈e.2.2.1,bw x
def QP (l:List aG):Prop:=∀p∈l,∀e∈p.2.1,Rt e
def E3 {l:List bA} (h:uD l=true):∀x∈l,bj x=true:=by
 unfold uD at h;simp only[a2b,a5t,a5g,a6m]at h;intro x a;simpa using h x a
def E4 {l:List bA} (h:∀x∈l,bj x=true):uD l=true:=by
 unfold uD;simp only[a2b,a5t];intro x a;rw[h x a];simp
def NR (h:iw d e=true) (f:Rt e):bi d e:=by
 unfold iw at h;rcases a0r e.1 with hl|hl
 ·rw[cT hl]at h
  simp only[a0c,a3f]at h;exact Or.inl ⟨hl,⟨by omega,by omega,f.1,f.2⟩,E3 h.2.2.1,E3 h.2.2.2⟩
 ·rw[cF hl]at h
  simp only[a0c,a3f]at h;have g:e.2.1=[]:=a4j.1 (by omega);have i:e.2.2.1=[]:=a4j.1 (by omega);refine Or.inr ?_
  obtain⟨a,b,c,⟨⟩⟩:=e;simp only at hl g i;rw[hl,g,i];rfl
def NS (h:bi d e):iw d e=true:=by
 unfold iw;rcases h with⟨b,a,hi,c⟩|h
 ·have f:=a.ints
  have g:=a.arrs;rw[cT b,E4 hi,E4 c];simp only[a7c,a0c,a3f];omega
 ·rw[h];rfl
def Hu (h:jo d l=true) (c:QP l):eW d l/\l.length<=100:=by
 obtain⟨f,g,i⟩:=Hs h;refine⟨⟨λp a=> ?_,i⟩,f⟩;obtain⟨a1,j,n⟩:=g p a;obtain⟨k,m⟩:=Ht j;refine⟨a1,?_,λe b=>NR (m e b) (c p a e b)⟩;have:((p.2.1.length:Nat):Int)=((2^d.2.1.length:Nat):Int):=by rw[k];simp
 omega
def PY (l:List aG):Prop:=∀p∈l,kb p.2.1=true
def Iw:∀(l:List aG) (a:Option (List bD)),(∀s,a=some s->∀p∈l,eD s p.1<0)->KK l->nG a l=true
 |[],_,_,_=>rfl
 |p::l,a,h,hr=>by
  obtain⟨b,c⟩:=a4u.1 hr;simp only[nG,a0c];refine⟨?_,Iw l (some p.1) (λs d q e=>by cases d;exact b q e) c⟩;unfold EG
  cases a with
  |none=>rfl
  |some s=>
   have:=h s rfl p (by simp);simp only[a2b,a8d];omega
def NT (h:eW d l) (c:l.length<=100) (f:PY l):jo d l=true:=by
 unfold jo;rw[a0f c,Iw l none (λs g=>by cases g) h.r,a7c,a2d,a1g];intro p b;have a:=h.p p b;unfold iD lj;rw[a.t,f p b,a.m.n];simp only[a7c,a2d,a0c,a0q,a1g];exact⟨by simp,λe i=>NS (a.m.e e i)⟩
structure o8 (p:b7) (rows:List (List aG)):Prop where
 n:rows.length=p.2.2.2.1.length+1
 g:∀l∈rows,eW (aF p) l/\l.length<=100
def QQ (d:aw):bh:=(true,List.replicate d.1.length fS,List.replicate d.2.2.1.length fS,())
def Hv (d:aw):List aG:=[([],dh d 0 (QQ d),())]
def q9 (p:b7) (a:List (List aG)) (i:Nat):tN:=sy (aF p) (p.2.2.2.1.getD i (0,0,[],[],0,0,())) (i:Int) ((cd p.2.2.2.1).getD i 0) (a.getD i [])
def NU (f:tN):Bool:=f.2.2.1
def Ps (b:gG p=true) (hi:i<p.2.2.2.1.length):(cd p.2.2.2.1)[i]?=some ((cd p.2.2.2.1).getD i 0)/\0<=(cd p.2.2.2.1).getD i 0/\(cd p.2.2.2.1).getD i 0<=(p.2.2.2.1.length:Int):=by
 obtain⟨f,c,_,_⟩:=eG b;obtain⟨d,e⟩:=su p.2.2.2.1 c;have a:i<(cd p.2.2.2.1).length:=by rw[d];exact hi
 refine⟨by rw[ay a];exact a0a a,?_⟩;rw[ay a];exact e _ (a0l a)
structure Sr (p:b7) (f:tN):Prop where
 n:f.1.length<=2
 e:∀e∈f.1,eW (aF p) e.2.1/\e.2.1.length<=100/\0<=e.1/\e.1<=(p.2.2.2.1.length:Int)
def pI (p:b7) (a:Int) (l:List aG):tN:=cond (gG p&& (decide (0<=a/\a<=(p.2.2.2.1.length:Int)-1)&& jo (aF p) l)) (sy (aF p) (p.2.2.2.1.getD a.toNat (0,0,[],[],0,0,())) a ((cd p.2.2.2.1).getD a.toNat 0) l) ([],0,false,())
def E5 (d:4194304<k) (e:k<=4611686018427387903) (p:b7) (m:gF p) (a:Int) (l:List aG) (o:qW l) (q:QP l):GJ k (p,a,l,())=some ((pI p a l,()),((),(),(),())):=by
 simp only[GJ,qg k d e p m,aa,zD,cI];unfold pI;rcases a0r (gG p)with hok|hok
 ·obtain⟨i,j,f,_⟩:=eG hok
  have w:wrap .i64 ((p.2.2.2.1.length:Int)-1)=(p.2.2.2.1.length:Int)-1:=ak (by omega) (by omega);have r:JL k ((p.1,p.2.1,p.2.2.1,()),l,())=some ((jo (aF p) l,()),((),(),())):=EH k d (aF p) (ja i).2.1 l o;rw[hok,a0t,ah,w,a2d];by_cases c:0<=a/\a<=(p.2.2.2.1.length:Int)-1
  ·rw[a0f c,a0t,ah,r,aa,a0d,a2d]
   rcases a0r (jo (aF p) l)with hpo|hpo
   ·obtain⟨n,s⟩:∃n:Nat,a=n:=⟨a.toNat,by omega⟩
    subst s;have b:n<p.2.2.2.1.length:=by omega
    have g:=Hu hpo q;have h:=K5 d p i (f _ (a0l b)) (a0a b) (by omega) _ (Ps hok b).1 g.1.p (by omega);rw[hpo,a0t,ah,cT rfl,o6 k d p hok,aa,h,aa,a0j,ay b]
   ·rw[hpo,a0y,ai,cF rfl]
  ·rw[a0n c,a0y,ai,a0d,ai,a5y,cF rfl]
 ·rw[hok,a0y,ai,a0d,ai,a5y,cF rfl]
def E6 (h:d5 d leaf) (b:e.1=true):kb (dh d leaf e)=true:=by
 unfold kb dh;have a:leaf.toNat<(List.replicate (2^d.2.1.length) bC).length:=by
  rw[a1o];obtain⟨f,c⟩:=h;have g:leaf<((2^d.2.1.length:Nat):Int):=by simpa using c
  omega
 exact a3w.2 ⟨e,a3p (a4q a),b⟩
def PZ (a b:List bh):Prop:=∀i,Lr (a.getD i bC) (b.getD i bC)
def PZ.refl (a:List bh):PZ a a:=λ_=>Lr.refl _
def PZ.trans {a b c:List bh} (h:PZ a b) (d:PZ b c):PZ a c:=λi=>(h i).trans (d i)
def K6 {l:List bh} (h:¬i<l.length):l.getD i bC=bC:=by simp[List.getD,a0w (a5m h)]
def Ru (t:List bD) (T:List bh) (l:List aG):Prop:=∃q∈l,q.1=t/\PZ T q.2.1
def nO (a b:List aG):Prop:=∀p∈a,Ru p.1 p.2.1 b
def Ru.up {T:List bh} {a:List aG} (h:Ru t T l) (b:nO l a):Ru t T a:=by
 obtain⟨q,c,rfl,d⟩:=h;obtain⟨r,f,e,g⟩:=b q c;exact⟨r,f,e,d.trans g⟩
def nO.refl (l:List aG):nO l l:=λp a=>⟨p,a,rfl,PZ.refl _⟩
def nO.trans {a b c:List aG} (h:nO a b) (d:nO b c):nO a c:=λp e=>(h p e).up d
def nO.nil (l:List aG):nO [] l:=λp a=>by cases a
def Hw (d:aw) (leaf:Int) (e:bh) (i:Nat):(dh d leaf e).getD i bC=if leaf.toNat=i/\i<2^d.2.1.length then e else bC:=by
 unfold dh;by_cases hi:i<2^d.2.1.length
 ·rw[ay (by rw[a3j,a1o];exact hi),a8m]
  by_cases a:leaf.toNat=i
  ·rw[a0b a,a0b ⟨a,hi⟩]
  ·rw[a0e a,a0e (λh=>a h.1),a3z]
 ·rw[K6 (by rw[a3j,a1o];exact hi),a0e (λh=>hi h.2)]
abbrev ST:=List aG×List aG
def HJ (d:aw) (a:mg) (S:ST):Prop:=a.2.2.2.1=true->Ru a.2.1 (dh d a.2.2.1 a.2.2.2) (cond a.1 S.1 S.2)
def QR (s S:ST):Prop:=nO s.1 S.1/\nO s.2 S.2
def QR.refl (s:ST):QR s s:=⟨nO.refl _,nO.refl _⟩
def QR.trans {a b c:ST} (h:QR a b) (d:QR b c):QR a c:=⟨h.1.trans d.1,h.2.trans d.2⟩
def HJ.up {d:aw} {a:mg} {s S:ST} (h:HJ d a s) (e:QR s S):HJ d a S:=λl=>by
 have b:=h l;rcases a0r a.1 with c|c
 ·rw[cT c]at b⊢;exact b.up e.1
 ·rw[cF c]at b⊢;exact b.up e.2
def Bu (f:Nat->Int):∀(l:List Nat) (al:Int),cj al (l.foldl (λa j=>en a (f j)) al)/\∀j∈l,cj (f j) (l.foldl (λa j=>en a (f j)) al)
 |[],al=>⟨cj.refl _,λj b=>by cases b⟩
 |j::l,al=>by
  have ih:=Bu f l (en al (f j));refine⟨(cj.left _ _).trans ih.1,λx hx=> ?_⟩;rcases a1e.1 hx with hx|hx
  ·rw[hx];exact(cj.right _ _).trans ih.1
  ·exact ih.2 x hx
def Bv (d:aw) (n:aU):∀(l:List aG) (al:Int),cj al (l.foldl (jK d n) al)/\∀p∈l,∀j,j<p.2.1.length->cj (lF d n p.2.1 j) (l.foldl (jK d n) al)
 |[],al=>⟨cj.refl _,λp b=>by cases b⟩
 |p::l,al=>by
  have ih:=Bv d n l (jK d n al p);have u:=Bu (lF d n p.2.1) (List.range p.2.1.length) al;refine⟨u.1.trans ih.1,λx hx j a=> ?_⟩;rcases a1e.1 hx with hx|hx
  ·rw[hx]at a⊢
   exact(u.2 j (a2i.2 a)).trans ih.1
  ·exact ih.2 x hx j a
abbrev NV:Type:=dM×dM×List kF×List aU×List Int×List Int×Int×Int×List Int×List Bool×List (List Int)×Int×Int×List bD×Unit
def K7 (k:Nat) (t:List bD) (h:t.length<=3):zH k (t,())=some ((t,()),((),())):=by
 unfold zH;have a:(([]:List bD).length+t.length)*16<=af:=by simp only[a0h,af];omega
 cases t with
 |nil=>simp[af]
 |cons x r=>simp only[List.isEmpty_cons,ah,an,a0b a,a2j]
def lJ (t:List bD):Prop:=bq t=true
def kP (h:lJ t):t.length<=3:=by
 simp only[lJ,bq,a0c,a0q]at h;exact h.1
def sz (t:List bD) (a b:Int):List bD:=if bq t=true/\bq [(a,b,())]=true then(if t.length<3 then t++[(a,b,())]else t)else []
def yM (t:List bD) (a b:Int):lJ (sz t a b):=by
 unfold sz lJ;split
 ·rename_i h
  split
  ·simp only[bq,a0c,a0q,a5r,a0m,a0g,a0h]at h⊢
   exact⟨by omega,h.1.2,h.2.2⟩
  ·exact h.1
 ·rfl
def Pt (k:Nat) (d:4194304<k) (t:List bD) (a b:Int):Ee k (t,a,b,())=some ((sz t a b,()),((),(),(),())):=by
 unfold Ee sz;simp only[kK k d,aa]
 cases h1:bq t with
 |false=>simp
 |true=>
  have e:=kP (t:=t) h1
  cases h2:bq [(a,b,())]with
  |false=>simp
  |true=>
   have f:(t.length+([(a,b,())]:List bD).length)*16<=af:=by simp only[a0g,a0h,af];omega
   simp only[a0t,ah,K7 k t e,aa,an,and_self,a1s,a0b f];by_cases c:t.length<3
   ·rw[a0b (show(t.length:Int)<3 by omega),a0b c]
   ·rw[a0e (show¬(t.length:Int)<3 by omega),a0e c]
def gX (a:Int) (t:List bD):Nat:=(t.filter λe=>e.1==a).length
def NW (k:Nat) (p:4194304<k) (t:List bD) (q:t.length<=3) (a:Int):Ef k (t,a,())=some (((gX a t:Int),()),((),(),())):=by
 have d:∀(n i f c:Nat),i+n=t.length->n<f->c<=i->aP (Ef.l0 k) f (a,(c:Int),t,(t.length:Int),(i:Int),())=some ((((c+gX a (t.drop i):Nat):Int),()),((),(),())):=by
  intro n
  induction n with
  |zero=>
   intro i f c hi l m;obtain⟨f,rfl⟩:∃g,f=g+1:=⟨f-1,by omega⟩;have e:¬((i:Int)<(t.length:Int)):=by omega
   rw[az,a1w (by omega)];simp only[Ef.l0,an,a0e e,gX,List.filter_nil,a0h,a2z]
  |succ n ih=>
   intro i f c hi l m;obtain⟨f,rfl⟩:∃g,f=g+1:=⟨f-1,by omega⟩;have b:i<t.length:=by omega
   have e:((i:Int)<(t.length:Int)):=by omega
   have o:(0:Int)<=(i:Int):=by omega
   have r:iP (t[i].1==a)=0\/iP (t[i].1==a)=1:=jm _;rw[az,a1b b];simp only[Ef.l0,an,a0b e,a0b o,a0j,a0a b,aa,i7];rw[aH]
   cases he:(t[i].1==a)with
   |true=>
    have j:wrap .i64 ((c:Int)+iP true)=((c+1:Nat):Int):=by simp only[iP,a1r];exact aH
    rw[j,ih (i+1) f (c+1) (by omega) (by omega) (by omega)];simp only[gX,a3v,he,a1s,a0g];rw[a2k,Nat.add_comm 1]
   |false=>
    have j:wrap .i64 ((c:Int)+iP false)=((c:Nat):Int):=by simp only[iP,a2p];rw[ak (by omega) (by omega)];omega
    rw[j,ih (i+1) f c (by omega) (by omega) (by omega)];simp only[gX,a3v,he,a0u,a1z]
 have h:=d t.length 0 k 0 (by omega) (by omega) (a1n _);simp only[a4v,a1l]at h;exact h
def Ix (n:aU) (v:Int):Int:=if n.2.2.2.2.1<=v/\v<=n.2.2.2.2.2.1 then wrap .i64 (v-n.2.2.2.2.1)else wrap .i64 (wrap .i64 (n.2.2.2.2.2.1-n.2.2.2.2.1)+1)
def Pu (k:Nat) (n:aU) (v:Int):MA k (n,v,())=some ((Ix n v,()),((),(),())):=by
 unfold MA Ix;simp only[cI,aa];by_cases h:n.2.2.2.2.1<=v/\v<=n.2.2.2.2.2.1
 ·rw[a0f h,a0b h,a0t,ah]
 ·rw[a0n h,a0e h,a0y,ai]
def mn (t:List bD) (a:Int) (n:aU) (v:Int):List bD:=
 if n.1=6 then sz t a v
 else if n.1=10 then(if v=1/\(gX a t:Int)<n.2.2.2.2.1 then sz t a 1 else t)
 else if n.1=13 then sz t a (Ix n v)
 else if n.1=14 then []else t
def E7 (b:lJ t) (a:Int) (n:aU) (v:Int):lJ (mn t a n v):=by
 unfold mn;split
 ·exact yM _ _ _
 split
 ·split
  ·exact yM _ _ _
  ·exact b
 split
 ·exact yM _ _ _
 split
 ·rfl
 ·exact b
def Pv (k:Nat) (o:4194304<k) (p q:dM) (r:List kF) (s:List aU) (t u:List Int) (w d:Int) (x:List Int) (y:List Bool) (e:List (List Int)) (f g:Int) (a:List bD) (z:lJ a) (n:aU) (v:Int):Gy k ((p,q,r,s,t,u,w,d,x,y,e,f,g,a,()),n,v,())=some ((()),((p,q,r,s,t,u,w,d,x,y,e,f,g,mn a d n v,()),(),(),())):=by
 unfold Gy mn;simp only[bP,Pt k o,NW k o a (kP z),Pu,aa];by_cases i:n.1=6
 ·simp only[a0b i]
 by_cases b:n.1=10
 ·simp only[a0e i,a0b b]
  by_cases m:v=1
  ·subst m
   by_cases j:(gX d a:Int)<n.2.2.2.2.1
   ·simp[j]
   ·simp[j]
  ·have:¬(v=1/\(gX d a:Int)<n.2.2.2.2.1):=λh=>m h.1
   simp only[a0e m,a0e this,a0d,ah]
 by_cases c:n.1=13
 ·simp only[a0e i,a0e b,a0b c]
 by_cases l:n.1=14
 ·simp only[a0e i,a0e b,a0e c,a0b l]
 simp only[a0e i,a0e b,a0e c,a0e l]
structure NX where
 m0:dM
 m1:dM
 m2:List kF
 m3:List aU
 m4:List Int
 m5:List Int
 m6:Int
 m11:Int
def NX.m (F:NX) (c:Int) (s:aT) (a:Int) (b:List bD):NV:=(F.m0,F.m1,F.m2,F.m3,F.m4,F.m5,F.m6,c,s.1,s.2.1,s.2.2.1,F.m11,a,b,())
def d6 (F:NX) (q:Int×aT×Int×Int) (t:List bD) (r:Option ((Int×Unit)×(NV×Unit))):Prop:=r=some ((q.2.2.2,()),(F.m q.1 q.2.1 q.2.2.1 t,()))
def QS (k:Nat) (h:4194304<k) (F:NX) (d:Int) (s:aT) (b:Int) (c:List bD) (i:lJ c) (n:aU) (v a g:Int):d6 F (if a=0 then g else d,s,b,a) (if a=0 then mn c d n v else c) (z8.h32 k (F.m d s b c,(n.1,n.2.1,n.2.2.1,n.2.2.2.1,n.2.2.2.2.1,n.2.2.2.2.2.1,()),v,a,g,())):=by
 unfold d6 NX.m;simp only[z8.h32];by_cases e:a=0
 ·subst e
  have j:=Pv k h F.m0 F.m1 F.m2 F.m3 F.m4 F.m5 F.m6 d s.1 s.2.1 s.2.2.1 F.m11 b c i n v;have f:Gy k ((F.m0,F.m1,F.m2,F.m3,F.m4,F.m5,F.m6,d,s.1,s.2.1,s.2.2.1,F.m11,b,c,()),(n.1,n.2.1,n.2.2.1,n.2.2.2.1,n.2.2.2.2.1,n.2.2.2.2.2.1,()),v,())=_:=j;have z:((0:Int) !=0)=false:=rfl;simp only[z,ah,f,aa,a1s]
 ·have z:(a !=0)=true:=by simpa using e
  simp only[z,ai,a0e e]
def K8 {α:Type} {l:List α} {x:α} (h:l[i]?=some x):l.set i x=l:=by
 obtain⟨a,rfl⟩:=a0p.1 h;exact a4t a
def K9 (k:Nat) (v:4194304<k) (F:NX) (h:Int) (j:lh d s) (a:Int) (c:List bD) (w:u6 d n) (r:n.1=3) (f:List Int) (x:Int):Gz k (F.m h s a c,n,())=some (((aQ n f x h a s).2.2.2,()),(F.m h (aQ n f x h a s).2.1 a c,(),())):=by
 obtain⟨⟨G,a1⟩,z⟩:=w.arr r;have A:=w.ex (by rw[r];decide);have b:n.2.1.toNat<s.2.2.1.length:=by rw[j.n2];exact a1
 have B:Fi k ((s.1,s.2.1,s.2.2.1,()),n.2.2.1,())=_:=(kf k v j n.2.2.1 z).2;have C:Fi k ((s.1,s.2.1,s.2.2.1,()),n.2.2.2.1,())=_:=(kf k v j n.2.2.2.1 A).2;have D:0<=n.2.1/\n.2.1<(s.2.2.1.length:Int):=by omega
 have y:s.2.2.1[n.2.1.toNat]?=some (jI s n.2.1):=by unfold jI;rw[ay b];exact a0a b
 have H:(jI s n.2.1).length<=1048576:=j.m2 _ (by unfold jI;rw[ay b];exact a0l _);have g:s.2.2.1.set n.2.1.toNat (jI s n.2.1)=s.2.2.1:=K8 y;unfold Gz aQ NX.m Lm;simp only[B,C,aa,a0b r]
 generalize aV s [] n.2.2.1=i
 generalize aV s [] n.2.2.2.1=e
 by_cases l:i.2≠0
 ·have t:(i.2 !=0)=true:=by simpa using l
  simp only[t,ai,a0b l]
 ·have t:(i.2 !=0)=false:=by simpa using l
  simp only[t,ah,a0e l,an,a0b D,y,aa];by_cases o:e.2≠0
  ·have u:(e.2 !=0)=true:=by simpa using o
   simp only[u,ai,a0b o,g]
  ·have u:(e.2 !=0)=false:=by simpa using o
   simp only[u,ah,a0e o,cI,aa];rw[ak (n:=((jI s n.2.1).length:Int)-1) (by omega) (by omega)];by_cases p:0<=i.1/\i.1<=((jI s n.2.1).length:Int)-1
   ·have q:0<=i.1/\i.1<((jI s n.2.1).length:Int):=by omega
    have E:i.1.toNat<(jI s n.2.1).length:=by omega
    simp only[a0f p,a0t,ah,a0b q,a0a E,aa,a0b p]
   ·simp only[a0n p,a0y,ai,a0e p,g]
def fu (n:aU) (s:aT):Int:=if n.1=13 then s.1.getD n.2.1.toNat 0 else(aV s [] n.2.2.2.1).1
def d6.to {F:NX} {q a:Int×aT×Int×Int} {b:List bD} {r:Option ((Int×Unit)×(NV×Unit))} (h:d6 F q t r) (e:q=a) (c:t=b):d6 F a b r:=e▸c▸h
def gg (a:List bD) (c:Int) (n:aU) (s:aT) (b:Int):List bD:=if b=0 then mn a c n (fu n s)else a
def jC (t:List bD) (a:Int) (n:aU) (v w:Int) (h:n.1≠6/\n.1≠10/\n.1≠13):mn t a n v=mn t a n w:=by
 unfold mn;rw[a0e h.1,a0e h.1,a0e h.2.1,a0e h.2.1,a0e h.2.2,a0e h.2.2]
def E8 (k:Nat) (C:4194304<k) (F:NX) (i:Nat) (r:F.m3[i]?=some n) (t:u6 d n) (c:Int) (g:F.m4[i]?=some c) (P:i<1000) (y:lh d s) (Q:0<=used) (D:used<=F.m5.length) (R:F.m5.length<=1000) {f:List bD} (V:lJ f):d6 F (aQ n F.m5 c (i:Int) used s) (gg f i n s (aQ n F.m5 c (i:Int) used s).2.2.2) (z8 k (F.m (i:Int) s used f,())):=by
 have hT:i<F.m4.length:=(a0p.1 g).1;have u:(0:Int)<=(i:Int):=by omega
 have c1:0<=(i:Int)/\(i:Int)<(F.m4.length:Int):=by omega
 have W:=aH (i:=i);have S:bn n.1>0->Fi k ((s.1,s.2.1,s.2.2.1,()),n.2.2.2.1,())=some (((aV s [] n.2.2.2.1).1,(aV s [] n.2.2.2.1).2,()),((),(),())):=λh=>(kf k C y n.2.2.2.1 (t.ex h)).2
 have T:n.1=3->Gz k ((F.m0,F.m1,F.m2,F.m3,F.m4,F.m5,F.m6,(i:Int),s.1,s.2.1,s.2.2.1,F.m11,used,f,()),n,())=some (((aQ n F.m5 c i used s).2.2.2,()),(F.m i (aQ n F.m5 c i used s).2.1 used f,(),())):=λh=>K9 k C F i y used f t h F.m5 c
 have H:=λ(X:aT) (Y v z G:Int)=>QS k C F (i:Int) X Y f V n v z G
 have j:=t.var;have o:=t.flag;have p:=t.ends;have n0:=y.n0;have n1:=y.n1;obtain⟨Z,v,I,E,lo,hi,⟨⟩⟩:=n;have A:=t.kind;simp only at A j o p S T;show d6 F _ _ (z8 k ((F.m0,F.m1,F.m2,F.m3,F.m4,F.m5,F.m6,(i:Int),s.1,s.2.1,s.2.2.1,F.m11,used,f,()),()));unfold z8;rcases gW Z with rfl|rfl|rfl|rfl|rfl|rfl|rfl|rfl|rfl|rfl|rfl|rfl|rfl|rfl|hkk
 case inr.inr.inr.inr.inr.inr.inr.inr.inr.inr.inr.inr.inr.inr=>omega
 case inr.inr.inl=>
  have e:=T rfl;simp only[an,a0b u,a0b c1,a0j,r,g,aa,f8,bn,Int.reduceEq,↓reduceIte,a8e,a8f,a4r,a6t,bP,Int.reduceBNe,Int.reduceGT,Int.reduceLT,ai,ah,a0d,fL,z8.h15,a6x,a3e]at e⊢;rw[e];simp only[aa];have hq:=Iu t F.m5 c (i:Int) Q D y;have B:(aQ (3,v,I,E,lo,hi,()) F.m5 c i used s).2.2.1=used:=by
   unfold aQ;simp only[a1s];split
   ·rfl
   split
   ·rfl
   split<;>rfl
  have J:(if(aQ (3,v,I,E,lo,hi,()) F.m5 c i used s).2.2.2=0 then c else(i:Int))=(aQ (3,v,I,E,lo,hi,()) F.m5 c i used s).1:=by
   unfold aQ;simp only[a1s];split
   ·rename_i h;simp only[a0e h]
   split
   ·rename_i h;simp only[a0e h]
   split<;>simp
  refine d6.to (H (aQ (3,v,I,E,lo,hi,()) F.m5 c i used s).2.1 used 0 (aQ (3,v,I,E,lo,hi,()) F.m5 c i used s).2.2.2 c) ?_ ?_
  ·refine a9j J (a9j rfl (a9j B.symm rfl))
  ·unfold gg
   rw[jC f i _ 0 (fu (3,v,I,E,lo,hi,()) s) (by simp)]
 case inr.inr.inr.inl=>
  obtain⟨K,L⟩:=j (by omega);have q:v.toNat<s.1.length:=by omega
  have c2:0<=v/\v<(s.1.length:Int):=by omega
  have he:=pH (p rfl);have w1:wrap .i64 (wrap .i64 (hi-lo)+1)=hi-lo+1:=by rw[ak (n:=hi-lo) (by omega) (by omega),ak (by omega) (by omega)]
  simp only[an,a0b u,a0b c1,a0j,r,g,aa,f8,bn,Int.reduceEq,↓reduceIte,a8e,a8f,a4r,a6t,bP,Int.reduceBNe,Int.reduceGT,Int.reduceLT,ai,ah,a0d,fL,a6x,a3e,Lm,w1];have w:aQ (4,v,I,E,lo,hi,()) F.m5 c i used s=(c,(s.1.set v.toNat (Fk lo hi F.m5 used).1,s.2.1,s.2.2.1,()),(Fk lo hi F.m5 used).2,0):=by
   unfold aQ;simp[bn]
  have tk:gg f (i:Int) (4,v,I,E,lo,hi,()) s 0=mn f (i:Int) (4,v,I,E,lo,hi,()) 0:=by
   unfold gg;rw[a0b rfl];exact jC _ _ _ _ _ (by simp)
  rw[w];simp only[tk];by_cases B:used=(F.m5.length:Int)
  ·have x:Fk lo hi F.m5 used=(lo,used):=by unfold Fk;rw[ifPosQ]
   simp only[a0b B,a0b c2,a0a q,aa,x];exact d6.to (H (s.1.set v.toNat lo,s.2.1,s.2.2.1,()) used 0 0 c) rfl rfl
  ·have U:used.toNat<F.m5.length:=by omega
   have x:Fk lo hi F.m5 used=(ND lo hi (F.m5[used.toNat]),used+1):=by unfold Fk;rw[ifNegQ,ay U]
   have b:decide (hi-lo+1=0)=false:=a0n (by omega);obtain⟨S0,S1⟩:=yD (F.m5[used.toNat]) (show 1<=hi-lo+1 by omega);have wu:wrap .i64 (used+1)=used+1:=ak (by omega) (by omega);simp only[a0e B,a0b Q,a0a U,aa,b,a0y,ai,a0b c2,a0a q,wu,x];by_cases l:F.m5[used.toNat].tmod (hi-lo+1)<0
   ·have w2:wrap .i64 (F.m5[used.toNat].tmod (hi-lo+1)+(hi-lo+1))=F.m5[used.toNat].tmod (hi-lo+1)+(hi-lo+1):=ak (by omega) (by omega)
    have M:wrap .i64 (lo+(F.m5[used.toNat].tmod (hi-lo+1)+(hi-lo+1)))=lo+(F.m5[used.toNat].tmod (hi-lo+1)+(hi-lo+1)):=ak (by omega) (by omega);have N:ND lo hi F.m5[used.toNat]=lo+(F.m5[used.toNat].tmod (hi-lo+1)+(hi-lo+1)):=by unfold ND;rw[a0b l]
    simp only[a0b l,w2,M,N];exact d6.to (H (s.1.set v.toNat (lo+(F.m5[used.toNat].tmod (hi-lo+1)+(hi-lo+1))),s.2.1,s.2.2.1,()) (used+1) 0 0 c) rfl rfl
   ·have M:wrap .i64 (lo+F.m5[used.toNat].tmod (hi-lo+1))=lo+F.m5[used.toNat].tmod (hi-lo+1):=ak (by omega) (by omega)
    have N:ND lo hi F.m5[used.toNat]=lo+F.m5[used.toNat].tmod (hi-lo+1):=by unfold ND;rw[a0e l]
    simp only[a0e l,M,N];exact d6.to (H (s.1.set v.toNat (lo+F.m5[used.toNat].tmod (hi-lo+1)),s.2.1,s.2.2.1,()) (used+1) 0 0 c) rfl rfl
 case inr.inr.inr.inr.inr.inr.inl=>
  simp only[an,a0b u,a0b c1,a0j,r,g,aa,f8,bn,Int.reduceEq,↓reduceIte,a8e,a8f,a4r,a6t,a9i,bP,Int.reduceBNe,Int.reduceGT,Int.reduceLT,ai,ah,a0d,fL,a6x,a3e,z8.h26];exact d6.to (H s used 0 0 c) (by unfold aQ;simp[bn]) (by unfold gg aQ;simp[bn];exact jC _ _ _ _ _ (by simp))
 case inr.inr.inr.inr.inr.inr.inr.inl=>
  simp only[an,a0b u,a0b c1,a0j,r,g,aa,f8,bn,Int.reduceEq,↓reduceIte,a8e,a8f,a4r,a6t,a9i,bP,Int.reduceBNe,Int.reduceGT,Int.reduceLT,ai,ah,a0d,fL,a6x,a3e,z8.h26];exact d6.to (H s used 0 0 c) (by unfold aQ;simp[bn]) (by unfold gg aQ;simp[bn];exact jC _ _ _ _ _ (by simp))
 case inr.inr.inr.inr.inr.inr.inr.inr.inr.inr.inr.inr.inr.inl=>
  simp only[an,a0b u,a0b c1,a0j,r,g,aa,f8,bn,Int.reduceEq,↓reduceIte,a8e,a8f,a4r,a6t,a9i,bP,Int.reduceBNe,Int.reduceGT,Int.reduceLT,ai,ah,a0d,fL,a6x,a3e,z8.h26];exact d6.to (H s used 0 0 c) (by unfold aQ;simp[bn]) (by unfold gg aQ;simp[bn];exact jC _ _ _ _ _ (by simp))
 case inr.inr.inr.inr.inr.inr.inr.inr.inr.inr.inr.inr.inl=>
  obtain⟨K,L⟩:=j (by omega);have q:v.toNat<s.1.length:=by omega
  have c2:0<=v/\v<(s.1.length:Int):=by omega
  simp only[an,a0b u,a0b c1,a0j,r,g,aa,f8,bn,Int.reduceEq,↓reduceIte,a8e,a8f,a4r,a6t,a9i,bP,Int.reduceBNe,Int.reduceGT,Int.reduceLT,ai,ah,a0d,fL,a6x,a3e,a0b c2,a0a q];exact d6.to (H s used s.1[v.toNat] 0 c) (by unfold aQ;simp[bn]) (by unfold gg aQ fu;simp[bn,q])
 all_goals
  have e:=S (by decide);simp only[an,a0b u,a0b c1,a0j,r,g,aa,f8,bn,Int.reduceEq,↓reduceIte,a8e,a8f,a4r,a6t,a9i,bP,Int.reduceBNe,Int.reduceGT,Int.reduceLT,ai,ah,a0d,fL,a6x,a3e,e,W,z8.h26,z8.h22,z8.h7];by_cases a:(aV s [] E).2=0
  rotate_left
  ·have O:((aV s [] E).2 !=0)=true:=by simpa using a
   simp only[O,ai];have w:∀n:aU,n.1≠3->bn n.1>0->n.2.2.2.1=E->aQ n F.m5 c i used s=((i:Int),s,used,(aV s [] E).2):=λn D h2 h3=>by
    unfold aQ;rw[a0e D,h3,a0b ⟨h2,a⟩]
   rw[w _ (by simp) (by simp[bn]) rfl];simp only[d6,NX.m,gg,a0e a]
  have O:((aV s [] E).2 !=0)=false:=by simpa using a
  simp only[O,ah]
 ·obtain⟨K,L⟩:=j (by omega)
  have q:v.toNat<s.1.length:=by omega
  have c2:0<=v/\v<(s.1.length:Int):=by omega
  simp only[a0b c2,a0a q,aa,a];exact d6.to (H (s.1.set v.toNat (aV s [] E).1,s.2.1,s.2.2.1,()) used (aV s [] E).1 0 c) (by unfold aQ;simp[bn,a]) (by unfold gg aQ fu;simp[bn,a])
 ·obtain⟨K,L⟩:=o rfl
  have q:v.toNat<s.2.1.length:=by omega
  have c2:0<=v/\v<(s.2.1.length:Int):=by omega
  simp only[a0b c2,a0a q,aa,a];exact d6.to (H (s.1,s.2.1.set v.toNat ((aV s [] E).1==1),s.2.2.1,()) used (aV s [] E).1 0 c) (by unfold aQ;simp[bn,a]) (by unfold gg aQ fu;simp[bn,a])
 ·by_cases b:(aV s [] E).1=1
  ·simp only[a0b b,a]
   exact d6.to (H s used (aV s [] E).1 0 ((i+1:Nat):Int)) (by unfold aQ;simp[bn,a,b]) (by unfold gg aQ fu;simp[bn,a,b])
  ·simp only[a0e b,a]
   exact d6.to (H s used (aV s [] E).1 0 c) (by unfold aQ;simp[bn,a,b]) (by unfold gg aQ fu;simp[bn,a,b])
 ·by_cases b:(aV s [] E).1=1
  ·simp only[a0b b,a]
   exact d6.to (H s used (aV s [] E).1 0 ((i+1:Nat):Int)) (by unfold aQ;simp[bn,a,b]) (by unfold gg aQ fu;simp[bn,a,b])
  ·simp only[a0e b,a]
   exact d6.to (H s used (aV s [] E).1 0 c) (by unfold aQ;simp[bn,a,b]) (by unfold gg aQ fu;simp[bn,a,b])
 ·by_cases b:(aV s [] E).1=1
  ·simp only[a0b b,a]
   exact d6.to (H s used (aV s [] E).1 0 ((i+1:Nat):Int)) (by unfold aQ;simp[bn,a,b]) (by unfold gg aQ fu;simp[bn,a,b])
  ·simp only[a0e b,a]
   exact d6.to (H s used (aV s [] E).1 0 c) (by unfold aQ;simp[bn,a,b]) (by unfold gg aQ fu;simp[bn,a,b])
 ·by_cases b:(aV s [] E).1=1
  ·simp only[a0b b,a]
   exact d6.to (H s used (aV s [] E).1 0 ((i+1:Nat):Int)) (by unfold aQ;simp[bn,a,b]) (by unfold gg aQ fu;simp[bn,a,b])
  ·simp only[a0e b,a]
   exact d6.to (H s used (aV s [] E).1 0 c) (by unfold aQ;simp[bn,a,b]) (by unfold gg aQ fu;simp[bn,a,b])
 ·by_cases b:(aV s [] E).1=0
  ·simp only[a0b b]
   exact d6.to (H s used (aV s [] E).1 7 c) (by unfold aQ;simp[bn,a,b]) (by unfold gg aQ fu;simp[bn,a,b])
  ·simp only[a0e b,a]
   exact d6.to (H s used (aV s [] E).1 0 c) (by unfold aQ;simp[bn,a,b]) (by unfold gg aQ fu;simp[bn,a,b])
 ·by_cases b:(aV s [] E).1=0
  ·simp only[a0b b]
   exact d6.to (H s used (aV s [] E).1 3 c) (by unfold aQ;simp[bn,a,b]) (by unfold gg aQ fu;simp[bn,a,b])
  ·simp only[a0e b,a]
   exact d6.to (H s used (aV s [] E).1 0 c) (by unfold aQ;simp[bn,a,b]) (by unfold gg aQ fu;simp[bn,a,b])
def Iy (k:Nat) (v:4194304<k) (c:lh d s) (w:d.1.length<=1000/\d.2.1.length<=1000/\d.2.2.1.length<=1000):Gl k (s,())=some ((s,()),((),())):=by
 obtain⟨e,h,a,⟨⟩⟩:=s;have o:=c.n0;have p:=c.n1;have n2:=c.n2;have m:=c.m2;simp only at o p n2 m;have q:(([]:List Int).length+e.length)*8<=af:=by simp only[a0h,af];omega
 have c1:(([]:List Bool).length+h.length)*1<=af:=by simp only[a0h,af];omega
 have j:∀(n i f:Nat),i+n=a.length->n<f->aP (Gl.l0 k) f ((e,h,a,()),([],[],([]:List (List Int)),()),(e,h,a.take i,()),(i:Int),())=some (((e,h,a,()),()),((),())):=by
  intro n
  induction n with
  |zero=>
   intro i f hi r;obtain⟨f,rfl⟩:∃g,f=g+1:=⟨f-1,by omega⟩;have l:¬((i:Int)<(a.length:Int)):=by omega
   rw[az];simp only[Gl.l0,an,a0e l];rw[a3a (by omega)]
  |succ n ih=>
   intro i f hi r;obtain⟨f,rfl⟩:∃g,f=g+1:=⟨f-1,by omega⟩;have b:i<a.length:=by omega
   have l:((i:Int)<(a.length:Int)):=by omega
   have t:(0:Int)<=(i:Int):=by omega
   have x:=m _ (a0l b);have c2:(([]:List Int).length+a[i].length)*8<=af:=by simp only[a0h,af];omega
   have u:((a.take i).length+([a[i]]:List (List Int)).length)*24<=af:=by simp only[a1m,a0g,a0h,af];omega
   rw[az];simp only[Gl.l0,an,a0b l,a0b t,a0j,a0a b,aa,a0b c2,a0b u,a2j];rw[aH,a2v b];exact ih (i+1) f (by omega) (by omega)
 unfold Gl;simp only[an,a0b q,a0b c1,a2j];exact j a.length 0 k (by omega) (by omega)
def C2 (k:Nat) (n:aU) (e:hZ n.2.2.2.2.1 n.2.2.2.2.2.1=true) (a:List Int) (b:a.length<=1000) (f:0<=used):Jq k (n,a,used,())=some (((Fk n.2.2.2.2.1 n.2.2.2.2.2.1 a used).1,(Fk n.2.2.2.2.1 n.2.2.2.2.2.1 a used).2,()),((),(),(),())):=by
 obtain⟨m,v,I,E,lo,hi,⟨⟩⟩:=n;have h:=pH e;simp only at h;have w1:wrap .i64 (wrap .i64 (hi-lo)+1)=hi-lo+1:=by rw[ak (n:=hi-lo) (by omega) (by omega),ak (by omega) (by omega)]
 unfold Jq Fk;simp only[an,w1];by_cases c:used>=(a.length:Int)
 ·simp only[a0b c]
 ·have d:used.toNat<a.length:=by omega
  have g:decide (hi-lo+1=0)=false:=a0n (by omega);obtain⟨o,p⟩:=yD (a[used.toNat]) (show 1<=hi-lo+1 by omega);have i:wrap .i64 (a[used.toNat].tmod (hi-lo+1)+(hi-lo+1))=a[used.toNat].tmod (hi-lo+1)+(hi-lo+1):=ak (by omega) (by omega);have j:wrap .i64 (used+1)=used+1:=ak (by omega) (by omega);have et:(a[used.toNat].tmod (hi-lo+1)+(hi-lo+1)).tmod (hi-lo+1)=if a[used.toNat].tmod (hi-lo+1)<0 then a[used.toNat].tmod (hi-lo+1)+(hi-lo+1)else a[used.toNat].tmod (hi-lo+1):=by
   rw[a5w (by omega)];split
   ·exact a8a (by omega) (by omega)
   ·have:(a[used.toNat].tmod (hi-lo+1)+(hi-lo+1)) % (hi-lo+1)=a[used.toNat].tmod (hi-lo+1) % (hi-lo+1):=by simp
    rw[this];exact a8a (by omega) (by omega)
  have l:wrap .i64 (lo+(a[used.toNat].tmod (hi-lo+1)+(hi-lo+1)).tmod (hi-lo+1))=ND lo hi a[used.toNat]:=by
   rw[et];unfold ND;split
   ·exact ak (by omega) (by omega)
   ·exact ak (by omega) (by omega)
  simp only[a0e c,a0b f,a0a d,aa,g,a0y,ai,i,l,j,ay d]
def fw (q:Int×aT×Int×Int) (r:Option ((Int×aT×Int×Int×Unit)×(Unit×Unit×Unit×Unit×Unit×Unit×Unit×Unit))):Prop:=r=some ((q.1,q.2.1,q.2.2.1,q.2.2.2,()),((),(),(),(),(),(),(),()))
def fw.to {q a:Int×aT×Int×Int} {r:Option ((Int×aT×Int×Int×Unit)×(Unit×Unit×Unit×Unit×Unit×Unit×Unit×Unit))} (h:fw q r) (e:q=a):fw a r:=e▸h
def NY (k:Nat) (g d:Int) (f:List Int) (c:Int) (n:aU) (s t:aT) (i e a:Int) (h:a≠0):fw (d,s,c,a) (p7.h8 k (g,d,f,c,(n.1,n.2.1,n.2.2.1,n.2.2.2.1,n.2.2.2.2.1,n.2.2.2.2.2.1,()),(s.1,s.2.1,s.2.2.1,()),(t.1,t.2.1,t.2.2.1,()),i,e,a,())):=by
 have b:(a !=0)=true:=by simpa using h
 unfold fw;simp only[p7.h8,b,ai]
def Iz (k:Nat) (G:4194304<k) (H:d.1.length<=1000/\d.2.1.length<=1000/\d.2.2.1.length<=1000) (o:u6 d n) (h:List Int) (p:h.length<=1000) (C:Int) (j:Nat) (D:j<1000) (J:0<=used) (r:lh d s) (t:aT) (i e:Int)
 (u:n.1=3->aV s [] n.2.2.1=(i,0)) (a:bn n.1>0->aV s [] n.2.2.2.1=(e,0)):
 fw (aQ n h C j used s) (p7.h8 k (C,(j:Int),h,used,(n.1,n.2.1,n.2.2.1,n.2.2.2.1,n.2.2.2.2.1,n.2.2.2.2.2.1,()),(s.1,s.2.1,s.2.2.1,()),(t.1,t.2.1,t.2.2.1,()),i,e,0,())):=by
 have z:Gl k ((s.1,s.2.1,s.2.2.1,()),())=some ((s,()),((),())):=Iy k G r H;have K:=aH (i:=j);have b:=o.var;have c:=o.flag;have m:=o.arr;have f:=o.ends;have N:=r.n0;have O:=r.n1;have n2:=r.n2;obtain⟨L,v,I,E,lo,hi,⟨⟩⟩:=n;have w:=o.kind;simp only at w b c m f u a;rcases gW L with rfl|rfl|rfl|rfl|rfl|rfl|rfl|rfl|rfl|rfl|rfl|rfl|rfl|rfl|hkk
 case inr.inr.inr.inr.inr.inr.inr.inr.inr.inr.inr.inr.inr.inr=>omega
 all_goals (simp only[p7.h8,p7.h28,p7.h30,fL,z,aa,bP,an,Int.reduceEq,↓reduceIte,Int.reduceBNe,Int.reduceBEq,ai,ah,a0d,a3e,K])
 ·obtain⟨x,A⟩:=b (by omega)
  have l:v.toNat<s.1.length:=by omega
  have c2:0<=v/\v<(s.1.length:Int):=by omega
  have a:=a (by decide);simp only[a0b c2,a0a l,aa,fw,aQ,bn,a];simp
 ·obtain⟨x,A⟩:=c rfl
  have l:v.toNat<s.2.1.length:=by omega
  have c2:0<=v/\v<(s.2.1.length:Int):=by omega
  have a:=a (by decide);simp only[a0b c2,a0a l,aa,fw,aQ,bn,a];simp
 ·obtain⟨⟨x,A⟩,_⟩:=m rfl
  have l:v.toNat<s.2.2.1.length:=by omega
  have c2:0<=v/\v<(s.2.2.1.length:Int):=by omega
  have a:=a (by decide);have u:=u rfl;have P:=r.m2 _ (a0l l);have F:jI s v=s.2.2.1[v.toNat]:=by unfold jI;exact ay l _
  simp only[a0b x,a0b c2,a0a l,aa,jV];rw[ak (n:=((s.2.2.1[v.toNat]).length:Int)-1) (by omega) (by omega)];by_cases y:0<=i/\i<=((s.2.2.1[v.toNat]).length:Int)-1
  ·have q:0<=i/\i<((s.2.2.1[v.toNat]).length:Int):=by omega
   have M:i.toNat<(s.2.2.1[v.toNat]).length:=by omega
   simp only[a0f y,a0t,ah,a0b q,a0a M,aa,fw,aQ,u,a,F];simp[y]
  ·simp only[a0n y,a0y,ai,fw,aQ,u,a,F]
   simp[y]
 ·obtain⟨x,A⟩:=b (by omega)
  have l:v.toNat<s.1.length:=by omega
  have c2:0<=v/\v<(s.1.length:Int):=by omega
  have B:=C2 k (4,v,I,E,lo,hi,()) (f rfl) h p J;simp only[B,a0b c2,a0a l,aa,fw,aQ,bn];simp
 ·have a:=a (by decide)
  by_cases g:e=1<;>simp[fw,aQ,bn,a,g]
 ·have a:=a (by decide)
  by_cases g:e=1<;>simp[fw,aQ,bn,a,g]
 ·simp[fw,aQ,bn]
 ·simp[fw,aQ,bn]
 ·have a:=a (by decide)
  by_cases g:e=1<;>simp[fw,aQ,bn,a,g]
 ·have a:=a (by decide)
  by_cases g:e=1<;>simp[fw,aQ,bn,a,g]
 ·have a:=a (by decide)
  by_cases g:e=0<;>simp[fw,aQ,bn,a,g]
 ·have a:=a (by decide)
  by_cases g:e=0<;>simp[fw,aQ,bn,a,g]
 ·simp[fw,aQ,bn]
 ·simp[fw,aQ,bn]
def P0 (k:Nat) (o:4194304<k) (r:d.1.length<=1000/\d.2.1.length<=1000/\d.2.2.1.length<=1000) (l:u6 d n) (a:List Int) (c:a.length<=1000) (g:Int) (b:Nat) (e:b<1000) (u:0<=used) (p:lh d s) (t:aT) (i:Int)
 (q:n.1=3->aV s [] n.2.2.1=(i,0)):
 fw (aQ n a g b used s) (p7.h6 k (g,(b:Int),a,used,(n.1,n.2.1,n.2.2.1,n.2.2.2.1,n.2.2.2.2.1,n.2.2.2.2.2.1,()),(s.1,s.2.1,s.2.2.1,()),(t.1,t.2.1,t.2.2.1,()),i,0,0,())):=by
 have w:((s.1,s.2.1,s.2.2.1,()):aT)=s:=rfl;simp only[p7.h6,fL,CW,a5h];by_cases m:bn n.1>0
 ·have v:=l.ex m
  have x:pP k (n.2.2.2.1,(s.1,s.2.1,s.2.2.1,()),())=_:=(kf k o p n.2.2.2.1 v).1;simp only[tM v,a0y,ai,a0d,x,aa];by_cases j:(aV s [] n.2.2.2.1).2=0
  ·rw[j]
   exact Iz k o r l a c g b e u p t i _ q (λ_=>a9j rfl j)
  ·refine fw.to (NY k g b a used n s t i _ _ j) ?_
   unfold aQ;by_cases f:n.1=3
   ·rw[a0b f,q f,a0e (by simp),a0b j]
   ·rw[a0e f,a0b ⟨m,j⟩]
 ·simp only[l.noE m,a0t,ah,a0d]
  exact Iz k o r l a c g b e u p t i _ q (λh=>absurd h m)
def E9 (k:Nat) (m:4194304<k) (r:d.1.length<=1000/\d.2.1.length<=1000/\d.2.2.1.length<=1000) (g:u6 d n) (p:b7) (a:List Int) (e:a.length<=1000) (i:Int) (c:Nat) (f:c<1000) (t:0<=used) (o:lh d s):fw (aQ n a i c used s) (p7 k (p,i,n,(c:Int),s,a,used,())):=by
 have v:((s.1,s.2.1,s.2.2.1,()):aT)=s:=rfl;unfold p7;simp only[CW,fL];by_cases j:n.1=3
 ·obtain⟨_,u⟩:=g.arr j
  have w:pP k (n.2.2.1,s,())=_:=(kf k m o n.2.2.1 u).1;simp only[tM u,a0y,ai,w,aa];by_cases l:(aV s [] n.2.2.1).2=0
  ·rw[l]
   exact P0 k m r g a e i c f t o ([],[],[],()) _ (λ_=>a9j rfl l)
  ·have b:((aV s [] n.2.2.1).2==0)=false:=by simpa using l
   have q:=g.ex (by rw[j];decide);simp only[p7.h6,fL,CW,tM q,a0y,ai,a0d,b,ah];refine fw.to (NY k i c a used n s ([],[],[],()) _ 0 _ l) ?_
   unfold aQ;rw[a0b j,a0b l]
 ·simp only[g.noI j,a0t,ah]
  exact P0 k m r g a e i c f t o ([],[],[],()) _ (λh=>absurd h j)
abbrev La:Type:=Int×Int×List Int×List Bool×List (List Int)×Int×Int×Unit
def Pw (o:La):aT:=(o.2.2.1,o.2.2.2.1,o.2.2.2.2.1,())
def iF (b d:Int) (s:aT) (a c:Int):La:=(b,d,s.1,s.2.1,s.2.2.1,a,c,())
def iG (L:List aU) (T a:List Int):Nat->Int->aT->Int->Int->La
 |0,ln,s,steps,used=>if ln<(L.length:Int)then iF 2 ln s steps used else iF 0 ln s steps used
 |r+1,ln,s,steps,used=>
  if ln<(L.length:Int)then
   (if(aQ (L.getD ln.toNat bZ) a (T.getD ln.toNat 0) ln used s).2.2.2≠0 then iF (aQ (L.getD ln.toNat bZ) a (T.getD ln.toNat 0) ln used s).2.2.2 (aQ (L.getD ln.toNat bZ) a (T.getD ln.toNat 0) ln used s).1 (aQ (L.getD ln.toNat bZ) a (T.getD ln.toNat 0) ln used s).2.1 (steps+1) (aQ (L.getD ln.toNat bZ) a (T.getD ln.toNat 0) ln used s).2.2.1
   else iG L T a r (aQ (L.getD ln.toNat bZ) a (T.getD ln.toNat 0) ln used s).1 (aQ (L.getD ln.toNat bZ) a (T.getD ln.toNat 0) ln used s).2.1 (steps+1) (aQ (L.getD ln.toNat bZ) a (T.getD ln.toNat 0) ln used s).2.2.1)
  else iF 0 ln s steps used
structure kQ (d:aw) (L:List aU) (T inp:List Int) (ln used:Int) (s:aT):Prop where
 l30:L.length<=30
 lines:∀n∈L,u6 d n
 tlen:T.length=L.length
 tb:∀x∈T,0<=x/\x<=(L.length:Int)
 i1000:inp.length<=1000
 lnb:0<=ln/\ln<=(L.length:Int)
 use:0<=used/\used<=inp.length
 st:lh d s
def kQ.line (h:kQ d L T inp ln used s) (c:ln<(L.length:Int)):L[ln.toNat]?=some (L.getD ln.toNat bZ)/\T[ln.toNat]?=some (T.getD ln.toNat 0)/\L.getD ln.toNat bZ∈L/\T.getD ln.toNat 0∈T:=by
 have e:=h.lnb;have f:=h.tlen;have a:ln.toNat<L.length:=by omega
 have b:ln.toNat<T.length:=by omega
 rw[ay a,ay b];exact⟨a0a a,a0a b,a0l a,a0l b⟩
def kQ.step (h:kQ d L T inp ln used s) (a:ln<(L.length:Int)):C1 d (L.getD ln.toNat bZ) inp (T.getD ln.toNat 0) ln used s (aQ (L.getD ln.toNat bZ) inp (T.getD ln.toNat 0) ln used s):=by
 obtain⟨_,_,b,c⟩:=h.line a;exact Iu (h.lines _ b) inp _ ln h.use.1 h.use.2 h.st
def kQ.next (h:kQ d L T inp ln used s) (b:ln<(L.length:Int)):kQ d L T inp (aQ (L.getD ln.toNat bZ) inp (T.getD ln.toNat 0) ln used s).1 (aQ (L.getD ln.toNat bZ) inp (T.getD ln.toNat 0) ln used s).2.2.1 (aQ (L.getD ln.toNat bZ) inp (T.getD ln.toNat 0) ln used s).2.1:=by
 have a:=h.step b;have f:=h.lnb;have g:=h.use;have i:=a.use;refine⟨h.l30,h.lines,h.tlen,h.tb,h.i1000,?_,by omega,a.st⟩;by_cases c:(aQ (L.getD ln.toNat bZ) inp (T.getD ln.toNat 0) ln used s).2.2.2=0
 ·rcases a.go c with e|e
  ·rw[e];exact h.tb _ (h.line b).2.2.2
  ·rw[e];omega
 ·rw[a.stay c];exact f
structure Rv (d:aw) (L:List aU) (inp:List Int) (r:Nat) (steps used:Int) (s:aT) (o:La):Prop where
 ln:0<=o.2.1/\o.2.1<=(L.length:Int)
 done:o.1=0↔o.2.1=(L.length:Int)
 code:o.1≠1/\(o.1=7->(L.getD o.2.1.toNat bZ).1=11)/\(o.1=3->(L.getD o.2.1.toNat bZ).1=12)
 stb:steps<=o.2.2.2.2.2.1/\o.2.2.2.2.2.1<=steps+r
 out:o.1=2->o.2.2.2.2.2.1=steps+r
 use:used<=o.2.2.2.2.2.2.1/\o.2.2.2.2.2.2.1<=inp.length
 st:lh d (Pw o)
 lens:(Pw o).2.2.1.map List.length=s.2.2.1.map List.length
def NZ {d:aw} {L:List aU} {T c:List Int}:∀(r:Nat) (f:Int) (s:aT) (b a:Int),kQ d L T c f a s->Rv d L c r b a s (iG L T c r f s b a)
 |0,f,s,b,a,h=>by
  have k:=h.lnb;unfold iG;split
  ·exact⟨k,by simp only[iF];omega,by simp only[iF];omega,by simp only[iF];omega,λ_=>by simp only[iF];omega,⟨a1d _,h.use.2⟩,h.st,rfl⟩
  ·exact⟨k,⟨λ_=>by simp only[iF];omega,λ_=>rfl⟩,by simp only[iF];omega,by simp only[iF];omega,λe=>by simp only[iF]at e;omega,⟨a1d _,h.use.2⟩,h.st,rfl⟩
 |r+1,f,s,b,a,h=>by
  have k:=h.lnb;unfold iG;split
  ·rename_i l
   have i:=h.step l;have m:=h.next l;split
   ·rename_i n
    have j:=i.stay n;have g:=i.code;refine⟨m.lnb,?_,⟨g.1,λe=> ?_,λe=> ?_⟩,by simp only[iF];omega,λe=>absurd e g.2.1,i.use,i.st,i.lens⟩
    ·simp only[iF];rw[j];constructor
     ·intro e;exact absurd e n
     ·intro e;omega
    ·simp only[iF]at e⊢;rw[j];exact g.2.2.1 e
    ·simp only[iF]at e⊢;rw[j];exact g.2.2.2 e
   ·have ih:=NZ r (aQ (L.getD f.toNat bZ) c (T.getD f.toNat 0) f a s).1 (aQ (L.getD f.toNat bZ) c (T.getD f.toNat 0) f a s).2.1 (b+1) (aQ (L.getD f.toNat bZ) c (T.getD f.toNat 0) f a s).2.2.1 m
    have q:=ih.stb;have o:=ih.out;have p:=ih.use;have t:=i.use;exact⟨ih.ln,ih.done,ih.code,by omega,λe=>by have:=o e;omega,⟨by omega,p.2⟩,ih.st,ih.lens.trans i.lens⟩
  ·exact⟨k,⟨λ_=>by simp only[iF];omega,λ_=>rfl⟩,by simp only[iF];omega,by simp only[iF];omega,λe=>by simp only[iF]at e;omega,⟨a1d _,h.use.2⟩,h.st,rfl⟩
def Px (h:aY d=true):lh d (ge d):=by
 have a:=NC h;exact⟨by simp[ge],by simp[ge],by simp[ge],λx b=>a.f0 x b,λr c x b=>a.f2 r c x b,λr c=>by have:=a.m2 r c;omega⟩
def Hx (k:Nat) (b:4194304<k) (c:eL d) (a:aY d=true):xd k (d,())=some ((ge d,()),((),())):=by
 obtain⟨⟨y,⟨⟨⟩,⟨⟩⟩⟩,e,h⟩:=Hk k b c;rw[e];rw[a,a1r]at h;obtain⟨y,⟨⟩⟩:=y;simp only at h;rw[h]
def Rw (d:aw) (x:aT×aT×List kF×Int×Int×Unit):Prop:=x.2.2.1=d.2.2.1/\x.2.2.2.1=d.2.2.1.length/\0<=x.2.2.2.2.1/\x.2.2.2.2.1<=d.2.2.1.length/\x.2.1=(List.replicate d.1.length (0:Int),List.replicate d.2.1.length false,(d.2.2.1.take x.2.2.2.2.1.toNat).map λa=>List.replicate a.2.1.toNat (0:Int),())
def Fa (k:Nat) (v:4194304<k) (a:aY d=true):ax (xp k (d,())) λy=>y.1.1=ge d:=by
 unfold xp;obtain⟨⟨h,j,o⟩,f⟩:=je a;refine ax.chk (by simp only[af];omega) (ax.chk (by simp only[af];omega) ?_);refine ax.loop (Rw d) (λx=>((d.2.2.1.length:Int)-x.2.2.2.2.1).toNat) ?_ k (([],[],[],()),(List.replicate (d.1.length:Int).toNat (Kd.z (.int .i64)),List.replicate (d.2.1.length:Int).toNat (Kd.z .bool),[],()),d.2.2.1,(d.2.2.1.length:Int),0,()) ⟨rfl,rfl,a1d _,Int.natCast_nonneg _,rfl⟩ (by simp only;omega)
 rintro G ⟨⟨w,A,B,⟨⟩⟩,⟨C,D,E,⟨⟩⟩,l,m,i,⟨⟩⟩ ⟨rfl,rfl,g,p,b⟩ hG
 simp only at h j o f g p b;simp only[a0x]at b;obtain⟨rfl,rfl,rfl,_⟩:=b;simp only[xp.l0];refine ax.dec (λc=>ax.chk g (ax.get (by omega) λs e t=> ?_)) λc=>ax.ret ?_
 ·have F:=f s e
  refine ax.chk (by simp only[af];omega) (ax.chk (by simp only[a2u,a1m,a0g,a0h,af];omega) ?_);rw[ak (n:=i+1) (by omega) (by omega)];refine hG _ ⟨rfl,rfl,?_,?_,?_⟩ (by simp only;omega)
  ·simp only;omega
  ·simp only;omega
  ·have u:(i+1).toNat=i.toNat+1:=by omega
   obtain⟨q,r⟩:=a0p.1 t;simp only[u];rw[<-a2v q,a3d,r];rfl
 ·simp only[ge]
  rw[a3a (by omega)]
def Hy (k:Nat) (b:4194304<k) (a:aY d=true):xp k (d,())=some ((ge d,()),((),())):=by
 obtain⟨⟨y,⟨⟨⟩,⟨⟩⟩⟩,e,h⟩:=Fa k b a;rw[e];obtain⟨y,⟨⟩⟩:=y;simp only at h;rw[h]
def gH (p:b7) (b:List Int) (a:Int):Bool:=gG p&& (decide (0<=a/\a<=2000)&& decide (b.length<=1000))
def N0 (k:Nat) (d:4194304<k) (c:k<=4611686018427387903) (p:b7) (f:gF p) (b:List Int) (a:Int):Jy k (p,b,a,())=some ((gH p b a,()),((),(),(),())):=by
 unfold Jy gH;simp only[qg k d c p f,cI,aa]
 cases gG p with
 |false=>simp
 |true=>
  have e:decide ((b.length:Int)<=1000)=decide (b.length<=1000):=a8l.2 (by omega)
  cases decide (0<=a/\a<=2000)<;>simp[e]
def N1 (k:Nat) (d:4194304<k) (c:k<=4611686018427387903) (p:b7) (f:gF p) (b:List Int) (a:Int):Jn k (p,b,a,())=some ((gH p b a,()),((),(),(),())):=by
 unfold Jn gH;simp only[qf k d c p f,jV,aa]
 cases gG p with
 |false=>simp
 |true=>
  have e:decide ((b.length:Int)<=1000)=decide (b.length<=1000):=a8l.2 (by omega)
  cases decide (0<=a/\a<=2000)<;>simp[e]
def Rx (p:b7) (b:List Int) (a:Int):La:=iG p.2.2.2.1 (cd p.2.2.2.1) b a.toNat 0 (ge (aF p)) 0 0
def iR (p:b7) (b:List Int) (a:Int):La:=if gH p b a=true then Rx p b a else(1,0,[],[],[],0,0,())
def pJ {a:Int} (h:gH p inp a=true):kQ (aF p) p.2.2.2.1 (cd p.2.2.2.1) inp 0 0 (ge (aF p)):=by
 simp only[gH,a0c,a0q]at h;obtain⟨c,j,d⟩:=h;obtain⟨a1,b,e,k⟩:=eG c;obtain⟨f,g⟩:=su p.2.2.2.1 b;exact⟨b,λn i=>C0 (e n i),f,g,d,by omega,by omega,Px a1⟩
def C3 (k:Nat) (E:4194304<k) (u v:dM) (w:List kF) (L:List aU) (T e:List Int) (l:Int) (P:l<=2000):∀(r f:Nat) (n:Int) (s:aT) (a c:Int) (j:List bD),kQ d L T e n c s->lJ j->r<f->a+r=l->0<=a->∃x,aP (Lo.l0 k) f ((u,v,w,L,T,e,0,n,s.1,s.2.1,s.2.2.1,a,c,j,()),l,(()),())=some ((()),((u,v,w,L,T,e,(iG L T e r n s a c).1,(iG L T e r n s a c).2.1,(iG L T e r n s a c).2.2.1,(iG L T e r n s a c).2.2.2.1,(iG L T e r n s a c).2.2.2.2.1,(iG L T e r n s a c).2.2.2.2.2.1,(iG L T e r n s a c).2.2.2.2.2.2.1,x,()),(),(()),())):=by
 have p:∀(G:_->_) (n:Int) (s:aT) (a c:Int) (j:List bD),¬n<(L.length:Int)->Lo.l0 k G ((u,v,w,L,T,e,0,n,s.1,s.2.1,s.2.2.1,a,c,j,()),l,(()),())=some ((()),((u,v,w,L,T,e,0,n,s.1,s.2.1,s.2.2.1,a,c,j,()),(),(()),())):=by
  intro G n s a c j o;simp only[Lo.l0,zD,Ed,aa,an,a0e o]
 intro r
 induction r with
 |zero=>
  intro f n s a c j h A C F H;obtain⟨f,rfl⟩:∃g,f=g+1:=⟨f-1,by omega⟩;have D:(a==l)=true:=by simp;omega
  rw[az];by_cases o:n<(L.length:Int)
  ·refine⟨j,?_⟩
   simp only[Lo.l0,zD,Ed,aa,an,a0b o,D,ai,iG,iF]
  ·refine⟨j,?_⟩
   rw[p _ _ _ _ _ _ o];simp only[iG,a0e o,iF]
 |succ r ih=>
  intro f n s a c j h A C F H;obtain⟨f,rfl⟩:∃g,f=g+1:=⟨f-1,by omega⟩;have D:(a==l)=false:=by simp;omega
  rw[az];by_cases o:n<(L.length:Int)
  ·have Q:=h.lnb
   have I:=h.tlen;obtain⟨l1,l2,J,R⟩:=h.line o;obtain⟨i,rfl⟩:∃i:Nat,n=(i:Int):=⟨n.toNat,by omega⟩;have K:=h.l30;have M:wrap .i64 (a+1)=a+1:=ak (by omega) (by omega);have t:=E8 k E (d:=d) ⟨u,v,w,L,T,e,0,a+1⟩ i l1 (h.lines _ J) (T.getD (i:Int).toNat 0) l2 (by omega) h.st h.use.1 h.use.2 h.i1000 A;unfold d6 NX.m at t;simp only at t;have N:=h.next o;simp only[Lo.l0,zD,Ed,aa,an,a0b o,D,ah,M,t,iG];have y:lJ (gg j (i:Int) (L.getD (i:Int).toNat bZ) s (aQ (L.getD (i:Int).toNat bZ) e (T.getD (i:Int).toNat 0) (i:Int) c s).2.2.2):=by
    unfold gg;split
    ·exact E7 A _ _ _
    ·exact A
   generalize gg j (i:Int) (L.getD (i:Int).toNat bZ) s (aQ (L.getD (i:Int).toNat bZ) e (T.getD (i:Int).toNat 0) (i:Int) c s).2.2.2=tok2 at y
   have z:=ih f _ _ (a+1) _ tok2 N y (by omega) (by omega) (by omega)
   generalize aQ (L.getD (i:Int).toNat bZ) e (T.getD (i:Int).toNat 0) (i:Int) c s=q at z⊢
   by_cases B:q.2.2.2≠0
   ·have b:(q.2.2.2 !=0)=true:=by simpa using B
    simp only[b,ai,a0b B,iF];exact⟨tok2,rfl⟩
   ·have b:(q.2.2.2 !=0)=false:=by simpa using B
    have O:q.2.2.2=0:=by omega
    simp only[b,ah,a0e B];rw[O];exact z
  ·refine⟨j,?_⟩
   rw[p _ _ _ _ _ _ o];simp only[iG,a0e o,iF]
def Hz (k:Nat) (c:4194304<k) (d:k<=4611686018427387903) (p:b7) (i:gF p) (b:List Int) (a:Int):GA k (p,b,a,())=some ((iR p b a,()),((),(),(),())):=by
 unfold GA iR;simp only[N0 k c d p i,aa]
 cases hf:gH p b a with
 |false=>simp
 |true=>
  have j:=pJ hf;simp only[gH,a0c,a0q]at hf;obtain⟨g,l,o⟩:=hf;have e:=(eG g).1;have m:xp k ((p.1,p.2.1,p.2.2.1,()),())=some ((ge (aF p),()),((),())):=Hy k c e;obtain⟨h,n⟩:=C3 k c p.1 p.2.1 p.2.2.1 p.2.2.2.1 (cd p.2.2.2.1) b a l.2 a.toNat k 0 (ge (aF p)) 0 0 [] j rfl (by omega) (by omega) (by omega);have f:Lo k ((p.1,p.2.1,p.2.2.1,p.2.2.2.1,cd p.2.2.2.1,b,0,0,(ge (aF p)).1,(ge (aF p)).2.1,(ge (aF p)).2.2.1,0,0,[],()),a,(()),())=_:=n;simp only[Mt,a0t,ah,o6 k c p g,m,aa,a1s,f];rfl
abbrev C4:Type:=Int×List bD×List Int×List Bool×List (List Int)×Unit
def nH (b:Int) (a:List bD) (s:aT):C4:=(b,a,s.1,s.2.1,s.2.2.1,())
def o9 (x:C4):aT:=(x.2.2.1,x.2.2.2.1,x.2.2.2.2.1,())
def dI (L:List aU) (T a:List Int):Nat->Int->aT->Int->List bD->List C4
 |0,ln,s,used,tok=>[nH ln tok s]
 |r+1,ln,s,used,tok=>
  if ln<(L.length:Int)then
   nH ln tok s::(if(aQ (L.getD ln.toNat bZ) a (T.getD ln.toNat 0) ln used s).2.2.2≠0 then []else dI L T a r (aQ (L.getD ln.toNat bZ) a (T.getD ln.toNat 0) ln used s).1 (aQ (L.getD ln.toNat bZ) a (T.getD ln.toNat 0) ln used s).2.1 (aQ (L.getD ln.toNat bZ) a (T.getD ln.toNat 0) ln used s).2.2.1 (gg tok ln (L.getD ln.toNat bZ) s 0))
  else [nH ln tok s]
def Bw (L:List aU) (T c:List Int):∀(r:Nat) (b:Int) (s:aT) (a:Int) (d:List bD),(dI L T c r b s a d).length<=r+1
 |0,b,s,a,d=>by simp[dI]
 |r+1,b,s,a,d=>by
  unfold dI;split
  ·split
   ·simp
   ·have:=Bw L T c r (aQ (L.getD b.toNat bZ) c (T.getD b.toNat 0) b a s).1 (aQ (L.getD b.toNat bZ) c (T.getD b.toNat 0) b a s).2.1 (aQ (L.getD b.toNat bZ) c (T.getD b.toNat 0) b a s).2.2.1 (gg d b (L.getD b.toNat bZ) s 0)
    simp only[a0g];omega
  ·simp
def C5 {a:List bD} (b:lJ a) (d:Int) (n:aU) (s:aT) (c:Int):lJ (gg a d n s c):=by
 unfold gg;split
 ·exact E7 b _ _ _
 ·exact b
def N2 (d:aw) (S:List Nat) (x:C4):Prop:=x.2.1.length<=3/\lh d (o9 x)/\(o9 x).2.2.1.map List.length=S
def Fb {d:aw} {L:List aU} {T c:List Int} (S:List Nat):∀(r:Nat) (e:Int) (s:aT) (a:Int) (b:List bD),kQ d L T c e a s->lJ b->s.2.2.1.map List.length=S->∀x∈dI L T c r e s a b,N2 d S x
 |0,e,s,a,b,h,ht,hS,x,hx=>by
  simp only[dI,a0v]at hx;subst hx;exact⟨kP ht,h.st,hS⟩
 |r+1,e,s,a,b,h,ht,hS,x,hx=>by
  unfold dI at hx;have f:N2 d S (nH e b s):=⟨kP ht,h.st,hS⟩;split at hx
  ·rename_i g
   rcases a1e.1 hx with rfl|hx
   ·exact f
   ·split at hx
    ·cases hx
    ·exact Fb S r _ _ _ _ (h.next g) (C5 ht _ _ _ _) ((h.step g).lens.trans hS) x hx
  ·rw[a0v.1 hx];exact f
def Bx {d:aw} {L:List aU} {T f:List Int}:∀(r:Nat) (c:Int) (s:aT) (b a:Int) (g:List bD),kQ d L T f c a s->
 ((dI L T f r c s a g).length:Int)=(iG L T f r c s b a).2.2.2.2.2.1-b+(if(iG L T f r c s b a).1=0\/(iG L T f r c s b a).1=2 then 1 else 0)/\
 (∃n,dI L T f r c s a g=nH c g s::n)/\
 ∃i x,dI L T f r c s a g=i++[x]/\x.1=(iG L T f r c s b a).2.1/\o9 x=Pw (iG L T f r c s b a)
 |0,c,s,b,a,g,h=>by
  simp only[dI,iG];split
  ·exact⟨by simp[iF],⟨[],rfl⟩,[],_,rfl,rfl,rfl⟩
  ·exact⟨by simp[iF],⟨[],rfl⟩,[],_,rfl,rfl,rfl⟩
 |r+1,c,s,b,a,g,h=>by
  unfold dI iG;by_cases k:c<(L.length:Int)
  ·rw[a0b k,a0b k]
   have l:=h.step k;by_cases j:(aQ (L.getD c.toNat bZ) f (T.getD c.toNat 0) c a s).2.2.2≠0
   ·rw[a0b j,a0b j]
    have m:=l.code;refine⟨?_,⟨[],rfl⟩,[],_,rfl,?_,?_⟩
    ·have:¬((aQ (L.getD c.toNat bZ) f (T.getD c.toNat 0) c a s).2.2.2=0\/(aQ (L.getD c.toNat bZ) f (T.getD c.toNat 0) c a s).2.2.2=2):=by
      rintro(e|e)
      ·exact j e
      ·exact m.2.1 e
     simp only[iF,a0e this,a0g,a0h];omega
    ·exact(l.stay j).symm
    ·simp only[iF,Pw,o9,nH]
     rw[l.keep j]
   ·rw[a0e j,a0e j]
    obtain⟨t,⟨u,v⟩,i,x,o,p,q⟩:=Bx r (aQ (L.getD c.toNat bZ) f (T.getD c.toNat 0) c a s).1 (aQ (L.getD c.toNat bZ) f (T.getD c.toNat 0) c a s).2.1 (b+1) (aQ (L.getD c.toNat bZ) f (T.getD c.toNat 0) c a s).2.2.1 (gg g c (L.getD c.toNat bZ) s 0) (h.next k);refine⟨?_,⟨_,rfl⟩,nH c g s::i,x,by rw[o];rfl,p,q⟩;simp only[a0g];omega
  ·rw[a0e k,a0e k]
   exact⟨by simp[iF],⟨[],rfl⟩,[],_,rfl,rfl,rfl⟩
def eH (p:b7) (b:List Int) (a:Int):List C4:=if gH p b a=true then dI p.2.2.2.1 (cd p.2.2.2.1) b a.toNat 0 (ge (aF p)) 0 []else []
def vM (s:aT) {l:List bU} (h:bI d l≠0):(aV s [] l).2=(bN s (dO d l)).2/\((bN s (dO d l)).2=0->(aV s [] l).1=(bN s (dO d l)).1):=by
 obtain⟨a,b,_,_⟩:=dx h;have:=Hm s a;rw[<-b]at this;exact this
def HA (K:aY d=true) (h:bz d n=true) (D:List Int) (nx E u:Int) (he:bi d e) (hi:yS e s) (hs:lh d s) (L:u7 d s) {c:Int} (a:c=(aQ n D nx E u s).2.2.2) (f:c≠0):cj (jJ c) (cQ d n (cp s.2.1) e):=by
 have R:=ng he hi.l;have T:∀ {x:Ex},x.Ok d->tJ (bN s x) (aB d e (cp s.2.1) x):=λk=>sw K R hi hs L k
 unfold aQ at a;by_cases r:n.1=3
 ·obtain⟨⟨v0,v1⟩,k1,k2⟩:=Nz h r
  obtain⟨v,M,N,O⟩:=dx (show bI d n.2.2.2.1≠0 by omega);obtain⟨P,y2,y3,y4⟩:=dx (show bI d n.2.2.1≠0 by omega);obtain⟨g,m⟩:=vM s (show bI d n.2.2.2.1≠0 by omega);obtain⟨o,F⟩:=vM s (show bI d n.2.2.1≠0 by omega);have tx:=T v;have ty:=T P;have Q:=(gc R (cp s.2.1) P).1;unfold cQ;rw[ifNegQ,a0b r];rw[a0b r]at a;obtain⟨X,S⟩:∃X,X=aB d e (cp s.2.1) (dO d n.2.2.2.1):=⟨_,rfl⟩;obtain⟨Y,U⟩:∃X,X=aB d e (cp s.2.1) (dO d n.2.2.1):=⟨_,rfl⟩;rw[<-S]at tx;rw[<-U]at ty Q;rw[<-S,<-U];by_cases B:(aV s [] n.2.2.1).2≠0
  ·rw[a0b B]at a
   have b:c=(aV s [] n.2.2.1).2:=a;rw[b,o];have G:=ty.2 (by rw[<-o];exact B)
   cases aC Y
   ·exact G
   ·cases aC X
    ·exact G.trans (cj.left _ _)
    ·exact(G.trans (cj.left _ _)).trans (cj.left _ _)
  rw[a0e B]at a;have w:(bN s (dO d n.2.2.1)).2=0:=by rw[<-o];exact Decidable.not_not.1 B
  obtain⟨V,W⟩:=ty.1 w;rw[cT V];by_cases C:(aV s [] n.2.2.2.1).2≠0
  ·rw[a0b C]at a
   have b:c=(aV s [] n.2.2.2.1).2:=a;rw[b,g];have k:=tx.2 (by rw[<-g];exact C)
   cases aC X
   ·exact k.trans (cj.right _ _)
   ·exact(k.trans (cj.right _ _)).trans (cj.left _ _)
  rw[a0e C]at a;have H:(bN s (dO d n.2.2.2.1)).2=0:=by rw[<-g];exact Decidable.not_not.1 C
  obtain⟨lx,ix⟩:=tx.1 H;rw[cT lx];by_cases I:0<=(aV s [] n.2.2.1).1/\(aV s [] n.2.2.1).1<=((jI s n.2.1).length:Int)-1
  ·rw[a0b I]at a;exact absurd a f
  ·rw[a0e I]at a
   have b:c=5:=a;rw[b];rw[F w]at I;have p:n.2.1.toNat<d.2.2.1.length:=by omega
   have hl:((jI s n.2.1).length:Int)=d.2.2.1[n.2.1.toNat].2.1:=L n.2.1.toNat p;have hp:yq d n.2.1 (bR Y)=2:=by
    unfold yq;rw[a0a p];show iB d.2.2.1[n.2.1.toNat] (bR Y)=2;have q1:=W.1;have q2:=W.2;rw[yy (Ir K _ (a0l p)) (Q V),ifNegQ]
   rw[hp];show cj 2 _;exact cj.right _ _
 rw[a0e r]at a;by_cases t:bn n.1>0/\(aV s [] n.2.2.2.1).2≠0
 ·rw[a0b t]at a
  have b:c=(aV s [] n.2.2.2.1).2:=a;have j:=(C0 h).ex t.1;obtain⟨v,M,N,O⟩:=dx j;obtain⟨g,m⟩:=vM s j;have J:¬(n.1=4\/n.1=13\/n.1=14\/n.1=7\/n.1=8):=by
   intro Z;have:=t.1;unfold bn at this;rw[ifNegQ,ifNegQ]at this;omega
  have k:=(T v).2 (by rw[<-g];exact t.2);unfold cQ;rw[a0e J,a0e r,b,g];by_cases i:n.1=11
  ·rw[a0b i]
   cases (aC (aB d e (cp s.2.1) (dO d n.2.2.2.1))&& iO (bR (aB d e (cp s.2.1) (dO d n.2.2.2.1))) 0)
   ·exact k
   ·exact k.trans (cj.left _ _)
  ·rw[a0e i];exact k
 rw[a0e t]at a;by_cases h1:n.1=1
 ·rw[a0b h1]at a;exact absurd a f
 rw[a0e h1]at a;by_cases h2:n.1=2
 ·rw[a0b h2]at a;exact absurd a f
 rw[a0e h2]at a;by_cases h4:n.1=4
 ·rw[a0b h4]at a;exact absurd a f
 rw[a0e h4]at a;by_cases h5:n.1=5\/n.1=6\/n.1=9\/n.1=10
 ·rw[a0b h5]at a;exact absurd a f
 rw[a0e h5]at a;by_cases i:n.1=11
 ·rw[a0b i]at a
  have y:bn n.1>0:=by rw[i];decide
  have j:=(C0 h).ex y;obtain⟨v,M,N,O⟩:=dx j;obtain⟨g,m⟩:=vM s j;by_cases q:(aV s [] n.2.2.2.1).1=0
  ·rw[a0b q]at a
   have b:c=7:=a;have h0:(bN s (dO d n.2.2.2.1)).2=0:=by
    rw[<-g];apply a7v;intro Z;exact t ⟨y,Z⟩
   rw[m h0]at q;obtain⟨l,z⟩:=(T v).1 h0;rw[q]at z;unfold cQ;rw[ifNegQ,a0e r,a0b i,b,cT (show(aC (aB d e (cp s.2.1) (dO d n.2.2.2.1))&& iO (bR (aB d e (cp s.2.1) (dO d n.2.2.2.1))) 0)=true by rw[l,a2d];exact a0f z)];show cj 8 _;exact cj.right _ _
  ·rw[a0e q]at a;exact absurd a f
 rw[a0e i]at a;by_cases A:n.1=12
 ·rw[a0b A]at a
  by_cases q:(aV s [] n.2.2.2.1).1=0
  ·rw[a0b q]at a
   have b:c=3:=a;rw[b];exact cj.zero _
  ·rw[a0e q]at a;exact absurd a f
 rw[a0e A]at a;exact absurd a f
def C6 (h:d5 d leaf):leaf.toNat<2^d.2.1.length:=by
 obtain⟨b,a⟩:=h;have c:leaf<((2^d.2.1.length:Nat):Int):=by simpa using a
 omega
def HB (h:d5 d leaf) (e:bh):(dh d leaf e).getD leaf.toNat bC=e:=by
 rw[Hw,a0b ⟨rfl,C6 h⟩]
def HC (d:aw) (leaf:Int) (e:bh):(dh d leaf e).length=2^d.2.1.length:=by simp[dh]
def N3 (c:aY d=true) (h:bz d n=true) (a b:Int) {q:aG} (e:mf d q):sy d n a b [q]=(vL a b (mm d n a [q]),yK d n [q],false,()):=by
 have f:=(lI c h a (l:=[q]) (λp g=>by rw[a0v.1 g];exact e)).2;have i:(mm d n a [q]).1.length+(mm d n a [q]).2.length<=_:=o4 d (iE d n a [q]) ([],[]);simp only[a0g,a0h]at f i;unfold sy;rw[a0n (show¬(mm d n a [q]).1.length>100 by omega),a0n (show¬(mm d n a [q]).2.length>100 by omega)];rfl
def IA (a:lh d s):d5 d (cp s.2.1):=by
 have:=si s.2.1;unfold d5;rw[<-a.n1];exact this
def HD (m:aY d=true) (h:bz d n=true) (f g:Int) (i:List Int) (o j a:Int) (p:bi d e) (hi:yS e s) (r:lh d s) (u:u7 d s) (v:bq t=true) {c:Int} (w:c=(aQ n i o j a s).2.2.2) (k:c≠0):cj (jJ c) (sy d n f g [(t,dh d (cp s.2.1) e,())]).2.1:=by
 have b:=IA r;rw[N3 m h f g (q:=(t,dh d (cp s.2.1) e,())) ⟨v,ll p⟩];have x:=(Bv d n [(t,dh d (cp s.2.1) e,())] 0).2 _ (a0v.2 rfl) (cp s.2.1).toNat (by rw[HC];exact C6 b);refine(HA m h i o j a p hi r u w k).trans ?_
 have y:lF d n (dh d (cp s.2.1) e) (cp s.2.1).toNat=cQ d n (cp s.2.1) e:=by
  unfold lF;rw[HB b,cT hi.l,Int.toNat_of_nonneg b.1]
 rw[<-y];exact x
def yN {d:aw} {L:List aU} {T c:List Int}:∀(r:Nat) (e:Int) (s:aT) (b a:Int) (f:List bD),kQ d L T c e a s->(iG L T c r e s b a).1≠0->(iG L T c r e s b a).1≠2->∃i x u,dI L T c r e s a f=i++[x]/\x.1<(L.length:Int)/\kQ d L T c x.1 u (o9 x)/\(iG L T c r e s b a).1=(aQ (L.getD x.1.toNat bZ) c (T.getD x.1.toNat 0) x.1 u (o9 x)).2.2.2
 |0,e,s,b,a,f,h,h0,h2=>by
  unfold iG at h0 h2;split at h0
  ·rename_i g
   rw[a0b g]at h2;exact absurd rfl h2
  ·exact absurd rfl h0
 |r+1,e,s,b,a,f,h,h0,h2=>by
  unfold iG at h0 h2⊢;unfold dI;by_cases g:e<(L.length:Int)
  ·rw[a0b g]at h0 h2
   rw[a0b g,a0b g];by_cases j:(aQ (L.getD e.toNat bZ) c (T.getD e.toNat 0) e a s).2.2.2≠0
   ·rw[a0b j,a0b j]
    exact⟨[],nH e f s,a,rfl,g,h,rfl⟩
   ·rw[a0e j]at h0 h2
    rw[a0e j,a0e j];obtain⟨i,x,u,k,l,m,n⟩:=yN r _ _ (b+1) _ (gg f e (L.getD e.toNat bZ) s 0) (h.next g) h0 h2;exact⟨nH e f s::i,x,u,by rw[k];rfl,l,m,n⟩
  ·rw[a0e g]at h0
   exact absurd rfl h0
def Lc (b:aY d=true) (h:s.2.2.1.map List.length=(ge d).2.2.1.map List.length):u7 d s:=by
 intro j c;have e:=a1x (λl=>l.getD j 0) h;have a:s.2.2.1.length=d.2.2.1.length:=by
  have:=a1x List.length h;simpa [ge]using this
 have f:=(je b).2 _ (a0l c);simp only[ge,a8r]at e;rw[ay (by rw[a2u];omega),ay (by rw[a2u];omega)]at e;simp only[a3i,Function.comp,a1o]at e;rw[ay (show j<s.2.2.1.length by omega),e];omega
def rc (a:bA) (x:Int):bA:=(if x<a.1 then x else a.1,if x>a.2.1 then x else a.2.1,())
def sA (r:List Int):bA:=r.foldl rc (r.getD 0 0,r.getD 0 0,())
def vq (s:aT):bh:=(true,s.1.map (λx=>(x,x,())),s.2.2.1.map sA,())
def N4 (o:4194304<k) (t:List bD) (d:aw) (s:aT) (c:List bD×List bh×Unit) (e:bh) (leaf:Int) (hi:i<s.2.2.1.length) (m:i<=100) (p:e.2.2.1.length<=100) (q:s.2.2.1[i].length<=1000) (a:bA) (G4):aP (qI.l6 k G4) k (t,(d.1,d.2.1,d.2.2.1,()),(s.1,s.2.1,s.2.2.1,()),(c.1,c.2.1,()),(e.1,e.2.1,e.2.2.1,()),leaf,(i:Int),(a.1,a.2.1,()),0,())=G4 (t,(d.1,d.2.1,d.2.2.1,()),(s.1,s.2.1,s.2.2.1,()),(c.1,c.2.1,()),(e.1,e.2.1,e.2.2.1++[s.2.2.1[i].foldl rc a],()),leaf,((i+1:Nat):Int),()):=by
 have g:s.2.2.1[i]?=some s.2.2.1[i]:=a0a hi;have h:(0:Int)<=(i:Int):=by omega
 refine Eq.trans ?_ (Eq.trans (ca (b:=qI.l6 k G4) (λj=>(t,(d.1,d.2.1,d.2.2.1,()),(s.1,s.2.1,s.2.2.1,()),(c.1,c.2.1,()),(e.1,e.2.1,e.2.2.1,()),leaf,(i:Int),(((s.2.2.1[i].take j).foldl rc a).1,((s.2.2.1[i].take j).foldl rc a).2.1,()),(j:Int),())) s.2.2.1[i].length (r:=G4 (t,(d.1,d.2.1,d.2.2.1,()),(s.1,s.2.1,s.2.2.1,()),(c.1,c.2.1,()),(e.1,e.2.1,e.2.2.1++[s.2.2.1[i].foldl rc a],()),leaf,((i+1:Nat):Int),())) (λG j l=> ?_) (λG=> ?_) (f:=k) (by omega)) rfl)
 ·rfl
 ·have n:s.2.2.1[i][j]?=some s.2.2.1[i][j]:=a0a l
  simp only[qI.l6];rw[a0f h];simp only[ai,a0j,g,aa];rw[a0f (show(j:Int)<(s.2.2.1[i].length:Int) by omega),a0f (show(0:Int)<=(j:Int) by omega)];simp only[ai,n,aa];rw[aH (i:=j),kG _ _ _ l];rfl
 ·simp only[qI.l6]
  rw[a0f h];simp only[ai,a0j,g,aa];rw[a0n (show¬(s.2.2.1[i].length:Int)<(s.2.2.1[i].length:Int) by omega),ah,a0f (by simp only[a0g,a0h,af];omega),ai,aH (i:=i),a2a]
def IB (h:i<=3):wrap .i64 (1*2^(min (wrap .u64 (i:Int)).toNat 64))=2^i:=by
 have:i=0\/i=1\/i=2\/i=3:=by omega
 rcases this with rfl|rfl|rfl|rfl<;>decide
def N5 (h:i<=3):(1:Int)<=2^i/\(2:Int)^i<=8:=by
 have:i=0\/i=1\/i=2\/i=3:=by omega
 rcases this with rfl|rfl|rfl|rfl<;>decide
def Py (u:4194304<k) (v:aY d=true) (m:lh d s) (w:u7 d s) (q:t.length<=3):qI k (d,t,s,())=some (((t,dh d (cp s.2.1) (vq s),()),()),((),(),(),())):=by
 obtain⟨⟨L,M,N⟩,y⟩:=je v;have O:=m.n0;have z:=m.n1;have n2:=m.n2;have e:∀i (hi:i<s.2.2.1.length),1<=s.2.2.1[i].length/\s.2.2.1[i].length<=16:=λi hi=>by
  have B:=w i (by omega);rw[ay hi]at B;have P:=y _ (a0l (show i<d.2.2.1.length by omega));omega
 have a:=si s.2.1;have Q:=N5 (show d.2.1.length<=3 by omega);have C:=IB (show d.2.1.length<=3 by omega);have n:((2:Int)^d.2.1.length).toNat=2^d.2.1.length:=by
  have:((2:Int)^d.2.1.length)=((2^d.2.1.length:Nat):Int):=by simp
  rw[this,a0j]
 rw[z]at a;have o:∀(I:List bA) (A:List bA),I=s.1.map (λx=>(x,x,()))->A=s.2.2.1.map sA->∀G,qI.l4 k G (t,(d.1,d.2.1,d.2.2.1,()),(s.1,s.2.1,s.2.2.1,()),([],[],()),(true,I,A,()),cp s.2.1,(s.2.2.1.length:Int),())=some (((t,dh d (cp s.2.1) (vq s),()),()),((),(),(),())):=by
  intro I A g D G;simp only[qI.l4];rw[a0n (show¬(s.2.2.1.length:Int)<(s.2.2.1.length:Int) by omega),ah,a0f (show(([]:List bD).length+t.length)*16<=af by simp only[a0h,af];omega),ai,a0f (show 0<=wrap .u64 (d.2.1.length:Int) by rw[gM];omega),ai,C,a0f (show 0<=(2:Int)^d.2.1.length/\(2:Int)^d.2.1.length<=(2:Int)^d.2.1.length/\(2:Int)^d.2.1.length*56<=af by refine⟨by omega,by omega,?_⟩;unfold af;omega),ai,n];have p:(cp s.2.1).toNat<2^d.2.1.length:=C6 ⟨a.1,a.2⟩;rw[a0f (by rw[a1o];omega),ai,List.getElem?_replicate_of_lt p,aa,a2j,g,D];rfl
 have h:∀(I:List bA),I=s.1.map (λx=>(x,x,()))->aP (qI.l4 k) k (t,(d.1,d.2.1,d.2.2.1,()),(s.1,s.2.1,s.2.2.1,()),([],[],()),(true,I,[],()),cp s.2.1,0,())=some (((t,dh d (cp s.2.1) (vq s),()),()),((),(),(),())):=by
  intro I g;refine Eq.trans ?_ (Eq.trans (ca (b:=qI.l4 k) (λi=>(t,(d.1,d.2.1,d.2.2.1,()),(s.1,s.2.1,s.2.2.1,()),([],[],()),(true,I,(s.2.2.1.take i).map sA,()),cp s.2.1,(i:Int),())) s.2.2.1.length (r:=some (((t,dh d (cp s.2.1) (vq s),()),()),((),(),(),()))) (λG i hi=> ?_) (λG=> ?_) (f:=k) (by omega)) rfl)
  ·rfl
  ·have j:s.2.2.1[i]?=some s.2.2.1[i]:=a0a hi
   obtain⟨R,S⟩:=e i hi;have E:s.2.2.1[i][0]?=some (s.2.2.1[i].getD 0 0):=by rw[ay (show 0<s.2.2.1[i].length by omega)];exact a0a _
   have F:=N4 u t d s ([],[],()) (true,I,(s.2.2.1.take i).map sA,()) (cp s.2.1) hi (by omega) (by simp only[a2u,a1m];omega) (by omega) (s.2.2.1[i].getD 0 0,s.2.2.1[i].getD 0 0,()) G;simp only[qI.l4];rw[a0f (show(i:Int)<(s.2.2.1.length:Int) by omega),a0f (show(0:Int)<=(i:Int) by omega),a0f (show(0:Int)<=(0:Int) by omega)];simp only[ai,a0j,a4b,j,aa,E];refine F.trans ?_
   rw[a2n hi,a3d];rfl
  ·rw[a2a]
   exact o _ _ g rfl G
 have c:∀(I:List bA),I=s.1.map (λx=>(x,x,()))->aP (qI.l2 k) k (t,(d.1,d.2.1,d.2.2.1,()),(s.1,s.2.1,s.2.2.1,()),([],[],()),(true,I,[],()),0,0,())=some (((t,dh d (cp s.2.1) (vq s),()),()),((),(),(),())):=by
  intro I g;refine Eq.trans ?_ (Eq.trans (ca (b:=qI.l2 k) (λi=>(t,(d.1,d.2.1,d.2.2.1,()),(s.1,s.2.1,s.2.2.1,()),([],[],()),(true,I,[],()),cp (s.2.1.take i),(i:Int),())) s.2.1.length (r:=some (((t,dh d (cp s.2.1) (vq s),()),()),((),(),(),()))) (λG i hi=> ?_) (λG=> ?_) (f:=k) (by omega)) rfl)
  ·rfl
  ·have j:s.2.1[i]?=some s.2.1[i]:=a0a hi
   have l:i<=3:=by omega
   have q:=Hc s.2.1 hi;have H:=si (s.2.1.take i);have T:=N5 l;rw[a1m,a8q (by omega)]at H;simp only[qI.l2];rw[a0f (show(i:Int)<(s.2.1.length:Int) by omega),a0f (show(0:Int)<=(i:Int) by omega),a0f (show 0<=wrap .u64 (i:Int) by rw[gM];omega),IB l];simp only[ai,a0j,j,aa];rw[aH (i:=i),q]
   cases s.2.1[i]
   ·have J:Hb false=0:=rfl
    rw[ah,J,Int.zero_mul,Int.add_zero]
   ·have K:Hb true=1:=rfl
    rw[ai,K,Int.one_mul,ak (by omega) (by omega)]
  ·simp only[qI.l2]
   rw[a0n (show¬(s.2.1.length:Int)<(s.2.1.length:Int) by omega),ah,a2a];exact h I g
 simp only[qI];refine Eq.trans ?_ (Eq.trans (ca (b:=qI.l0 k) (λi=>(t,(d.1,d.2.1,d.2.2.1,()),(s.1,s.2.1,s.2.2.1,()),([],[],()),(true,(s.1.take i).map (λx=>((x,x,()):bA)),[],()),0,(i:Int),())) s.1.length (r:=some (((t,dh d (cp s.2.1) (vq s),()),()),((),(),(),()))) (λG i hi=> ?_) (λG=> ?_) (f:=k) (by omega)) rfl)
 ·rfl
 ·have j:s.1[i]?=some s.1[i]:=a0a hi
  simp only[qI.l0];rw[a0f (show(i:Int)<(s.1.length:Int) by omega),a0f (show(0:Int)<=(i:Int) by omega)];simp only[ai,a0j,j,aa];rw[a0f (by simp only[a2u,a1m,a0g,a0h,af];omega),ai,aH (i:=i),a2n hi,a3d];rfl
 ·simp only[qI.l0]
  rw[a0n (show¬(s.1.length:Int)<(s.1.length:Int) by omega),ah,a2a];exact c _ rfl
def IC:∀(l:List Int) (a:bA),a.1<=a.2.1->EO a (l.foldl rc a)/\∀x∈l,fP x (l.foldl rc a)
 |[],a,_=>⟨EO.refl _,λx hx=>by cases hx⟩
 |y::l,a,h=>by
  have b:(rc a y).1<=a.1/\a.2.1<=(rc a y).2.1/\(rc a y).1<=y/\y<=(rc a y).2.1:=by
   unfold rc;simp only;split<;>split<;>omega
  obtain⟨c,d⟩:=IC l (rc a y) (by omega);refine⟨EO.trans ⟨b.1,b.2.1⟩ c,λx hx=> ?_⟩;rcases a1e.1 hx with hx|hx
  ·rw[hx];exact fP.mono ⟨b.2.2.1,b.2.2.2⟩ c
  ·exact d x hx
def By:∀(l:List Int) (a:bA),bw a->(∀x∈l,ar x)->bw (l.foldl rc a)
 |[],a,h,_=>h
 |y::l,a,h,hl=>by
  refine By l (rc a y) ?_ (λx c=>hl x (by simp[c]))
  have b:=hl y (by simp);refine⟨?_,?_⟩
  ·show ar (if y<a.1 then y else a.1)
   split
   ·exact b
   ·exact h.1
  ·show ar (if y>a.2.1 then y else a.2.1)
   split
   ·exact b
   ·exact h.2
def tO (l:aY d=true) (e:lh d s) (m:u7 d s):bi d (vq s)/\yS (vq s) s:=by
 have b:∀r∈s.2.2.1,bw (sA r)/\bj (sA r)=true/\∀x∈r,fP x (sA r):=λr g=>by
  obtain⟨j,c,rfl⟩:=a2g.1 g;have n:=m j (by have:=e.n2;omega);rw[ay c]at n;have p:=(je l).2 _ (a0l (show j<d.2.2.1.length by have:=e.n2;omega));have h:0<s.2.2.1[j].length:=by omega
  have i:ar (s.2.2.1[j].getD 0 0):=by rw[ay h];exact e.f2 _ g _ (a0l h)
  obtain⟨k,o⟩:=IC s.2.2.1[j] (s.2.2.1[j].getD 0 0,s.2.2.1[j].getD 0 0,()) (a1d _);have l1:=k.1;have l2:=k.2;simp only at l1 l2;exact⟨By _ _ ⟨i,i⟩ (e.f2 _ g),a0f (by unfold sA;omega),o⟩
 refine⟨Or.inl ⟨rfl,⟨by simp only[vq,a2u];exact e.n0,by simp only[vq,a2u];exact e.n2,λx a=> ?_,λx a=> ?_⟩,λx a=> ?_,λx a=> ?_⟩,⟨rfl,λj=> ?_,λj x a=> ?_⟩⟩
 ·obtain⟨y,f,rfl⟩:=a2y.1 a
  exact⟨e.f0 y f,e.f0 y f⟩
 ·obtain⟨y,f,rfl⟩:=a2y.1 a
  exact(b y f).1
 ·obtain⟨y,f,rfl⟩:=a2y.1 a
  exact a0f (a1d _)
 ·obtain⟨y,f,rfl⟩:=a2y.1 a
  exact(b y f).2.1
 ·show fP (s.1.getD j 0) ((s.1.map (λx=>((x,x,()):bA))).getD j fS)
  by_cases c:j<s.1.length
  ·rw[ay c,ay (by rw[a2u];exact c),a3i]
   exact⟨a1d _,a1d _⟩
  ·simp only[a5v,a5b,a0w (a5m c)]
   exact⟨a1d _,a1d _⟩
 ·show fP x ((s.2.2.1.map sA).getD j fS)
  by_cases c:j<s.2.2.1.length
  ·rw[ay c]at a
   rw[ay (by rw[a2u];exact c),a3i];exact(b _ (a0l c)).2.2 x a
  ·simp only[a5v,a0w (a5m c)]at a
   cases a
abbrev dP:=List (List aG)
def Fc {σ α:Type} (f:σ->α->Option σ):List α->σ->Option σ
 |[],s=>some s
 |a::l,s=>(f s a).bind (Fc f l)
def Ss (p:b7) (a:Bool) (b:Int) (i:Nat):Option (List Int):=cond (a&& decide (b<=(i:Int))) (some (QO p)) none
def Ry (p:b7) (a:Bool) (i:Nat) (s:dP×Bool) (e:iQ):Option (dP×Bool):=cond (RW e.2.1 (s.1.getD e.1.toNat [])) (some s) (cond (decide ((qY (Ss p a e.1 i) (s.1.getD e.1.toNat []) e.2.1).length>100)) none (some (s.1.set e.1.toNat (qY (Ss p a e.1 i) (s.1.getD e.1.toNat []) e.2.1),true)))
def Rz (p:b7) (a:Bool) (s:dP×Bool) (i:Nat):Option (dP×Bool):=cond (NU (q9 p s.1 i)) none (Fc (Ry p a i) (q9 p s.1 i).1 s)
def RA (p:b7) (a:Bool) (b:dP):Option (dP×Bool):=Fc (Rz p a) (List.range p.2.2.2.1.length) (b,false)
def kV (p:b7) (a:Int):Nat->Nat->dP->Option (Nat×dP)
 |0,_,_=>none
 |f+1,m,rows=>(RA p (decide ((m:Int)>=a)) rows).bind λs=>cond s.2 (kV p a f (m+1) s.1) (some (m+1,s.1))
def RB (next:dP) (e:iQ):Option dP:=cond (decide ((qY none (next.getD e.1.toNat []) e.2.1).length>100)) none (some (next.set e.1.toNat (qY none (next.getD e.1.toNat []) e.2.1)))
def R5 (p:b7) (rows next:dP) (i:Nat):Option dP:=cond (NU (q9 p rows i)) none (Fc RB (q9 p rows i).1 next)
def N6 (p:b7):dP:=(List.replicate (p.2.2.2.1.length+1) []).set 0 (Hv (aF p))
def Pz (p:b7) (a:dP):Option dP:=Fc (R5 p a) (List.range p.2.2.2.1.length) (N6 p)
def yO (p:b7):Nat->dP->Option dP
 |0,rows=>some rows
 |m+1,rows=>(Pz p rows).bind (yO p m)
def o8.at {a:dP} (h:o8 p a) (i:Nat):eW (aF p) (a.getD i [])/\(a.getD i []).length<=100:=by
 by_cases hi:i<a.length
 ·rw[ay hi];exact h.g _ (a0l hi)
 ·have e:a.getD i []=[]:=by simp[List.getD,a0w (a5m hi)]
  rw[e];exact⟨yL _,by simp⟩
def o8.set {p:b7} {a:dP} (h:o8 p a) (i:Nat) {l:List aG} (b:eW (aF p) l) (c:l.length<=100):o8 p (a.set i l):=⟨by rw[a3j];exact h.n,λx hx=>by
 rcases a1v hx with hx|hx
 ·exact h.g x hx
 ·rw[hx];exact⟨b,c⟩⟩
def pb (a b:dP):Prop:=∀i,nO (a.getD i []) (b.getD i [])
def pb.refl (a:dP):pb a a:=λ_=>nO.refl _
def pb.trans {a b c:dP} (h:pb a b) (d:pb b c):pb a c:=λi=>(h i).trans (d i)
structure Su (p:b7) (a:dP) (b:dP×Bool):Prop where
 ok:o8 p b.1
 le:pb a b.1
structure RC (p:b7) (rows:dP):Prop where
 ok:o8 p rows
 s:nO (Hv (aF p)) (rows.getD 0 [])
 f:∀i,i<p.2.2.2.1.length->NU (q9 p rows i)=false/\∀e∈(q9 p rows i).1,nO e.2.1 (rows.getD e.1.toNat [])
structure SA (p:b7) (rows next:dP):Prop where
 ok:o8 p next
 s:nO (Hv (aF p)) (next.getD 0 [])
 le:pb next rows
def R6 (a n:Int):Bool:=(wrap .i64 (((BitVec.ofInt 64 a&&& BitVec.ofInt 64 n).toNat:Int))) !=0
abbrev RN:=Int×Int×Unit
def QT:List Int:=[1,2,4,8]
def RD (b a:Int):List RN:=(QT.filter (R6 a)).map λn=>(b,n,())
def R7 (p:b7) (a:dP) (i:Nat):List RN:=RD (i:Int) (q9 p a i).2.1
def PA (p:b7) (a:dP):List RN:=(List.range p.2.2.2.1.length).flatMap (R7 p a)
abbrev ID:=Int×Int×Int×Unit
abbrev PB:=Int×Int×List R4×List RN×Int×Unit
def N7 (c:ID):Bool:=decide (0<=c.1/\c.1<=10)&& (decide (0<=c.2.1/\c.2.1<=5)&& decide (1<=c.2.2.1/\c.2.2.1<=40))
def RE:PB:=(3,0,[],[],0,())
def P1 (p:b7) (m:Int) (a:dP):PB:=(0,0,a.map λl=>(l,()),PA p a,m,())
def R8 (p:b7) (c:ID) (q:Nat×dP):PB:=match yO p c.2.1.toNat q.2 with
 |some r=>P1 p (q.1:Int) r
 |none=>RE
def PC (p:b7) (c:ID):PB:=cond (N7 c&& gG p) (match kV p c.1 c.2.2.1.toNat 0 (N6 p)with
 |some q=>R8 p c q
 |none=>RE) (1,0,[],[],0,())
structure cx (r:List Int×Int×Unit):Prop where
 lo:0<=r.2.1
 hi:r.2.1<=r.1.length
 len:r.1.length<=140737488351232
 byte:∀x∈r.1,0<=x/\x<=255
def PD {a:List Int} (b:a.length<=140737488351232) (c:∀x∈a,0<=x/\x<=255):cx (a,0,()):=⟨by simp,by simp,b,c⟩
def vN (k:Nat) (h:cx r):∃v c,zx k (r,())=some ((v,()),(c,()))/\(0<=v/\v<=255)/\cx c/\c.1=r.1:=by
 obtain⟨b,p,⟨⟩⟩:=r;obtain⟨d,g,e,a⟩:=h;simp only at d g e a;unfold zx;by_cases i:p>=(b.length:Int)
 ·refine⟨0,(b,p,()),?_,by omega,⟨d,g,e,a⟩,rfl⟩
  simp only[an,a0b i]
 ·have w1:wrap .i64 (p+1)=p+1:=ak (by omega) (by omega)
  have j:wrap .i64 (p+1-1)=p:=by rw[ak (by omega) (by omega)];omega
  have f:p.toNat<b.length:=by omega
  obtain⟨l,m⟩:=a b[p.toNat] (a0l _);refine⟨b[p.toNat],(b,p+1,()),?_,⟨l,m⟩,⟨by simp;omega,by simp;omega,e,a⟩,rfl⟩;have n:wrap .i64 b[p.toNat]=b[p.toNat]:=ak (by omega) (by omega);simp only[an,a0e i,w1,j,a0b d,a0a f,aa,n]
def C7 {a n:Int} (b:0<=a:=by omega) (c:1<=n:=by omega):0<=a.tmod n/\a.tmod n<n:=by
 rw[a5w b];exact⟨Int.emod_nonneg _ (by omega),Int.emod_lt_of_pos _ (by omega)⟩
def sB (k:Nat) (h:cx r) (n:Int):∃v c,z6 k (r,n,())=some ((v,()),(c,(),()))/\0<=v/\v<=65535/\(1<=n->v<n)/\cx c/\c.1=r.1:=by
 obtain⟨b,p,⟨⟩⟩:=r;unfold z6;by_cases e:n<=1
 ·exact⟨0,(b,p,()),by simp only[an,a0b e],by omega,by omega,by omega,h,rfl⟩
 ·by_cases t:n<=256
  ·obtain⟨v,c,f,u,g,i⟩:=vN k h
   obtain⟨j,l⟩:=C7 (a:=v) (n:=n) u.1;refine⟨v.tmod n,c,?_,j,by omega,λ_=>l,g,i⟩;have m:¬n=0:=by omega
   simp only[an,a0e e,a0b t,f,aa,m,a7n,a0y,ai]
  ·obtain⟨v,c,f,u,g,i⟩:=vN k h
   obtain⟨d,w,x,y,o,q⟩:=vN k g;have w1:wrap .i64 (v*256)=v*256:=ak (by omega) (by omega);have z:wrap .i64 (v*256+d)=v*256+d:=ak (by omega) (by omega);obtain⟨j,l⟩:=C7 (a:=v*256+d) (n:=n);have A:(v*256+d).tmod n<=v*256+d:=by
    by_cases s:v*256+d<n
    ·rw[a5w (by omega),a8a (by omega) s];omega
    ·omega
   refine⟨(v*256+d).tmod n,w,?_,j,by omega,λ_=>l,o,by rw[q,i]⟩;have m:¬n=0:=by omega
   obtain⟨B,C,⟨⟩⟩:=c;simp only[an,a0e e,a0e t,f,aa,x,m,a7n,a0y,ai,w1,z]
def IE (k:Nat) (h:cx r) (n:Int):∃v a,nL k (r,n,())=some ((v,()),(a,(),()))/\cx a/\a.1=r.1:=by
 obtain⟨b,p,⟨⟩⟩:=r;obtain⟨v,a,e,_,_,_,c,d⟩:=sB k h n;refine⟨v==wrap .i64 (n-1),a,?_,c,d⟩;unfold nL;simp only[e,aa]
def sC (k:Nat):(d:Nat)->(f:Nat)-> {r:List Int×Int×Unit}->cx r->(x i:Int)->0<=x->x<18446744073709551616->i+d=8->0<=i->∃v a,aP (H5.l0 k) (d+1+f) (r,x,i,())=some ((v,()),(a,()))/\(0<=v/\v<18446744073709551616)/\cx a/\a.1=r.1
 |0,f,r,h,x,i,h0,h1,hi,_=>by
  obtain⟨b,p,⟨⟩⟩:=r;refine⟨x,(b,p,()),?_,⟨h0,h1⟩,h,rfl⟩;have:¬(i<8):=by omega
  rw[show 0+1+f=f+1 by omega,az];simp only[H5.l0,an,a0e this]
 |d+1,f,r,h,x,i,h0,h1,hi,hi0=>by
  obtain⟨b,p,⟨⟩⟩:=r;obtain⟨v,a,e,A,l,m⟩:=vN k h;have c:i<8:=by omega
  have n:(0:Int)<=8:=by omega
  have o:∀z:Int,0<=wrap .u64 z/\wrap .u64 z<18446744073709551616:=by
   intro z;simp[wrap,IntKind.bits,IntKind.signed];omega
  obtain⟨w1,q⟩:=o (((BitVec.ofInt 64 (wrap .u64 (x*2^(min (8:Int).toNat 64)))|||BitVec.ofInt 64 (wrap .u64 v)).toNat:Int));obtain⟨u,s,t,w,g,j⟩:=sC k d f l _ (i+1) w1 q (by omega) (by omega);refine⟨u,s,?_,w,g,by rw[j,m]⟩;rw[show d+1+1+f=(d+1+f)+1 by omega,az];obtain⟨B,C,⟨⟩⟩:=a;have y:wrap .i64 (i+1)=i+1:=ak (by omega) (by omega);simp only[H5.l0,an,a0b c,a0b n,e,aa,y];exact t
def IF (k:Nat) (g:9<=k) (h:cx r):∃v a,H5 k (r,())=some ((v,()),(a,()))/\(0<=v/\v<18446744073709551616)/\cx a/\a.1=r.1:=by
 obtain⟨b,p,⟨⟩⟩:=r;obtain⟨v,a,e,c,d,f⟩:=sC k 8 (k-9) h 0 0 (by omega) (by omega) (by omega) (by omega);refine⟨v,a,?_,c,d,f⟩;rw[show 8+1+(k-9)=k by omega]at e;exact e
def PE (k:Nat) (m:9<=k) (h:cx r) (E: -4611686018427387903<=lo) (j:lo<=hi) (F:hi<=4611686018427387903):∃v e,Jf k (r,lo,hi,())=some ((v,()),(e,(),(),()))/\(lo<=v/\v<=hi)/\cx e/\e.1=r.1:=by
 obtain⟨b,p,⟨⟩⟩:=r;obtain⟨v,f,o,G,H,I,c,d⟩:=sB k h 8;unfold Jf;simp only[o,aa];by_cases l:v=0
 ·exact⟨lo,f,by simp[l],⟨by omega,j⟩,c,d⟩
 by_cases c1:v=1
 ·exact⟨hi,f,by simp[c1],⟨j,by omega⟩,c,d⟩
 obtain⟨u,q,s,J,g,i⟩:=IF k m c;have w1:wrap .i64 (hi-lo)=hi-lo:=ak (by omega) (by omega);have t:wrap .i64 (hi-lo+1)=hi-lo+1:=ak (by omega) (by omega);have w:wrap .u64 (hi-lo+1)=hi-lo+1:=gM;have x:0<=u.fdiv (2^(min (1:Int).toNat 64)):=Int.fdiv_nonneg (by omega) (by decide);obtain⟨K,L⟩:=C7 (a:=u.fdiv (2^(min (1:Int).toNat 64))) (n:=hi-lo+1) x;have y:wrap .i64 ((u.fdiv (2^(min (1:Int).toNat 64))).tmod (hi-lo+1))=(u.fdiv (2^(min (1:Int).toNat 64))).tmod (hi-lo+1):=ak (by omega) (by omega);have z:wrap .i64 (lo+(u.fdiv (2^(min (1:Int).toNat 64))).tmod (hi-lo+1))=lo+(u.fdiv (2^(min (1:Int).toNat 64))).tmod (hi-lo+1):=ak (by omega) (by omega);refine⟨lo+(u.fdiv (2^(min (1:Int).toNat 64))).tmod (hi-lo+1),q,?_,by omega,g,by rw[i,d]⟩;have A:(v==0)=false:=by simpa using l
 have B:(v==1)=false:=by simpa using c1
 have n2:¬hi<lo:=by omega
 have C:(0:Int)<=1:=by omega
 have D:¬(hi-lo+1=0):=by omega
 obtain⟨M,N,⟨⟩⟩:=f;simp only[A,B,ah,an,a0e n2,s,aa,a0b C,w1,t,w,y,z,D,a7n,a0y,ai]
def QU (k:Nat) (m:9<=k) (h:cx r) (n: -4611686018427387903<=lo) (o:lo<=hi) (q:hi<=4611686018427387903):∃v j,zy k (r,lo,hi,())=some ((v,()),(j,(),(),()))/\(-9223372036854775808<=v/\v<=9223372036854775807)/\cx j/\j.1=r.1:=by
 obtain⟨b,p,⟨⟩⟩:=r;obtain⟨c,l,s,i,e⟩:=IE k h 24;unfold zy;simp only[s,aa]
 cases c with
 |true=>
  obtain⟨v,f,g,z,A,t,a,d⟩:=sB k i 4;have B:=t (by omega);obtain⟨u,w,⟨⟩⟩:=l;have w1:wrap .i64 (lo-1)=lo-1:=ak (by omega) (by omega);have x:wrap .i64 (hi+1)=hi+1:=ak (by omega) (by omega);have y:v=0\/v=1\/v=2\/v=3:=by omega
  rw[w1,x];rcases y with rfl|rfl|rfl|rfl
  ·exact⟨lo-1,f,by simp[g],by omega,a,by rw[d];exact e⟩
  ·exact⟨hi+1,f,by simp[g],by omega,a,by rw[d];exact e⟩
  ·exact⟨-9223372036854775808,f,by simp[g],by omega,a,by rw[d];exact e⟩
  ·exact⟨9223372036854775807,f,by simp[g],by omega,a,by rw[d];exact e⟩
 |false=>
  obtain⟨v,f,g,C,a,d⟩:=PE k m i n o q;obtain⟨u,w,⟨⟩⟩:=l;exact⟨v,f,by simp[g],by omega,a,by rw[d];exact e⟩
abbrev tP:Type:=List Int×Int×Unit
def QV {a:List Int} (k:Nat) (b:a.length<=140737488351232) (c:∀x∈a,0<=x/\x<=255):ax (Jd k (a,())) λy=>cx y.1.1:=by
 unfold Jd;exact ax.ret (PD b c)
def bg (k:Nat) {r:tP} (h:cx r) (n:Int):ax (z6 k (r,n,())) λy=>(0<=y.1.1/\y.1.1<=65535/\(1<=n->y.1.1<n))/\cx y.2.1:=by
 obtain⟨v,f,e,a,b,c,d,_⟩:=sB k h n;exact⟨_,e,⟨a,b,c⟩,d⟩
def gY (k:Nat) {r:tP} (h:cx r) (n:Int):ax (nL k (r,n,())) λy=>cx y.2.1:=by
 obtain⟨v,b,e,a,_⟩:=IE k h n;exact⟨_,e,a⟩
def N8 (k:Nat) (a:9<=k) {r:tP} (h:cx r):ax (H5 k (r,())) λy=>(0<=y.1.1/\y.1.1<18446744073709551616)/\cx y.2.1:=by
 obtain⟨v,d,e,b,c,_⟩:=IF k a h;exact⟨_,e,b,c⟩
def vd (k:Nat) (a:9<=k) {r:tP} (h:cx r) (b: -4611686018427387903<=lo:=by omega) (c:lo<=hi:=by omega) (d:hi<=4611686018427387903:=by omega):ax (zy k (r,lo,hi,())) λy=>Er y.1.1/\cx y.2.1:=by
 obtain⟨v,i,e,f,g,_⟩:=QU k a h b c d;exact⟨_,e,f,g⟩
def RF (k:Nat) (i:9<=k) {r:tP} (h:cx r):ax (Jh k (r,())) λy=>Er y.1.1/\cx y.2.1:=by
 obtain⟨b,p,⟨⟩⟩:=r;unfold Jh;refine ax.bd (bg k h 6) λB d=>ax.br (λ_=> ?_) λ_=>ax.br (λ_=> ?_) λ_=>ax.br (λ_=> ?_) λ_=> ?_
 ·refine ax.bd (bg k d.2 10) λC e=> ?_
  have m:=e.1.2.2 (by omega);have f:=e.1.1;refine ax.chk (by simp only[a0g,a0h];omega) (ax.get (by simp only[a0g,a0h];omega) λx o _=>ax.ret ⟨?_,e.2⟩);simp only[a1e,a3y,a4r]at o;simp only[Er];omega
 ·refine ax.bd (N8 k i d.2) λD a=>ax.ret ⟨lv _,a.2⟩
 ·refine ax.bd (N8 k i d.2) λj s=>ax.bd (bg k s.2 60) λc g=> ?_
  have m:=g.1.2.2 (by omega);have f:=g.1.1;have w:wrap .u64 c.1.1=c.1.1:=gM f;rw[w];refine ax.chk f (ax.ret ⟨?_,g.2⟩);obtain⟨t,f1⟩:=lv j.1.1
  generalize wrap .i64 j.1.1=z at t f1
  have u:(1:Int)<=2^(min c.1.1.toNat 64):=by
   have:=Nat.one_le_two_pow (n:=min c.1.1.toNat 64)
   exact_mod_cast this
  generalize (2:Int)^(min c.1.1.toNat 64)=q at u
  simp only[Er];rw[a7i _ (by omega)];have l:=Int.natAbs_ediv_le_natAbs z q;by_cases v:0<=z
  ·have a:=a8x v (show 0<=q by omega)
   generalize z/q=y at l a
   omega
  ·have a:=Int.ediv_neg_of_neg_of_pos (show z<0 by omega) (show 0<q by omega)
   generalize z/q=y at l a
   omega
 ·refine ax.bd (bg k d.2 41) λE A=>ax.ret ⟨lv _,A.2⟩
structure PF (d:aw):Prop where
 s:eL d
 n0:d.1.length<=5
 n1:d.2.1.length<=3
 n2:d.2.2.1.length<=1
def C8 (a b:dM) (d:b=[[98],[99],[102]]) (e:a=[[120],[121],[105],[110],[107]]) (i j:Nat) (c:List kF) (m:c.length<=1) (n:∀x∈c,x.1.length<=1048576):PF (aO a 0 i,aO b 0 j,c,()):=by
 have g:=(j0 a 0 i).2;have h:=(j0 b 0 j).2;have k:∀x∈aO a 0 i,x.length<=1048576:=λx f=>by
  have:=lW f;rw[e]at this;simp only[a1e,a3y,a4r]at this;rcases this with rfl|rfl|rfl|rfl|rfl<;>decide
 have l:∀x∈aO b 0 j,x.length<=1048576:=λx f=>by
  have:=lW f;rw[d]at this;simp only[a1e,a3y,a4r]at this;rcases this with rfl|rfl|rfl<;>decide
 rw[e]at g k;rw[d]at h l;rw[e,d];simp only[a0g,a0h]at g h;exact⟨⟨by simp only;omega,k,by simp only;omega,l,by simp only;omega,n⟩,by simp only;omega,by simp only;omega,m⟩
def QW (k:Nat) (u:9<=k) {r:tP} (h:cx r):ax (Je k (r,())) λy=>PF y.1.1/\cx y.2.1:=by
 obtain⟨b,p,⟨⟩⟩:=r;unfold Je;refine ax.bd (bg k h 4) λa g=> ?_
 obtain⟨⟨v,_,a1⟩,i⟩:=g;have w:=a1 (by omega);have w1:wrap .i64 (1+a.1.1)=1+a.1.1:=ak (by omega) (by omega);rw[w1];refine ax.chk (by simp only[a0g,a0h];omega) (ax.bd (bg k i 2) λc j=> ?_);obtain⟨⟨x,_,l⟩,m⟩:=j;have z:=l (by omega);have n:wrap .i64 (1+c.1.1)=1+c.1.1:=ak (by omega) (by omega);rw[n];refine ax.chk (by simp only[a0g,a0h];omega) (ax.bd (gY k m 3) λA d=>ax.br (λ_=> ?_) λ_=> ?_)
 ·refine ax.bd (bg k d 4) λB o=> ?_
  obtain⟨⟨C,_,c1⟩,q⟩:=o;have c2:=c1 (by omega);refine ax.chk (by simp only[a0g,a0h];omega) (ax.bd (gY k q 2) λD e=>ax.br (λ_=> ?_) λ_=> ?_)
  ·refine ax.bd (bg k e 6) λE s=>ax.ret ⟨C8 _ _ rfl rfl _ _ _ (by simp) (by simp),s.2⟩
  ·exact ax.ret ⟨C8 _ _ rfl rfl _ _ _ (by simp) (by simp),e⟩
 ·refine ax.bd (gY k d 2) λF f=>ax.br (λ_=> ?_) λ_=> ?_
  ·refine ax.bd (bg k f 6) λG t=>ax.ret ⟨C8 _ _ rfl rfl _ _ _ (by simp) (by simp),t.2⟩
  ·exact ax.ret ⟨C8 _ _ rfl rfl _ _ _ (by simp) (by simp),f⟩
open Go.Lib (join join_nil join_one join_cons joinTail joinTail_take_succ)
end Go.Pev.F
namespace Go.Pev.F
open Go.Lib (decDigits itoa)
end Go.Pev.F
namespace Go.Pev.F
open Go.Lib (itoa join)
def SB (a:bA):List UInt8:=(itoa a.1++[46,46])++itoa a.2.1
def rd (a:bA):Prop:=(-9223372036854775808<=a.1/\a.1<=9223372036854775807)/\(-9223372036854775808<=a.2.1/\a.2.1<=9223372036854775807)
def SC (p:List UInt8×List UInt8):List UInt8:=(p.1++[32])++p.2
def QX (p:List UInt8×List UInt8):dM:=[p.1,p.2]
def zero (d:aw) (e:bh):List (List UInt8×List UInt8):=d.1.zip (e.2.1.map SB)
structure SD (d:aw) (e:bh):Prop where
 l0:d.1.length<=5
 l2:d.2.2.1.length<=2
 e1:e.2.1.length=d.1.length
 e2:e.2.2.1.length=d.2.2.1.length
 f1:∀a∈e.2.1,rd a
 f2:∀a∈e.2.2.1,rd a
end Go.Pev.F
section
namespace Go.Pev.F
variable {r:tP} {deep:Int} {d:aw} {n:Nat} {p:b7}
structure R9 (n m:Nat) (e:bh):Prop where
 s:(e.1=true/\e.2.1.length=n/\e.2.2.1.length=m)\/(e.1=false/\e.2.1.length=0/\e.2.2.1.length=0)
 f1:∀a∈e.2.1,rd a
 f2:∀a∈e.2.2.1,rd a
structure Sa (d:aw) (t:List bh):Prop where
 n:(t.length:Int)=2^d.2.1.length
 e:∀e∈t,R9 d.1.length d.2.2.1.length e
def Sb (h:n<=3):(1:Int)<=2^n/\(2:Int)^n<=8:=by
 have:n=0\/n=1\/n=2\/n=3:=by omega
 rcases this with rfl|rfl|rfl|rfl<;>decide
def Sa.len {t:List bh} (a:PF d) (h:Sa d t):1<=t.length/\t.length<=8:=by
 have:=Sb a.n1;have:=h.n;omega
structure SK (d:aw) (p:aG):Prop where
 t:bq p.1=true
 e:Sa d p.2.1
structure PG (e:bh):Prop where
 n1:e.2.1.length<=1000
 n2:e.2.2.1.length<=1000
 f1:∀a∈e.2.1,rd a
 f2:∀a∈e.2.2.1,rd a
def R9.any (a:PF d) {e:bh} (h:R9 d.1.length d.2.2.1.length e):PG e:=by
 have b:=a.n0;have n2:=a.n2;exact⟨by rcases h.s with h|h<;>omega,by rcases h.s with h|h<;>omega,h.f1,h.f2⟩
def PG.wf {e:bh} (h:PG e):Re.WF e:=by
 have d:=h.n1;have n2:=h.n2;have c:∀a,rd a->Qk.WF a:=λa b=>⟨b.1,b.2,trivial⟩
 exact⟨trivial,⟨by omega,λa b=>c a (h.f1 a b)⟩,⟨by omega,λa b=>c a (h.f2 a b)⟩,trivial⟩
structure SE (p:aG):Prop where
 t:p.1.length<=1048576
 n:p.2.1.length<=9
 e:∀e∈p.2.1,PG e
abbrev Sc:Type:=tP×aw×Int×Unit
abbrev RG:Type:=(List bU×Unit)×(tP×Unit×Unit×Unit)
def RO (B:Nat) (y:RG):Prop:=y.1.1.length<=B/\cx y.2.1
def vt {m:Nat} (h:n+m<=100000:=by omega):(n+m)*16<=af:=by simp only[af];omega
def yP (k:Nat) (R:Sc->Option RG) (h:cx r) (d:aw) (L: -100<=deep/\deep<=100) (B:Nat) (M:B<=1000) (w:0<deep->∀u,cx u->ax (R (u,d,deep-1,())) (RO B)):ax (mo.f k R (r,d,deep,())) (RO (2*B+1)):=by
 obtain⟨b,p,⟨⟩⟩:=r;have x:wrap .i64 (deep-1)=deep-1:=ak (by omega) (by omega);unfold mo.f;simp only[x];refine ax.bd (bg k h 8) λN g=>ax.bind (P:=λ_=>True) (ax.dec (λ_=>ax.ret trivial) λ_=>ax.ret trivial) λO _=>ax.br (λ_=> ?_) λ_=> ?_
 ·exact ax.bd (bg k g.2 _) λQ y=>ax.ret ⟨by simp,y.2⟩
 refine ax.bind (P:=λj=>j.1=false->0<deep) (ax.dec (λ_=>ax.ret (λh=>by simp at h)) λ_=>ax.ret (λh=>by have:=a7q h;omega)) λS z=>ax.br (λ_=> ?_) λA=> ?_
 ·refine ax.bd (bg k g.2 12) λT C=>ax.bd (gY k C.2 20) λU v=>ax.br (λ_=> ?_) λ_=> ?_
  ·refine ax.bd (bg k v 4) λV D=> ?_
   obtain⟨⟨W,_,a1⟩,E⟩:=D;have X:=a1 (by omega);exact ax.chk (by simp only[a0g,a0h];omega) (ax.get (by simp only[a0g,a0h];omega) λY _ _=>ax.ret ⟨by simp,E⟩)
  ·exact ax.ret ⟨by simp,v⟩
 have a:=w (z A);refine ax.bind (P:=λ_=>True) (ax.br (λ_=>ax.ret trivial) λ_=>ax.ret trivial) λZ _=>ax.br (λ_=> ?_) λ_=> ?_
 ·refine ax.bd (a _ g.2) λF i=>ax.bd (bg k i.2 _) λG n=> ?_
  have:=i.1;exact ax.chk (vt (by simp only[a0g,a0h];omega)) (ax.ret ⟨by simp<;>omega,n.2⟩)
 refine ax.br (λ_=> ?_) λ_=> ?_
 ·refine ax.bd (a _ g.2) λH l=> ?_
  have:=l.1;exact ax.chk (vt (by simp only[a0g,a0h];omega)) (ax.ret ⟨by simp<;>omega,l.2⟩)
 refine ax.bd (bg k g.2 3) λI o=>ax.bd (gY k o.2 4) λJ m=>ax.br (λ_=> ?_) λ_=> ?_
 ·refine ax.bd (bg k m 2) λK q=>ax.bd (a _ q.2) λs c=>ax.bd (a _ c.2) λt e=> ?_
  have:=c.1;have:=e.1;exact ax.chk (vt) (ax.chk (vt (by simp only[a0m,a0g,a0h];omega)) (ax.ret ⟨by simp<;>omega,e.2⟩))
 ·refine ax.bd (a _ m) λs c=>ax.bd (a _ c.2) λt e=> ?_
  have:=c.1;have:=e.1;exact ax.chk (vt) (ax.chk (vt (by simp only[a0m,a0g,a0h];omega)) (ax.ret ⟨by simp<;>omega,e.2⟩))
def IG (k:Nat) (d:aw):∀(D n:Nat),D<=5->D<n->∀(r:tP),cx r->∀deep:Int,-100<=deep->deep<=D->ax (aP (mo.f k) n (r,d,deep,())) (RO (2^(D+1)-1))
 |0,n,_,hn,r,h,deep,h0,h1=>by
  obtain⟨n,rfl⟩:∃g,n=g+1:=⟨n-1,by omega⟩;rw[az];exact yP k _ h d ⟨h0,by omega⟩ 0 (by omega) λh=>by omega
 |D+1,n,hD,hn,r,h,deep,h0,h1=>by
  obtain⟨n,rfl⟩:∃g,n=g+1:=⟨n-1,by omega⟩;rw[az];have c:2^(D+1+1)=2*2^(D+1):=by rw[Nat.pow_succ];omega
  have i:1<=2^(D+1):=Nat.one_le_two_pow;have j:2^(D+1)<=2^6:=Nat.pow_le_pow_right (by omega) (by omega);have:=yP k (aP (mo.f k) n) h d (deep:=deep) ⟨h0,by omega⟩ (2^(D+1)-1) (by omega) λc e a=>IG k d D n (by omega) (by omega) e a (deep-1) (by omega) (by omega)
  refine ax.mono this λy b=>⟨?_,b.2⟩
  have:=b.1;omega
def N9 (k:Nat) (c:64<=k) (d:aw) (h:cx r) (a: -100<=deep:=by omega) (b:deep<=4:=by omega):ax (mo k (r,d,deep,())) (RO 31):=IG k d 4 k (by omega) (by omega) r h deep a b
abbrev Sd:Type:=tP×aw×Int×Int×Unit
abbrev RH:Type:=(List bU×Unit)×(tP×Unit×Unit×Unit×Unit)
def Q6 (B:Nat) (y:RH):Prop:=y.1.1.length<=B/\cx y.2.1
def pc (k:Nat) (q:64<=k) (R:Sd->Option RH) (h:cx r) (d:aw) (e:Int) (N: -50<=deep/\deep<=4) (B:Nat) (O:B<=1000) (x:0<deep->∀u a,cx u->0<=a->a<=deep-1->ax (R (u,d,e,a,())) (Q6 B)):ax (nD.f k R (r,d,e,deep,())) (Q6 (2*B+100)):=by
 obtain⟨b,p,⟨⟩⟩:=r;have y:wrap .i64 (deep-1)=deep-1:=ak (by omega) (by omega);unfold nD.f;simp only[y];refine ax.br (λ_=> ?_) λ_=> ?_
 ·exact ax.bd (N9 k q d h) λQ v=>ax.ret ⟨by have:=v.1;simp only;omega,v.2⟩
 refine ax.bd (bg k h 8) λS g=>ax.bind (P:=λ_=>True) (ax.dec (λ_=>ax.dec (λ_=>ax.ret trivial) λ_=>ax.ret trivial) λ_=>ax.ret trivial) λT _=>ax.br (λ_=> ?_) λ_=> ?_
 ·exact ax.bd (bg k g.2 _) λU z=>ax.ret ⟨by simp<;>omega,z.2⟩
 refine ax.bind (P:=λ_=>True) (ax.dec (λ_=>ax.ret trivial) λ_=>ax.ret trivial) λV _=>ax.br (λ_=> ?_) λ_=> ?_
 ·refine ax.bd (bg k g.2 2) λW A=> ?_
  obtain⟨⟨X,_,a1⟩,C⟩:=A;have Y:=a1 (by omega);exact ax.chk (by simp only[a0g,a0h];omega) (ax.get (by simp only[a0g,a0h];omega) λZ _ _=>ax.ret ⟨by simp<;>omega,C⟩)
 refine ax.bind (P:=λj=>j.1=false->0<deep) (ax.dec (λ_=>ax.ret (λh=>by simp at h)) λ_=>ax.ret (λh=>by have:=a7q h;omega)) λj8 D=>ax.br (λ_=> ?_) λE=> ?_
 ·refine ax.bd (N9 k q d g.2) λy9 w=>ax.bd (N9 k q d w.2) λF i=> ?_
  have:=w.1;have:=i.1;exact ax.chk (vt) (ax.bd (bg k i.2 6) λG s=>ax.chk (vt (by simp only[a0m,a0g,a0h];omega)) (ax.ret ⟨by simp<;>omega,s.2⟩))
 have H:=D E;have c:=x H;refine ax.br (λ_=> ?_) λ_=> ?_
 ·refine ax.bd (c _ _ g.2 (by omega) (by omega)) λI l=> ?_
  have:=l.1;exact ax.chk (vt (by simp only[a0g,a0h];omega)) (ax.ret ⟨by simp<;>omega,l.2⟩)
 refine ax.dec (λ_=> ?_) λ_=> ?_
 ·refine ax.bd (c _ _ g.2 (by omega) (by omega)) λJ m=>ax.bd (c _ _ m.2 (by omega) (by omega)) λK n=> ?_
  have:=m.1;have:=n.1;exact ax.chk (vt) (ax.bd (bg k n.2 2) λL t=>ax.chk (vt (by simp only[a0m,a0g,a0h];omega)) (ax.ret ⟨by simp<;>omega,t.2⟩))
 ·exact ax.bd (c _ _ g.2 (by omega) (by omega)) λM o=>ax.ret ⟨by have:=o.1;simp only;omega,o.2⟩
def QY (k:Nat) (i:64<=k) (d:aw) (a:Int) (h:cx r) (b: -50<=deep) (e:deep<=2):ax (nD k (r,d,a,deep,())) (Q6 700):=by
 have o:∀n:Nat,0<n->∀(r:tP),cx r->∀deep:Int,-50<=deep->deep<=0->ax (aP (nD.f k) n (r,d,a,deep,())) (Q6 100):=by
  intro n m r h deep b e;obtain⟨n,rfl⟩:∃g,n=g+1:=⟨n-1,by omega⟩;rw[az];exact pc k i _ h d a ⟨b,by omega⟩ 0 (by omega) λh=>by omega
 have p:∀n:Nat,1<n->∀(r:tP),cx r->∀deep:Int,-50<=deep->deep<=1->ax (aP (nD.f k) n (r,d,a,deep,())) (Q6 300):=by
  intro n m r h deep b e;obtain⟨n,rfl⟩:∃g,n=g+1:=⟨n-1,by omega⟩;rw[az];exact pc k i _ h d a ⟨b,by omega⟩ 100 (by omega) λ_ j l c q s=>o n (by omega) j c l (by omega) (by omega)
 have t:∀n:Nat,2<n->∀(r:tP),cx r->∀deep:Int,-50<=deep->deep<=2->ax (aP (nD.f k) n (r,d,a,deep,())) (Q6 700):=by
  intro n m r h deep b e;obtain⟨n,rfl⟩:∃g,n=g+1:=⟨n-1,by omega⟩;rw[az];exact pc k i _ h d a ⟨b,by omega⟩ 300 (by omega) λ_ j l c q s=>p n (by omega) j c l (by omega) (by omega)
 exact t k (by omega) r h deep b e
def qk (k:Nat) (f:64<=k) (d:aw) (a:Int) (h:cx r):ax (Dc k (r,d,a,())) λy=>y.1.1.length<=700/\cx y.2.1:=by
 obtain⟨b,p,⟨⟩⟩:=r;unfold Dc;refine ax.bd (bg k h 2) λc g=> ?_
 obtain⟨⟨l,_,a1⟩,i⟩:=g;have m:=a1 (by omega);have j:wrap .i64 (1+c.1.1)=1+c.1.1:=ak (by omega) (by omega);simp only[j];exact ax.bd (QY k f d a i (by omega) (by omega)) λn e=>ax.ret ⟨e.1,e.2⟩
def gh (n:aU):Prop:=n.2.2.1.length<=900/\n.2.2.2.1.length<=900
abbrev Sw:Type:=tP×aw×Int×Int×Unit
abbrev RP:Type:=(List aU×Unit)×(tP×Unit×Unit×Unit×Unit)
def QZ (B:Nat) (y:RP):Prop:=y.1.1.length<=B/\(∀n∈y.1.1,gh n)/\cx y.2.1
def Se (B:Nat) (y:RP):Prop:=(1<=y.1.1.length/\y.1.1.length<=B)/\(∀n∈y.1.1,gh n)/\cx y.2.1
def yQ {m:Nat} (h:n+m<=100000:=by omega):(n+m)*80<=af:=by simp only[af];omega
def fU {a b:List aU} (c:∀n∈a,gh n) (d:∀n∈b,gh n):∀n∈a++b,gh n:=λn e=>by
 rcases a0k.1 e with h|h
 ·exact c n h
 ·exact d n h
def iH {n:aU} (h:gh n):∀m∈[n],gh m:=λm a=>by rw[a0v.1 a];exact h
def PH {a b:aU} (h:gh a) (d:gh b):∀m∈[a,b],gh m:=λm c=>by
 simp only[a1e,a3y,a4r]at c;rcases c with rfl|rfl
 ·exact h
 ·exact d
def jq (a b lo hi:Int):gh (a,b,[],[],lo,hi,()):=⟨by simp,by simp⟩
def nk (a b lo hi:Int) {e:List bU} (h:e.length<=900:=by omega):gh (a,b,[],e,lo,hi,()):=⟨by simp,h⟩
def Oa (k:Nat) (d:aw) (v:Int) (h:cx r):ax (Cg k (r,d,v,())) λy=>y.1.1.length<=700/\cx y.2.1:=by
 obtain⟨b,p,⟨⟩⟩:=r;unfold Cg;exact ax.bd (bg k h 9) λe a=>ax.bd (bg k a.2 2) λf c=>ax.ret ⟨by simp,c.2⟩
def Q0 (k:Nat) (v:Int) (h:cx r):ax (th k (r,v,())) λy=>gh y.1.1/\cx y.2.1:=by
 obtain⟨b,p,⟨⟩⟩:=r;unfold th;exact ax.bd (bg k h 2) λc a=>ax.ret ⟨⟨by simp,by simp⟩,a.2⟩
def Fd (k:Nat) (o:64<=k) (R:Sw->Option RP) (h:cx r) (d:aw) (z:Int) (hd: -50<=deep/\deep<=4) (B:Nat) (hB:B<=10000) (X:0<deep->∀s m,cx s->ax (R (s,d,m,deep-1,())) (QZ B)):ax (vE k R (r,d,z,deep,())) (Se (2*B+3)):=by
 obtain⟨b,p,⟨⟩⟩:=r;have Z:wrap .i64 (deep-1)=deep-1:=ak (by omega) (by omega);have f:∀(n:aU) (s:tP),gh n->cx s->Se (2*B+3) (([n],()),(s,(),(),(),())):=λn s M l=>⟨⟨by simp,by simp⟩,iH M,l⟩
 unfold vE;simp only[Z];refine ax.bd (bg k h _) λy1 M=>ax.bd (bg k M.2 16) λy2 l=> ?_
 refine ax.bind (P:=λj=>j.1=true->0<deep) (ax.dec (λ_=>ax.dec (λhp=>ax.ret λ_=>by omega) λ_=>ax.ret λh=>by simp at h) λ_=>ax.ret λh=>by simp at h) λj3 h3=>ax.br (λN=> ?_) λ_=> ?_
 ·have t:=X (h3 N)
  refine ax.bd (bg k l.2 2) λy4 h4=>ax.bd (qk k o d 2 h4.2) λy5 Y=>ax.bd (t _ 3 Y.2) λy6 A=> ?_
  have l5:=Y.1;have l6:=A.1;refine ax.chk (yQ (by simp only[a0g,a0h];omega)) (ax.bd (gY k A.2.2 2) λy7 O=>ax.br (λ_=>ax.dec (λ_=> ?_) λ_=> ?_) λ_=> ?_)
  ·refine ax.chk (yQ (by simp only[a0m,a0g,a0h];omega)) (ax.bd (t _ 2 O) λy8 Q=> ?_)
   have l8:=Q.1;refine ax.chk (yQ (by simp only[a0m,a0g,a0h];omega)) (ax.chk (yQ (by simp only[a0m,a0g,a0h];omega)) (ax.ret ⟨⟨by simp<;>omega,by simp<;>omega⟩,?_,Q.2.2⟩));exact fU (fU (fU (fU (iH (nk _ _ _ _)) A.2.1) (iH (jq _ _ _ _))) Q.2.1) (iH (jq _ _ _ _))
  ·exact ax.chk (yQ (by simp only[a0m,a0g,a0h];omega)) (ax.ret ⟨⟨by simp<;>omega,by simp<;>omega⟩,fU (fU (iH (nk _ _ _ _)) A.2.1) (iH (jq _ _ _ _)),O⟩)
  ·exact ax.chk (yQ (by simp only[a0m,a0g,a0h];omega)) (ax.ret ⟨⟨by simp<;>omega,by simp<;>omega⟩,fU (fU (iH (nk _ _ _ _)) A.2.1) (iH (jq _ _ _ _)),O⟩)
 refine ax.bind (P:=λj=>j.1=true->0<deep) (ax.dec (λ_=>ax.dec (λhp=>ax.ret λ_=>by omega) λ_=>ax.ret λh=>by simp at h) λ_=>ax.ret λh=>by simp at h) λj9 h9=>ax.br (λN=> ?_) λ_=> ?_
 ·have t:=X (h9 N)
  have g:∀(q:Int) (e:List bU) (lo:Int) (s:tP),e.length<=700->cx s->ax (bd k (R (s,d,3,deep-1,())) λi=>
   br k (decide ((([(q,0,[],e,lo,0,())]:List aU).length+i.1.1.length)*80<=af))
   (bd k (th k ((i.2.1.1,i.2.1.2.1,()),y1.1.1,())) λa=>
   br k (decide (((([(q,0,[],e,lo,0,())]:List aU)++i.1.1).length+([(a.1.1.1,a.1.1.2.1,a.1.1.2.2.1,a.1.1.2.2.2.1,a.1.1.2.2.2.2.1,a.1.1.2.2.2.2.2.1,()),(8,0,[],[],0,0,())]:List aU).length)*80<=af))
   (some (((([(q,0,[],e,lo,0,())]:List aU)++i.1.1)++([(a.1.1.1,a.1.1.2.1,a.1.1.2.2.1,a.1.1.2.2.2.1,a.1.1.2.2.2.2.1,a.1.1.2.2.2.2.2.1,()),(8,0,[],[],0,0,())]:List aU),()),((a.2.1.1,a.2.1.2.1,()),(),(),(),())))
   none)
   none) (Se (2*B+3)):=λq e lo s he hr=>by
   refine ax.bd (t _ 3 hr) λi u=> ?_
   have S0:=u.1;refine ax.chk (yQ (by simp only[a0g,a0h];omega)) (ax.bd (Q0 k _ u.2.2) λa C=>ax.chk (yQ (by simp only[a0m,a0g,a0h];omega)) (ax.ret ⟨⟨by simp<;>omega,by simp<;>omega⟩,fU (fU (iH (nk _ _ _ _)) u.2.1) (PH C.1 (jq _ _ _ _)),C.2⟩))
  refine ax.bd (Oa k d _ l.2) λS1 v=>ax.bd (gY k v.2 3) λS2 D=>ax.br (λ_=> ?_) λ_=> ?_
  ·refine ax.bd (bg k D 3) λS3 S=>ax.bd (gY k S.2 6) λS4 E=>ax.br (λ_=> ?_) λ_=> ?_
   ·exact ax.bd (qk k o d 2 E) λS5 F=>g _ _ _ _ F.1 F.2
   ·exact g _ _ _ _ v.1 E
  ·refine ax.bd (gY k D 6) λS6 G=>ax.br (λ_=> ?_) λ_=> ?_
   ·exact ax.bd (qk k o d 2 G) λS7 H=>g _ _ _ _ H.1 H.2
   ·exact g _ _ _ _ v.1 G
 refine ax.bind (P:=λ_=>True) (ax.br (λ_=>ax.ret trivial) λ_=>ax.ret trivial) λS8 _=>ax.br (λ_=> ?_) λ_=> ?_
 ·exact ax.bd (bg k l.2 _) λS9 T=>ax.bd (qk k o d 2 T.2) λTa I=>ax.ret (f _ _ (nk _ _ _ _ (by have:=I.1;omega)) I.2)
 refine ax.bind (P:=λ_=>True) (ax.br (λ_=>ax.ret trivial) λ_=>ax.ret trivial) λTb _=>ax.br (λ_=> ?_) λ_=> ?_
 ·exact ax.bd (bg k l.2 _) λTc U=>ax.bd (qk k o d 1 U.2) λTd J=>ax.bd (qk k o d 1 J.2) λTe K=>ax.ret (f _ _ ⟨by have:=J.1;simp only;omega,by have:=K.1;simp only;omega⟩ K.2)
 refine ax.dec (λ_=> ?_) λ_=> ?_
 ·exact ax.bd (bg k l.2 20) λV w=>ax.bd (bg k w.2 12) λW x=>ax.ret (f _ _ (jq _ _ _ _) x.2)
 refine ax.br (λ_=> ?_) λ_=> ?_
 ·exact ax.bd (qk k o d 2 l.2) λy c=>ax.ret (f _ _ (nk _ _ _ _ (by have:=c.1;omega)) c.2)
 refine ax.br (λ_=> ?_) λ_=> ?_
 ·exact ax.bd (qk k o d 2 l.2) λy c=>ax.ret (f _ _ (nk _ _ _ _ (by have:=c.1;omega)) c.2)
 refine ax.br (λ_=> ?_) λ_=> ?_
 ·exact ax.bd (bg k l.2 10) λV w=>ax.bd (bg k w.2 4) λW x=>ax.ret (f _ _ (jq _ _ _ _) x.2)
 refine ax.br (λ_=> ?_) λ_=> ?_
 ·refine ax.bd (gY k l.2 3) λTf L=>ax.br (λ_=> ?_) λ_=> ?_
  ·exact ax.ret (f _ _ (jq _ _ _ _) L)
  ·exact ax.bd (qk k o d 1 L) λy c=>ax.ret (f _ _ (nk _ _ _ _ (by have:=c.1;omega)) c.2)
 ·exact ax.bd (qk k o d 1 l.2) λy c=>ax.ret (f _ _ (nk _ _ _ _ (by have:=c.1;omega)) c.2)
abbrev Sf:Type:=tP×Int×Int×aw×List aU×Int×Unit
def SF (d:aw) (a deep:Int) (C:Nat) (x:Sf):Prop:=cx x.1/\x.2.1=a/\x.2.2.1=deep/\x.2.2.2.1=d/\(∀n∈x.2.2.2.2.1,gh n)/\(0<=x.2.2.2.2.2.1/\x.2.2.2.2.2.1<=4)/\(x.2.2.2.2.1.length<=(4-x.2.2.2.2.2.1.toNat)*C)/\(1<=x.2.2.2.2.2.1\/1<=x.2.2.2.2.1.length)
def nm (k:Nat) (w:64<=k) (R:Sw->Option RP) (h:cx r) (d:aw) (a:Int) (z: -50<=deep/\deep<=4) (B:Nat) (S:B<=2000) (A:0<deep->∀s m,cx s->ax (R (s,d,m,deep-1,())) (QZ B)):ax (ld.f k R (r,d,a,deep,())) λy=>QZ (4*(2*B+3)) y/\(1<=a->1<=y.1.1.length):=by
 obtain⟨b,p,⟨⟩⟩:=r;unfold ld.f;refine ax.bd (bg k h 4) λt C=> ?_
 obtain⟨⟨T,_,a1⟩,D⟩:=C;have U:=a1 (by omega);have E:wrap .i64 (1+t.1.1)=1+t.1.1:=ak (by omega) (by omega);simp only[E];refine ax.loop (SF d a deep (2*B+3)) (λx=>x.2.2.2.2.2.1.toNat) ?_ k _ ⟨D,rfl,rfl,rfl,by simp,by simp only;omega,by simp,.inl (by simp only;omega)⟩ (by simp only;omega)
 rintro G ⟨⟨V,W,⟨⟩⟩,m,X,⟨F,H,I,⟨⟩⟩,c,i,⟨⟩⟩ ⟨g,rfl,rfl,rfl,l,hi,J,n⟩ hG
 simp only at g l hi J n;simp only[ld.l0];refine ax.bind (P:=λj=>(j.1=true->0<i)/\(j.1=false->1<=m->1<=c.length)) (ax.dec (λK=>ax.ret ⟨λ_=>by omega,λL u=> ?_⟩) λK=>ax.ret ⟨λh=>by simp at h,λ_ _=>by omega⟩) λY v=>ax.br (λo=> ?_) λo=> ?_
 ·have:=a7q L;omega
 ·have M:=v.1 o
  refine ax.bd (Fd k w R g (F,H,I,()) _ z B (by omega) A) λZ N=> ?_
  obtain⟨⟨q1,q2⟩,O,Q⟩:=N;have u:(4-i.toNat)*(2*B+3)<=4*(2*B+3):=a0o _ (by omega);refine ax.chk (yQ) ?_
  have q:wrap .i64 (i-1)=i-1:=ak (by omega) (by omega);rw[q];refine hG _ ⟨Q,rfl,rfl,rfl,fU l O,by simp only;omega,?_,.inr (by simp<;>omega)⟩ (by simp only;omega);have e:4-(i-1).toNat=(4-i.toNat)+1:=by omega
  simp only[a0m];rw[e,a1a,a2t];omega
 ·have u:(4-i.toNat)*(2*B+3)<=4*(2*B+3):=a0o _ (by omega)
  exact ax.ret ⟨⟨by simp only;omega,l,g⟩,v.2 o⟩
def PI (k:Nat) (i:64<=k) (d:aw) (h:cx r) (a:Int):ax (ld k (r,d,a,2,())) λy=>QZ 900 y/\(1<=a->1<=y.1.1.length):=by
 have p:∀n:Nat,0<n->∀(r:tP) (m:Int),cx r->ax (aP (ld.f k) n (r,d,m,0,())) (QZ 12):=by
  intro n j r m h;obtain⟨n,rfl⟩:∃g,n=g+1:=⟨n-1,by omega⟩;rw[az];exact ax.mono (nm k i _ h d m (deep:=0) (by omega) 0 (by omega) λh=>by omega) λy b=>b.1
 have q:∀n:Nat,1<n->∀(r:tP) (m:Int),cx r->ax (aP (ld.f k) n (r,d,m,1,())) (QZ 108):=by
  intro n j r m h;obtain⟨n,rfl⟩:∃g,n=g+1:=⟨n-1,by omega⟩;rw[az];exact ax.mono (nm k i _ h d m (deep:=1) (by omega) 12 (by omega) λ_ l o c=>p n (by omega) l o c) λy b=>b.1
 obtain⟨n,j⟩:∃g,k=g+1:=⟨k-1,by omega⟩;have e:ax (aP (ld.f k) (n+1) (r,d,a,2,())) λy=>QZ 900 y/\(1<=a->1<=y.1.1.length):=by
  rw[az];refine ax.mono (nm k i _ h d a (deep:=2) (by omega) 108 (by omega) λ_ l o c=>q n (by omega) l o c) λy b=>⟨⟨by have:=b.1.1;omega,b.1.2⟩,b.2⟩
 unfold ld;rw[j]at e⊢;exact e
structure pd (p:b7):Prop where
 d:eL (aF p)
 n:p.2.2.2.1.length<=1000
 s:∀n∈p.2.2.2.1,gh n
def pd.small (h:pd p):gF p:=⟨h.d,by have:=h.n;omega,λn a=>by have:=(h.s n a).1;omega,λn a=>by have:=(h.s n a).2;omega⟩
abbrev Sg:Type:=tP×b7×aw×b7×Int×Unit
def SG (d:aw) (x:Sg):Prop:=cx x.1/\x.2.2.1=d/\aF x.2.2.2.1=d/\(∀n∈x.2.2.2.1.2.2.2.1,gh n)/\(0<=x.2.2.2.2.1/\x.2.2.2.2.1<=3)/\x.2.2.2.1.2.2.2.1.length<=(3-x.2.2.2.2.1.toNat)*900/\(1<=x.2.2.2.1.2.2.2.1.length\/(x.2.2.2.1.2.2.2.1.length=0/\1<=x.2.2.2.2.1))
def Q1 (k:Nat) (u:64<=k) (h:cx r):ax (Ch k (r,())) λy=>(PF (aF y.1.1)/\pd y.1.1/\1<=y.1.1.2.2.2.1.length/\y.1.1.2.2.2.1.length<=30)/\cx y.2.1:=by
 obtain⟨b,p,⟨⟩⟩:=r;unfold Ch;refine ax.bd (QW k (by omega) h) λv d=>ax.bd (bg k d.2 3) λt w=> ?_
 obtain⟨⟨I,_,a1⟩,z⟩:=w;have J:=a1 (by omega);have A:wrap .i64 (1+t.1.1)=1+t.1.1:=ak (by omega) (by omega);simp only[A];refine ax.loop (SG v.1.1) (λx=>x.2.2.2.2.1.toNat) ?_ k _ ⟨z,rfl,rfl,by simp,by simp only;omega,by simp,.inr ⟨by simp,by simp only;omega⟩⟩ (by simp only;omega)
 rintro G ⟨⟨K,L,⟨⟩⟩,⟨M,N,O,P,⟨⟩⟩,⟨Q,R,S,⟨⟩⟩,⟨g,j,l,T,⟨⟩⟩,i,⟨⟩⟩ ⟨m,f,a,n,hi,B,c⟩ hG
 simp only[aF]at m f a n hi B c;have U:(3-i.toNat)*900<=3*900:=a0o _ (by omega);simp only[Ch.l0];refine ax.dec (λC=> ?_) λC=>ax.dec (λo=>ax.ret ?_) λo=>ax.ret ?_
 ·refine ax.bd (PI k u _ m _) λV D=> ?_
  obtain⟨⟨W,E,F⟩,H⟩:=D;refine ax.chk (yQ) ?_
  have q:wrap .i64 (i-1)=i-1:=ak (by omega) (by omega);rw[q];refine hG _ ⟨F,f,a,fU n E,by simp only;omega,?_,.inl ?_⟩ (by simp only;omega)
  ·have e:3-(i-1).toNat=(3-i.toNat)+1:=by omega
   simp only[a0m];rw[e,a1a,a2t];omega
  ·simp only[a0m]
   rcases c with c|⟨c,_⟩
   ·omega
   ·have:=H (by rw[c];decide)
    omega
 ·exact⟨⟨by show PF (g,j,l,());rw[a];exact d.1,⟨by show eL (g,j,l,());rw[a];exact d.1.s,by simp,iH (jq _ _ _ _)⟩,by simp,by simp⟩,m⟩
 ·exact⟨⟨by show PF (g,j,l,());rw[a];exact d.1,⟨by show eL (g,j,l,());rw[a];exact d.1.s,by simp only;omega,n⟩,by simp only;omega,by simp only;omega⟩,m⟩
def Fe (k:Nat) (w:64<=k) (h:cx r) (a:PF d):ax (Jg k (r,d,())) λy=>eL y.1.1/\cx y.2.1:=by
 obtain⟨b,p,⟨⟩⟩:=r;have z:=a.n0;have A:=a.n1;have n2:=a.n2;have i:=a.s.s0;have e:=a.s.s1;have f:=a.s.s2;unfold Jg;refine ax.bd (bg k h 24) λB c=>ax.br (λ_=> ?_) λ_=>ax.br (λ_=> ?_) λ_=>ax.br (λ_=> ?_) λ_=> ?_
 ·refine ax.chk (by simp only[a0h,af];omega) (ax.bd (bg k c.2 6) λC j=> ?_)
  obtain⟨⟨l,_,a1⟩,m⟩:=j;have n:=a1 (by omega);refine ax.chk (by simp only[a0g,a0h];omega) (ax.get (by simp only[a0g,a0h];omega) λo hx _=> ?_);have D:o.length<=100:=by
   simp only[a1e,a3y,a4r]at hx;rcases hx with rfl|rfl|rfl|rfl|rfl|rfl<;>decide
  refine ax.chk (by simp only[a0m,a0g,a0h,af];omega) (ax.ret ⟨⟨by simp<;>omega,?_,by simp only;omega,e,by simp only;omega,f⟩,m⟩);intro x hx;simp only[a2j]at hx;rcases a0k.1 hx with hx|hx
  ·exact i x hx
  ·rw[a0v.1 hx];omega
 ·refine ax.chk (by simp only[a0h,af];omega) (ax.bd (vd k (by omega) c.2) λE q=> ?_)
  refine ax.chk (by simp only[a0m,a0g,a0h,af];omega) (ax.ret ⟨⟨by simp only;omega,i,by simp only;omega,e,by simp<;>omega,?_⟩,q.2⟩);intro x hx;simp only[a2j]at hx;rcases a0k.1 hx with hx|hx
  ·exact f x hx
  ·rw[a0v.1 hx];simp
 ·refine ax.bd (bg k c.2 2) λg t=> ?_
  obtain⟨⟨l,_,a1⟩,u⟩:=t;have n:=a1 (by omega);have v:wrap .i64 (5+g.1.1)=5+g.1.1:=ak (by omega) (by omega);simp only[v];refine ax.chk (by simp only[a0g,a0h];omega) (ax.ret ⟨⟨?_,?_,by simp only;omega,e,by simp only;omega,f⟩,u⟩)
  ·have:=(j0 ([[112],[113],[114],[115],[116],[117]]:List (List UInt8)) ((0:Int).toNat) ((5+g.1.1).toNat-(0:Int).toNat)).2
   simp only[a0g,a0h]at this;simp only;omega
  ·intro x hx
   have:=lW hx;simp only[a1e,a3y,a4r]at this;rcases this with rfl|rfl|rfl|rfl|rfl|rfl<;>decide
 ·exact ax.ret ⟨a.s,c.2⟩
abbrev Si:Type:=tP×List bU×Int×Unit
def SH (x:Si):Prop:=cx x.1/\(0<=x.2.2.1/\x.2.2.1<=42)/\x.2.1.length<=900+x.2.2.1.toNat
def HE (k:Nat) (H:64<=k) (h:cx r) {l:List bU} (I:l.length<=900) (o:1<=l.length):ax (Ci k (r,l,())) λy=>y.1.1.length<=1000/\cx y.2.1:=by
 obtain⟨b,p,⟨⟩⟩:=r;unfold Ci;refine ax.bd (bg k h 20) λJ a=>ax.br (λ_=> ?_) λ_=>ax.br (λ_=> ?_) λ_=>ax.br (λ_=> ?_) λ_=>ax.br (λ_=> ?_) λ_=> ?_
 ·have q:wrap .i64 ((l.length:Int)+1)=(l.length:Int)+1:=ak (by omega) (by omega)
  rw[q];refine ax.bd (bg k a.2 _) λs t=> ?_
  obtain⟨⟨g,_,a1⟩,u⟩:=t;have m:=a1 (by omega);refine ax.chk (by omega) (ax.ret ⟨?_,u⟩);have:=(j0 l ((0:Int).toNat) (s.1.1.toNat-(0:Int).toNat)).2;simp only;omega
 ·refine ax.bd (bg k a.2 _) λv c=>ax.bd (vd k (by omega) c.2) λw d=> ?_
  obtain⟨⟨g,_,a1⟩,z⟩:=c;have m:=a1 (by omega);exact ax.chk (by omega) (ax.get (by omega) λA _ _=>ax.ret ⟨by simp<;>omega,d.2⟩)
 ·refine ax.bd (bg k a.2 _) λv c=>ax.bd (vd k (by omega) c.2) λw d=> ?_
  obtain⟨⟨g,_,a1⟩,z⟩:=c;have m:=a1 (by omega);exact ax.chk (by omega) (ax.get (by omega) λA _ _=>ax.ret ⟨by simp<;>omega,d.2⟩)
 ·refine ax.loop SH (λx=>(42-x.2.2.1).toNat) ?_ k _ ⟨a.2,by simp only;omega,by simp only;omega⟩ (by simp only;omega)
  rintro G ⟨⟨K,L,⟨⟩⟩,M,i,⟨⟩⟩ ⟨e,hi,f⟩ hG
  simp only at e hi f;simp only[Ci.l1];refine ax.bind (P:=λj=>j.1=true->i<42) (ax.dec (λB=>ax.br (λ_=>ax.ret λ_=>B) λC=>by simp at C) λ_=>ax.ret λh=>by simp at h) λN D=>ax.br (λE=> ?_) λ_=>ax.ret ⟨by simp only;omega,e⟩
  have F:=D E;refine ax.chk (vt (by simp only[a0g,a0h];omega)) ?_
  rw[ak (n:=i+1) (by omega) (by omega)];refine hG _ ⟨e,by simp only;omega,by simp only[a0m,a0g,a0h];omega⟩ (by simp only;omega)
 ·exact ax.ret ⟨by simp only;omega,a.2⟩
def PJ {l:List aU} (a:∀n∈l,gh n) (i:Nat) {n:aU} (b:gh n):∀m∈l.set i n,gh m:=λm c=>by
 rcases a1v c with h|h
 ·exact a m h
 ·rw[h];exact b
abbrev Sj:Type:=tP×b7×b7×Int×Int×Unit
def SI (p:b7) (x:Sj):Prop:=cx x.1/\aF x.2.1=aF p/\(∀n∈x.2.1.2.2.2.1,gh n)/\(0<=x.2.2.2.2.1/\x.2.2.2.2.1<=32)/\x.2.1.2.2.2.1.length<=30+x.2.2.2.2.1.toNat
def HF (k:Nat) (W:64<=k) (h:cx r) (hd:PF (aF p)) (B:pd p) (c:1<=p.2.2.2.1.length) (J:p.2.2.2.1.length<=30):ax (Cj k (r,p,())) λy=>gF y.1.1/\cx y.2.1:=by
 obtain⟨b,q,⟨⟩⟩:=r;obtain⟨K,L,M,m,⟨⟩⟩:=p;have e:=B.s;have o:=B.d;simp only at e c J;have u:∀(i:Nat) (n:aU),gh n->pd (K,L,M,m.set i n,()):=λi n c=>⟨o,by simp<;>omega,PJ e i c⟩
 have f:∀(i:Nat) (a v lo hi:Int) (x:aU),gh x->gF (K,L,M,m.set i (a,v,x.2.2.1,x.2.2.2.1,lo,hi,()),()):=λi a v lo hi x g=>(u i (a,v,x.2.2.1,x.2.2.2.1,lo,hi,()) g).small
 unfold Cj;refine ax.bd (bg k h _) λz h1=> ?_
 obtain⟨⟨a0,_,a1⟩,r1⟩:=h1;have a2:=a1 (by omega);have I:z.1.1.toNat<m.length:=by omega
 refine ax.bd (bg k r1 24) λy2 t=>ax.br (λ_=> ?_) λ_=>ax.br (λ_=> ?_) λ_=>ax.br (λ_=> ?_) λ_=>ax.br (λ_=> ?_) λ_=>ax.br (λ_=> ?_) λ_=>ax.br (λ_=> ?_) λ_=>ax.br (λ_=> ?_) λ_=> ?_
 ·exact ax.bd (Fe k W t.2 hd) λy3 X=>ax.ret ⟨pd.small ⟨X.1,by simp only;omega,e⟩,X.2⟩
 ·exact ax.bd (vd k (by omega) t.2) λY C=>ax.chk (by omega) (ax.get I λw g _=>ax.ret ⟨f _ _ _ _ _ w (e w g),C.2⟩)
 ·have ew:wrap .i64 (z.1.1+1)=z.1.1+1:=ak (by omega) (by omega)
  simp only[ew];refine ax.chk (by omega) (ax.chk (by omega) (ax.chk (by omega) (ax.chk (by simp only[af];omega) (ax.ret ⟨pd.small ⟨o,?_,?_⟩,t.2⟩))))
  ·have l1:=(j0 m ((0:Int).toNat) (z.1.1.toNat-(0:Int).toNat)).2
   have l2:=(j0 m ((z.1.1+1).toNat) ((m.length:Int).toNat-(z.1.1+1).toNat)).2;simp only[a0m];omega
  ·exact fU (λn c=>e n (lW c)) (λn c=>e n (lW c))
 ·exact ax.bd (vd k (by omega) t.2) λY C=>ax.chk (by omega) (ax.get I λw g _=>ax.ret ⟨f _ _ _ _ _ w (e w g),C.2⟩)
 ·exact ax.bd (vd k (by omega) t.2) λY C=>ax.chk (by omega) (ax.get I λw g _=>ax.ret ⟨f _ _ _ _ _ w (e w g),C.2⟩)
 ·refine ax.loop (SI (K,L,M,m,())) (λx=>(32-x.2.2.2.2.1).toNat) ?_ k _ ⟨t.2,rfl,e,by simp only;omega,by simp only;omega⟩ (by simp only;omega)
  rintro G ⟨⟨rb,rp,⟨⟩⟩,⟨q0,N,O,q3,⟨⟩⟩,⟨t0,t1,t2,t3,⟨⟩⟩,S0,i,⟨⟩⟩ ⟨Q,D,A,hi,R⟩ hG
  simp only at Q hi R A;simp only[Cj.l1];refine ax.bind (P:=λj=>j.1=true->i<32) (ax.dec (λB=>ax.br (λ_=>ax.ret λ_=>B) λhz=>by simp at hz) λ_=>ax.ret λh=>by simp at h) λj9 h9=>ax.br (λhj=> ?_) λ_=>ax.ret ⟨pd.small ⟨by rw[show aF (q0,N,O,q3,())=_ from D];exact o,by simp only;omega,A⟩,Q⟩
  have S1:=h9 hj;refine ax.chk (yQ (by simp only[a0g,a0h];omega)) ?_
  rw[ak (n:=i+1) (by omega) (by omega)];exact hG _ ⟨Q,D,fU A (iH (jq _ _ _ _)),by simp only;omega,by simp only[a0m,a0g,a0h];omega⟩ (by simp only;omega)
 ·refine ax.chk (by omega) (ax.get I λE g F=>ax.dec (λS=> ?_) λ_=>ax.ret ⟨(u _ _ (e E g)).small,t.2⟩)
  obtain⟨x0,xv,Z,T,xl,xh,⟨⟩⟩:=E;have es:m.set z.1.1.toNat (x0,xv,Z,T,xl,xh,())=m:=by
   obtain⟨N,O⟩:=a0p.1 F;rw[<-O];exact a4t N
  simp only[es]at S⊢;have hE:=e _ g;have S2:Z.length<=900:=hE.1;have U:T.length<=900:=hE.2;refine ax.chk (by omega) ?_
  rw[F,aa];refine ax.bd (HE k W t.2 (l:=T) U (by omega)) λS3 H=> ?_
  refine ax.chk (by omega) ?_
  have V:=H.1;refine ax.chk trivial (ax.ret ⟨⟨o,by simp<;>omega,λn c=> ?_,λn c=> ?_⟩,H.2⟩)
  ·rcases a1v c with c|rfl
   ·have:=(e n c).1;omega
   ·simp only;omega
  ·rcases a1v c with c|rfl
   ·have:=(e n c).2;omega
   ·simp only;omega
 ·exact ax.ret ⟨B.small,t.2⟩
abbrev RI:Type:=tP×List Int×Int×Unit
def Sk (x:RI):Prop:=cx x.1/\(0<=x.2.2.1/\x.2.2.1<=11)/\x.2.1.length<=11-x.2.2.1.toNat
def sD (k:Nat) (u:64<=k) (h:cx r):ax (AE k (r,())) λy=>cx y.2.1:=by
 obtain⟨b,q,⟨⟩⟩:=r;unfold AE;refine ax.bd (bg k h 12) λv e=> ?_
 obtain⟨⟨f,_,a1⟩,g⟩:=e;have j:=a1 (by omega);refine ax.loop Sk (λx=>x.2.2.1.toNat) ?_ k _ ⟨g,by simp only;omega,by simp⟩ (by simp only;omega)
 rintro G ⟨⟨w,z,⟨⟩⟩,l,i,⟨⟩⟩ ⟨a,hi,m⟩ hG
 simp only at a hi m;simp only[AE.l0];refine ax.dec (λA=> ?_) λ_=> ?_
 ·refine ax.bd (RF k (by omega) a) λB o=>ax.chk (by simp only[a0g,a0h,af];omega) ?_
  rw[ak (n:=i-1) (by omega) (by omega)];exact hG _ ⟨o.2,by simp only;omega,by simp only[a0m,a0g,a0h];omega⟩ (by simp only;omega)
 ·refine ax.bd (gY k a 40) λC c=>ax.br (λ_=> ?_) λ_=>ax.ret c
  refine ax.bd (bg k c 2) λd p=> ?_
  obtain⟨⟨f,_,a1⟩,s⟩:=p;have j:=a1 (by omega);have t:wrap .i64 (1000+d.1.1)=1000+d.1.1:=ak (by omega) (by omega);simp only[t];exact ax.chk (by simp only[af];omega) (ax.ret s)
def Ld (k:Nat) (n:64<=k) {c:List Int} (D:c.length<=140737488351232) (E:∀x∈c,0<=x/\x<=255):ax (Ji k (c,())) λy=>gF y.1.1:=by
 have j:∀(r:tP) (p:b7),cx r->gF p->ax (bd k (z6 k (r,180,())) λh=>
  bd k (nL k ((h.2.1.1,h.2.1.2.1,()),8,())) λb=>
  br k (b.1.1)
  (bd k (z6 k ((b.2.1.1,b.2.1.2.1,()),20,())) λi=>
  bd k (nL k ((i.2.1.1,i.2.1.2.1,()),30,())) λa=>
  br k (a.1.1)
  (bd k (zy k ((a.2.1.1,a.2.1.2.1,()),0,2000,())) λd=>
  bd k (AE k ((d.2.1.1,d.2.1.2.1,()),())) λe=>
  some (((p.1,p.2.1,p.2.2.1,p.2.2.2.1,()),e.1.1,d.1.1,()),((),())))
  (bd k (AE k ((a.2.1.1,a.2.1.2.1,()),())) λs=>
  some (((p.1,p.2.1,p.2.2.1,p.2.2.2.1,()),s.1.1,i.1.1,()),((),()))))
  (bd k (nL k ((b.2.1.1,b.2.1.2.1,()),30,())) λf=>
  br k (f.1.1)
  (bd k (zy k ((f.2.1.1,f.2.1.2.1,()),0,2000,())) λl=>
  bd k (AE k ((l.2.1.1,l.2.1.2.1,()),())) λt=>
  some (((p.1,p.2.1,p.2.2.1,p.2.2.2.1,()),t.1.1,l.1.1,()),((),())))
  (bd k (AE k ((f.2.1.1,f.2.1.2.1,()),())) λu=>
  some (((p.1,p.2.1,p.2.2.1,p.2.2.2.1,()),u.1.1,wrap .i64 (20+h.1.1),()),((),()))))) λy:(b7×List Int×Int×Unit)×(Unit×Unit)=>gF y.1.1:=λr p F q=>by
  refine ax.bd (bg k F 180) λh v=>ax.bd (gY k v.2 8) λb o=>ax.br (λ_=> ?_) λ_=> ?_
  ·refine ax.bd (bg k o 20) λi w=>ax.bd (gY k w.2 30) λa g=>ax.br (λ_=> ?_) λ_=> ?_
   ·exact ax.bd (vd k (by omega) g) λd m=>ax.bd (sD k n m.2) λe _=>ax.ret q
   ·exact ax.bd (sD k n g) λe _=>ax.ret q
  ·refine ax.bd (gY k o 30) λa g=>ax.br (λ_=> ?_) λ_=> ?_
   ·exact ax.bd (vd k (by omega) g) λd m=>ax.bd (sD k n m.2) λe _=>ax.ret q
   ·exact ax.bd (sD k n g) λe _=>ax.ret q
 unfold Ji;refine ax.bd (QV k D E) λL G=>ax.bd (Q1 k n G) λM z=> ?_
 obtain⟨⟨H,A,I,J⟩,K⟩:=z;refine ax.bd (gY k K 12) λN B=>ax.br (λ_=> ?_) λ_=> ?_
 ·exact ax.bd (HF k n B H A I J) λO C=>j _ _ C.2 C.1
 ·exact j _ _ B A.small
structure Sx (p:b7) (c:ID) (q:Nat×dP) (r:dP):Prop where
 ok:(N7 c&& gG p)=true
 s:kV p c.1 c.2.2.1.toNat 0 (N6 p)=some q
 post:RC p q.2
 n1:0<q.1
 n2:q.1<=c.2.2.1.toNat
 n:yO p c.2.1.toNat q.2=some r
 end_:RC p r
 is:PC p c=P1 p (q.1:Int) r
def Le (x:BitVec 64):(wrap .i64 ((x.toNat:Int)) !=0)=true↔x≠0#64:=by
 rw[IntKind.wrap_i64];have a:=x.isLt;simp only[bne_iff_ne,ne_eq];constructor
 ·intro h e
  apply h;have z:x.toNat=0:=by rw[e];rfl
  rw[z]
  decide
 ·intro h e
  apply h;apply a6w;show x.toNat=0;omega
def Ob {a b:Int} (h:cj a b):vn a&&& vn b=vn a:=by
 unfold cj at h;apply BitVec.eq_of_getLsbD_eq;intro i hi;have c:=a1x (λx=>x.getLsbD i) h;simp only[BitVec.getLsbD_or]at c;rw[BitVec.getLsbD_and]
 cases hA:(vn a).getLsbD i<;>cases hB:(vn b).getLsbD i<;>simp_all
def Ff (k:Nat) (e:4194304<k) (t:List bD) (a b:Int):Cm k (t,a,b,())=some ((sz t a b,()),((),(),(),())):=by
 unfold Cm sz;simp only[ya k e,aa]
 cases h1:bq t with
 |false=>simp
 |true=>
  have g:=kP (t:=t) h1
  cases h2:bq [(a,b,())]with
  |false=>simp
  |true=>
   have c:(([]:List bD).length+t.length)*16<=af:=by simp only[a0h,af];omega
   have f:(t.length+([(a,b,())]:List bD).length)*16<=af:=by simp only[a0g,a0h,af];omega
   simp only[a0t,ah,an,and_self,a1s,a0b c,a2j,a0b f];by_cases d:t.length<3
   ·rw[a0b (show(t.length:Int)<3 by omega),a0b d]
   ·rw[a0e (show¬(t.length:Int)<3 by omega),a0e d]
def C9 (k:Nat) (p:4194304<k) (t:List bD) (q:t.length<=3) (a:Int):zB k (t,a,())=some (((gX a t:Int),()),((),(),())):=by
 have d:∀(n i f c:Nat),i+n=t.length->n<f->c<=i->aP (zB.l0 k) f (t,a,(c:Int),(i:Int),())=some ((((c+gX a (t.drop i):Nat):Int),()),((),(),())):=by
  intro n
  induction n with
  |zero=>
   intro i f c hi l m;obtain⟨f,rfl⟩:∃g,f=g+1:=⟨f-1,by omega⟩;have e:¬((i:Int)<(t.length:Int)):=by omega
   rw[az,a1w (by omega)];simp only[zB.l0,an,a0e e,gX,List.filter_nil,a0h,a2z]
  |succ n ih=>
   intro i f c hi l m;obtain⟨f,rfl⟩:∃g,f=g+1:=⟨f-1,by omega⟩;have b:i<t.length:=by omega
   have e:((i:Int)<(t.length:Int)):=by omega
   have o:(0:Int)<=(i:Int):=by omega
   rw[az,a1b b];simp only[zB.l0,an,a0b e,a0b o,a0j,a0a b,aa,CM];rw[aH]
   cases he:(t[i].1==a)with
   |true=>
    have j:wrap .i64 ((c:Int)+iP true)=((c+1:Nat):Int):=by simp only[iP,a1r];exact aH
    rw[j,ih (i+1) f (c+1) (by omega) (by omega) (by omega)];simp only[gX,a3v,he,a1s,a0g];rw[a2k,Nat.add_comm 1]
   |false=>
    have j:wrap .i64 ((c:Int)+iP false)=((c:Nat):Int):=by simp only[iP,a2p];rw[ak (by omega) (by omega)];omega
    rw[j,ih (i+1) f c (by omega) (by omega) (by omega)];simp only[gX,a3v,he,a0u,a1z]
 have h:=d t.length 0 k 0 (by omega) (by omega) (a1n _);simp only[a4v,a1l]at h;exact h
def np (k:Nat) (p:4194304<k) (n:aU) (i:Int) {t:List bD} (r:lJ t) (d:Bool) (q v:Int) (s:n.1=6->v=iP d) (e:n.1=10->(d=true↔v=1)) (l:n.1=13->q=v):Cn k (n,i,t,d,q,())=some ((mn t i n v,()),((),(),(),(),(),())):=by
 unfold Cn mn;simp only[bP,CM,Ff k p,aa,jV];by_cases f:n.1=6
 ·simp only[a0b f,s f]
 by_cases b:n.1=10
 ·have a:¬n.1=13:=by omega
  have c:¬n.1=14:=by omega
  simp only[a0e f,a0b b,C9 k p t (kP r),aa]
  cases d with
  |true=>
   have m:v=1:=(e b).1 rfl;subst m;simp only[ai,a0d,an,a9p];by_cases g:(gX i t:Int)<n.2.2.2.2.1
   ·simp only[a0b g]
   ·simp only[a0e g,a0e a,a0d,ah,a0e c]
  |false=>
   have m:¬v=1:=λh=>by have:=(e b).2 h;cases this
   have o:¬(v=1/\(gX i t:Int)<n.2.2.2.2.1):=λh=>m h.1
   simp only[ah,a0d,a0e o,a0e a,a0e c]
 by_cases a:n.1=13
 ·rw[l a]
  simp only[a0e f,a0e b,a0b a,a0d,ah,Ix];by_cases j:n.2.2.2.2.1<=v/\v<=n.2.2.2.2.2.1
  ·simp only[a0f j,ai,a0b j]
  ·simp only[a0n j,ah,a0e j]
 simp only[a0e f,a0e b,a0e a,a0d,ah];by_cases c:n.1=14
 ·simp only[a0b c]
 ·simp only[a0e c]
def PK {v:Int} (h:zS v):v=iP (v==1):=by rcases h with rfl|rfl<;>rfl
def yR (k:Nat) (C:4194304<k) (p:b7) (W:(aF p).1.length<=1000/\(aF p).2.1.length<=1000/\(aF p).2.2.1.length<=1000) (T o:List Int) (l:Int) (hf:l<=2000):∀(r f:Nat) (m:Int) (s:aT) (a d:Int) (c:List bD) (j:List C4),kQ (aF p) p.2.2.2.1 T o m d s->lJ c->r<f->a+r=l->0<=a->j.length+r<=2000->aP (Jr.l0 k) f (o,l,(p.1,p.2.1,p.2.2.1,p.2.2.2.1,()),j,T,m,d,(s.1,s.2.1,s.2.2.1,()),c,a,())=some ((j++dI p.2.2.2.1 T o r m s d c,()),((),(),(),())):=by
 have u:∀(m:Int) (s:aT) (c:List bD),lh (aF p) s->lJ c->Gm k (m,c,(s.1,s.2.1,s.2.2.1,()),())=some ((nH m c s,()),((),(),(),())):=λm s c K w=>by
  have y:=kP w;have hm:(([]:List bD).length+c.length)*16<=af:=by simp only[a0h,af];omega
  have L:Gl k ((s.1,s.2.1,s.2.2.1,()),())=some ((s,()),((),())):=Iy k C K W;unfold Gm;simp only[an,a0b hm,L,aa,a2j,nH]
 have M:∀(j:List C4) (x:C4),j.length<=2000->(j.length+([x]:List C4).length)*104<=af:=λj x h=>by simp only[a0g,a0h,af];omega
 intro r
 induction r with
 |zero=>
  intro f m s a d c j h w N K h0 hn;obtain⟨f,rfl⟩:∃g,f=g+1:=⟨f-1,by omega⟩;have O:¬a<l:=by omega
  rw[az];have D:(br k (decide (m<(p.2.2.2.1.length:Int))) (some (decide (a<l),())) (some (false,())):Option (Bool×Unit))=some (false,()):=by
   rw[a0n O,an];split<;>rfl
  simp only[Jr.l0,D,a0d,ah,u m s c h.st w,aa,an,a0b (M j _ (by omega)),dI]
 |succ r ih=>
  intro f m s a d c j h w N K h0 hn;obtain⟨f,rfl⟩:∃g,f=g+1:=⟨f-1,by omega⟩;have O:a<l:=by omega
  rw[az];by_cases y:m<(p.2.2.2.1.length:Int)
  ·have D:(br k (decide (m<(p.2.2.2.1.length:Int))) (some (decide (a<l),())) (some (false,())):Option (Bool×Unit))=some (true,()):=by
    rw[a0f O,an,a0b y]
   have hb:=h.lnb;have S0:=h.tlen;obtain⟨l1,l2,X,l4⟩:=h.line y;have c1:0<=m/\m<(T.length:Int):=by omega
   obtain⟨i,rfl⟩:∃i:Nat,m=(i:Int):=⟨m.toNat,by omega⟩;have S1:=h.l30;have P:=E9 k C W (h.lines _ X) p o h.i1000 (T.getD (i:Int).toNat 0) i (by omega) h.use.1 h.st;have E:p7 k ((p.1,p.2.1,p.2.2.1,p.2.2.2.1,()),T.getD (i:Int).toNat 0,p.2.2.2.1.getD (i:Int).toNat bZ,(i:Int),(s.1,s.2.1,s.2.2.1,()),o,d,())=_:=P;have Q:=h.next y;have ws:wrap .i64 (a+1)=a+1:=ak (by omega) (by omega);simp only[Jr.l0,D,a0d,ai,u (i:Int) s c h.st w,aa,an,a0b (M j _ (by omega)),a0b hb.1,l1,a0b c1,l2,E,dI,a0b y,ws];by_cases F:(aQ (p.2.2.2.1.getD (i:Int).toNat bZ) o (T.getD (i:Int).toNat 0) (i:Int) d s).2.2.2≠0
   ·have b:((aQ (p.2.2.2.1.getD (i:Int).toNat bZ) o (T.getD (i:Int).toNat 0) (i:Int) d s).2.2.2 !=0)=true:=by simpa using F
    simp only[b,ai,a0b F]
   ·have b:((aQ (p.2.2.2.1.getD (i:Int).toNat bZ) o (T.getD (i:Int).toNat 0) (i:Int) d s).2.2.2 !=0)=false:=by simpa using F
    simp only[b,ah,a0e F,bP];have z:=h.lines _ X;have A:=h.st;have G:(p.2.2.2.1.getD (i:Int).toNat bZ).1=6\/(p.2.2.2.1.getD (i:Int).toNat bZ).1=10->(aV s [] (p.2.2.2.1.getD (i:Int).toNat bZ).2.2.2.1).2=0:=λR=>by
     apply a7v;intro H;apply F;unfold aQ;rw[ifNegQ,a0b ⟨by rcases R with e|e<;>rw[e]<;>decide,H⟩];exact H
    have v:=ih f _ _ (a+1) _ (gg c (i:Int) (p.2.2.2.1.getD (i:Int).toNat bZ) s 0) (j++[nH (i:Int) c s]) Q (C5 w _ _ _ _) (by omega) (by omega) (by omega) (by simp;omega);rw[a1q]at v
    generalize p.2.2.2.1.getD (i:Int).toNat bZ=n at z G v⊢
    have S:gg c (i:Int) n s 0=mn c (i:Int) n (fu n s):=by unfold gg;rw[a0b rfl]
    by_cases t:n.1=13
    ·obtain⟨v0,v1⟩:=z.var (by omega)
     have Y:n.2.1.toNat<s.1.length:=by rw[A.n0];exact v1
     have n6:¬n.1=6:=by omega
     have U:(n.1==10)=false:=by simp;omega
     have J:fu n s=s.1[n.2.1.toNat]:=by unfold fu;rw[a0b t,ay Y]
     simp only[a0b t,a0b v0,a0a Y,aa,a0e n6,U,a0d,ah];rw[np k C n (i:Int) w _ _ (fu n s) (λe=>by omega) (λe=>by omega) (λ_=>J.symm),aa];simp only;rw[<-S];exact v
    ·simp only[a0e t]
     by_cases q:n.1=6\/n.1=10
     ·have B:((if n.1=6 then some (true,())else some (n.1==10,())):Option (Bool×Unit))=some (true,()):=by
       rcases q with e|e
       ·rw[a0b e]
       ·rw[ifNegQ,e];rfl
      have Z:=z.bool q;have eE:pP k (n.2.2.2.1,(s.1,s.2.1,s.2.2.1,()),())=_:=(kf k C A n.2.2.2.1 (by rw[Z];omega)).1;have I:=NH A Z (G q);have J:fu n s=(aV s [] n.2.2.2.1).1:=by unfold fu;rw[a0e t]
      simp only[B,a0d,ai,eE,aa];rw[np k C n (i:Int) w _ _ (fu n s) (λe=>by rw[J];exact PK I) (λe=>by rw[J];simp) (λe=>absurd e t),aa];simp only;rw[<-S];exact v
     ·have B:((if n.1=6 then some (true,())else some (n.1==10,())):Option (Bool×Unit))=some (false,()):=by
       have V:(n.1==10)=false:=by simp;omega
       rw[ifNegQ,V]
      simp only[B,a0d,ah];rw[np k C n (i:Int) w _ _ (fu n s) (λe=>absurd (.inl e) q) (λe=>absurd (.inr e) q) (λe=>absurd e t),aa];simp only;rw[<-S];exact v
  ·have D:(br k (decide (m<(p.2.2.2.1.length:Int))) (some (decide (a<l),())) (some (false,())):Option (Bool×Unit))=some (false,()):=by
    rw[an,a0e y]
   simp only[Jr.l0,D,a0d,ah,u m s c h.st w,aa,an,a0b (M j _ (by omega)),dI,a0e y]
def Da (k:Nat) (f:4194304<k) (c:k<=4611686018427387903) (p:b7) (g:gF p) (b:List Int) (a:Int):Jr k (p,b,a,())=some ((eH p b a,()),((),(),(),())):=by
 unfold Jr eH;simp only[N1 k f c p g,aa]
 cases hf:gH p b a with
 |false=>simp
 |true=>
  have i:=pJ hf;simp only[gH,a0c,a0q]at hf;obtain⟨h,j,n⟩:=hf;have e:=(eG h).1;obtain⟨⟨o,q,r⟩,_⟩:=je e;have l:xd k ((p.1,p.2.1,p.2.2.1,()),())=some ((ge (aF p),()),((),())):=Hx k f g.d e;have m:=yR k f p ⟨by omega,by omega,by omega⟩ (cd p.2.2.2.1) b a j.2 a.toNat k 0 (ge (aF p)) 0 0 [] [] i rfl (by omega) (by omega) (by omega) (by simp;omega);simp only[a0t,ah,yC k f c p g h,l,aa,a1s];exact m
def Q2 (k:Nat) (a:List Int):ax (Jc k (a,())) λ_=>True:=by
 unfold Jc;exact ax.ret trivial
def Fg {b:List Int} {a:Int}:(iR p b a).1=1↔gH p b a=false:=by
 unfold iR
 cases h:gH p b a with
 |false=>simp
 |true=>
  simp only[a1s];exact⟨λe=>absurd e (NZ a.toNat 0 (ge (aF p)) 0 0 (pJ h)).code.1,λe=>by cases e⟩
def Q3 {β:Type} {m:Option ((Bool×Unit)×β)} (h:ax m λy=>y.1.1=true):∃o,m=some ((true,()),o):=by
 obtain⟨⟨⟨b,⟨⟩⟩,o⟩,e,a⟩:=h;exact⟨o,by rw[e];simp only at a;rw[a]⟩
def Bz {d:aw} {L:List aU} {T c:List Int}:∀(r:Nat) (e:Int) (s:aT) (a:Int) (b:List bD),lJ b->∀x∈dI L T c r e s a b,lJ x.2.1
 |0,e,s,a,b,ht,x,hx=>by
  simp only[dI,a0v]at hx;rw[hx];exact ht
 |r+1,e,s,a,b,ht,x,hx=>by
  unfold dI at hx;split at hx
  ·rcases a1e.1 hx with hx|hx
   ·rw[hx];exact ht
   ·split at hx
    ·cases hx
    ·exact Bz (d:=d) r _ _ _ _ (C5 ht _ _ _ _) x hx
  ·rw[a0v.1 hx];exact ht
def Oc (k:Nat) (c:Int):GB k (c,())=some ((jJ c,()),((),())):=by
 unfold GB jJ;simp only[bP];split
 ·rfl
 split
 ·rfl
 split
 ·rfl
 split<;>rfl
def HG {c:Int} (h:jJ c≠0):vn (jJ c)≠0#64:=by
 unfold jJ at h⊢;split
 ·decide
 rename_i a;rw[a0e a]at h;split
 ·decide
 rename_i b;rw[a0e b]at h;split
 ·decide
 rename_i d;rw[a0e d]at h;split
 ·decide
 rename_i e;rw[a0e e]at h;exact absurd rfl h
def sE (d:aw) (t:List bD) (s:aT):aG:=(t,dh d (cp s.2.1) (vq s),())
def HH (g:aY d=true) {s:aT} (b:lh d s) (i:u7 d s) {t:List bD} (j:lJ t):eW d [sE d t s]/\PY [sE d t s]/\QP [sE d t s]:=by
 obtain⟨k,l⟩:=tO g b i;have c:mf d (sE d t s):=⟨j,ll k⟩;refine⟨⟨λx a=>by rw[a0v.1 a];exact c,List.pairwise_singleton _ _⟩,λx a=> ?_,λx a e f=> ?_⟩
 ·rw[a0v.1 a];exact E6 (IA b) rfl
 ·rw[a0v.1 a]at f
  rcases c.m.e e f with⟨_,h,_,_⟩|h
  ·exact⟨h.fi,h.fa⟩
  ·rw[h];exact⟨λx a=>(by cases a),λx a=>(by cases a)⟩
def HI (k:Nat) (z:4194304<k) (m:k<=4611686018427387903) {b:List Int} (Q:b.length<=140737488351232) (R:∀x∈b,0<=x/\x<=255):ax (GK k (b,())) λy=>y.1.1=true:=by
 unfold GK;refine ax.bd (Q2 k b) λ_ _=>ax.br (λ_=>ax.ret rfl) λ_=> ?_
 have S:ax (JA k (b,())) λy=>∃p a,gF p/\y.1=((p.1,p.2.1,p.2.2.1,p.2.2.2.1,()),eH p a 60,iR p a 60,()):=by
  unfold JA;have T:ax (Jj k (b,())) λy=>gF y.1.1:=by
   unfold Jj;exact ax.bd (Ld k (by omega) Q R) λy g=>ax.ret g
  refine ax.bd T λA g=> ?_
  generalize A.1.1=p at g
  generalize A.1.2.1=a
  have U:GA k ((p.1,p.2.1,p.2.2.1,p.2.2.2.1,()),a,60,())=some ((iR p a 60,()),((),(),(),())):=Hz k z m p g a 60;have V:Jr k ((p.1,p.2.1,p.2.2.1,p.2.2.2.1,()),a,60,())=some ((eH p a 60,()),((),(),(),())):=Da k z m p g a 60;simp only[U,V,aa];exact ax.ret ⟨p,a,g,rfl⟩
 refine ax.bd S λA K=> ?_
 obtain⟨y,o2⟩:=A;simp only at K;obtain⟨p,a,g,rfl⟩:=K;simp only;rcases a0r (gH p a 60)with hf|hf
 case inr=>
  have e:(iR p a 60).1=1:=Fg.2 hf;simp only[e,BEq.rfl,ai,a0d];exact ax.ret rfl
 have C:((iR p a 60).1==1)=false:=by
  rcases a0r ((iR p a 60).1==1)with h|h
  ·have W:(iR p a 60).1=1:=by simpa using h
   rw[Fg.1 W]at hf;cases hf
  ·exact h
 have D:=pJ hf;have q:=hf;simp only[gH,a0c,a0q]at q;obtain⟨r,_,_⟩:=q;obtain⟨n,L,E,_⟩:=eG r;have F:iR p a 60=iG p.2.2.2.1 (cd p.2.2.2.1) a (60:Int).toNat 0 (ge (aF p)) 0 0:=by unfold iR;rw[a0b hf];rfl
 have B:eH p a 60=dI p.2.2.2.1 (cd p.2.2.2.1) a (60:Int).toNat 0 (ge (aF p)) 0 []:=by unfold eH;rw[a0b hf]
 obtain⟨_,⟨r',X⟩,_⟩:=Bx (60:Int).toNat 0 (ge (aF p)) 0 0 [] D;have M:(eH p a 60).length<=61:=by rw[B];exact Bw _ _ _ _ _ _ _ _
 have Y:1<=(eH p a 60).length:=by rw[B,X];simp
 simp only[Oc,aa,C,ah];by_cases s:jJ (iR p a 60).1=0
 ·simp only[s,BEq.rfl,ai,a0d]
  rw[a0f (show((eH p a 60).length:Int)>0 by omega)];exact ax.ret rfl
 have G:(jJ (iR p a 60).1==0)=false:=by simpa using s
 have Z:(((eH p a 60).length:Int)==0)=false:=by
  simp only[beq_eq_false_iff_ne];omega
 simp only[G,Z,ah,a0d];have c:(iR p a 60).1≠0/\(iR p a 60).1≠2:=by
  constructor<;>(intro e;rw[e]at s;exact s rfl)
 rw[F]at c;obtain⟨i,x,u,H,i2,i3,N⟩:=yN (60:Int).toNat 0 (ge (aF p)) 0 0 [] D c.1 c.2;rw[<-F]at N;rw[<-B]at H;have j:x∈dI p.2.2.2.1 (cd p.2.2.2.1) a (60:Int).toNat 0 (ge (aF p)) 0 []:=by rw[<-B,H];simp
 obtain⟨m1,t,m3⟩:=Fb _ (60:Int).toNat 0 (ge (aF p)) 0 [] D rfl rfl x j;have O:lJ x.2.1:=Bz (d:=aF p) (60:Int).toNat 0 (ge (aF p)) 0 [] rfl x j;have f:=Lc n m3;have mh:wrap .i64 (((eH p a 60).length:Int)-1)=(((eH p a 60).length-1:Nat):Int):=by rw[ak (by omega) (by omega)];omega
 have o:(eH p a 60)[(eH p a 60).length-1]?=some x:=by rw[H];simp
 have v:qI k ((p.1,p.2.1,p.2.2.1,()),x.2.1,(x.2.2.1,x.2.2.2.1,x.2.2.2.2.1,()),())=some ((sE (aF p) x.2.1 (o9 x),()),((),(),(),())):=Py z n t f m1;obtain⟨P,g2,g3⟩:=HH n t f O;have I:GJ k ((p.1,p.2.1,p.2.2.1,p.2.2.2.1,()),x.1,[sE (aF p) x.2.1 (o9 x)],())=some ((pI p x.1 [sE (aF p) x.2.1 (o9 x)],()),((),(),(),())):=E5 z m p g x.1 _ (EK n P (by simp)) g3;rw[mh,a0f (show 0<=(((eH p a 60).length-1:Nat):Int)/\(((eH p a 60).length-1:Nat):Int)<((eH p a 60).length:Int) by omega),ai,a0j,o];simp only[aa,v,I];refine ax.ret ?_
 have S0:=i3.lnb;have w:x.1.toNat<p.2.2.2.1.length:=by omega
 have J:cj (jJ (iR p a 60).1) (pI p x.1 [sE (aF p) x.2.1 (o9 x)]).2.1:=by
  unfold pI;rw[r,a0f (show 0<=x.1/\x.1<=(p.2.2.2.1.length:Int)-1 by omega),NT P (by simp) g2];have l:=E _ (a0l w);rw[<-ay w bZ]at l;exact HD n l x.1 _ a _ x.1 u (tO n t f).1 (tO n t f).2 t f O N (by rw[F];exact c.1)
 have hb:=Ob J;show(wrap .i64 (((vn (pI p x.1 [sE (aF p) x.2.1 (o9 x)]).2.1&&& vn (jJ (iR p a 60).1)).toNat:Int)) !=0)=true;refine(Le _).2 ?_
 rw[BitVec.and_comm,hb];exact HG s
def tQ (x:List Int×Unit) (d:Rd [.sl false (.int .u8)] x):∃k o,GK k x=some ((true,()),o):=by
 obtain⟨c,⟨⟩⟩:=x;obtain⟨⟨a,b⟩,_⟩:=d;obtain⟨o,e⟩:=Q3 (HI 8388608 (by omega) (by omega) a λx f=>b x f);exact⟨8388608,o,e⟩
