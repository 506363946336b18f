/-
  Which programs are right: the whole test.
-/
import Derived.Test.YtjjmipjhddlncaaGreatDoorK06
import Derived.Test.YtjjmipjhddlncaaGreatDoorK02
import Derived.Test.YtjjmipjhddlncaaGreatDoorK05
set_option linter.all false
noncomputable section
open Go.IntKind (wrap)
namespace Go.Pev.F
abbrev dw:=eQ×eQ×List pm×List aV×Unit
def aw (p:dw):ar:=(p.1,p.2.1,p.2.2.1,())
structure mS (p:dw):Prop where
 d:fC (aw p)
 n:p.2.2.2.1.length<=1048576
 i:∀n∈p.2.2.2.1,n.2.2.1.length<=1048576
 e:∀n∈p.2.2.2.1,n.2.2.2.1.length<=1048576
def dh (p:dw):Bool:=aN (aw p)&& (decide (p.2.2.2.1.length<=30)&& (p.2.2.2.1.all (bm (aw p))&& lW p.2.2.2.1))
def lD (k:Nat) (c:4194304<k) (e:k<=4611686018427387903) (p:dw) (j:mS p):GO k (p,())=some ((dh p,()),((),())):=by
 unfold GO dh;have q:tT k ((p.1,p.2.1,p.2.2.1,()),())=some ((aN (aw p),()),((),())):=gW k c (aw p) j.d;simp only[q,aa]
 cases hdo:aN (aw p)with
 |false=>simp
 |true=>
  simp only[a0j,af,a1i,a0d,ak];by_cases l:(p.2.2.2.1.length:Int)>30
  ·have:decide (p.2.2.2.1.length<=30)=false:=by simp;omega
   rw[a0e l,this];rfl
  ·have a:p.2.2.2.1.length<=30:=by omega
   rw[a0c l,a0b a,a1i];obtain⟨o,m,s,t⟩:=yC k c p.2.2.2.1 a;have h:=gl (b:=GO.l0 k) (λi=>((p.1,p.2.1,p.2.2.1,p.2.2.2.1,()),(i:Int),())) p.2.2.2.1 (λn=> !bm (aw p) n) (rf:=some ((false,()),((),()))) (r:=some ((lW p.2.2.2.1,()),((),()))) (λG i u=>by
    have g:((i:Int)<(p.2.2.2.1.length:Int)):=by omega
    have v:(0:Int)<=(i:Int):=by omega
    have w:GL k ((p.1,p.2.1,p.2.2.1,()),p.2.2.2.1[i],())=some ((bm (aw p) p.2.2.2.1[i],()),((),(),())):=Lf k c e (aw p) j.d hdo p.2.2.2.1[i];simp only[GO.l0,ak,a0e g,a0e v,a0g,a0a u,aa,w];rw[au (by omega)]
    cases bm (aw p) p.2.2.2.1[i]<;>simp) (λG=>by
    have g:¬((p.2.2.2.1.length:Int)<(p.2.2.2.1.length:Int)):=by omega
    simp only[GO.l0,ak,a0c g,s,aa,t]) (f:=k) (by omega)
   refine Eq.trans h ?_
   rw[iG]
   cases p.2.2.2.1.all (bm (aw p))<;>simp
def Ag (k:Nat) (j:4194304<k) (e:k<=4611686018427387903) (d:ar) (m:fC d) (l:List aV) (u:l.length<=1048576) (p:∀n∈l,n.2.2.1.length<=1048576) (q:∀n∈l,n.2.2.2.1.length<=1048576):GS k (l,(d,()),())=some ((l.all (bm d),()),((),((),()),())):=by
 obtain⟨n,r,a⟩:=eu (b:=xe.l0 k) (λi=>(l,(((d,()),()),()),(l.length:Int),(i:Int),())) l (λt=> !bm d t) (o:=((),(((d,()),()),()),())) (λG i c=>by
  have a:((i:Int)<(l.length:Int)):=by omega
  have s:(0:Int)<=(i:Int):=by omega
  have h:=a0h c;simp only[xe.l0,MA,Le k j e d m l[i] (p _ h) (q _ h),ak,a0e a,a0e s,a0g,a0a c,aa];rw[au (by omega)]
  cases bm d l[i]<;>simp) (λG=>by
  have a:¬((l.length:Int)<(l.length:Int)):=by omega
  simp only[xe.l0,ak,a0c a]) (f:=k) (by omega)
 unfold GS MB xe;have g:aG (xe.l0 k) k (l,(((d,()),()),()),(l.length:Int),0,())=some ((n,()),((),(((d,()),()),()),())):=r;simp only[g,aa,a,iG,a7h]
def Ah (k:Nat) (f:4194304<k) (a:k<=4611686018427387903) (p:dw) (b:mS p):Jv k (p,())=some ((dh p,()),((),())):=by
 unfold Jv dh;have h:uJ k ((p.1,p.2.1,p.2.2.1,()),())=some ((aN (aw p),()),((),())):=zX k f a (aw p) b.d;have j:GS k (p.2.2.2.1,((p.1,p.2.1,p.2.2.1,()),()),())=some ((p.2.2.2.1.all (bm (aw p)),()),((),((),()),())):=Ag k f a (aw p) b.d p.2.2.2.1 b.n b.i b.e;simp only[h,aa]
 cases hdo:aN (aw p)with
 |false=>simp
 |true=>
  simp only[a0j,af,a1i,ak];by_cases g:(p.2.2.2.1.length:Int)>30
  ·have:decide (p.2.2.2.1.length<=30)=false:=by simp;omega
   rw[a0e g,this];rfl
  ·have c:p.2.2.2.1.length<=30:=by omega
   obtain⟨o,t⟩:=yD k f p.2.2.2.1 c;rw[a0c g,a0b c,a1i];simp only[j,t,aa]
   cases p.2.2.2.1.all (bm (aw p))<;>simp
end Go.Pev.F
namespace Go.Pev
def Kd.Small:(k:Kd)->k.T->Prop
 | .str,s=>s.length<=1048576
 | .sl _ e,l=>l.length<=1048576/\∀x∈l,e.Small x
 | .cons a b,x=>a.Small x.1/\b.Small x.2
 |_,_=>True
def o9 {A α β:Type} {b:(A->Option ((Int×Unit)×β))->A->Option ((Int×Unit)×β)} (st:Nat->Int->A) (l:List α) (P:α->Prop) {o:β}
 (h:∀G i (u:i<l.length) (left:Int),0<=left->left<=1048576->∃r:Int,b G (st i left)=(if r<0 then some ((-1,()),o)else G (st (i+1) r))/\(0<=r->r<=left/\P l[i]))
 (y:∀G left,b G (st l.length left)=some ((left,()),o)) {f:Nat} (m:l.length<f) (left:Int) (c:0<=left) (d:left<=1048576):
 ∃r:Int,aG b f (st 0 left)=some ((r,()),o)/\(0<=r->r<=left/\∀x∈l,P x):=by
 have p:∀(n i f:Nat) (left:Int),i+n=l.length->n<f->0<=left->left<=1048576->∃r:Int,aG b f (st i left)=some ((r,()),o)/\(0<=r->r<=left/\∀j (a:j<l.length),i<=j->P l[j]):=by
  intro n
  induction n with
  |zero=>
   intro i f left u m c d;obtain⟨f,rfl⟩:∃g,f=g+1:=⟨f-1,by omega⟩;obtain rfl:i=l.length:=by omega
   exact⟨left,by rw[aF,y],λ_=>⟨a5a _,λj a h=>by omega⟩⟩
  |succ n ih=>
   intro i f left u m c d;obtain⟨f,rfl⟩:∃g,f=g+1:=⟨f-1,by omega⟩;have q:i<l.length:=by omega
   obtain⟨v,w,z⟩:=h (aG b f) i q left c d;by_cases k:v<0
   ·exact⟨-1,by rw[aF,w,a0e k],λh=>by omega⟩
   ·obtain⟨I,B⟩:=z (by omega)
    obtain⟨r,s,t⟩:=ih (i+1) f v (by omega) (by omega) (by omega) (by omega);refine⟨r,by rw[aF,w,a0c k,s],λh=> ?_⟩;obtain⟨J,C⟩:=t h;refine⟨by omega,λj a D=> ?_⟩;by_cases e:j=i
    ·subst e;exact B
    ·exact C j a (by omega)
 obtain⟨r,E,F⟩:=p l.length 0 f left (by omega) m c d;refine⟨r,E,λk=> ?_⟩;obtain⟨s,t⟩:=F k;refine⟨s,λx H=> ?_⟩;obtain⟨j,a,rfl⟩:=a2f.1 H;exact t j a (by omega)
def jT {A α β:Type} {b:(A->Option ((List α×Unit)×β))->A->Option ((List α×Unit)×β)} (st:Nat->List α->A) (a:List α) (z:α) {o:β}
 (h:∀G i (d:i<a.length) (c:List α),c.length=a.length->c[i]?=some z->b G (st i c)=G (st (i+1) (c.set i a[i])))
 (g:∀G c,b G (st a.length c)=some ((c,()),o)) {f:Nat} (j:a.length<f):aG b f (st 0 (List.replicate a.length z))=some ((a,()),o):=by
 have e:=aR (b:=b) (λi=>st i (a.take i++List.replicate (a.length-i) z)) a.length (r:=some ((a,()),o)) (λG i d=>by
  rw[h G i d _ (by simp;omega) (MZ a z d),MY a z d]) (λG=>by
  rw[g];simp) j
 simpa using e
end Go.Pev
namespace Go.Pev.F
abbrev Nt:Kd:= .cons (.int .i64) (.cons (.int .i64) .nil)
abbrev Pw:Kd:= .cons (.int .i64) (.cons (.int .i64) (.cons (.sl false Nt) (.cons (.sl false Nt) cZ)))
abbrev Nu:Kd:= .cons (.sl false .str) (.cons (.sl false .str) (.cons nj (.cons (.sl false Pw) .nil)))
abbrev HO:Kd:= .cons (.sl false Nt) (.cons (.sl false M2) .nil)
def HP {d:ar} (h:Kd.Small Pq d):fC d:=by
 obtain⟨⟨a,a1⟩,⟨b,c⟩,⟨e,c1⟩,_⟩:=h;exact⟨a,a1,b,c,e,λx f=>(c1 x f).1⟩
def yE {p:dw} (h:Kd.Small Nu p):mS p:=by
 obtain⟨c,d,e,⟨f,b⟩,_⟩:=h;exact⟨HP ⟨c,d,e,trivial⟩,f,λn a=>(b n a).2.2.1.1,λn a=>(b n a).2.2.2.1.1⟩
def Lg {e:aK} (h:Kd.Small M2 e):fD e:=⟨h.2.1.1,h.2.2.1.1⟩
def Fk {l:List az} (h:Kd.Small (.sl false HO) l):gp l:=⟨h.1,λp a=>(h.2 p a).1.1,λp a=>(h.2 p a).2.1.1,λp a e b=>Lg ((h.2 p a).2.1.2 e b)⟩
def Bq:∀ {a b:List bM},a.length=b.length->nq a b=0->a=b
 |[],[],_,_=>rfl
 |x::a,y::b,h,e=>by
  simp only[nq]at e;rcases mP x y with⟨c,f1⟩|⟨c,f1⟩|⟨c,f1,f2⟩
  ·rw[a0c (by omega)]at e;omega
  ·rw[a0c (by omega)]at e;omega
  ·rw[a0e c]at e
   obtain⟨d,f,⟨⟩⟩:=x;obtain⟨g,i,⟨⟩⟩:=y;rw[Bq (by simpa using h) e];simp only at f1 f2;rw[f1,f2]
 |[],_::_,h,_=>by simp at h
 |_::_,[],h,_=>by simp at h
def sQ {a b:List bM} (h:cy a b=0):a=b:=by
 unfold cy at h;by_cases c:a.length<b.length
 ·rw[a0e c]at h;omega
 ·by_cases d:a.length>b.length
  ·rw[a0c c,a0e d]at h;omega
  ·rw[a0c c,a0c d]at h
   exact Bq (by omega) h
def rz (l:List az) (t:List bM):Option az:=l.find? λp=>cy p.1 t==0
def Fl {l:List az} (b:l.Pairwise λp q=>cy p.1 q.1<0) {t:List bM} {m:Nat} (a:m<l.length) (h:cy l[m].1 t=0):rz l t=some l[m]:=by
 unfold rz;rw[List.find?_eq_some_iff_getElem];refine⟨by simpa using h,m,a,rfl,λj c=> ?_⟩;have d:=a4z.1 b j m (by omega) a c;have e:=sQ h;rw[e]at d;simp only[a2p,beq_eq_false_iff_ne,ne_eq];omega
def yF {l:List az} {t:List bM} (h:∀x (c:x<l.length),cy l[x].1 t≠0):rz l t=none:=by
 unfold rz;rw[a7d];intro p a;obtain⟨i,b,rfl⟩:=a2f.1 a;simpa using h i b
def Lh (k:Nat) (g:4194304<k) (l:List az) (d:gp l) (e:l.Pairwise λp q=>cy p.1 q.1<0) (t:List bM):∃(m:Nat) (b:Bool),LI k (l,t,())=some (((m:Int),b,()),((),(),()))/\(b=true->∃h:m<l.length,rz l t=some l[m])/\(b=false->rz l t=none):=by
 obtain⟨m,b,i,j,o⟩:=Fj k g l d e t l.length 0 l.length k (by omega) (by have:=d.n;omega) (by omega) (a1l _) (λx _ h=>by omega) (λx s h=>by omega);refine⟨m,b,?_,λa=> ?_,λa=>yF (o a)⟩
 ·unfold LI FJ
  have c:aG (FJ.l0 k) k (l,t,(()),(l.length:Int),0,(l.length:Int),())=some (((m:Int),b,()),((),(),(()),())):=i;simp only[c,aa]
 ·obtain⟨f,r⟩:=j a
  exact⟨f,Fl e f r⟩
def Li (k:Nat) (s:4194304<k) (l:List az) (u:gp l) (v:∀p∈l,bf p.1=true) (w:l.Pairwise λp q=>cy p.1 q.1<0) (t:List bM) (e:bf t=true):(∃m:Nat,∃h:m<l.length,uZ k (l,t,())=some (((m:Int),()),((),(),()))/\rz l t=some l[m])\/(uZ k (l,t,())=some ((-1,()),((),(),()))/\rz l t=none):=by
 have z:=u.n;unfold uZ;rcases i5 (b:=uZ.l0 k) (λi=>(l,t,(i:Int),())) l.length (λi=>if d:i<l.length then cy l[i].1 t==0 else false) (λi=>some (((i:Int),()),((),(),()))) (r:=some ((-1,()),((),(),()))) (λG i d=>by
  have a:((i:Int)<(l.length:Int)):=by omega
  have g:(0:Int)<=(i:Int):=by omega
  have y:=qj k s l[i].1 t (v _ (a0h d)) e;simp only[uZ.l0,ak,a0e a,a0e g,a0g,a0a d,aa,y,a6x d];rw[au (by omega)]
  cases (cy l[i].1 t==0)<;>simp) (λG=>by
  have a:¬((l.length:Int)<(l.length:Int)):=by omega
  simp only[uZ.l0,ak,a0c a]) (f:=k) (by omega)with⟨j,c,a,g⟩|⟨c,a⟩
 ·left
  simp only[a6x c,a2w]at a;exact⟨j,c,g,Fl w c a⟩
 ·right
  refine⟨a,yF λx o=> ?_⟩;have:=c x o;simpa [a6x o]using this
def Lj (x y:bM):jR y x= -jR x y:=by
 unfold jR
 repeat' split
 all_goals omega
def Br:∀(a b:List bM),nq b a= -nq a b
 |[],[]=>rfl
 |[],_::_=>rfl
 |_::_,[]=>rfl
 |x::a,y::b=>by
  simp only[nq,Lj x y];by_cases h:jR x y=0
  ·rw[a0e h,a0e (by omega),Br a b]
  ·rw[a0c h,a0c (by omega)]
def pb (a b:List bM):cy b a= -cy a b:=by
 unfold cy;rw[Br a b]
 repeat' split
 all_goals omega
def OI {a b c:List bM} (h:cy a b>0) (d:cy a c<0):cy c b>0:=by
 have e:cy b a<0:=by rw[pb a b];omega
 have f:=lm e (Int.le_of_lt d);rw[pb b c];omega
def HQ (k:Nat) (D:4194304<k) (l:List az) (v:gp l) (G:l.Pairwise λp q=>cy p.1 q.1<0) (t:List bM):∀(n i j f:Nat),j-i<=n->n<f->i<=j->j<=l.length->(∀x (e:x<l.length),x<i->cy l[x].1 t<0)->(∀x (e:x<l.length),j<=x->cy l[x].1 t>=0)->∃(m:Nat) (b:Bool),aG (FJ.l0 k) f (l,t,(()),(l.length:Int),(i:Int),(j:Int),())=some (((m:Int),b,()),((),(),(()),()))/\m<=l.length/\(∀x (e:x<l.length),x<m->cy l[x].1 t<0)/\(∀x (e:x<l.length),m<=x->cy l[x].1 t>=0)/\b=(if h:m<l.length then cy l[m].1 t==0 else false):=by
 have K:=v.n;have o:=a4z.1 G;intro n
 induction n with
 |zero=>
  intro i j f w H E r s u;obtain⟨f,rfl⟩:∃g,f=g+1:=⟨f-1,by omega⟩;obtain rfl:i=j:=by omega
  have y:¬((i:Int)<(i:Int)):=by omega
  have z:(0:Int)<=(i:Int):=by omega
  rw[aF];simp only[FJ.l0,Cx,ak,a0c y,a0e z,a0g];by_cases a:i<l.length
  ·have d:(i:Int)<(l.length:Int):=by omega
   have A:=kC k D l[i].1 t (v.t _ (a0h a));simp only[a0e d,a0a a,aa,A,a0d];exact⟨i,_,rfl,r,s,u,by rw[a6x a]⟩
  ·have d:¬(i:Int)<(l.length:Int):=by omega
   simp only[a0c d,a0d];exact⟨i,false,rfl,r,s,u,by rw[dif_neg a]⟩
 |succ n ih=>
  intro i j f w H E r s u;by_cases F:i<j
  ·obtain⟨f,rfl⟩:∃g,f=g+1:=⟨f-1,by omega⟩
   obtain⟨h,L⟩:∃h,h=(i+j)/2:=⟨_,rfl⟩;have a:h<l.length:=by omega
   have y:((i:Int)<(j:Int)):=by omega
   have c1:(0:Int)<=1:=by decide
   have z:(0:Int)<=(h:Int):=by omega
   have I:((2:Int)^(min (1:Int).toNat 64))=2:=by decide
   have J:wrap .i64 ((wrap .u64 (wrap .i64 ((i:Int)+(j:Int)))).fdiv (2^(min (1:Int).toNat 64)))=(h:Int):=by
    rw[I,am (n:=(i:Int)+(j:Int)) (by omega) (by omega),iF (by omega) (by omega),a6z _ (by decide),am (by omega) (by omega)];omega
   have A:=kC k D l[h].1 t (v.t _ (a0h a));rw[aF];simp only[FJ.l0,Cx,ak,a0e y,a0e c1,J,a0e z,a0g,a0a a,aa,A];by_cases c:cy l[h].1 t<0
   ·rw[a0e c,au (by omega)]
    refine ih (h+1) j f (by omega) (by omega) (by omega) r (λx e B=> ?_) u;by_cases C:x=h
    ·subst C;exact c
    ·exact lm (o x h e a (by omega)) (by omega)
   ·rw[a0c c]
    refine ih i h f (by omega) (by omega) (by omega) (by omega) s (λx e B=> ?_);by_cases C:x=h
    ·subst C;omega
    ·by_cases M:cy l[x].1 t<0
     ·exact absurd (lm (o h x a e (by omega)) (by omega)) c
     ·omega
  ·exact ih i j f (by omega) (by omega) E r s u
def f7 (w:Option (List Int)):List az->az->List az
 |[],p=>[p]
 |q::l,p=>if cy q.1 p.1<0 then q::f7 w l p else if cy q.1 p.1=0 then(q.1,jS w q.2.1 p.2.1,())::l else p::q::l
def yG (w:Option (List Int)) (a b:List az):List az:=b.foldl (f7 w) a
abbrev Lk (l:List az):Prop:=l.Pairwise λp q=>cy p.1 q.1<0
def yH (w:Option (List Int)):∀(l:List az) (p:az),(f7 w l p).length<=l.length+1
 |[],p=>by simp[f7]
 |q::l,p=>by
  have:=yH w l p;simp only[f7];split
  ·simp only[a0o];omega
  split
  ·simp only[a0o];omega
  ·simp
def IH {w:Option (List Int)} {p:az}:∀(l:List az) (m:Nat) (a:m<l.length),(∀x (c:x<l.length),x<m->cy l[x].1 p.1<0)->cy l[m].1 p.1=0->f7 w l p=l.set m (l[m].1,jS w l[m].2.1 p.2.1,())
 |q::l,0,a,_,h0=>by
  have b:cy q.1 p.1=0:=h0;simp only[f7,a7z,a6i];rw[a0c (by omega),a0e b]
 |q::l,m+1,a,hlo,h0=>by
  have d:cy q.1 p.1<0:=hlo 0 (by simp) (by omega);simp only[f7,a8a,a7c];rw[a0e d,IH l m (by simpa using a) (λx c e=>hlo (x+1) (by simpa using c) (by omega)) h0]
def yI {w:Option (List Int)} {p:az}:∀(l:List az) (m:Nat) (a:m<=l.length),(∀x (b:x<l.length),x<m->cy l[x].1 p.1<0)->(∀h:m<l.length,cy l[m].1 p.1>0)->f7 w l p=l.take m++[p]++l.drop m
 |[],0,a,_,_=>by simp[f7]
 |q::l,0,a,_,h0=>by
  have c:cy q.1 p.1>0:=h0 (by simp);simp only[f7];rw[a0c (by omega),a0c (by omega)];simp
 |q::l,m+1,a,hlo,h0=>by
  have d:cy q.1 p.1<0:=hlo 0 (by simp) (by omega);simp only[f7];rw[a0e d,yI l m (by simpa using a) (λx b e=>hlo (x+1) (by simpa using b) (by omega)) (λh=>h0 (by simpa using h))];simp
structure im (d:ar) (p:az):Prop where
 t:bf p.1=true
 m:jI d p.2.1
structure dx (d:ar) (l:List az):Prop where
 p:∀x∈l,im d x
 r:Lk l
def yJ {w:Option (List Int)} {p x:az}:∀ {l:List az},x∈f7 w l p->x∈l\/x=p\/∃q∈l,q.1=p.1/\x=(q.1,jS w q.2.1 p.2.1,())
 |[],h=>by simp[f7]at h;exact Or.inr (Or.inl h)
 |q::l,h=>by
  simp only[f7]at h;split at h
  ·rcases a1s.1 h with h|h
   ·exact Or.inl (by simp[h])
   ·rcases yJ h with h|h|⟨z,hz,h⟩
    ·exact Or.inl (by simp[h])
    ·exact Or.inr (Or.inl h)
    ·exact Or.inr (Or.inr ⟨z,by simp[hz],h⟩)
  split at h
  ·rename_i b a
   rcases a1s.1 h with h|h
   ·exact Or.inr (Or.inr ⟨q,by simp,sQ a,h⟩)
   ·exact Or.inl (by simp[h])
  ·rcases a1s.1 h with h|h
   ·exact Or.inr (Or.inl h)
   ·exact Or.inl h
def Bs {w:Option (List Int)} {p:az}:∀ {l:List az},Lk l->Lk (f7 w l p)
 |[],_=>by simp[f7,Lk]
 |q::l,h=>by
  obtain⟨c,d⟩:=a4x.1 h;simp only[f7];split
  ·rename_i e
   refine a4x.2 ⟨λz a=> ?_,Bs d⟩;rcases yJ a with h|h|⟨y,hy,_,h⟩
   ·exact c z h
   ·rw[h];exact e
   ·rw[h];exact c y hy
  split
  ·exact a4x.2 ⟨λz a=>c z a,d⟩
  ·rename_i e f
   have b:cy p.1 q.1<0:=by rw[pb q.1 p.1];omega
   refine a4x.2 ⟨λz a=> ?_,h⟩;rcases a1s.1 a with h|h
   ·rw[h];exact b
   ·exact lm b (Int.le_of_lt (c z h))
def Bt {d:ar} {w:Option (List Int)} (c:P2 w) {l:List az} {p:az} (a:dx d l) (b:im d p):dx d (f7 w l p):=by
 refine⟨λx e=> ?_,Bs a.r⟩;rcases yJ e with h|h|⟨q,hq,_,h⟩
 ·exact a.p x h
 ·rw[h];exact b
 ·rw[h];exact⟨(a.p q hq).t,La c (a.p q hq).m b.m⟩
def Bu {d:ar} {w:Option (List Int)} (c:P2 w):∀ {b a:List az},dx d a->(∀x∈b,im d x)->dx d (yG w a b)
 |[],a,ha,_=>ha
 |p::b,a,ha,hb=>Bu c (b:=b) (Bt c ha (hb p (by simp))) (λx e=>hb x (by simp[e]))
def Fm (w:Option (List Int)):∀(b a:List az),(yG w a b).length<=a.length+b.length
 |[],a=>a1l _
 |p::b,a=>by
  have c:=Fm w b (f7 w a p);have d:=yH w a p;simp only[yG,a1u,a0o]at c⊢;omega
def pc {t:List bM} (h:bf t=true):t.length<=3:=by
 simp only[bf,a0f,a0u]at h;exact h.1
def yK {d:ar} (b:aN d=true) {l:List az} (h:dx d l) (c:l.length<=1048576):gp l:=⟨c,λp a=>by have:=pc (h.p p a).t;omega,λp a=>by have:=fV b (h.p p a).m;omega,λp a e f=>(bx b ((h.p p a).m.e e f)).1⟩
def uy {k:Nat} (t:List bM) (h:t.length<=1000):Ei k (t,())=some ((t,()),((),())):=by
 unfold Ei;have a:(([]:List bM).length+t.length)*16<=ai:=by simp only[a0q,ai];omega
 cases t with
 |nil=>simp[ai,mY]
 |cons x r=>simp only[List.isEmpty_cons,af,a0b a,ah,a2m]
def yL {k:Nat} (h:1000<k) {d:ar} (f:aN d=true) {p:az} (a:im d p):JU k (p,())=some ((p,()),((),())):=by
 have l1:=fV f a.m;have l2:=pc a.t;simp only[JU,uy p.1 (show p.1.length<=1000 by omega),aa];refine Eq.trans (aR (b:=JU.l0 k) (λi=>(([],[],()),(p.1,p.2.1.take i,()),p.2.1,(p.2.1.length:Int),(i:Int),())) p.2.1.length (r:=some ((p,()),((),()))) (λG i c=> ?_) (λG=> ?_) (by omega)) rfl
 ·have g:=qh k p.2.1[i] (bx f (a.m.e _ (a0h c))).1
  simp only[JU.l0];rw[a0b (show(i:Int)<(p.2.1.length:Int) by omega),a0b (show(0:Int)<=(i:Int) by omega)];simp only[ah,a0g,a0a c,aa,g];rw[a0b (by simp only[a0o,a0q,a1m,ai];omega),ah,au (i:=i) (by omega)];have:p.2.1.take i++[p.2.1[i]]=p.2.1.take (i+1):=a3j c;rw[<-this]
 ·simp only[JU.l0]
  rw[a0i (show¬(p.2.1.length:Int)<(p.2.1.length:Int) by omega),af,a1f]
def Fo {k:Nat} (g:1048576<k) {d:ar} (c:aN d=true) {l:List az} (e:∀p∈l,im d p) (h:l.length<=100000):xp k (l,())=some ((l,()),((),())):=by
 simp only[xp];refine Eq.trans (aR (b:=xp.l0 k) (λi=>(l.take i,l,(l.length:Int),(i:Int),())) l.length (r:=some ((l,()),((),()))) (λG i a=> ?_) (λG=> ?_) (by omega)) rfl
 ·have f:=yL (k:=k) (by omega) c (e _ (a0h a))
  simp only[xp.l0];rw[a0b (show(i:Int)<(l.length:Int) by omega),a0b (show(0:Int)<=(i:Int) by omega)];simp only[ah,a0g,a0a a,aa,f];rw[a0b (by simp only[a0o,a0q,a1m,ai];omega),ah,au (i:=i) (by omega)];have:l.take i++[l[i]]=l.take (i+1):=a3j a;rw[<-this]
 ·simp only[xp.l0]
  rw[a0i (show¬(l.length:Int)<(l.length:Int) by omega),af,a1f]
def Nv {k:Nat} (e:4194304<k) {l:List az} (c:gp l) (f:Lk l) (t:List bM):∃(m:Nat),LI k (l,t,())=some (((m:Int),(if h:m<l.length then cy l[m].1 t==0 else false),()),((),(),()))/\m<=l.length/\(∀x (d:x<l.length),x<m->cy l[x].1 t<0)/\(∀x (d:x<l.length),m<=x->cy l[x].1 t>=0):=by
 obtain⟨m,b,g,i,j,o,p⟩:=HQ k e l c f t l.length 0 l.length k (by omega) (by have:=c.n;omega) (by omega) (a1l _) (λx _ h=>by omega) (λx d h=>by omega);refine⟨m,?_,i,j,o⟩;unfold LI FJ;have a:aG (FJ.l0 k) k (l,t,(()),(l.length:Int),0,(l.length:Int),())=some (((m:Int),b,()),((),(),(()),())):=g;simp only[a,aa,p]
def Px {k:Nat} (i:4194304<k) {d:ar} (j:aN d=true) (w:Option (List Int)) {l:List az} (g:dx d l) (o:l.length<=100000) (p:az):∃m:Nat,(∃h:m<l.length,LI k (l,p.1,())=some (((m:Int),true,()),((),(),()))/\f7 w l p=l.set m (l[m].1,jS w l[m].2.1 p.2.1,()))\/(m<=l.length/\LI k (l,p.1,())=some (((m:Int),false,()),((),(),()))/\f7 w l p=l.take m++[p]++l.drop m):=by
 obtain⟨m,a,c,e,n⟩:=Nv i (yK j g (by omega)) g.r p.1;refine⟨m,?_⟩;by_cases b:m<l.length
 ·rw[a6x b]at a
  by_cases f:cy l[m].1 p.1=0
  ·left
   rw[f]at a;exact⟨b,a,IH l m b e f⟩
  ·right
   have:(cy l[m].1 p.1==0)=false:=by simpa using f
   rw[this]at a;exact⟨c,a,yI l m c e (λh=>by have:=n m b (a1l _);omega)⟩
 ·right
  rw[dif_neg b]at a;exact⟨c,a,yI l m c e (λh=>absurd h b)⟩
def Nw (w:Option (List Int)) (a b:List az) {i:Nat} (c:i<b.length):yG w a (b.take (i+1))=f7 w (yG w a (b.take i)) b[i]:=by
 unfold yG;rw[a2e c,a3g];rfl
def Ll (k:Nat) (l:List az) {m:Nat} (a:m<=l.length) (p:az) (b:l.length<=100000):Lb.slices_Insert_impl_Part_impl_Part k (l,(m:Int),[p],())=some ((l.take m++[p]++l.drop m,()),((),(),(),())):=by
 show iD _ _ _=_;unfold iD;rw[a0e ⟨by show(0:Int)<=(m:Int);omega,by show(m:Int)<=(l.length:Int);omega,by show 0<([p]:List az).length;simp,by show(l.length+([p]:List az).length)*48<=140737488355328;simp only[a0o,a0q];omega⟩];rfl
def Ai {k:Nat} (v:4194304<k) {d:ar} (f:aN d=true) {a b:List az} (s:dx d a) (t:∀x∈b,im d x) (z:a.length+b.length<=100000):og k (a,b,(),())=some ((yG none a b,()),((),(),(),())):=by
 simp only[og,Fo (show 1048576<k by omega) f s.p (show a.length<=100000 by omega),aa];refine Eq.trans (aR (b:=og.l0 k) (λi=>((),yG none a (b.take i),b,(b.length:Int),(i:Int),())) b.length (r:=some ((yG none a b,()),((),(),(),()))) (λG i j=> ?_) (λG=> ?_) (by omega)) rfl
 ·have u:=Bu (d:=d) (w:=none) (λst h=>by cases h) (b:=b.take i) s (λx y=>t x (a3i y))
  have c:=Fm none (b.take i) a;rw[a1m]at c;have e:=t _ (a0h j);have l:=yL (k:=k) (by omega) f e;rw[Nw none a b j];simp only[og.l0];rw[a0b (show(i:Int)<(b.length:Int) by omega),a0b (show(0:Int)<=(i:Int) by omega)];simp only[ah,a0g,a0a j,aa];rw[au (i:=i) (by omega)];obtain⟨m,⟨g,n,o⟩|⟨g,n,o⟩⟩:=Px v f none u (by omega) b[i]
  ·have q:=E9 (k:=k) (by omega) f (u.p _ (a0h g)).m e.m
   rw[o];simp only[n,aa,ah,a0g,a0a g,q];rw[a0b (show 0<=(m:Int)/\(m:Int)<((yG none a (b.take i)).length:Int) by omega)];simp only[ah]
  ·rw[o]
   simp only[n,aa,af,l,Ll k _ g b[i] (by omega)]
 ·simp only[og.l0]
  rw[a0i (show¬(b.length:Int)<(b.length:Int) by omega),af,a1f]
def II (w:Option (List Int)):Bool:=w.isSome
def HR (w:Option (List Int)) (z:List Int):List Int:=w.getD z
def Da {k:Nat} (M:4194304<k) {d:ar} (J:aN d=true) (w:Option (List Int)) (z:List Int) {l:List az} (K:dx d l) (Q:l.length<=100000) {p:az} (G:im d p):∀(n i f:Nat) (a:List az) (done:Bool),i+n=l.length->n<f->a.length<=i+cond done 1 0->(done=true->∀q∈l.drop i,cy q.1 p.1>0)->aG (J0.l0 k) f (l,II w,HR w z,p,a,done,(i:Int),())=some ((a++cond done (l.drop i) (f7 w (l.drop i) p),()),((),(),(),(),())):=by
 have x:∀(o:List az) (q:az),o.length<=200002->(o.length+([q]:List az).length)*48<=ai:=by intro o q h;simp only[a0o,a0q,ai];omega
 have c1:cond true 1 0=1:=rfl;have C:cond false 1 0=0:=rfl;have L:∀b:Bool,cond b 1 0<=1:=λb=>by cases b<;>simp
 intro n
 induction n with
 |zero=>
  intro i f a done hi hf ho hd';have:=L done;obtain⟨f,rfl⟩:∃g,f=g+1:=⟨f-1,by omega⟩;rw[aF,a2a (by omega)];simp only[J0.l0];rw[a0i (show¬(i:Int)<(l.length:Int) by omega),af]
  cases done
  ·rw[a0v,ah,a0b (x a (p.1,p.2.1,()) (by omega)),ah]
   rfl
  ·rw[a0j,af,a0z,a2b]
 |succ n ih=>
  intro i f a done hi hf ho hd';have N:=L done;obtain⟨f,rfl⟩:∃g,f=g+1:=⟨f-1,by omega⟩;have y:i<l.length:=by omega
  have v:l.drop i=l[i]::l.drop (i+1):=a1a y;have A:=K.p _ (a0h y);have D:=qj k M l[i].1 p.1 A.t G.t;have O:=Fa (k:=k) (by omega) J A.m G.m;have s:Lk (l.drop i):=List.Pairwise.sublist (a7o i l) K.r;rw[v]at s;have j:=(a4x.1 s).1;rw[aF];simp only[J0.l0];rw[a0b (show(i:Int)<(l.length:Int) by omega),a0b (show 0<=(i:Int) by omega)];simp only[ah,a0g,a0a y,aa,D,O];rw[au (i:=i) (by omega),v];by_cases E:cy l[i].1 p.1=0
  ·have B:done=false:=by
    cases done with
    |false=>rfl
    |true=>have:=hd' rfl l[i] (by rw[v];exact a5o);omega
   subst B;rw[E];have c:∀q∈l.drop (i+1),cy q.1 p.1>0:=λq H=>by
    have:=j q H;rw[sQ E]at this;rw[pb p.1 q.1];omega
   have e:f7 w (l[i]::l.drop (i+1)) p=(l[i].1,jS w l[i].2.1 p.2.1,())::l.drop (i+1):=by
    simp only[f7];rw[a0c (by omega),a0e E]
   have P:decide ((0:Int)>0)=false:=rfl;have F:((0:Int)==0)=true:=rfl;rw[P,F];simp only[af,ah,a0d,a1q];rw[e]
   cases w with
   |none=>
    have:=ih (i+1) f (a++[(l[i].1,jS none l[i].2.1 p.2.1,())]) true (by omega) (by omega) (by simp only[a0m,a0o,a0q];simp only[c1,C]at ho⊢;omega) (λ_=>c);rw[show II none=false from rfl]at this⊢;rw[af,a0b (x a _ (by omega)),ah];refine Eq.trans this ?_
    rw[a0z,a1r];rfl
   |some st=>
    have I:=Fb (k:=k) (by omega) st J A.m G.m;have:=ih (i+1) f (a++[(l[i].1,jS (some st) l[i].2.1 p.2.1,())]) true (by omega) (by omega) (by simp only[a0m,a0o,a0q];simp only[c1,C]at ho⊢;omega) (λ_=>c);rw[show II (some st)=true from rfl,show HR (some st) z=st from rfl]at this⊢;rw[ah,I,aa,a0b (x a _ (by omega)),ah];refine Eq.trans this ?_
    rw[a0z,a1r];rfl
  ·have F:(cy l[i].1 p.1==0)=false:=by simpa using E
   by_cases u:cy l[i].1 p.1>0
   ·have c:∀q∈l.drop (i+1),cy q.1 p.1>0:=λq H=>by
     have:=j q H;exact OI u this
    have e:f7 w (l[i]::l.drop (i+1)) p=p::l[i]::l.drop (i+1):=by
     simp only[f7];rw[a0c (by omega),a0c E]
    rw[a0b u,F,ah,a0d]
    cases done
    ·have:=ih (i+1) f (a++[p]++[l[i]]) true (by omega) (by omega) (by simp only[a0m,a0o,a0q];simp only[c1,C]at ho⊢;omega) (λ_=>c)
     rw[a0v,ah,a0b (x a _ (by omega)),ah,af,a0b (x (a++[p]) _ (by simp;omega)),ah];refine Eq.trans this ?_
     rw[a0z,a1q,e];simp
    ·have:=ih (i+1) f (a++[l[i]]) true (by omega) (by omega) (by simp only[a0m,a0o,a0q];simp only[c1,C]at ho⊢;omega) (λ_=>c)
     rw[a0j,af,af,a0b (x a _ (by omega)),ah];refine Eq.trans this ?_
     rw[a0z,a0z];simp
   ·have B:done=false:=by
     cases done with
     |false=>rfl
     |true=>have:=hd' rfl l[i] (by rw[v];exact a5o);omega
    subst B;have e:f7 w (l[i]::l.drop (i+1)) p=l[i]::f7 w (l.drop (i+1)) p:=by
     simp only[f7];rw[a0e (by omega)]
    have:=ih (i+1) f (a++[l[i]]) false (by omega) (by omega) (by simp only[a0m,a0o,a0q];simp only[c1,C]at ho⊢;omega) (λh=>by cases h);rw[a0i u,F,af,a0d,af,af,a0b (x a _ (by omega)),ah];refine Eq.trans this ?_
    rw[a1q,a1q,e];simp
def HS {k:Nat} (a:4194304<k) {d:ar} (b:aN d=true) (w:Option (List Int)) (z:List Int) {l:List az} (c:dx d l) (e:l.length<=100000) {p:az} (f:im d p):J0 k (l,p,II w,HR w z,())=some ((f7 w l p,()),((),(),(),(),())):=by
 have h:=Da a b w z c e f l.length 0 k [] false (by omega) (by omega) (a4q _) (λh=>by cases h);simp only[J0];refine Eq.trans h ?_
 rfl
def mT (b:List az) (p:az):Bool:=match rz b p.1 with
 |some q=>yy p.2.1 q.2.1
 |none=>false
def Fp (a b:List az):Bool:=a.all (mT b)
def yM {α:Type} (k:Nat) (c:Bool) (x y:Option α) [inst:Decidable (c=true)]:br k (!c) x y= @ite _ (c=true) inst y x:=by cases c<;>simp
def oC {A R α:Type} {b:(A->Option R)->A->Option R} (st:Nat->A) (l:List α) (p:α->Bool) {rf r:Option R} (h:∀G i (a:i<l.length),b G (st i)=if p l[i]=true then G (st (i+1))else rf) (c:∀G,b G (st l.length)=r) {f:Nat} (d:l.length<f):aG b f (st 0)=if l.all p=true then r else rf:=by
 have e:=gl (b:=b) st l (λz=> !p z) (rf:=rf) (r:=r) (λG i a=>by
  rw[h G i a]
  cases p l[i]<;>simp) c d
 rw[e,iG l p]
 cases l.all p<;>simp
def uz {k:Nat} (q:4194304<k) {d:ar} (l:aN d=true) {a b:List az} (s:∀x∈a,im d x) (e:dx d b) (t:a.length<=100000) (u:b.length<=100000):u1 k (a,b,())=some ((Fp a b,()),((),(),())):=by
 have g:=yK l e (by omega);have h:=oC (b:=u1.l0 k) (λi=>(b,a,(a.length:Int),(i:Int),())) a (mT b) (rf:=some ((false,()),((),(),()))) (r:=some ((true,()),((),(),()))) (λG i n=>by
  have j:=s _ (a0h n);obtain⟨m,c,v,w,y⟩:=Lh k q b g e.r a[i].1;simp only[u1.l0];rw[a0b (show(i:Int)<(a.length:Int) by omega),a0b (show(0:Int)<=(i:Int) by omega)];simp only[ah,a0g,a0a n,aa,v];rw[au (i:=i) (by omega)];unfold mT
  cases c with
  |false=>
   rw[y rfl];simp only[a0v,ah,a0d,a0r,a1y]
  |true=>
   obtain⟨o,z⟩:=w rfl;rw[z];have A:=HJ (k:=k) (by omega) l j.m (e.p _ (a0h o)).m;simp only[a0j,af,a0b (show 0<=(m:Int) by omega),ah,a0a o,aa,A,a0d];exact yM k _ _ _) (λG=>by
  simp only[u1.l0];rw[a0i (show¬(a.length:Int)<(a.length:Int) by omega),af]) (f:=k) (by omega)
 rw[kG]at h;refine Eq.trans h ?_
 unfold Fp
 cases a.all (mT b)<;>rfl
def uA {k:Nat} (s:4194304<k) {d:ar} (n:aN d=true) {a b:List az} (u:∀x∈a,im d x) (e:dx d b) (v:a.length<=100000) (w:b.length<=100000):xI k (a,b,())=some ((Fp a b,()),((),(),())):=by
 have g:=yK n e (by omega);have h:=oC (b:=xI.l0 k) (λi=>(a,b,(i:Int),())) a (mT b) (rf:=some ((false,()),((),(),()))) (r:=some ((true,()),((),(),()))) (λG i o=>by
  have c:=u _ (a0h o);simp only[xI.l0];rw[a0b (show(i:Int)<(a.length:Int) by omega),a0b (show(0:Int)<=(i:Int) by omega)];simp only[ah,a0g,a0a o,aa];rw[au (i:=i) (by omega)];unfold mT;rcases Li k s b g (λp y=>(e.p p y).t) e.r a[i].1 c.t with⟨m,q,j,l⟩|⟨j,l⟩
  ·rw[l,j]
   have z:=HK (k:=k) (by omega) n c.m (e.p _ (a0h q)).m;simp only[aa,a0i (show¬(m:Int)<0 by omega),af,a0b (show 0<=(m:Int) by omega),ah,a0g,a0a q,z,a0d];exact yM k _ _ _
  ·rw[l,j]
   simp only[aa,a0b (show(-1:Int)<0 by omega),ah,a0d,a0r,a1y]) (λG=>by
  simp only[xI.l0];rw[a0i (show¬(a.length:Int)<(a.length:Int) by omega),af]) (f:=k) (by omega)
 rw[kG]at h;refine Eq.trans h ?_
 unfold Fp
 cases a.all (mT b)<;>rfl
def dq (d:ar) (l:List ca):Ex:=open Classical in if h:bO d l≠0 then Classical.choose (sA h)else .leaf (0,0,())
def d5 {d:ar} {l:List ca} (h:bO d l≠0):(dq d l).Ok d/\l=(dq d l).flat/\bO d l=(dq d l).kind/\(dq d l).size<=40:=by
 unfold dq;rw[a6x h];exact Classical.choose_spec (sA h)
def kX (t:List bM) (a b:Int):List bM:=cond (bf t&& bf [(a,b,())]) (if t.length<3 then t++[(a,b,())]else t) []
def fc (t:List bM) (a:Int):Int:=t.foldl (λn x=>n+po (x.1==a)) 0
def jU (t:List bM) (a b:Int):bf (kX t a b)=true:=by
 unfold kX
 cases h:(bf t&& bf [(a,b,())])
 ·rfl
 ·simp only[a0f]at h
  simp only[a0z];split
  ·simp only[bf,a0f,a0u,a5s,a0m,a0o,a0q]at h⊢
   exact⟨by omega,h.1.2,h.2.2⟩
  ·exact h.1
def oD {k:Nat} (d:4194304<k) (t:List bM) (a b:Int):xg k (t,a,b,())=some ((kX t a b,()),((),(),(),())):=by
 simp only[xg,ou k d,aa,kX]
 cases h1:bf t
 ·simp
 ·have e:=pc h1
  cases h2:bf [(a,b,())]
  ·simp
  ·simp only[a0j,af,uy t (show t.length<=1000 by omega),aa,a3v,a0z]
   by_cases c:t.length<3
   ·rw[a0e c,a0b (show(t.length:Int)<3 by omega),ah,a0b (by simp only[a0o,a0q,ai];omega),ah]
   ·rw[a0c c,a0i (show¬(t.length:Int)<3 by omega),af]
def oF {k:Nat} (d:4194304<k) (t:List bM) (a b:Int):Cm k (t,a,b,())=some ((kX t a b,()),((),(),(),())):=by
 simp only[Cm,ox k d,aa,kX]
 cases h1:bf t
 ·simp
 ·have e:=pc h1
  cases h2:bf [(a,b,())]
  ·simp
  ·simp only[a0j,af,aa,a3v,a0z,a2m,a0q]
   rw[a0b (show(0+t.length)*16<=ai by unfold ai;omega),ah];by_cases c:t.length<3
   ·rw[a0e c,a0b (show(t.length:Int)<3 by omega),ah,a0b (by simp only[a0o,a0q,ai];omega),ah]
   ·rw[a0c c,a0i (show¬(t.length:Int)<3 by omega),af]
def yN (a:Int):∀(t:List bM) (n:Int),n<=t.foldl (λn x=>n+po (x.1==a)) n/\t.foldl (λn x=>n+po (x.1==a)) n<=n+t.length
 |[],n=>by simp
 |x::t,n=>by
  have:=yN a t (n+po (x.1==a));have b:0<=po (x.1==a)/\po (x.1==a)<=1:=by unfold po;cases (x.1==a)<;>simp
  simp only[a1u,a0o];omega
def Aj {k:Nat} (e:1000<k) {t:List bM} (f:t.length<=3) (a:Int):xh k (t,a,())=some ((fc t a,()),((),(),())):=by
 simp only[xh];refine Eq.trans (aR (b:=xh.l0 k) (λi=>(a,fc (t.take i) a,t,(t.length:Int),(i:Int),())) t.length (r:=some ((fc t a,()),((),(),()))) (λG i c=> ?_) (λG=> ?_) (by omega)) rfl
 ·have d:=yN a (t.take i) 0
  rw[a1m]at d;have g:0<=po (t[i].1==a)/\po (t[i].1==a)<=1:=by unfold po;cases (t[i].1==a)<;>simp
  simp only[xh.l0];rw[a0b (show(i:Int)<(t.length:Int) by omega),a0b (show(0:Int)<=(i:Int) by omega)];simp only[ah,a0g,a0a c,aa,o6];rw[au (i:=i) (by omega),show fc (t.take (i+1)) a=fc (t.take i) a+po (t[i].1==a) by unfold fc;rw[eO _ _ _ c],am (by unfold fc;omega) (by unfold fc;omega)]
 ·simp only[xh.l0]
  rw[a0i (show¬(t.length:Int)<(t.length:Int) by omega),af,a1f]
def Ak {k:Nat} (e:1000<k) {t:List bM} (f:t.length<=3) (a:Int):wW k (t,a,())=some ((fc t a,()),((),(),())):=by
 simp only[wW];refine Eq.trans (aR (b:=wW.l0 k) (λi=>(t,a,fc (t.take i) a,(i:Int),())) t.length (r:=some ((fc t a,()),((),(),()))) (λG i c=> ?_) (λG=> ?_) (by omega)) rfl
 ·have d:=yN a (t.take i) 0
  rw[a1m]at d;have g:0<=po (t[i].1==a)/\po (t[i].1==a)<=1:=by unfold po;cases (t[i].1==a)<;>simp
  simp only[wW.l0];rw[a0b (show(i:Int)<(t.length:Int) by omega),a0b (show(0:Int)<=(i:Int) by omega)];simp only[ah,a0g,a0a c,aa,yg];rw[au (i:=i) (by omega),show fc (t.take (i+1)) a=fc (t.take i) a+po (t[i].1==a) by unfold fc;rw[eO _ _ _ c],am (by unfold fc;omega) (by unfold fc;omega)]
 ·simp only[wW.l0]
  rw[a0i (show¬(t.length:Int)<(t.length:Int) by omega),af,a1f]
def kJ (d:ar) (leaf:Int) (e:aK):List aK:=(List.replicate (2^d.2.1.length) bq).set leaf.toNat e
def Al (d:ar) (l:List az) (t:List bM) (leaf:Int) (e:aK):List az:=cond e.1 (f7 none l (t,kJ d leaf e,())) l
abbrev oG:=Bool×List bM×Int×aK
def bK (d:ar) (s:List az×List az) (a:oG):List az×List az:=cond a.1 (Al d s.1 a.2.1 a.2.2.1 a.2.2.2,s.2) (s.1,Al d s.2 a.2.1 a.2.2.1 a.2.2.2)
def dM (d:ar) (leaf:Int):Prop:=0<=leaf/\leaf<2^d.2.1.length
structure yO (d:ar) (a:oG):Prop where
 t:bf a.2.1=true
 l:dM d a.2.2.1
 e:aT d a.2.2.2
def lp {d:ar} {leaf:Int} {e:aK} (a:aT d e):jI d (kJ d leaf e):=by
 refine⟨by simp[kJ],λx b=> ?_⟩;rcases a3r b with h|h
 ·rw[a4j h];exact dS d
 ·rw[h];exact a
def sR {d:ar} {l:List az} (a:dx d l) {t:List bM} (b:bf t=true) (leaf:Int) {e:aK} (c:aT d e):dx d (Al d l t leaf e):=by
 unfold Al
 cases e.1
 ·exact a
 ·exact Bt (λst h=>by cases h) a ⟨b,lp c⟩
def yP (d:ar) (l:List az) (t:List bM) (leaf:Int) (e:aK):(Al d l t leaf e).length<=l.length+1:=by
 unfold Al
 cases e.1
 ·exact Nat.le_succ _
 ·exact yH _ _ _
structure gH (d:ar) (s:List az×List az):Prop where
 a:dx d s.1
 b:dx d s.2
def sS {d:ar} {s:List az×List az} (c:gH d s) {a:oG} (f:yO d a):gH d (bK d s a):=by
 unfold bK
 cases a.1
 ·exact⟨c.a,sR c.b f.t _ f.e⟩
 ·exact⟨sR c.a f.t _ f.e,c.b⟩
def yQ (d:ar) (s:List az×List az) (a:oG):(bK d s a).1.length+(bK d s a).2.length<=s.1.length+s.2.length+1:=by
 unfold bK
 cases a.1
 ·have:=yP d s.2 a.2.1 a.2.2.1 a.2.2.2;simp only[a1q];omega
 ·have:=yP d s.1 a.2.1 a.2.2.1 a.2.2.2;simp only[a0z];omega
def io {d:ar}:∀ {l:List oG} {s:List az×List az},gH d s->(∀a∈l,yO d a)->gH d (l.foldl (bK d) s)
 |[],s,hs,_=>hs
 |a::l,s,hs,ha=>io (l:=l) (sS hs (ha a (by simp))) (λx b=>ha x (by simp[b]))
def kK (d:ar):∀(l:List oG) (s:List az×List az),(l.foldl (bK d) s).1.length+(l.foldl (bK d) s).2.length<=s.1.length+s.2.length+l.length
 |[],s=>a1l _
 |a::l,s=>by
  have b:=kK d l (bK d s a);have c:=yQ d s a;simp only[a1u,a0o];omega
def rA (d:ar) (e:aK) (v:Int) (place a:bo):aK:=match d.2.2.1[v.toNat]? with
 |some x=>cond (eI x place) (e.1,e.2.1,e.2.2.1.set v.toNat (if x.2.1=1 then a else eY (e.2.2.1.getD v.toNat dA) a),()) bq
 |none=>bq
def oH (d:ar) (v:Int) (place:bo):Int:=match d.2.2.1[v.toNat]? with
 |some x=>g8 x place
 |none=>0
def PU (v:Int):Int:=wrap .i64 (1*2^(min v.toNat 64))
def kL (leaf v:Int):Int:=wrap .i64 (((BitVec.ofInt 64 leaf|||BitVec.ofInt 64 (PU v)).toNat:Int))
def mU (leaf v:Int):Int:=wrap .i64 (((BitVec.ofInt 64 leaf&&& ~~~BitVec.ofInt 64 (PU v)).toNat:Int))
def ep (n:aV) (e:aK):CV:=dX (e.2.1.getD n.2.1.toNat dA) (-9223372036854775808,n.2.2.2.2.1-1,())
def eP (n:aV) (e:aK):CV:=dX (e.2.1.getD n.2.1.toNat dA) (n.2.2.2.2.2.1+1,9223372036854775807,())
def uB (n:aV) (e:aK):aK:=cO (cond (ep n e).2.1 (aU e n.2.1 (ep n e).1) bq) (cond (eP n e).2.1 (aU e n.2.1 (eP n e).1) bq)
def di (n:aV) (a:Int) (t:List bM) (leaf:Int) (e:aK) (i:Nat):oG:=(false,kX t a (i:Int),leaf,cond (eG (e.2.1.getD n.2.1.toNat dA) (n.2.2.2.2.1+(i:Int))) (aU e n.2.1 (n.2.2.2.2.1+(i:Int),n.2.2.2.2.1+(i:Int),())) bq)
def iq (n:aV) (a:Int) (t:List bM) (leaf:Int) (e:aK):List oG:=(List.range (n.2.2.2.2.2.1-n.2.2.2.2.1+1).toNat).map (di n a t leaf e)++[(false,kX t a (n.2.2.2.2.2.1-n.2.2.2.2.1+1),leaf,uB n e)]
def gO (n:aV) (a:Int) (t:List bM):List bM:=if n.1=6 then kX t a 1 else if n.1=10/\fc t a<n.2.2.2.2.1 then kX t a 1 else t
def jD (n:aV) (a:Int) (t:List bM):List bM:=if n.1=6 then kX t a 0 else t
def bI (d:ar) (n:aV) (a:Int) (t:List bM) (leaf:Int) (e:aK):List oG:=
 if n.1=1 then [(false,t,leaf,cond (aC (aB d e leaf (dq d n.2.2.2.1))) (aU e n.2.1 (bu (aB d e leaf (dq d n.2.2.2.1)))) bq)]
 else if n.1=2 then [(false,t,kL leaf n.2.1,c8 d leaf (dq d n.2.2.2.1) true e),(false,t,mU leaf n.2.1,c8 d leaf (dq d n.2.2.2.1) false e)]
 else if n.1=3 then [(false,t,leaf,cond (aC (aB d e leaf (dq d n.2.2.1))&& aC (aB d e leaf (dq d n.2.2.2.1))) (rA d e n.2.1 (bu (aB d e leaf (dq d n.2.2.1))) (bu (aB d e leaf (dq d n.2.2.2.1)))) bq)]
 else if n.1=4 then [(false,t,leaf,aU e n.2.1 (n.2.2.2.2.1,n.2.2.2.2.2.1,()))]
 else if n.1=13 then iq n a t leaf e
 else if n.1=14 then [(false,[],leaf,e)]
 else if n.1=11\/n.1=12 then [(false,t,leaf,c8 d leaf (dq d n.2.2.2.1) true e)]
 else if n.1=7\/n.1=8 then [(false,t,leaf,e)]
 else [(true,gO n a t,leaf,c8 d leaf (dq d n.2.2.2.1) true e),(false,jD n a t,leaf,c8 d leaf (dq d n.2.2.2.1) false e)]
def bD (d:ar) (n:aV) (leaf:Int) (e:aK):Int:=
 if n.1=4\/n.1=13\/n.1=14\/n.1=7\/n.1=8 then 0
 else if n.1=3 then cond (aC (aB d e leaf (dq d n.2.2.1)))
  (cond (aC (aB d e leaf (dq d n.2.2.2.1))) (dg (dg (bJ (aB d e leaf (dq d n.2.2.1))) (bJ (aB d e leaf (dq d n.2.2.2.1)))) (oH d n.2.1 (bu (aB d e leaf (dq d n.2.2.1))))) (dg (bJ (aB d e leaf (dq d n.2.2.1))) (bJ (aB d e leaf (dq d n.2.2.2.1)))))
  (bJ (aB d e leaf (dq d n.2.2.1)))
 else if n.1=11 then cond (aC (aB d e leaf (dq d n.2.2.2.1))&& eG (bu (aB d e leaf (dq d n.2.2.2.1))) 0) (dg (bJ (aB d e leaf (dq d n.2.2.2.1))) 8) (bJ (aB d e leaf (dq d n.2.2.2.1)))
 else bJ (aB d e leaf (dq d n.2.2.2.1))
def HT:∀f:Nat,f<=3->∀v:Nat,v<f->∀l:Nat,l<2^f->(0<=kL l v/\kL l v<2^f)/\(0<=mU l v/\mU l v<2^f):=by
 intro f a;have:f=0\/f=1\/f=2\/f=3:=by omega
 rcases this with rfl|rfl|rfl|rfl
 ·intro v b;omega
 ·decide
 ·decide
 ·decide
def sU {d:ar} (c:aN d=true) {v leaf:Int} (i:0<=v/\v<(d.2.1.length:Int)) (e:dM d leaf):dM d (kL leaf v)/\dM d (mU leaf v):=by
 have f:=(dZ c).2.1;obtain⟨j,g⟩:=e;have b:((leaf.toNat:Nat):Int)=leaf:=by omega
 have h:((v.toNat:Nat):Int)=v:=by omega
 have a:leaf.toNat<2^d.2.1.length:=by
  have:((leaf.toNat:Nat):Int)<((2^d.2.1.length:Nat):Int):=by rw[b];simpa using g
  omega
 have:=HT d.2.1.length f v.toNat (by omega) leaf.toNat a;rw[b,h]at this;exact this
def Bv {d:ar} {e:aK} (n:aT d e) (g:e.1=true) {v:Int} {place a:bo} (i:bc a) (j:bt a=true):aT d (rA d e v place a):=by
 obtain⟨b,o,k⟩:=ba n g;unfold rA;split
 ·rename_i x p
  cases eI x place
  ·exact dS d
  ·obtain⟨q,_⟩:=a0t.1 p
   have c:v.toNat<e.2.2.1.length:=by rw[b.arrs];exact q
   have l:e.2.2.1.getD v.toNat dA∈e.2.2.1:=by rw[aZ c];exact a0h c
   have m:bc (if x.2.1=1 then a else eY (e.2.2.1.getD v.toNat dA) a)/\bt (if x.2.1=1 then a else eY (e.2.2.1.getD v.toNat dA) a)=true:=by
    split
    ·exact⟨i,j⟩
    ·exact⟨sz (b.fa _ l) i,C4 (k _ l) j⟩
   refine Or.inl ⟨g,⟨b.ints,by simp only[a0z,a8e];exact b.arrs,b.fi,λy f=> ?_⟩,o,λy f=> ?_⟩
   ·rcases a3r f with h|h
    ·exact b.fa y h
    ·rw[h];exact m.1
   ·rcases a3r f with h|h
    ·exact k y h
    ·rw[h];exact m.2
 ·exact dS d
def Lm (v:ir):Prop:=aC v=true->bt (bu v)=true
def sV:Lm jy:=λh=>by cases h
def OJ {l a:List Int} (h:l≠[]) (c:a≠[]) (b:∃x∈l,∃y∈a,x<=y):sk l<=sm a:=by
 obtain⟨x,b,y,d,e⟩:=b;have f:=(oW h).2 x b;have g:=(oX c).2 y d;omega
def Ln {l:List Int} (d:∀x∈l,ay x) (a b:Bool) (c:Int):Lm (jx l a b c):=by
 unfold Lm jx
 cases hc:((l++cond a [-9223372036854775808] []).isEmpty||(l++cond b [9223372036854775807] []).isEmpty)
 ·intro _
  simp only[Bool.or_eq_false_iff,List.isEmpty_eq_false_iff]at hc;refine a0b (OJ hc.1 hc.2 ?_)
  cases l with
  |nil=>
   cases a
   ·exact absurd rfl hc.1
   ·cases b
    ·exact absurd rfl hc.2
    ·exact⟨-9223372036854775808,by simp,9223372036854775807,by simp,by omega⟩
  |cons x r=>exact⟨x,by simp,x,by simp,a5a _⟩
 ·intro h;cases h
def yR {cs:List (Int×Int)} (a:∀p∈cs,ay p.1) (b:Int):Lm (ej cs b):=by
 rw[i7];exact Ln (λx c=>a _ (fK.1 c)) _ _ _
def rB {f:Int->Int->Int×Int} (c:∀x y,ay x->ay y->ay (f x y).1) {a b:bo} (d:bc a) (e:bc b):Lm (jz f a b):=by
 unfold jz
 cases bG a b
 ·exact sV
 ·exact yR (oZ c d e) 0
def Lo {a b:bo} (d:bc a) (e:bc b):Lm (q9 a b):=by
 unfold q9
 cases bG a b
 ·exact sV
 ·refine yR (λp c=> ?_) _
  obtain⟨x,f,c⟩:=a3s.1 c;exact oZ Ba d (mJ e x f) p c
def OK {b:bo} (e:bc b) (a:(cB b).isEmpty=false) (f:bt b=true):zZ b=max (cQ b.1) (cQ b.2.1)-1/\0<=zZ b/\zZ b<=9223372036854775807:=by
 obtain⟨⟨j,k⟩,l,m⟩:=e;have g:b.1<=b.2.1:=a0x f;have h:b.1<0\/b.2.1>0:=by
  unfold cB at a;by_cases c:b.1<0
  ·exact Or.inl c
  ·by_cases d:b.2.1>0
   ·exact Or.inr d
   ·rw[a0c c,a0c d]at a;simp at a
 have i:(if cQ b.2.1>cQ b.1 then cQ b.2.1 else cQ b.1)=max (cQ b.1) (cQ b.2.1):=by split<;>omega
 have c:1<=max (cQ b.1) (cQ b.2.1)/\max (cQ b.1) (cQ b.2.1)<=9223372036854775808:=by
  unfold cQ;split<;>split<;>omega
 unfold zZ;rw[i,iF (by omega) (by omega),am (by omega) (by omega)];omega
def Lp {a b:bo} (f:bc a) (e:bc b):Lm (rg a b):=by
 unfold rg
 cases ho:bG a b
 ·exact sV
 ·simp only[bG,a0f]at ho
  cases hp:(cB b).isEmpty
  ·cases (a.1==a.2.1&& b.1==b.2.1)
   ·intro _
    obtain⟨g,i,j⟩:=OK e hp ho.2;have w:wrap .i64 (0-zZ b)= -zZ b:=by rw[am (by omega) (by omega)];omega
    rw[w];refine a0b ?_
    simp only[bu,a0z,a1q];by_cases d:a.1<0
    ·rw[a0b d,a0z]
     by_cases c:a.2.1>0
     ·rw[a0b c,a0z];split<;>split<;>omega
     ·rw[a0i c,a1q];split<;>omega
    ·rw[a0i d,a1q]
     by_cases c:a.2.1>0
     ·rw[a0b c,a0z];split<;>omega
     ·rw[a0i c,a1q];omega
   ·intro _
    exact a0b (a5a _)
  ·intro h;cases h
def OL (op:Int) (a b:bo):bt (xY op a b)=true:=by
 unfold xY
 cases hc:(decide (13<=op/\op<=18)&& bG a b)
 ·rfl
 ·simp only[a0f,a0u]at hc
  cases h1:eH (31-op) a b
  ·have:=Iz hc.1.1 hc.1.2 hc.2 h1
   rw[this];rfl
  ·cases eH op a b<;>rfl
def Nx (op:Int) {a b:bo} (c:bc a) (d:bc b) (e:bt a=true) (f:bt b=true):Lm (pn op a b):=by
 have g:a.1<=a.2.1:=a0x e;have ob':b.1<=b.2.1:=a0x f;unfold pn;split
 ·exact rB A8 c d
 split
 ·exact rB o5 c d
 split
 ·exact rB A9 c d
 split
 ·exact Lo c d
 split
 ·exact Lp c d
 split
 ·intro _;refine a0b ?_;simp only[bu,dl];split<;>split<;>omega
 split
 ·intro _;refine a0b ?_;simp only[bu,dl];split<;>split<;>omega
 ·intro _;exact OL op a b
def kM (a:bo):Prop:=0<=a.1/\a.2.1<=1
def Fq (leaf n:Int):0<=HA leaf n/\HA leaf n<=1:=by
 unfold HA;have h:∀x:BitVec 64,(x&&& BitVec.ofInt 64 1).toNat<=1:=by
  intro x;have:(BitVec.ofInt 64 1)=1#64:=rfl;rw[this,BitVec.toNat_and];exact Nat.and_le_right
 have:=h (BitVec.ofInt 64 (leaf.fdiv (2^(min n.toNat 64))));rw[am (by omega) (by omega)];omega
structure Db (d:ar) (e:aK):Prop where
 ok:FQ d e
 i:∀x∈e.2.1,bt x=true
 a:∀x∈e.2.2.1,bt x=true
def kN {d:ar} {e:aK} (h:aT d e) (a:e.1=true):Db d e:=by
 obtain⟨b,c,f⟩:=ba h a;exact⟨b,c,f⟩
def Lq {d:ar} {e:aK} (b:Db d e) (leaf:Int) {t:ca} (g:cN d t=true):bt (dY e leaf t)=true/\(cH t.1=2->nT t.1=0->kM (dY e leaf t)):=by
 unfold dY;split
 ·rename_i j
  exact⟨a0b (a5a _),λa=>by rw[j]at a;simp[cH]at a⟩
 split
 ·rename_i c
  obtain⟨l,k⟩:=rm g c;have f:t.2.1.toNat<e.2.1.length:=by rw[b.ok.ints];exact k
  rw[aZ f];exact⟨b.i _ (a0h f),λa=>by rw[c]at a;simp[cH]at a⟩
 split
 ·exact⟨a0b (a5a _),λ_ _=>⟨(Fq _ _).1,(Fq _ _).2⟩⟩
 ·refine⟨a0b (a5a _),λ_ _=> ?_⟩
  have:=CY (t.1==4);rcases this with h|h<;>(unfold kM;simp only;omega)
def yS {b:Int} {v:ir} (h:Lm v):Lm (dL b v):=by
 intro a;have:aC v=true:=by
  cases hc:aC v
  ·rw[yj hc]at a;cases a
  ·rfl
 rw[yi this];exact h this
def Bw {a:Int} {v:ir} (b:aC (dL a v)=true):aC v=true/\bu (dL a v)=bu v:=by
 have:aC v=true:=by
  cases hc:aC v
  ·rw[yj hc]at b;cases b
  ·rfl
 exact⟨this,by rw[yi this];rfl⟩
def OM {d:ar} {e:aK} (f:Db d e) {t:ca} (k:cN d t=true) (l:nT t.1=1) {a:bo} (m:bc a) (n:bt a=true) (b:t.1=19->kM a):Lm (C0 d e t a)/\(t.1=19->kM (bu (C0 d e t a))):=by
 have o:a.1<=a.2.1:=a0x n;unfold C0;split
 ·rename_i g
  obtain⟨q,i⟩:=CZ k g;have j:t.2.1.toNat<e.2.2.1.length:=by rw[f.ok.arrs];exact i
  rw[a0a i];simp only;refine⟨?_,λh=>by omega⟩
  cases eI d.2.2.1[t.2.1.toNat] a
  ·intro h;cases h
  ·intro _
   rw[aZ j];exact f.a _ (a0h j)
 split
 ·exact⟨rB o5 cx m,λh=>by omega⟩
 ·rename_i g r
  have c:t.1=19:=by rcases Qa l with h|h|h<;>omega
  obtain⟨s,u⟩:=b c;have w1:wrap .i64 (1-a.2.1)=1-a.2.1:=am (by omega) (by omega);have p:wrap .i64 (1-a.1)=1-a.1:=am (by omega) (by omega);rw[w1,p];refine⟨λ_=>a0b ?_,λ_=> ?_⟩
  ·simp only[bu,dl];omega
  ·unfold kM;simp only[bu,dl];omega
def Lr (op:Int) (a b:bo):kM (xY op a b):=by
 unfold xY
 cases (decide (13<=op/\op<=18)&& bG a b)
 ·unfold kM;simp
 ·cases eH (31-op) a b<;>cases eH op a b<;>(unfold kM;simp)
def Ls {a b:bo} (c:kM a) (d:kM b):kM (bu (dl (if b.1<a.1 then b.1 else a.1,if b.2.1<a.2.1 then b.2.1 else a.2.1,()))):=by
 obtain⟨a1,e⟩:=c;obtain⟨f,g⟩:=d;refine⟨?_,?_⟩
 ·simp only[bu,dl]
  split<;>omega
 ·simp only[bu,dl]
  split<;>omega
def Ny {a b:bo} (c:kM a) (d:kM b):kM (bu (dl (if b.1>a.1 then b.1 else a.1,if b.2.1>a.2.1 then b.2.1 else a.2.1,()))):=by
 obtain⟨a1,e⟩:=c;obtain⟨f,g⟩:=d;refine⟨?_,?_⟩
 ·simp only[bu,dl]
  split<;>omega
 ·simp only[bu,dl]
  split<;>omega
def iK {d:ar} {e:aK} (f:Db d e) (leaf:Int):∀ {x:Ex},x.Ok d->Lm (aB d e leaf x)/\(x.kind=2->aC (aB d e leaf x)=true->kM (bu (aB d e leaf x)))
 | .leaf t,hx=>by
  obtain⟨r,s⟩:=Lq f leaf hx.2;exact⟨λ_=>r,λk _=>s k hx.1⟩
 | .one t a,hx=>by
  have ih:=iK f leaf hx.2.2.2;by_cases c:aC (aB d e leaf a)=true
  ·have q:=OM f hx.2.1 hx.1 (ce f.ok leaf hx.2.2.2).1 (ih.1 c) (λo=>ih.2 (by rw[hx.2.2.1,o];rfl) c)
   rw[sC c];refine⟨yS q.1,λk g=> ?_⟩;rw[(Bw g).2];exact q.2 (sL hx k).1
  ·rw[sD (by simpa using c)]
   exact⟨λh=>(by cases h),λ_ h=>(by cases h)⟩
 | .two t a b,hx=>by
  have i:=iK f leaf hx.2.2.2.2.1;have j:=iK f leaf hx.2.2.2.2.2;have u:bc (bu (aB d e leaf a)):=(ce f.ok leaf hx.2.2.2.2.1).1;have v:bc (bu (aB d e leaf b)):=(ce f.ok leaf hx.2.2.2.2.2).1;by_cases c:aC (aB d e leaf a)=true
  ·by_cases l:aC (aB d e leaf b)=true
   ·rw[sH c l]
    refine⟨yS (Nx t.1 u v (i.1 c) (j.1 l)),λk g=> ?_⟩;rw[(Bw g).2];unfold pn;rcases sM hx k with⟨w,y⟩|⟨p|h21,m,n⟩
    ·rw[a0c (by omega),a0c (by omega),a0c (by omega),a0c (by omega),a0c (by omega),a0c (by omega),a0c (by omega)]
     exact Lr _ _ _
    ·rw[a0c (by omega),a0c (by omega),a0c (by omega),a0c (by omega),a0c (by omega),a0e p]
     exact Ls (i.2 m c) (j.2 n l)
    ·rw[a0c (by omega),a0c (by omega),a0c (by omega),a0c (by omega),a0c (by omega),a0c (by omega),a0e h21]
     exact Ny (i.2 m c) (j.2 n l)
   ·rw[sG c (by simpa using l)]
    exact⟨λh=>(by cases h),λ_ h=>(by cases h)⟩
  ·rw[sE (by simpa using c)]
   exact⟨λh=>(by cases h),λ_ h=>(by cases h)⟩
def yT {n:Nat} {v:Int} (h:vz n v=true):0<=v/\v<(n:Int):=by
 have:=a0x h;omega
def Dc {a b:Int} (h:lZ a b=true): -999999999999999999<=a/\a<=b/\b<=999999999999999999:=by
 simp only[lZ,a0f,a0u]at h;omega
def IJ {d:ar} {n:aV} (h:bm d n=true) (a:n.1=1):(0<=n.2.1/\n.2.1<(d.1.length:Int))/\bO d n.2.2.2.1=1:=by
 unfold bm at h;rw[a0e a]at h;simp only[a0f,a2w]at h;exact⟨yT h.1,h.2.2.1⟩
def IK {d:ar} {n:aV} (h:bm d n=true) (a:n.1=2):(0<=n.2.1/\n.2.1<(d.2.1.length:Int))/\bO d n.2.2.2.1=2:=by
 unfold bm at h;rw[a0c (by omega),a0e a]at h;simp only[a0f,a2w]at h;exact⟨yT h.1,h.2.2.1⟩
def IL {d:ar} {n:aV} (h:bm d n=true) (a:n.1=3):(0<=n.2.1/\n.2.1<(d.2.2.1.length:Int))/\bO d n.2.2.1=1/\bO d n.2.2.2.1=1:=by
 unfold bm at h;rw[a0c (by omega),a0c (by omega),a0e a]at h;simp only[a0f,a2w]at h;exact⟨yT h.1,h.2.1,h.2.2.1⟩
def Nz {d:ar} {n:aV} (h:bm d n=true) (a:n.1=4):(0<=n.2.1/\n.2.1<(d.1.length:Int))/\ -999999999999999999<=n.2.2.2.2.1/\n.2.2.2.2.1<=n.2.2.2.2.2.1/\n.2.2.2.2.2.1<=999999999999999999:=by
 unfold bm at h;rw[a0c (by omega),a0c (by omega),a0c (by omega),a0e a]at h;simp only[a0f,a2w]at h;exact⟨yT h.1,Dc h.2.2.2⟩
def ql {d:ar} {n:aV} (h:bm d n=true) (a:n.1=13):(0<=n.2.1/\n.2.1<(d.1.length:Int))/\ -999999999999999999<=n.2.2.2.2.1/\n.2.2.2.2.1<=n.2.2.2.2.2.1/\n.2.2.2.2.2.1<=999999999999999999/\n.2.2.2.2.2.1<=n.2.2.2.2.1+3:=by
 unfold bm at h;rw[a0c (by omega),a0c (by omega),a0c (by omega),a0c (by omega),a0e a]at h;simp only[a0f,a2w,a0u]at h;have:=Dc h.2.2.2.1;exact⟨yT h.1,this.1,this.2.1,this.2.2,h.2.2.2.2⟩
def Bx {d:ar} {n:aV} (h:bm d n=true) (b:n.1=5\/n.1=6\/n.1=9\/n.1=10\/n.1=11\/n.1=12):bO d n.2.2.2.1=2:=by
 unfold bm at h;rw[a0c (by omega),a0c (by omega),a0c (by omega),a0c (by omega),a0c (by omega)]at h;by_cases a:n.1=10
 ·rw[a0e a]at h
  simp only[a0f,a2w]at h;exact h.2.2.1
 ·rw[a0c a,a0e (by omega)]at h
  simp only[a0f,a2w]at h;exact h.2.2.1
def pd {d:ar} {n:aV} (h:bm d n=true):1<=n.1/\n.1<=14:=by
 unfold bm at h;by_cases a:1<=n.1/\n.1<=14
 ·exact a
 ·rw[a0c (by omega),a0c (by omega),a0c (by omega),a0c (by omega),a0c (by omega),a0c (by omega),a0c (by omega),a0c (by omega)]at h
  cases h
def jc {d:ar} {c:Bool} {e:aK} (h:c=true->aT d e):aT d (cond c e bq):=by
 cases c
 ·exact dS d
 ·exact h rfl
def fe {d:ar} {e:aK} (c:aT d e) (b:e.1=true) (v:Int) {a:bo} (f:bc a) (g:bt a=true):aT d (aU e v a):=by
 obtain⟨h,i,j⟩:=ba c b;exact Nl ⟨b,h,i,j⟩ v f g
def sW {d:ar} {n:aV} (h:bm d n=true) (j:n.1=13) {e:aK} (a:aT d e) (b:e.1=true):aT d (uB n e):=by
 obtain⟨f,l,m⟩:=ba a b;obtain⟨⟨o,p⟩,q,r,s,t⟩:=ql h j;have g:n.2.1.toNat<e.2.1.length:=by rw[f.ints];omega
 have k:e.2.1.getD n.2.1.toNat dA∈e.2.1:=by rw[aZ g];exact a0h g
 have i:=f.fi _ k;unfold uB;refine sJ (jc λc=>fe a b _ ?_ ?_) (jc λc=>fe a b _ ?_ ?_)
 ·exact lR i ⟨by unfold ay;simp only;omega,by unfold ay;simp only;omega⟩
 ·exact rt c
 ·exact lR i ⟨by unfold ay;simp only;omega,by unfold ay;simp only;omega⟩
 ·exact rt c
def qm {d:ar} {n:aV} (h:bm d n=true) (f:n.1=13) (c:Int) {t:List bM} {leaf:Int} (b:dM d leaf) {e:aK} (g:aT d e) (j:e.1=true):∀a∈iq n c t leaf e,yO d a:=by
 obtain⟨⟨m,o⟩,p,q,r,s⟩:=ql h f;intro a ha;unfold iq at ha;rcases a0l.1 ha with ha|ha
 ·obtain⟨i,k,rfl⟩:=a4o.1 ha
  have l:=a2h.1 k;refine⟨jU _ _ _,b,jc λu=>fe g j _ ?_ ?_⟩
  ·exact⟨by unfold ay;simp only;omega,by unfold ay;simp only;omega⟩
  ·exact a0b (a5a _)
 ·rw[a1c.1 ha]
  exact⟨jU _ _ _,b,sW h f g j⟩
def pe (n:aV) (a:Int) {t:List bM} (b:bf t=true):bf (gO n a t)=true:=by
 unfold gO;split
 ·exact jU _ _ _
 split
 ·exact jU _ _ _
 ·exact b
def rC (n:aV) (a:Int) {t:List bM} (b:bf t=true):bf (jD n a t)=true:=by
 unfold jD;split
 ·exact jU _ _ _
 ·exact b
def mV {d:ar} (v:aN d=true) {n:aV} (h:bm d n=true) (g:Int) {t:List bM} (i:bf t=true) {leaf:Int} (b:dM d leaf) {e:aK} (c:aT d e) (j:e.1=true):∀a∈bI d n g t leaf e,yO d a:=by
 obtain⟨s,E,F⟩:=ba c j;have u:=kN c j;unfold bI;split
 ·rename_i w
  obtain⟨k,l⟩:=IJ h w;obtain⟨f,m,o,p⟩:=d5 (show bO d n.2.2.2.1≠0 by omega);intro a ha;rw[a1c.1 ha];exact⟨i,b,jc λq=>fe c j _ (ce s leaf f).1 ((iK u leaf f).1 q)⟩
 split
 ·rename_i x
  obtain⟨k,l⟩:=IK h x;obtain⟨f,m,o,p⟩:=d5 (show bO d n.2.2.2.1≠0 by omega);obtain⟨l1,l2⟩:=sU v k b;intro a ha;simp only[a1s,a5z,a8n]at ha;rcases ha with ha|ha
  ·rw[ha];exact⟨i,l1,dF leaf f true c⟩
  ·rw[ha];exact⟨i,l2,dF leaf f false c⟩
 split
 ·rename_i y
  obtain⟨k,z,l⟩:=IL h y;obtain⟨f,m,o,p⟩:=d5 (show bO d n.2.2.2.1≠0 by omega);intro a ha;rw[a1c.1 ha];refine⟨i,b,jc λq=> ?_⟩;simp only[a0f]at q;exact Bv c j (ce s leaf f).1 ((iK u leaf f).1 q.2)
 split
 ·rename_i A
  obtain⟨k,G,B,H⟩:=Nz h A;intro a ha;rw[a1c.1 ha];exact⟨i,b,fe c j _ ⟨by unfold ay;simp only;omega,by unfold ay;simp only;omega⟩ (a0b B)⟩
 split
 ·rename_i r
  exact qm h r g b c j
 split
 ·intro a ha
  rw[a1c.1 ha];exact⟨rfl,b,c⟩
 split
 ·rename_i C
  have l:=Bx h (by omega);obtain⟨f,m,o,p⟩:=d5 (show bO d n.2.2.2.1≠0 by omega);intro a ha;rw[a1c.1 ha];exact⟨i,b,dF leaf f true c⟩
 split
 ·intro a ha
  rw[a1c.1 ha];exact⟨i,b,c⟩
 ·rename_i a1 I J K L M N O
  have D:=pd h;have l:=Bx h (by omega);obtain⟨f,m,o,p⟩:=d5 (show bO d n.2.2.2.1≠0 by omega);intro a ha;simp only[a1s,a5z,a8n]at ha;rcases ha with ha|ha
  ·rw[ha];exact⟨pe n g i,b,dF leaf f true c⟩
  ·rw[ha];exact⟨rC n g i,b,dF leaf f false c⟩
def Lt {d:ar} {n:aV} (h:bm d n=true) (g:Int) (t:List bM) (leaf:Int) (e:aK):(bI d n g t leaf e).length<=5:=by
 have c:∀a:oG,([a]:List oG).length<=5:=λa=>by simp
 have f:∀a b:oG,([a,b]:List oG).length<=5:=λa b=>by simp
 unfold bI;split
 ·exact c _
 split
 ·exact f _ _
 split
 ·exact c _
 split
 ·exact c _
 split
 ·rename_i i
  obtain⟨j,k,l,m,o⟩:=ql h i;simp only[iq,a0m,a3a,a5v,a0o,a0q];omega
 split
 ·exact c _
 split
 ·exact c _
 split
 ·exact c _
 ·exact f _ _
abbrev PV:=eQ×eQ×List pm×Int×Int×List ca×List ca×Int×Int×Int×eQ×eQ×List pm×List az×eQ×eQ×List pm×List az×Int×Unit
def f6 (d:ar) (n:aV) (a:Int) (s:List az×List az) (b:Int):PV:=(d.1,d.2.1,d.2.2.1,n.1,n.2.1,n.2.2.1,n.2.2.2.1,n.2.2.2.2.1,n.2.2.2.2.2.1,a,d.1,d.2.1,d.2.2.1,s.1,d.1,d.2.1,d.2.2.1,s.2,b,())
def bW {d:ar} {l:List az} {t:List bM} {leaf:Int} {e:aK} (h:e.1=false):Al d l t leaf e=l:=by unfold Al;rw[cF h]
def bX {d:ar} {l:List az} {t:List bM} {leaf:Int} {e:aK} (h:e.1=true):Al d l t leaf e=f7 none l (t,kJ d leaf e,()):=by unfold Al;rw[cT h]
def eS {α:Type} {k:Nat} {c:Bool} (h:c=true) (x y:Option α):br k (!c) x y=y:=by rw[h,a0j,af]
def gr {α:Type} {k:Nat} {c:Bool} (h:c=false) (x y:Option α):br k (!c) x y=x:=by rw[h,a0v,ah]
def Dd {d:ar} (a:aN d=true):0<=(2:Int)^d.2.1.length/\(2:Int)^d.2.1.length<=(2:Int)^d.2.1.length/\(2:Int)^d.2.1.length*56<=ai/\((2:Int)^d.2.1.length).toNat=2^d.2.1.length:=by
 have b:=(dZ a).2.1;have:d.2.1.length=0\/d.2.1.length=1\/d.2.1.length=2\/d.2.1.length=3:=by omega
 rcases this with h|h|h|h<;>rw[h]<;>decide
def l5 {α:Type} {k:Nat} (i:4194304<k) {d:ar} (f:aN d=true) {L:List az} (j:dx d L) (v:L.length<=90000) {t:List bM} (l:bf t=true) {leaf:Int} (a:dM d leaf) {e:aK} (m:aT d e) (F:(List az×Unit)×eX->Option α):(bd k (oU k ((d.1,d.2.1,d.2.2.1,()),())) λb=>
 br k (decide (0<=b.1.1/\b.1.1<=b.1.1/\b.1.1*56<=ai))
 (br k (decide (0<=leaf/\leaf<((List.replicate b.1.1.toNat (Kd.z ci)).length:Int)))
 (bd k ((List.replicate b.1.1.toNat (Kd.z ci))[leaf.toNat]?) λw=>
 bd k (og k (L,([(t,(List.replicate b.1.1.toNat (Kd.z ci)).set leaf.toNat e,())]:List cf),(()),())) F)
 none)
 none)=F ((f7 none L (t,kJ d leaf e,()),()),((),(),(),())):=by
 have n:=(dZ f).2.1;obtain⟨o,p,q,r⟩:=Dd f;have g:=sP k d n;have c:oU k ((d.1,d.2.1,d.2.2.1,()),())=some (((2:Int)^d.2.1.length,()),((),())):=g;have h:leaf.toNat<2^d.2.1.length:=by have:=a.1;have:=a.2;omega
 have s:og k (L,[(t,kJ d leaf e,())],(),())=some ((yG none L [(t,kJ d leaf e,())],()),((),(),(),())):=Ai i f j (λx u=>by rw[a1c.1 u];exact⟨l,lp m⟩) (by simp;omega)
 rw[c,aa,a0b ⟨o,p,q⟩,ah];simp only[r];rw[a0b (show 0<=leaf/\leaf<((List.replicate (2^d.2.1.length) (Kd.z ci)).length:Int) by rw[a1p];have:=a.1;omega),ah,a0a (by rw[a1p];exact h),aa];refine Eq.trans (a1v (λz=>bd k z F) s) ?_
 rw[aa];rfl
def mW {k:Nat} (c:4194304<k) {d:ar} {e:aK} (f:FQ d e) (leaf:Int) {x:Ex} (g:x.Ok d) (h:x.size<=40) (n:aV) (a:Int) (s:List az×List az) (b:Int):zL k (f6 d n a s b,iO d e leaf,x.flat,())=some ((aB d e leaf x,()),(f6 d n a s (dg b (bJ (aB d e leaf x))),(),(),())):=by
 simp only[zL,f6,iO,mL c f leaf g h,aa];rfl
def mX {k:Nat} (g:4194304<k) {d:ar} (h:aN d=true) {e:aK} (i:aT d e) (j:e.1=true) (leaf:Int) {x:Ex} (l:x.Ok d) (c:x.kind=2) (m:x.size<=40) (a:Bool) {n:aV} (o:n.2.2.2.1=x.flat) (b:Int) (s:List az×List az) (f:Int):AW k (f6 d n b s f,iO d e leaf,a,())=some ((c8 d leaf x a e,()),(f6 d n b s (dg f (bJ (aB d e leaf x))),(),(),())):=by
 simp only[AW,f6,iO,o,Nm g h leaf l c m a i j,aa];rfl
def ON {k:Nat} (u:4194304<k) {d:ar} (l:aN d=true) {n:aV} (h:bm d n=true) (H:n.1=2) (a:Int) {t:List bM} (v:bf t=true) {leaf:Int} (z:dM d leaf) {e:aK} (w:aT d e) (I:e.1=true) {s:List az×List az} (A:gH d s) (W:s.1.length+s.2.length<=80000) (x:Int):JX k (f6 d n a s x,t,iO d e leaf,())=some ((),(f6 d n a ((bI d n a t leaf e).foldl (bK d) s) (dg x (bD d n leaf e)),(),(),())):=by
 obtain⟨J,M⟩:=IK h H;obtain⟨y,N,O,P⟩:=d5 (show bO d n.2.2.2.1≠0 by omega);have B:(dq d n.2.2.2.1).kind=2:=by rw[<-O];exact M
 obtain⟨l1,l2⟩:=sU l J z;obtain⟨Q,X,Y⟩:=ba w I;have R:=(ce Q leaf y).2;have K:=λm C S T=>mX u l w I leaf y B P m N a (S,T) C
 have U:bI d n a t leaf e=[(false,t,kL leaf n.2.1,c8 d leaf (dq d n.2.2.2.1) true e),(false,t,mU leaf n.2.1,c8 d leaf (dq d n.2.2.2.1) false e)]:=by
  unfold bI;rw[a0c (by omega),a0e H]
 have V:bD d n leaf e=bJ (aB d e leaf (dq d n.2.2.2.1)):=by
  unfold bD;rw[a0c (by omega),a0c (by omega),a0c (by omega)]
 have D:=dF leaf y true w;have E:=dF leaf y false w;rw[U,V];simp only[a1u,a2s,bK,a1q];have c:dg (dg x (bJ (aB d e leaf (dq d n.2.2.2.1)))) (bJ (aB d e leaf (dq d n.2.2.2.1)))=dg x (bJ (aB d e leaf (dq d n.2.2.2.1))):=by
  rw[cY,ro R]
 obtain⟨o,p⟩:∃g,g=c8 d leaf (dq d n.2.2.2.1) true e:=⟨_,rfl⟩;obtain⟨i,q⟩:∃g,g=c8 d leaf (dq d n.2.2.2.1) false e:=⟨_,rfl⟩;rw[<-p]at D⊢;rw[<-q]at E⊢;have j:=K true;have f:=K false;rw[<-p]at j;rw[<-q]at f;simp only[f6,iO]at j f⊢;simp only[JX,j,aa,a0b J.1,ah];have F:dM d (wrap .i64 (((BitVec.ofInt 64 leaf|||BitVec.ofInt 64 (wrap .i64 (1*2^(min n.2.1.toNat 64)))).toNat:Int))):=l1;have r:dM d (wrap .i64 (((BitVec.ofInt 64 leaf&&& ~~~BitVec.ofInt 64 (wrap .i64 (1*2^(min n.2.1.toNat 64)))).toNat:Int))):=l2;rcases a0n o.1 with hlt|hlt
 ·rw[eS hlt,l5 u l A.b (by omega) v F (show aT d (o.1,o.2.1,o.2.2.1,())from D)]
  simp only[f,aa];have L:=sR A.b v (kL leaf n.2.1) D;have G:=yP d s.2 t (kL leaf n.2.1) o;rw[bX hlt]at L G⊢;rcases a0n i.1 with hlf2|hlf2
  ·rw[bX hlf2,eS hlf2]
   refine(l5 u l L (by omega) v r (show aT d (i.1,i.2.1,i.2.2.1,())from E) _).trans ?_
   simp only[c];rfl
  ·rw[bW hlf2,gr hlf2]
   simp only[c];rfl
 ·rw[bW hlt,gr hlt]
  simp only[f,aa];rcases a0n i.1 with hlf2|hlf2
  ·rw[bX hlf2,eS hlf2,l5 u l A.b (by omega) v r (show aT d (i.1,i.2.1,i.2.2.1,())from E)]
   simp only[c];rfl
  ·rw[bW hlf2,gr hlf2]
   simp only[c]
def Lu {k:Nat} (l:4194304<k) {d:ar} (v:aN d=true) {n:aV} (h:bm d n=true) (h5:n.1=5\/n.1=6\/n.1=9\/n.1=10) (c:Int) {t:List bM} (L:bf t=true) {leaf:Int} (i:dM d leaf) {e:aK} (I:aT d e) (R:e.1=true) {s:List az×List az} (w:gH d s) (hn:s.1.length+s.2.length<=80000) (J:Int):Es k (f6 d n c s J,t,iO d e leaf,())=some ((),(f6 d n c ((bI d n c t leaf e).foldl (bK d) s) (dg J (bD d n leaf e)),(),(),())):=by
 have U:=Bx h (by omega);obtain⟨K,V,W,X⟩:=d5 (show bO d n.2.2.2.1≠0 by omega);have M:(dq d n.2.2.2.1).kind=2:=by rw[<-W];exact U
 obtain⟨Y,hi,hr⟩:=ba I R;have Z:=(ce Y leaf K).2;have S:=λC N nx jp=>mX l v I R leaf K M X C V c (nx,jp) N
 have em:bI d n c t leaf e=[(true,gO n c t,leaf,c8 d leaf (dq d n.2.2.2.1) true e),(false,jD n c t,leaf,c8 d leaf (dq d n.2.2.2.1) false e)]:=by
  unfold bI;rw[a0c (by omega),a0c (by omega),a0c (by omega),a0c (by omega),a0c (by omega),a0c (by omega),a0c (by omega),a0c (by omega)]
 have la:bD d n leaf e=bJ (aB d e leaf (dq d n.2.2.2.1)):=by
  unfold bD;rw[a0c (by omega),a0c (by omega),a0c (by omega)]
 have T:=dF leaf K true I;have O:=dF leaf K false I;have ty:=pe n c L;have x:=rC n c L;rw[em,la];simp only[a1u,a2s,bK,a1q,a0z];have f:dg (dg J (bJ (aB d e leaf (dq d n.2.2.2.1)))) (bJ (aB d e leaf (dq d n.2.2.2.1)))=dg J (bJ (aB d e leaf (dq d n.2.2.2.1))):=by
  rw[cY,ro Z]
 obtain⟨B,D⟩:∃g,g=c8 d leaf (dq d n.2.2.2.1) true e:=⟨_,rfl⟩;obtain⟨y,E⟩:∃g,g=c8 d leaf (dq d n.2.2.2.1) false e:=⟨_,rfl⟩;rw[<-D]at T⊢;rw[<-E]at O⊢;have m:=S true;have j:=S false;rw[<-D]at m;rw[<-E]at j;have P:=pc L;have F:=oD (k:=k) l t c;have G:=Aj (k:=k) (by omega) P c;simp only[f6,iO]at m j⊢;have A:aT d (B.1,B.2.1,B.2.2.1,()):=T;have o:aT d (y.1,y.2.1,y.2.2.1,()):=O;by_cases z:n.1=6
 ·have p:gO n c t=kX t c 1:=by unfold gO;rw[a0e z]
  have q:jD n c t=kX t c 0:=by unfold jD;rw[a0e z]
  have H:(n.1==6)=true:=by simp[z]
  simp only[Es,H,ah,F,aa,m];rw[p]at ty⊢;rw[q]at x⊢;rcases a0n B.1 with hlt|hlt
  ·rw[eS hlt,l5 l v w.a (by omega) ty i A]
   simp only[j,aa];rw[bX hlt];rcases a0n y.1 with hlf2|hlf2
   ·rw[bX hlf2,eS hlf2]
    refine(l5 l v w.b (by omega) x i O _).trans ?_
    simp only[f]<;>rfl
   ·rw[bW hlf2,gr hlf2]
    simp only[f]<;>rfl
  ·rw[bW hlt,gr hlt]
   simp only[j,aa];rcases a0n y.1 with hlf2|hlf2
   ·rw[bX hlf2,eS hlf2]
    refine(l5 l v w.b (by omega) x i o _).trans ?_
    simp only[f]<;>rfl
   ·rw[bW hlf2,gr hlf2]
    simp only[f]<;>rfl
 by_cases r:n.1=10/\fc t c<n.2.2.2.2.1
 ·have p:gO n c t=kX t c 1:=by unfold gO;rw[a0c z,a0e r]
  have q:jD n c t=t:=by unfold jD;rw[a0c z]
  have H:(n.1==6)=false:=by simpa using z
  have u:(n.1==10)=true:=by simp[r.1]
  simp only[Es,H,u,ah,af,G,F,aa,a0b r.2,a0d,m];rw[p]at ty⊢;rw[q]at x⊢;rcases a0n B.1 with hlt|hlt
  ·rw[eS hlt,l5 l v w.a (by omega) ty i A]
   simp only[j,aa];rw[bX hlt];rcases a0n y.1 with hlf2|hlf2
   ·rw[bX hlf2,eS hlf2]
    refine(l5 l v w.b (by omega) x i o _).trans ?_
    simp only[f]<;>rfl
   ·rw[bW hlf2,gr hlf2]
    simp only[f]<;>rfl
  ·rw[bW hlt,gr hlt]
   simp only[j,aa];rcases a0n y.1 with hlf2|hlf2
   ·rw[bX hlf2,eS hlf2]
    refine(l5 l v w.b (by omega) x i o _).trans ?_
    simp only[f]<;>rfl
   ·rw[bW hlf2,gr hlf2]
    simp only[f]<;>rfl
 ·have p:gO n c t=t:=by unfold gO;rw[a0c z,a0c r]
  have q:jD n c t=t:=by unfold jD;rw[a0c z]
  have H:(n.1==6)=false:=by simpa using z
  have hj:(br k (n.1==10) (some (decide (fc t c<n.2.2.2.2.1),())) (some (false,())):Option (Bool×Unit))=some (false,()):=by
   by_cases Q:n.1=10
   ·have u:(n.1==10)=true:=by simp[Q]
    rw[u,ah,a0i (λh2=>r ⟨Q,h2⟩)]
   ·have u:(n.1==10)=false:=by simpa using Q
    rw[u,af]
  simp only[Es,H,af,G,aa,hj,a0d,m];rw[p]at ty⊢;rw[q]at x⊢;rcases a0n B.1 with hlt|hlt
  ·rw[eS hlt,l5 l v w.a (by omega) ty i A]
   simp only[j,aa];rw[bX hlt];rcases a0n y.1 with hlf2|hlf2
   ·rw[bX hlf2,eS hlf2]
    refine(l5 l v w.b (by omega) x i o _).trans ?_
    simp only[f]<;>rfl
   ·rw[bW hlf2,gr hlf2]
    simp only[f]<;>rfl
  ·rw[bW hlt,gr hlt]
   simp only[j,aa];rcases a0n y.1 with hlf2|hlf2
   ·rw[bX hlf2,eS hlf2]
    refine(l5 l v w.b (by omega) x i o _).trans ?_
    simp only[f]<;>rfl
   ·rw[bW hlf2,gr hlf2]
    simp only[f]<;>rfl
def NA {d:ar} (a:aN d=true) {v:Nat} (b:v<d.2.2.1.length):1<=d.2.2.1[v].2.1/\d.2.2.1[v].2.1<=16:=by
 simp only[aN,a0f,a0u]at a;have h:=a.2.1;unfold xU at h;simp only[a2p,a7q,a3z,Bool.not_eq_false',a0u]at h;exact a0x (by simpa using h _ (a0h b))
def HU {a b:bo} (c:bt a=true) (d:bt b=true):mG a b=eY a b:=by
 unfold mG bG;rw[c,d];rfl
def Fs (k:Nat) {d:ar} (m:aN d=true) {e:aK} (n:aT d e) (q:e.1=true) {v:Int} (o:0<=v/\v<(d.2.2.1.length:Int)) (place:bo) {a:bo} (r:bt a=true):G9 k (d,e,v,place,a,())=some ((rA d e v place a,oH d v place,()),((),(),(),(),(),())):=by
 obtain⟨s,y,t⟩:=ba n q;have c:v.toNat<d.2.2.1.length:=by omega
 have b:v.toNat<e.2.2.1.length:=by rw[s.arrs];exact c
 have h:d.2.2.1[v.toNat]?=some d.2.2.1[v.toNat]:=a0a c;have u:=NA m c;have i:=Bf k d o.1 h place;have f:Cr k (d,v,place,())=some ((g8 d.2.2.1[v.toNat] place,eI d.2.2.1[v.toNat] place,()),((),(),(),())):=i;have g:e.2.2.1[v.toNat]?=some (e.2.2.1.getD v.toNat dA):=by rw[aZ b];exact a0a b
 have j:bt (e.2.2.1.getD v.toNat dA)=true:=by rw[aZ b];exact t _ (a0h b)
 have w:rA d e v place a=cond (eI d.2.2.1[v.toNat] place) (e.1,e.2.1,e.2.2.1.set v.toNat (if d.2.2.1[v.toNat].2.1=1 then a else eY (e.2.2.1.getD v.toNat dA) a),()) bq:=by unfold rA;rw[h]
 have x:oH d v place=g8 d.2.2.1[v.toNat] place:=by unfold oH;rw[h]
 have l:0<=v/\v<(e.2.2.1.length:Int):=by omega
 rw[w,x];simp only[G9,f,aa,qh k e (bx m n).1,a0b o.1,ah,h,a0b l,g,tX,HU j r]
 cases eI d.2.2.1[v.toNat] place
 ·simp only[a0v,ah,a1q,bq]
 ·simp only[a0j,af,a0z]
  by_cases p:d.2.2.1[v.toNat].2.1=1
  ·rw[a0e p,a0i (by omega),af]
  ·rw[a0c p,a0b (by omega),ah]
def Ft (k:Nat) {d:ar} (m:aN d=true) {e:aK} (l:aT d e) (n:e.1=true) {v:Int} (o:0<=v/\v<(d.2.2.1.length:Int)) (place:bo) {a:bo} (s:bt a=true):Ez k (d,e,v,place,a,())=some ((rA d e v place a,oH d v place,()),((),(),(),(),(),())):=by
 obtain⟨p,t,u⟩:=ba l n;have b:v.toNat<d.2.2.1.length:=by omega
 have c:v.toNat<e.2.2.1.length:=by rw[p.arrs];exact b
 have h:d.2.2.1[v.toNat]?=some d.2.2.1[v.toNat]:=a0a b;have i:=yh k place d.2.2.1[v.toNat];have f:e.2.2.1[v.toNat]?=some (e.2.2.1.getD v.toNat dA):=by rw[aZ c];exact a0a c
 have q:rA d e v place a=cond (eI d.2.2.1[v.toNat] place) (e.1,e.2.1,e.2.2.1.set v.toNat (if d.2.2.1[v.toNat].2.1=1 then a else eY (e.2.2.1.getD v.toNat dA) a),()) bq:=by unfold rA;rw[h]
 have r:oH d v place=g8 d.2.2.1[v.toNat] place:=by unfold oH;rw[h]
 have j:0<=v/\v<(e.2.2.1.length:Int):=by omega
 rw[q,r];simp only[Ez,a0b o.1,ah,h,aa,i,lS k e (bx m l).1,a0b j,f,oi]
 cases eI d.2.2.1[v.toNat] place
 ·simp only[a0v,ah,a1q,bq]
 ·simp only[a0j,af,a0z]
  by_cases g:d.2.2.1[v.toNat].2.1=1
  ·have:(d.2.2.1[v.toNat].2.1==1)=true:=by simp[g]
   rw[a0e g,this,ah]
  ·have:(d.2.2.1[v.toNat].2.1==1)=false:=by simpa using g
   rw[a0c g,this,af]
def yU (d:ar) (n:aV) (leaf:Int) (e:aK):aK:=cond (aC (aB d e leaf (dq d n.2.2.1))&& aC (aB d e leaf (dq d n.2.2.2.1))) (rA d e n.2.1 (bu (aB d e leaf (dq d n.2.2.1))) (bu (aB d e leaf (dq d n.2.2.2.1)))) bq
def NB {k:Nat} (l:4194304<k) {d:ar} (u:aN d=true) {n:aV} (h:bm d n=true) (m:n.1=3) (a:Int) {leaf:Int} {e:aK} (c:aT d e) (f:e.1=true) (s:List az×List az) (o:Int):JY k (f6 d n a s o,iO d e leaf,())=some ((yU d n leaf e,()),(f6 d n a s (dg o (bD d n leaf e)),(),())):=by
 obtain⟨v,w,F⟩:=IL h m;obtain⟨p,x,G,y⟩:=d5 (show bO d n.2.2.2.1≠0 by omega);obtain⟨z,A,H,B⟩:=d5 (show bO d n.2.2.1≠0 by omega);obtain⟨q,I,J⟩:=ba c f;have C:=kN c f;have D:bD d n leaf e=cond (aC (aB d e leaf (dq d n.2.2.1)))
  (cond (aC (aB d e leaf (dq d n.2.2.2.1))) (dg (dg (bJ (aB d e leaf (dq d n.2.2.1))) (bJ (aB d e leaf (dq d n.2.2.2.1)))) (oH d n.2.1 (bu (aB d e leaf (dq d n.2.2.1))))) (dg (bJ (aB d e leaf (dq d n.2.2.1))) (bJ (aB d e leaf (dq d n.2.2.2.1)))))
  (bJ (aB d e leaf (dq d n.2.2.1))):=by
  unfold bD;rw[a0c (by omega),a0e m]
 have g:=λb=>mW l q leaf z B n a s b
 have i:=λb=>mW l q leaf p y n a s b
 rw[<-A]at g;rw[<-x]at i;rw[D];unfold yU;simp only[f6,iO]at g i⊢;simp only[JY,g,aa];have r:(aB d e leaf (dq d n.2.2.1)).2.2.1=aC (aB d e leaf (dq d n.2.2.1)):=rfl;have t:(aB d e leaf (dq d n.2.2.2.1)).2.2.1=aC (aB d e leaf (dq d n.2.2.2.1)):=rfl;rcases a0n (aC (aB d e leaf (dq d n.2.2.1)))with h1|h1
 ·rw[r,eS h1]
  simp only[i,aa];rcases a0n (aC (aB d e leaf (dq d n.2.2.2.1)))with h2|h2
  ·rw[t,eS h2,cT (show(aC (aB d e leaf (dq d n.2.2.1))&& aC (aB d e leaf (dq d n.2.2.2.1)))=true by rw[h1,h2];rfl),cT h1,cT h2]
   have E:=Fs k u c f v (bu (aB d e leaf (dq d n.2.2.1))) ((iK C leaf p).1 h2);have j:G9 k ((d.1,d.2.1,d.2.2.1,()),(e.1,e.2.1,e.2.2.1,()),n.2.1,((aB d e leaf (dq d n.2.2.1)).1,(aB d e leaf (dq d n.2.2.1)).2.1,()),((aB d e leaf (dq d n.2.2.2.1)).1,(aB d e leaf (dq d n.2.2.2.1)).2.1,()),())=_:=E;simp only[j,aa];rw[<-cY,<-cY];rfl
  ·rw[t,gr h2,cF (show(aC (aB d e leaf (dq d n.2.2.1))&& aC (aB d e leaf (dq d n.2.2.2.1)))=false by rw[h1,h2];rfl),cT h1,cF h2,<-cY]
   rfl
 ·rw[r,gr h1,cF (show(aC (aB d e leaf (dq d n.2.2.1))&& aC (aB d e leaf (dq d n.2.2.2.1)))=false by rw[h1];rfl),cF h1]
  rfl
def yV {d:ar} (f:Nat->oG) (s:List az×List az) (i:Nat):((List.range (i+1)).map f).foldl (bK d) s=bK d (((List.range i).map f).foldl (bK d) s) (f i):=by
 rw[a6y,a3d,a3g];rfl
def NC (k:Nat) {d:ar} {n:aV} (h:bm d n=true) (a:n.1=13) {i:Nat} (b:(i:Int)<=n.2.2.2.2.2.1-n.2.2.2.2.1):G5 k (n,n.2.2.2.2.1+(i:Int),())=some (((i:Int),()),((),(),())):=by
 obtain⟨⟨c,e⟩,f,g,j,l⟩:=ql h a;simp only[G5,dC,aa];rw[a0b (show n.2.2.2.2.1<=n.2.2.2.2.1+(i:Int)/\n.2.2.2.2.1+(i:Int)<=n.2.2.2.2.2.1 by omega),a0j,af,am (by omega) (by omega)];rw[show n.2.2.2.2.1+(i:Int)-n.2.2.2.2.1=(i:Int) by omega]
def ND {k:Nat} (U:4194304<k) {d:ar} (K:aN d=true) {n:aV} (h:bm d n=true) (v:n.1=13) (c:Int) (t:List bM) {leaf:Int} (B:dM d leaf) {e:aK} (C:aT d e) (y:e.1=true) {s:List az×List az} (hs:gH d s) (hn:s.1.length+s.2.length<=80000) {u:Int} (W:ay u):zN k (f6 d n c s u,t,iO d e leaf,())=some ((),(f6 d n c ((bI d n c t leaf e).foldl (bK d) s) (dg u (bD d n leaf e)),(),(),())):=by
 obtain⟨⟨v0,v1⟩,b0,b1,b2,b3⟩:=ql h v;obtain⟨hE,hi,hr⟩:=ba C y;have X:=(bx K C).1;have em:bI d n c t leaf e=iq n c t leaf e:=by
  unfold bI;rw[a0c (by omega),a0c (by omega),a0c (by omega),a0c (by omega),a0e v]
 have la:bD d n leaf e=0:=by unfold bD;rw[a0e (by omega)]
 have q:=qm h v c (t:=t) B C y;rw[em,la,gD W];have V:n.2.1.toNat<e.2.1.length:=by rw[hE.ints];omega
 have z:e.2.1[n.2.1.toNat]?=some (e.2.1.getD n.2.1.toNat dA):=by rw[aZ V];exact a0a V
 obtain⟨g,p⟩:∃o,o=e.2.1.getD n.2.1.toNat dA:=⟨_,rfl⟩;have L:0<=n.2.1/\n.2.1<(e.2.1.length:Int):=by omega
 have A:=λa=>qi k X L a
 obtain⟨m,hm⟩:∃m:Nat,(m:Int)=n.2.2.2.2.2.1-n.2.2.2.2.1+1:=⟨(n.2.2.2.2.2.1-n.2.2.2.2.1+1).toNat,by omega⟩;have Y:(n.2.2.2.2.2.1-n.2.2.2.2.1+1).toNat=m:=by omega
 unfold iq at q⊢;rw[Y]at q⊢;rw[a3g,a1u,a2s];have sg:∀i,i<=m->gH d (((List.range i).map (di n c t leaf e)).foldl (bK d) s)/\(((List.range i).map (di n c t leaf e)).foldl (bK d) s).1.length+(((List.range i).map (di n c t leaf e)).foldl (bK d) s).2.length<=80000+i:=by
  intro i Z;refine⟨io hs λa ha=> ?_,?_⟩
  ·obtain⟨j,hj,rfl⟩:=a4o.1 ha
   exact q _ (a0l.2 (Or.inl (a4o.2 ⟨j,a2h.2 (by have:=a2h.1 hj;omega),rfl⟩)))
  ·have:=kK d ((List.range i).map (di n c t leaf e)) s
   simp only[a3a,a5v]at this;omega
 unfold f6 iO;simp only[zN,a0b v0,ah,z,aa];rw[<-p]at z⊢;have D:n.2.2.2.2.1=n.2.2.2.2.1+((0:Nat):Int):=by omega
 refine Eq.trans (?_:_=aG (zN.l0 k) k ((λi:Nat=>(f6 d n c (((List.range i).map (di n c t leaf e)).foldl (bK d) s) u,t,iO d e leaf,g,n.2.2.2.2.1+(i:Int),())) 0)) (aR (b:=zN.l0 k) (λi:Nat=>(f6 d n c (((List.range i).map (di n c t leaf e)).foldl (bK d) s) u,t,iO d e leaf,g,n.2.2.2.2.1+(i:Int),())) m (λG i Z=> ?_) (λG=> ?_) (by omega))
 ·simp only[f6,iO]
  rw[<-D];rfl
 ·obtain⟨Ql,Qm⟩:=sg i (by omega)
  have Qn:=NC k h v (i:=i) (by omega);have M:G5 k ((n.1,n.2.1,n.2.2.1,n.2.2.2.1,n.2.2.2.2.1,n.2.2.2.2.2.1,()),n.2.2.2.2.1+(i:Int),())=_:=Qn;have l:∀a,Ir k ((e.1,e.2.1,e.2.2.1,()),n.2.1,a,())=_:=A;rw[yV];have N:di n c t leaf e i=(false,kX t c (i:Int),leaf,cond (eG g (n.2.2.2.2.1+(i:Int))) (aU e n.2.1 (n.2.2.2.2.1+(i:Int),n.2.2.2.2.1+(i:Int),())) bq):=by unfold di;rw[<-p]
  rw[N];have O:wrap .i64 (n.2.2.2.2.1+(i:Int)+1)=n.2.2.2.2.1+((i+1:Nat):Int):=by rw[am (by omega) (by omega)];omega
  simp only[f6,iO];simp only[zN.l0];rw[a0b (show n.2.2.2.2.1+(i:Int)<=n.2.2.2.2.2.1 by omega),ah,O];have hiv:Em k ((g.1,g.2.1,()),n.2.2.2.2.1+(i:Int),())=some ((eG g (n.2.2.2.2.1+(i:Int)),()),((),(),())):=mH k g _;have eg:aT d (aU e n.2.1 (n.2.2.2.2.1+(i:Int),n.2.2.2.2.1+(i:Int),())):=fe C y _ ⟨by unfold ay;simp only;omega,by unfold ay;simp only;omega⟩ (a0b (a5a _));simp only[hiv,aa,M,oD U,jC,l];unfold bK;rcases a0n (eG g (n.2.2.2.2.1+(i:Int)))with hc|hc
  ·rw[hc,ah,cT rfl,cF rfl,bX (show(aU e n.2.1 (n.2.2.2.2.1+(i:Int),n.2.2.2.2.1+(i:Int),())).1=true from y),eS (show(aU e n.2.1 (n.2.2.2.2.1+(i:Int),n.2.2.2.2.1+(i:Int),())).1=true from y)]
   refine(l5 U K Ql.b (by omega) (jU t c (i:Int)) B eg _).trans ?_
   rfl
  ·rw[hc,af,cF rfl,cF rfl,bW rfl]
 ·obtain⟨Qo,Qm⟩:=sg m (a1l _)
  have P:=sW h v C y;have w1:wrap .i64 (n.2.2.2.2.1-1)=n.2.2.2.2.1-1:=am (by omega) (by omega);have w2:wrap .i64 (n.2.2.2.2.2.1+1)=n.2.2.2.2.2.1+1:=am (by omega) (by omega);have w3:wrap .i64 (n.2.2.2.2.2.1-n.2.2.2.2.1)=n.2.2.2.2.2.1-n.2.2.2.2.1:=am (by omega) (by omega);have w4:wrap .i64 (n.2.2.2.2.2.1-n.2.2.2.2.1+1)=n.2.2.2.2.2.1-n.2.2.2.2.1+1:=am (by omega) (by omega);have w5:wrap .i64 (0+1)=1:=am (by omega) (by omega);have w6:wrap .i64 (1+1)=2:=am (by omega) (by omega);have fi:bc g:=by rw[p,aZ V];exact hE.fi _ (a0h V)
  have hB:ep n e=dX g (-9223372036854775808,n.2.2.2.2.1-1,()):=by unfold ep;rw[p]
  have hA:eP n e=dX g (n.2.2.2.2.2.1+1,9223372036854775807,()):=by unfold eP;rw[p]
  have Q:aT d (cond (ep n e).2.1 (aU e n.2.1 (ep n e).1) bq):=jc λhc=>fe C y _ (by rw[hB];exact lR fi ⟨by unfold ay;simp only;omega,by unfold ay;simp only;omega⟩) (rt hc)
  have gA:aT d (cond (eP n e).2.1 (aU e n.2.1 (eP n e).1) bq):=jc λhc=>fe C y _ (by rw[hA];exact lR fi ⟨by unfold ay;simp only;omega,by unfold ay;simp only;omega⟩) (rt hc)
  have l:∀a,Ir k ((e.1,e.2.1,e.2.2.1,()),n.2.1,a,())=_:=A;obtain⟨w,E⟩:∃r,r=cond (ep n e).2.1 (aU e n.2.1 (ep n e).1) bq:=⟨_,rfl⟩;obtain⟨F,R⟩:∃r,r=uB n e:=⟨_,rfl⟩;have H:∀G,zN.l2 k G (f6 d n c (((List.range m).map (di n c t leaf e)).foldl (bK d) s) u,t,iO d e leaf,g,bq,([((-9223372036854775808),n.2.2.2.2.1-1,()),(n.2.2.2.2.2.1+1,9223372036854775807,())]:List bo),2,0,())=G (f6 d n c (((List.range m).map (di n c t leaf e)).foldl (bK d) s) u,t,iO d e leaf,g,w,([((-9223372036854775808),n.2.2.2.2.1-1,()),(n.2.2.2.2.2.1+1,9223372036854775807,())]:List bo),2,1,()):=by
   intro G;have I:AS k ((g.1,g.2.1,()),((-9223372036854775808:Int),n.2.2.2.2.1-1,()),())=some (ep n e,((),(),())):=by rw[hB];exact jw k g _
   simp only[f6,iO,bq];simp only[zN.l2];rw[a0b (show(0:Int)<2 by omega),a0b (show(0:Int)<=0/\(0:Int)<(([((-9223372036854775808),n.2.2.2.2.1-1,()),(n.2.2.2.2.2.1+1,9223372036854775807,())]:List bo).length:Int) by simp)];simp only[ah,a3h,a1t,aa,I,l,w5];rw[E];rcases a0n (ep n e).2.1 with hc|hc
   ·have gs:aT d (aU e n.2.1 (ep n e).1):=by rw[hc]at Q;exact Q
    have O:Ep k ((false,[],[],()),aU e n.2.1 (ep n e).1,(()),())=some ((cO bq (aU e n.2.1 (ep n e).1),()),((),(),(),())):=mO (by omega) K (dS d) gs;rw[hc,ah];simp only[O,aa];rfl
   ·rw[hc,af]
    rfl
  have J:∀G,zN.l2 k G (f6 d n c (((List.range m).map (di n c t leaf e)).foldl (bK d) s) u,t,iO d e leaf,g,w,([((-9223372036854775808),n.2.2.2.2.1-1,()),(n.2.2.2.2.2.1+1,9223372036854775807,())]:List bo),2,1,())=G (f6 d n c (((List.range m).map (di n c t leaf e)).foldl (bK d) s) u,t,iO d e leaf,g,F,([((-9223372036854775808),n.2.2.2.2.1-1,()),(n.2.2.2.2.2.1+1,9223372036854775807,())]:List bo),2,2,()):=by
   intro G;have I:AS k ((g.1,g.2.1,()),(n.2.2.2.2.2.1+1,(9223372036854775807:Int),()),())=some (eP n e,((),(),())):=by rw[hA];exact jw k g _
   have g1:([((-9223372036854775808),n.2.2.2.2.1-1,()),(n.2.2.2.2.2.1+1,9223372036854775807,())]:List bo)[(1:Int).toNat]?=some (n.2.2.2.2.2.1+1,9223372036854775807,()):=rfl;simp only[f6,iO];simp only[zN.l2];rw[a0b (show(1:Int)<2 by omega),a0b (show(0:Int)<=1/\(1:Int)<(([((-9223372036854775808),n.2.2.2.2.1-1,()),(n.2.2.2.2.2.1+1,9223372036854775807,())]:List bo).length:Int) by simp)];simp only[ah,g1,aa,I,l,w6];have x:F=cO w (cond (eP n e).2.1 (aU e n.2.1 (eP n e).1) bq):=by rw[R,E];rfl
   rw[<-E]at Q;rcases a0n (eP n e).2.1 with hc|hc
   ·have gs:aT d (aU e n.2.1 (eP n e).1):=by rw[hc]at gA;exact gA
    have O:Ep k ((w.1,w.2.1,w.2.2.1,()),aU e n.2.1 (eP n e).1,(()),())=some ((cO w (aU e n.2.1 (eP n e).1),()),((),(),(),())):=mO (by omega) K Q gs;rw[hc]at x;rw[hc,ah,x];simp only[O,aa];rfl
   ·rw[hc]at x
    have:cO w bq=w:=by
     unfold cO;rcases a0n w.1 with h1|h1
     ·rw[cT h1];rfl
     ·rw[cF h1,o7 Q h1]
    rw[hc,af,x,a1q,this]
  have S:∀G,zN.l2 k G (f6 d n c (((List.range m).map (di n c t leaf e)).foldl (bK d) s) u,t,iO d e leaf,g,F,([((-9223372036854775808),n.2.2.2.2.1-1,()),(n.2.2.2.2.2.1+1,9223372036854775807,())]:List bo),2,2,())=some ((),(f6 d n c (bK d (((List.range m).map (di n c t leaf e)).foldl (bK d) s) (false,kX t c (n.2.2.2.2.2.1-n.2.2.2.2.1+1),leaf,uB n e)) u,(),(),())):=by
   intro G;rw[<-R]at P⊢;simp only[f6,iO];simp only[zN.l2];rw[a0i (show¬(2:Int)<2 by omega),af,w3,w4];simp only[oD U,aa];unfold bK;rcases a0n F.1 with hc|hc
   ·rw[cF rfl,bX hc,eS hc]
    refine(l5 U K Qo.b (by omega) (jU t c _) B (show aT d (F.1,F.2.1,F.2.2.1,())from P) _).trans ?_
    rfl
   ·rw[cF rfl,bW hc,gr hc]
  obtain⟨f,hf⟩:∃f,k=f+1+1+1:=⟨k-3,by omega⟩;have Qp:(([((-9223372036854775808),n.2.2.2.2.1-1,()),(n.2.2.2.2.2.1+1,9223372036854775807,())]:List bo).length:Int)=2:=rfl;have T:aG (zN.l2 k) k (f6 d n c (((List.range m).map (di n c t leaf e)).foldl (bK d) s) u,t,iO d e leaf,g,bq,([((-9223372036854775808),n.2.2.2.2.1-1,()),(n.2.2.2.2.2.1+1,9223372036854775807,())]:List bo),2,0,())=some ((),(f6 d n c (bK d (((List.range m).map (di n c t leaf e)).foldl (bK d) s) (false,kX t c (n.2.2.2.2.2.1-n.2.2.2.2.1+1),leaf,uB n e)) u,(),(),())):=by
   conv=>lhs;arg 2;rw[hf]
   rw[aF,H,aF,J,aF,S]
  simp only[f6,iO]at T⊢;simp only[zN.l0];rw[a0i (show¬n.2.2.2.2.1+(m:Int)<=n.2.2.2.2.2.1 by omega),af,w1,w2];exact T
def Py {k:Nat} (o:4194304<k) {d:ar} (p:aN d=true) {n:aV} (h:bm d n=true) (v:n.1=11\/n.1=12) (a:Int) {t:List bM} (w:bf t=true) {leaf:Int} (f:dM d leaf) {e:aK} (q:aT d e) (x:e.1=true) {s:List az×List az} (y:gH d s) (D:s.1.length+s.2.length<=80000) (i:Int):z7.h23 k (f6 d n a s i,t,iO d e leaf,())=some ((),(f6 d n a (bK d s (false,t,leaf,c8 d leaf (dq d n.2.2.2.1) true e)) (dg i (bJ (aB d e leaf (dq d n.2.2.2.1)))),(),(),())):=by
 have z:=Bx h (by omega);obtain⟨r,A,B,C⟩:=d5 (show bO d n.2.2.2.1≠0 by omega);have j:(dq d n.2.2.2.1).kind=2:=by rw[<-B];exact z
 have l:=mX o p q x leaf r j C true A a s i;have u:=dF leaf r true q;obtain⟨c,m⟩:∃g,g=c8 d leaf (dq d n.2.2.2.1) true e:=⟨_,rfl⟩;rw[<-m]at u l⊢;simp only[f6,iO]at l⊢;simp only[z7.h23,l,aa];unfold bK;rcases a0n c.1 with hc|hc
 ·rw[cF rfl,bX hc,eS hc]
  refine(l5 o p y.b (by omega) w f (show aT d (c.1,c.2.1,c.2.2.1,())from u) _).trans ?_
  rfl
 ·rw[cF rfl,bW hc,gr hc]
def NE {k:Nat} (q:4194304<k) {d:ar} (y:aN d=true) {n:aV} (h:bm d n=true) (i:n.1=11\/n.1=12) (a:Int) {t:List bM} (z:bf t=true) {leaf:Int} (j:dM d leaf) {e:aK} (r:aT d e) (u:e.1=true) {s:List az×List az} (A:gH d s) (B:s.1.length+s.2.length<=80000) (c:Int):z7.h20 k (f6 d n a s c,t,iO d e leaf,())=some ((),(f6 d n a ((bI d n a t leaf e).foldl (bK d) s) (dg c (bD d n leaf e)),(),(),())):=by
 have J:=Bx h (by omega);obtain⟨w,C,K,D⟩:=d5 (show bO d n.2.2.2.1≠0 by omega);obtain⟨x,L,M⟩:=ba r u;have l:=(ce x leaf w).2;have E:bI d n a t leaf e=[(false,t,leaf,c8 d leaf (dq d n.2.2.2.1) true e)]:=by
  unfold bI;rw[a0c (by omega),a0c (by omega),a0c (by omega),a0c (by omega),a0c (by omega),a0c (by omega),a0e (by omega)]
 have g:=mW q x leaf w D n a s c;rw[<-C]at g;have b:=λm=>Py q y h i a z j r u A B m
 rw[E,a1u,a2s];obtain⟨v,f⟩:∃v,v=aB d e leaf (dq d n.2.2.2.1):=⟨_,rfl⟩;have F:v.2.2.1=aC v:=rfl;have G:Em k ((v.1,v.2.1,()),0,())=some ((eG (bu v) 0,()),((),(),())):=mH k _ _;rw[<-f]at g l b;have o:bD d n leaf e=if n.1=11 then cond (aC v&& eG (bu v) 0) (dg (bJ v) 8) (bJ v)else bJ v:=by
  unfold bD;rw[a0c (by omega),a0c (by omega),<-f]
 rw[o];have H:(br k (n.1==11) (br k v.2.2.1 (some (eG (bu v) 0,())) (some (false,()))) (some (false,())):Option (Bool×Unit))=some ((n.1==11)&& (aC v&& eG (bu v) 0),()):=by
  rw[F]
  cases (n.1==11)<;>cases aC v<;>simp
 simp only[f6,iO]at g b⊢;simp only[z7.h20,g,aa,G,H,a0d,mZ];rcases a0n ((n.1==11)&& (aC v&& eG (bu v) 0))with hc|hc
 ·rw[hc,ah]
  refine(b (dg (dg c (bJ v)) 8)).trans ?_
  simp only[a0f,a2w]at hc;rw[a0e hc.1,cT (by rw[hc.2.1,hc.2.2];rfl)];have:dg (dg (dg c (bJ v)) 8) (bJ v)=dg c (dg (bJ v) 8):=by
   rw[cY,cY,EX 8,OC l]
  rw[this]
 ·rw[hc,af]
  refine(b (dg c (bJ v))).trans ?_
  rw[cY,ro l];by_cases p:n.1=11
  ·rw[a0e p]
   have I:(n.1==11)=true:=by simp[p]
   rw[I,a1i]at hc;rw[cF hc]
  ·rw[a0c p]
def Pz {k:Nat} (p:4194304<k) {d:ar} (q:aN d=true) {n:aV} (h:bm d n=true) (B:n.1=7\/n.1=8\/n.1=13\/n.1=14) (a:Int) {t:List bM} (x:bf t=true) {leaf:Int} (f:dM d leaf) {e:aK} (r:aT d e) (m:e.1=true) {s:List az×List az} (u:gH d s) (y:s.1.length+s.2.length<=80000) {v:Int} (o:ay v):z7.h24 k (f6 d n a s v,t,iO d e leaf,n.1,())=some ((),(f6 d n a ((bI d n a t leaf e).foldl (bK d) s) (dg v (bD d n leaf e)),(),(),())):=by
 by_cases g:n.1=13
 ·have c:(n.1==13)=true:=by simp[g]
  have i:=ND p q h g a t f r m u y o;obtain⟨S,z⟩:∃S,S=(bI d n a t leaf e).foldl (bK d) s:=⟨_,rfl⟩;rw[<-z]at i⊢;simp only[f6,iO]at i⊢;simp only[z7.h24,c,ah,i,aa]
 ·have c:(n.1==13)=false:=by simpa using g
  have A:bD d n leaf e=0:=by unfold bD;rw[a0e (by omega)]
  rw[A,gD o];by_cases j:n.1=14
  ·have l:(n.1==14)=true:=by simp[j]
   have w:bI d n a t leaf e=[(false,[],leaf,e)]:=by
    unfold bI;rw[a0c (by omega),a0c (by omega),a0c (by omega),a0c (by omega),a0c (by omega),a0e j]
   rw[w,a1u,a2s];simp only[f6,iO];simp only[z7.h24,c,af,l,ah];unfold bK;rw[cF rfl,bX m,eS m];refine(l5 p q u.b (by omega) (show bf []=true from rfl) f (show aT d (e.1,e.2.1,e.2.2.1,())from r) _).trans ?_
   rfl
  ·have l:(n.1==14)=false:=by simpa using j
   have w:bI d n a t leaf e=[(false,t,leaf,e)]:=by
    unfold bI;rw[a0c (by omega),a0c (by omega),a0c (by omega),a0c (by omega),a0c (by omega),a0c (by omega),a0c (by omega),a0e (by omega)]
   rw[w,a1u,a2s];simp only[f6,iO];simp only[z7.h24,c,af,l];unfold bK;rw[cF rfl,bX m,eS m];refine(l5 p q u.b (by omega) x f (show aT d (e.1,e.2.1,e.2.2.1,())from r) _).trans ?_
   rfl
def OO {k:Nat} (u:4194304<k) {d:ar} (o:aN d=true) {n:aV} (h:bm d n=true) (a:Int) {t:List bM} (w:bf t=true) {leaf:Int} (i:dM d leaf) {e:aK} (p:aT d e) (l:e.1=true) {s:List az×List az} (C:gH d s) (L:s.1.length+s.2.length<=80000) {m:Int} (M:ay m):z7 k (f6 d n a s m,t,iO d e leaf,())=some ((),(f6 d n a ((bI d n a t leaf e).foldl (bK d) s) (dg m (bD d n leaf e)),(),(),())):=by
 have Ql:=pd h;obtain⟨Z,hi,hr⟩:=ba p l;have hR:=kN p l;have N:=(bx o p).1;by_cases I:n.1=1
 ·obtain⟨O,hx⟩:=IJ h I
  obtain⟨x1,x2,x3,x4⟩:=d5 (show bO d n.2.2.2.1≠0 by omega);have x:(n.1==1)=true:=by simp[I]
  have P:bI d n a t leaf e=[(false,t,leaf,cond (aC (aB d e leaf (dq d n.2.2.2.1))) (aU e n.2.1 (bu (aB d e leaf (dq d n.2.2.2.1)))) bq)]:=by
   unfold bI;rw[a0e I]
  have la:bD d n leaf e=bJ (aB d e leaf (dq d n.2.2.2.1)):=by
   unfold bD;rw[a0c (by omega),a0c (by omega),a0c (by omega)]
  rw[P,la,a1u,a2s];have y:=mW u Z leaf x1 x4 n a s m;rw[<-x2]at y;obtain⟨v,E⟩:∃v,v=aB d e leaf (dq d n.2.2.2.1):=⟨_,rfl⟩;have fv:bc (bu v):=by rw[E];exact(ce Z leaf x1).1
  have ov:Lm v:=by rw[E];exact(iK hR leaf x1).1
  rw[<-E]at y⊢;have ea:v.2.2.1=aC v:=rfl;have q:Ir k ((e.1,e.2.1,e.2.2.1,()),n.2.1,(v.1,v.2.1,()),())=some ((aU e n.2.1 (bu v),()),((),(),(),())):=qi k N ⟨O.1,by rw[Z.ints];exact O.2⟩ _;simp only[f6,iO]at y⊢;simp only[z7,x,ah,y,aa,q];unfold bK;rcases a0n (aC v)with hc|hc
  ·have J:=fe p l n.2.1 fv (ov hc)
   have r:(aU e n.2.1 (bu v)).1=true:=l;rw[ea,hc,ah,cF rfl,cT rfl,bX r,eS r];refine(l5 u o C.b (by omega) w i (show aT d ((aU e n.2.1 (bu v)).1,(aU e n.2.1 (bu v)).2.1,(aU e n.2.1 (bu v)).2.2.1,())from J) _).trans ?_
   rfl
  ·rw[ea,hc,af,cF rfl,cF rfl,bW rfl]
 have x:(n.1==1)=false:=by simpa using I
 by_cases Q:n.1=2
 ·have z:(n.1==2)=true:=by simp[Q]
  have c:=ON u o h Q a w i p l C L m;obtain⟨S,A⟩:∃S,S=(bI d n a t leaf e).foldl (bK d) s:=⟨_,rfl⟩;rw[<-A]at c⊢;simp only[f6,iO]at c⊢;simp only[z7,x,z,ah,af,c,aa]
 have z:(n.1==2)=false:=by simpa using Q
 by_cases R:n.1=3
 ·have D:(n.1==3)=true:=by simp[R]
  have c:=NB u o h R a (leaf:=leaf) p l s m;have P:bI d n a t leaf e=[(false,t,leaf,yU d n leaf e)]:=by
   unfold bI;rw[a0c I,a0c Q,a0e R];rfl
  have T:=mV o h a w i p l;rw[P]at T⊢;have J:aT d (yU d n leaf e):=(T _ a5o).e;obtain⟨g,hg⟩:∃g,g=yU d n leaf e:=⟨_,rfl⟩;rw[<-hg]at J c⊢;rw[a1u,a2s];simp only[f6,iO]at c⊢;simp only[z7,x,z,D,ah,af,c,aa];unfold bK;rcases a0n g.1 with hc|hc
  ·rw[cF rfl,bX hc,eS hc]
   refine(l5 u o C.b (by omega) w i (show aT d (g.1,g.2.1,g.2.2.1,())from J) _).trans ?_
   rfl
  ·rw[cF rfl,bW hc,gr hc]
 have D:(n.1==3)=false:=by simpa using R
 by_cases h4:n.1=4
 ·have F:(n.1==4)=true:=by simp[h4]
  obtain⟨O,c0,c1,c2⟩:=Nz h h4;have P:bI d n a t leaf e=[(false,t,leaf,aU e n.2.1 (n.2.2.2.2.1,n.2.2.2.2.2.1,()))]:=by
   unfold bI;rw[a0c I,a0c Q,a0c R,a0e h4]
  have la:bD d n leaf e=0:=by unfold bD;rw[a0e (by omega)]
  have T:=mV o h a w i p l;rw[P]at T⊢;rw[la,gD M];have J:aT d (aU e n.2.1 (n.2.2.2.2.1,n.2.2.2.2.2.1,())):=(T _ a5o).e;have r:(aU e n.2.1 (n.2.2.2.2.1,n.2.2.2.2.2.1,())).1=true:=l;have q:Ir k ((e.1,e.2.1,e.2.2.1,()),n.2.1,(n.2.2.2.2.1,n.2.2.2.2.2.1,()),())=some ((aU e n.2.1 (n.2.2.2.2.1,n.2.2.2.2.2.1,()),()),((),(),(),())):=qi k N ⟨O.1,by rw[Z.ints];exact O.2⟩ _;rw[a1u,a2s];simp only[f6,iO];simp only[z7,x,z,D,F,ah,af,q,aa];unfold bK;rw[cF rfl,bX r,eS r];refine(l5 u o C.b (by omega) w i J _).trans ?_
  rfl
 have F:(n.1==4)=false:=by simpa using h4
 have f:n.1=5\/n.1=6\/n.1=9\/n.1=10->z7.h17 k (f6 d n a s m,t,iO d e leaf,())=some ((),(f6 d n a ((bI d n a t leaf e).foldl (bK d) s) (dg m (bD d n leaf e)),(),(),())):=by
  intro U;have c:=Lu u o h U a w i p l C L m;obtain⟨S,A⟩:∃S,S=(bI d n a t leaf e).foldl (bK d) s:=⟨_,rfl⟩;rw[<-A]at c⊢;simp only[f6,iO]at c⊢;simp only[z7.h17,c,aa]
 have j:¬(n.1=5\/n.1=6\/n.1=9\/n.1=10)->z7.h18 k (f6 d n a s m,t,iO d e leaf,n.1,())=some ((),(f6 d n a ((bI d n a t leaf e).foldl (bK d) s) (dg m (bD d n leaf e)),(),(),())):=by
  intro U;obtain⟨S,A⟩:∃S,S=(bI d n a t leaf e).foldl (bK d) s:=⟨_,rfl⟩;by_cases V:n.1=11
  ·have c:=NE u o h (by omega) a w i p l C L m
   have B:(n.1==11)=true:=by simp[V]
   rw[<-A]at c⊢;simp only[f6,iO]at c⊢;simp only[z7.h18,B,ah,mZ,c]
  ·have B:(n.1==11)=false:=by simpa using V
   by_cases W:n.1=12
   ·have c:=NE u o h (by omega) a w i p l C L m
    have G:(n.1==12)=true:=by simp[W]
    rw[<-A]at c⊢;simp only[f6,iO]at c⊢;simp only[z7.h18,B,G,ah,af,mZ,c]
   ·have c:=Pz u o h (by omega) a w i p l C L M
    have G:(n.1==12)=false:=by simpa using W
    rw[<-A]at c⊢;simp only[f6,iO]at c⊢;simp only[z7.h18,B,G,ah,af,mZ,c]
 obtain⟨S,A⟩:∃S,S=(bI d n a t leaf e).foldl (bK d) s:=⟨_,rfl⟩;rw[<-A]at f j⊢;by_cases U:n.1=5
 ·have c:=f (by omega)
  have K:(n.1==5)=true:=by simp[U]
  simp only[f6,iO]at c⊢;simp only[z7,x,z,D,F,K,ah,af,mZ,c]
 have K:(n.1==5)=false:=by simpa using U
 by_cases h6:n.1=6
 ·have c:=f (by omega)
  have X:(n.1==6)=true:=by simp[h6]
  simp only[f6,iO]at c⊢;simp only[z7,x,z,D,F,K,X,ah,af,mZ,c]
 have X:(n.1==6)=false:=by simpa using h6
 by_cases h9:n.1=9
 ·have c:=f (by omega)
  have b9:(n.1==9)=true:=by simp[h9]
  simp only[f6,iO]at c⊢;simp only[z7,x,z,D,F,K,X,b9,ah,af,mZ,c]
 have b9:(n.1==9)=false:=by simpa using h9
 by_cases Y:n.1=10
 ·have c:=f (by omega)
  have H:(n.1==10)=true:=by simp[Y]
  simp only[f6,iO]at c⊢;simp only[z7,x,z,D,F,K,X,b9,H,ah,af,mZ,c]
 have H:(n.1==10)=false:=by simpa using Y
 have c:=j (by omega);simp only[f6,iO]at c⊢;simp only[z7,x,z,D,F,K,X,b9,H,ah,af,mZ,c]
abbrev gI:=Int×List az×Unit
abbrev sX:=List gI×Int×Bool×Unit
def dy (d:ar) (n:aV) (a:Int) (t:List bM) (T:List aK) (j:Nat):List oG:=cond (T.getD j bq).1 (bI d n a t (j:Int) (T.getD j bq)) []
def kO (d:ar) (n:aV) (T:List aK) (j:Nat):Int:=cond (T.getD j bq).1 (bD d n (j:Int) (T.getD j bq)) 0
def kP (d:ar) (n:aV) (a:Int) (p:az):List oG:=(List.range p.2.1.length).flatMap (dy d n a p.1 p.2.1)
def hU (d:ar) (n:aV) (b:Int) (p:az):Int:=(List.range p.2.1.length).foldl (λa j=>dg a (kO d n p.2.1 j)) b
def ff (d:ar) (n:aV) (a:Int) (l:List az):List oG:=l.flatMap (kP d n a)
def qn (d:ar) (n:aV) (l:List az):Int:=l.foldl (hU d n) 0
def kQ (d:ar) (n:aV) (a:Int) (l:List az):List az×List az:=(ff d n a l).foldl (bK d) ([],[])
def pf (a b:Int) (s:List az×List az):List gI:=(if s.1.length>0 then [(a+1,s.1,())]else [])++(if s.2.length>0 then [(b,s.2,())]else [])
def l6 (d:ar) (n:aV) (a b:Int) (l:List az):sX:=cond (decide ((kQ d n a l).1.length>100)||decide ((kQ d n a l).2.length>100)) ([],0,true,()) (pf a b (kQ d n a l),qn d n l,false,())
def Fu (d:ar):dx d []:=⟨λx a=>(by cases a),List.Pairwise.nil⟩
def sY (d:ar):gH d ([],[]):=⟨Fu d,Fu d⟩
def pG {d:ar} (i:aN d=true) {n:aV} (h:bm d n=true) (b:Int) {p:az} (c:im d p) {j:Nat} (g:j<p.2.1.length):(∀a∈dy d n b p.1 p.2.1 j,yO d a)/\(dy d n b p.1 p.2.1 j).length<=5:=by
 have k:p.2.1.getD j bq∈p.2.1:=by rw[aZ g];exact a0h g
 have l:=c.m.e _ k;have f:dM d (j:Int):=⟨by omega,by
  have:=c.m.n;have o:((j:Nat):Int)<((2^d.2.1.length:Nat):Int):=by omega
  simpa using o⟩
 unfold dy;rcases a0n (p.2.1.getD j bq).1 with hc|hc
 ·rw[cT hc];exact⟨mV i h b c.t f l hc,Lt h _ _ _ _⟩
 ·rw[cF hc];exact⟨λa q=>(by cases q),a4q _⟩
def lE {α β:Type} (f:α->List β) (b:Nat):∀(l:List α),(∀x∈l,(f x).length<=b)->(l.flatMap f).length<=l.length*b
 |[],_=>by simp
 |x::l,h=>by
  have c:=lE f b l (λy a=>h y (by simp[a]));have d:=h x (by simp);simp only[a6m,a0m,a0o,a1d];omega
def jo {d:ar} (c:aN d=true) {n:aV} (h:bm d n=true) (b:Int) {p:az} (e:im d p) {m:Nat} (i:m<=p.2.1.length):(∀a∈(List.range m).flatMap (dy d n b p.1 p.2.1),yO d a)/\((List.range m).flatMap (dy d n b p.1 p.2.1)).length<=40:=by
 have k:=fV c e.m;refine⟨λa f=> ?_,?_⟩
 ·obtain⟨j,g,f⟩:=a3s.1 f
  exact(pG c h b e (by have:=a2h.1 g;omega)).1 a f
 ·have:=lE (dy d n b p.1 p.2.1) 5 (List.range m) (λj g=>(pG c h b e (by have:=a2h.1 g;omega)).2)
  rw[a5v]at this;omega
def jq {d:ar} (f:aN d=true) {n:aV} (h:bm d n=true) (b:Int) {l:List az} (g:∀p∈l,im d p):(∀a∈ff d n b l,yO d a)/\(ff d n b l).length<=l.length*40:=by
 refine⟨λa c=> ?_,lE _ 40 l λp e=>(jo f h b (g p e) (a1l _)).2⟩;obtain⟨p,e,c⟩:=a3s.1 c;exact(jo f h b (g p e) (a1l _)).1 a c
def HV {d:ar} (b:aN d=true) {n:aV} (h:bm d n=true) (a:Int) {l:List az} (c:∀p∈l,im d p):gH d (kQ d n a l):=io (sY d) (jq b h a c).1
def lq (f:Nat->Int):∀(l:List Nat) {b:Int},ay b->ay (l.foldl (λa j=>dg a (f j)) b)
 |[],b,h=>h
 |j::l,b,h=>lq f l (rq _ _)
def Fv {d:ar} {n:aV} {b:Int} (a:ay b) (p:az):ay (hU d n b p):=lq _ _ a
def oI (d:ar) (n:aV):∀(l:List az) {a:Int},ay a->ay (l.foldl (hU d n) a)
 |[],a,h=>h
 |p::l,a,h=>oI d n l (Fv h p)
def yW {α β:Type} (f:Nat->List β) (i:Nat):(List.range (i+1)).flatMap f=(List.range i).flatMap f++f i:=by
 rw[a6y,a6d];simp
def yX {α:Type} (f:α->Nat->α) (z:α) (i:Nat):(List.range (i+1)).foldl f z=f ((List.range i).foldl f z) i:=by
 rw[a6y,a3g];rfl
def Am {k:Nat} (N:4194304<k) (p:dw) {d:ar} (z:d=aw p) (B:aN d=true) {n:aV} (h:bm d n=true) (C:List Int) (c:Int) {q:az} (u:im d q) {s:List az×List az} (O:gH d s) (V:s.1.length+s.2.length<=70000) {v:Int} (D:ay v) (g:sX) (l:List az) (len o:Int) (G0):aG (qY.l2 k G0) k (C,c,(p.1,p.2.1,p.2.2.1,p.2.2.2.1,()),(g.1,g.2.1,g.2.2.1,()),f6 d n c s v,(q.1,q.2.1,()),l,len,o,q.2.1,(q.2.1.length:Int),0,())=G0 (C,c,(p.1,p.2.1,p.2.2.1,p.2.2.2.1,()),(g.1,g.2.1,g.2.2.1,()),f6 d n c ((kP d n c q).foldl (bK d) s) (hU d n v q),l,len,wrap .i64 (o+1),()):=by
 have W:=fV B u.m;refine aR (b:=qY.l2 k G0) (λi=>(C,c,(p.1,p.2.1,p.2.2.1,p.2.2.2.1,()),(g.1,g.2.1,g.2.2.1,()),f6 d n c (((List.range i).flatMap (dy d n c q.1 q.2.1)).foldl (bK d) s) ((List.range i).foldl (λa j=>dg a (kO d n q.2.1 j)) v),(q.1,q.2.1,()),l,len,o,q.2.1,(q.2.1.length:Int),(i:Int),())) q.2.1.length (λG i y=> ?_) (λG=> ?_) (by omega)
 ·obtain⟨P,X⟩:=jo B h c u (m:=i) (by omega)
  have L:=io O P;have Q:=kK d ((List.range i).flatMap (dy d n c q.1 q.2.1)) s;have r:=lq (kO d n q.2.1) (List.range i) D;have x:q.2.1.getD i bq=q.2.1[i]:=aZ y _;have E:=u.m.e _ (a0h y);have F:dM d (i:Int):=⟨by omega,by
   have:=u.m.n;have R:((i:Nat):Int)<((2^d.2.1.length:Nat):Int):=by omega
   simpa using R⟩
  rw[yW (α:=Nat),yX,a3g];obtain⟨S,T⟩:∃S,S=((List.range i).flatMap (dy d n c q.1 q.2.1)).foldl (bK d) s:=⟨_,rfl⟩;obtain⟨A,U⟩:∃A,A=(List.range i).foldl (λa j=>dg a (kO d n q.2.1 j)) v:=⟨_,rfl⟩;rw[<-T]at L Q⊢;rw[<-U]at r⊢;have w:=au (i:=i) (by omega);have H:dy d n c q.1 q.2.1 i=cond q.2.1[i].1 (bI d n c q.1 (i:Int) q.2.1[i]) []:=by unfold dy;rw[x]
  have I:kO d n q.2.1 i=cond q.2.1[i].1 (bD d n (i:Int) q.2.1[i]) 0:=by unfold kO;rw[x]
  rw[H,I];rcases a0n q.2.1[i].1 with hc|hc
  ·have f:=OO N B h c u.t F E hc L (by omega) r
   rw[cT hc,cT hc];obtain⟨M,J⟩:∃M,M=(bI d n c q.1 (i:Int) q.2.1[i]).foldl (bK d) S:=⟨_,rfl⟩;rw[<-J]at f⊢;have K:d.1=p.1/\d.2.1=p.2.1/\d.2.2.1=p.2.2.1:=by rw[z];exact⟨rfl,rfl,rfl⟩
   simp only[f6,iO]at f⊢;rw[K.1,K.2.1,K.2.2]at f⊢;simp only[qY.l2];rw[a0b (show(i:Int)<(q.2.1.length:Int) by omega),a0b (show(0:Int)<=(i:Int) by omega)];simp only[ah,a0g,a0a y,aa];rw[w,hc,ah];rw[hc]at f;simp only[f,aa]
  ·rw[cF hc,cF hc,gD r,a2s]
   simp only[f6];simp only[qY.l2];rw[a0b (show(i:Int)<(q.2.1.length:Int) by omega),a0b (show(0:Int)<=(i:Int) by omega)];simp only[ah,a0g,a0a y,aa];rw[w,hc,af]
 ·simp only[f6]
  simp only[qY.l2];rw[a0i (show¬(q.2.1.length:Int)<(q.2.1.length:Int) by omega),af];rfl
def yY {α β:Type} (f:α->List β) {l:List α} {i:Nat} (a:i<l.length):(l.take (i+1)).flatMap f=(l.take i).flatMap f++f l[i]:=by
 rw[a2e a,a6d];simp
def P3 (n:Nat):decide ((n:Int)>100)=decide (n>100):=by
 by_cases h:n>100
 ·rw[a0b h,a0b (by omega)]
 ·rw[a0i h,a0i (by omega)]
def Lv {k:Nat} (Q:4194304<k) (p:dw) (D:aN (aw p)=true) {n:aV} (h:bm (aw p) n=true) {a:Nat} (E:p.2.2.2.1[a]?=some n) (R:a<=1000) (m:List Int) {c:Int} (F:m[a]?=some c) {l:List az} (H:∀q∈l,im (aw p) q) (hn:l.length<=1000):qY k (p,m,(a:Int),l,())=some ((l6 (aw p) n (a:Int) c l,()),((),(),(),(),())):=by
 simp only[qY,a0b (show 0<=(a:Int) by omega),ah,a0g,E,aa];have N:=(jq D h (a:Int) H).2;have e:∀G,qY.l0 k G (m,(a:Int),(p.1,p.2.1,p.2.2.1,p.2.2.2.1,()),([],0,false,()),f6 (aw p) n (a:Int) (kQ (aw p) n (a:Int) l) (qn (aw p) n l),l,(l.length:Int),(l.length:Int),())=some ((l6 (aw p) n (a:Int) c l,()),((),(),(),(),())):=by
  intro G;have s:l6 (aw p) n (a:Int) c l=cond (decide ((kQ (aw p) n (a:Int) l).1.length>100)||decide ((kQ (aw p) n (a:Int) l).2.length>100)) ([],0,true,()) (pf (a:Int) c (kQ (aw p) n (a:Int) l),qn (aw p) n l,false,()):=rfl;obtain⟨S,z⟩:∃S,S=kQ (aw p) n (a:Int) l:=⟨_,rfl⟩;obtain⟨A,B⟩:∃A,A=qn (aw p) n l:=⟨_,rfl⟩;rw[<-z,<-B]at s;rw[<-z,<-B,s];have w1:wrap .i64 ((a:Int)+1)=(a:Int)+1:=am (by omega) (by omega);simp only[f6];simp only[qY.l0];rw[a0i (show¬(l.length:Int)<(l.length:Int) by omega),af,P3,P3,w1];have I:(br k (decide (S.1.length>100)) (some (true,())) (some (decide (S.2.length>100),())):Option (Bool×Unit))=some (decide (S.1.length>100)||decide (S.2.length>100),()):=by
   cases decide (S.1.length>100)<;>simp
  rw[I,a0d]
  cases (decide (S.1.length>100)||decide (S.2.length>100))
  ·simp only[af,a1q,a0b (show 0<=(a:Int) by omega),ah,a0g,F,aa]
   obtain⟨f,T⟩:∃f,k=f+1+1+1:=⟨k-3,by omega⟩;have t:(([((a:Int)+1,S.1,()),(c,S.2,())]:List gI).length:Int)=2:=rfl;have U:([((a:Int)+1,S.1,()),(c,S.2,())]:List gI)[(0:Int).toNat]?=some ((a:Int)+1,S.1,()):=rfl;have V:([((a:Int)+1,S.1,()),(c,S.2,())]:List gI)[(1:Int).toNat]?=some (c,S.2,()):=rfl;have W:wrap .i64 (0+1)=1:=am (by omega) (by omega);have X:wrap .i64 (1+1)=2:=am (by omega) (by omega);have u:∀(o:List gI) (x:gI),o.length<=1->(o.length+([x]:List gI).length)*32<=ai:=by intro o x O;simp only[a0o,a0q,ai];omega
   have g:∀G,qY.l4 k G (([],0,false,()),([],A,false,()),([((a:Int)+1,S.1,()),(c,S.2,())]:List gI),2,0,())=G (([],0,false,()),(if S.1.length>0 then [((a:Int)+1,S.1,())]else [],A,false,()),([((a:Int)+1,S.1,()),(c,S.2,())]:List gI),2,1,()):=by
    intro G;simp only[qY.l4];rw[a0b (show(0:Int)<2 by omega),ah,a0b (show(0:Int)<=0/\(0:Int)<(([((a:Int)+1,S.1,()),(c,S.2,())]:List gI).length:Int) by rw[t];omega),ah,U,aa,W];by_cases v:S.1.length>0
    ·rw[a0b (show((S.1.length:Nat):Int)>0 by omega),ah,a0b (u [] _ (a4q _)),ah,a0e v]
     rfl
    ·rw[a0i (show¬((S.1.length:Nat):Int)>0 by omega),af,a0c v]
   have j:∀G o,o.length<=1->qY.l4 k G (([],0,false,()),(o,A,false,()),([((a:Int)+1,S.1,()),(c,S.2,())]:List gI),2,1,())=G (([],0,false,()),(o++(if S.2.length>0 then [(c,S.2,())]else []),A,false,()),([((a:Int)+1,S.1,()),(c,S.2,())]:List gI),2,2,()):=by
    intro G o O;simp only[qY.l4];rw[a0b (show(1:Int)<2 by omega),ah,a0b (show(0:Int)<=1/\(1:Int)<(([((a:Int)+1,S.1,()),(c,S.2,())]:List gI).length:Int) by rw[t];omega),ah,V,aa,X];by_cases v:S.2.length>0
    ·rw[a0b (show((S.2.length:Nat):Int)>0 by omega),ah,a0b (u o _ O),ah,a0e v]
    ·rw[a0i (show¬((S.2.length:Nat):Int)>0 by omega),af,a0c v,a2b]
   have y:∀G o,qY.l4 k G (([],0,false,()),(o,A,false,()),([((a:Int)+1,S.1,()),(c,S.2,())]:List gI),2,2,())=some (((o,A,false,()),()),((),(),(),(),())):=by
    intro G o;simp only[qY.l4];rw[a0i (show¬(2:Int)<2 by omega),af]
   have J:aG (qY.l4 k) k (([],0,false,()),([],A,false,()),([((a:Int)+1,S.1,()),(c,S.2,())]:List gI),2,0,())=some (((pf (a:Int) c S,A,false,()),()),((),(),(),(),())):=by
    conv=>lhs;arg 2;rw[T]
    rw[aF,g,aF,j _ _ (by split<;>simp),aF,y];rfl
   exact J
  ·simp only[ah,a0z]
 refine Eq.trans ?_ (Eq.trans (aR (b:=qY.l0 k) (λi=>(m,(a:Int),(p.1,p.2.1,p.2.2.1,p.2.2.2.1,()),([],0,false,()),f6 (aw p) n (a:Int) ((ff (aw p) n (a:Int) (l.take i)).foldl (bK (aw p)) ([],[])) ((l.take i).foldl (hU (aw p) n) 0),l,(l.length:Int),(i:Int),())) l.length (r:=some ((l6 (aw p) n (a:Int) c l,()),((),(),(),(),()))) (λG i C=> ?_) (λG=> ?_) (f:=k) (by omega)) rfl)
 ·rfl
 ·have K:=H _ (a0h C)
  obtain⟨Y,Z⟩:=jq D h (a:Int) (l:=l.take i) (λq hq=>H q (a3i hq));have sg:=io (sY (aw p)) Y;have sl:=kK (aw p) (ff (aw p) n (a:Int) (l.take i)) ([],[]);have L:=oI (aw p) n (l.take i) bC;rw[a1m]at Z;simp only[a0q]at sl;have d:=λG0=>Am Q p rfl D h m (a:Int) K sg (by omega) L ([],0,false,()) l (l.length:Int) (i:Int) G0
  have e1:(ff (aw p) n (a:Int) (l.take (i+1)))=ff (aw p) n (a:Int) (l.take i)++kP (aw p) n (a:Int) l[i]:=yY _ C;have e2:(l.take (i+1)).foldl (hU (aw p) n) 0=hU (aw p) n ((l.take i).foldl (hU (aw p) n) 0) l[i]:=eO _ _ _ C;rw[e1,e2,a3g];obtain⟨S,z⟩:∃S,S=(ff (aw p) n (a:Int) (l.take i)).foldl (bK (aw p)) ([],[]):=⟨_,rfl⟩;obtain⟨A,B⟩:∃A,A=(l.take i).foldl (hU (aw p) n) 0:=⟨_,rfl⟩;rw[<-z,<-B]at d⊢;have w:=au (i:=i) (by omega);rw[w]at d;obtain⟨P,M⟩:∃P,P=(kP (aw p) n (a:Int) l[i]).foldl (bK (aw p)) S:=⟨_,rfl⟩;rw[<-M]at d⊢;simp only[f6]at d⊢;simp only[qY.l0];rw[a0b (show(i:Int)<(l.length:Int) by omega),a0b (show(0:Int)<=(i:Int) by omega)];simp only[ah,a0g,a0a C,aa];exact d G
 ·rw[a1f]
  exact e G
abbrev Qc:=eQ×eQ×List pm×List az×List az×Int×Unit
def kR (d:ar) (s:List az×List az) (a:Int):Qc:=(d.1,d.2.1,d.2.2.1,s.1,s.2,a,())
def iL {k:Nat} (q:4194304<k) {d:ar} (h:aN d=true) {s:List az×List az} (j:gH d s) (D:s.1.length+s.2.length<=90000) (m:Int) (c:Bool) {t:List bM} (r:bf t=true) {leaf:Int} (f:dM d leaf) {e:aK} (u:aT d e):nb k (kR d s m,c,t,leaf,e,())=some ((),(kR d (bK d s (c,t,leaf,e)) m,(),(),(),(),())):=by
 have v:=(dZ h).2.1;obtain⟨w,x,y,z⟩:=Dd h;have g:zP k ((d.1,d.2.1,d.2.2.1,()),())=some ((List.replicate (2^d.2.1.length) bq,()),((),())):=by
  have A:zO k ((d.1,d.2.1,d.2.2.1,()),())=some (((2:Int)^d.2.1.length,()),((),())):=sO k d v;simp only[zP,A,aa];rw[a0b ⟨w,x,y⟩,ah,z];rfl
 have i:leaf.toNat<2^d.2.1.length:=by have:=f.1;have:=f.2;omega
 have n:∀l,dx d l->l.length<=90000->J0 k (l,(t,kJ d leaf e,()),false,[],())=some ((f7 none l (t,kJ d leaf e,()),()),((),(),(),(),())):=λl B C=>HS q h none [] B (by omega) ⟨r,lp u⟩
 have o:=n s.1 j.a (by omega);have p:=n s.2 j.b (by omega);unfold kJ at o p;simp only[kR];simp only[nb,g,aa];unfold bK;rcases a0n e.1 with hc|hc
 ·rw[eS hc,a0b (show 0<=leaf/\leaf<((List.replicate (2^d.2.1.length) bq).length:Int) by rw[a1p];have:=f.1;omega),ah,a0a (by rw[a1p];exact i),aa]
  cases c
  ·rw[af,p,aa,cF rfl,bX hc]
   rfl
  ·rw[ah,o,aa,cT rfl,bX hc]
   rfl
 ·rw[gr hc]
  cases c
  ·rw[cF rfl,bW hc]
  ·rw[cT rfl,bW hc]
def Fw {k:Nat} (p:4194304<k) {n:aV} (a:Int) {t:List bM} (q:bf t=true) (f:n.1≠13) (g:n.1≠14) (z:Int):tU k (n,a,t,true,z,())=some ((gO n a t,()),((),(),(),(),(),())):=by
 have i:=pc q;have j:=Ak (k:=k) (by omega) i a;have l:(n.1==13)=false:=by simpa using f
 have m:(n.1==14)=false:=by simpa using g
 simp only[tU,yg,oF p,j,aa,l,m,af,ah,a0d,gO];by_cases d:n.1=6
 ·have o:(n.1==6)=true:=by simp[d]
  rw[o,ah,a0e d];rfl
 ·have o:(n.1==6)=false:=by simpa using d
  rw[o,af,a0c d];by_cases b:n.1=10
  ·have c:(n.1==10)=true:=by simp[b]
   rw[c,ah,a0d];by_cases e:fc t a<n.2.2.2.2.1
   ·rw[a0e ⟨b,e⟩,a0b e,ah]
   ·rw[a0c (λh=>e h.2),a0i e,af]
  ·have c:(n.1==10)=false:=by simpa using b
   rw[c,af,a0d,af,a0c (λh=>b h.1)]
def yZ {k:Nat} (h:4194304<k) {n:aV} (c:Int) (t:List bM) (e:n.1≠13) (z:Int):tU k (n,c,t,false,z,())=some ((if n.1=14 then []else jD n c t,()),((),(),(),(),(),())):=by
 have f:(n.1==13)=false:=by simpa using e
 simp only[tU,yg,oF h,aa,f,af,a0d,jD];by_cases d:n.1=6
 ·have g:(n.1==6)=true:=by simp[d]
  rw[g,ah,a0e d,a0c (by omega)];rfl
 ·have g:(n.1==6)=false:=by simpa using d
  have i:(br k (n.1==10) (some (false,())) (some (false,())):Option (Bool×Unit))=some (false,()):=by cases (n.1==10)<;>simp
  rw[g,af,a0c d,i,a0d,af];by_cases a:n.1=14
  ·have b:(n.1==14)=true:=by simp[a]
   rw[b,ah,a0e a]
  ·have b:(n.1==14)=false:=by simpa using a
   rw[b,af,a0c a]
def pH {k:Nat} (f:4194304<k) {d:ar} {n:aV} (h:bm d n=true) (a:n.1=13) (b:Int) (t:List bM) {i:Nat} (m:(i:Int)<=n.2.2.2.2.2.1-n.2.2.2.2.1+1):tU k (n,b,t,false,n.2.2.2.2.1+(i:Int),())=some ((kX t b (i:Int),()),((),(),(),(),(),())):=by
 obtain⟨⟨o,p⟩,q,r,s,u⟩:=ql h a;have g:(n.1==6)=false:=by simp;omega
 have c:(n.1==10)=false:=by simp;omega
 have e:(n.1==13)=true:=by simp[a]
 have w1:wrap .i64 (n.2.2.2.2.1+(i:Int)-n.2.2.2.2.1)=(i:Int):=by rw[am (by omega) (by omega)];omega
 have j:wrap .i64 (n.2.2.2.2.2.1-n.2.2.2.2.1)=n.2.2.2.2.2.1-n.2.2.2.2.1:=am (by omega) (by omega);have l:wrap .i64 (n.2.2.2.2.2.1-n.2.2.2.2.1+1)=n.2.2.2.2.2.1-n.2.2.2.2.1+1:=am (by omega) (by omega);simp only[tU,g,c,e,af,ah,a0d,jP,aa,oF f,w1,j,l];by_cases v:(i:Int)<=n.2.2.2.2.2.1-n.2.2.2.2.1
 ·rw[a0b (by omega),ah]
 ·rw[a0i (by omega),af]
  have:(i:Int)=n.2.2.2.2.2.1-n.2.2.2.2.1+1:=by omega
  rw[this]
def OP {k:Nat} (u:4194304<k) {d:ar} (m:aN d=true) {n:aV} (h:bm d n=true) (w:n.1=1\/n.1=3\/n.1=4) (b:Int) {t:List bM} (J:bf t=true) {leaf:Int} (g:dM d leaf) {e:aK} (o:aT d e) (r:e.1=true) {s:List az×List az} (N:gH d s) (hn:s.1.length+s.2.length<=80000) {c:Int} (x:ay c):zR k (kR d s c,n,t,leaf,e,())=some ((),(kR d ((bI d n b t leaf e).foldl (bK d) s) (dg c (bD d n leaf e)),(),(),(),(),())):=by
 obtain⟨y,hi,hr⟩:=ba o r;have X:=kN o r;have z:=(bx m o).1;have Y:=(dZ m).2.1;have V:=mV m h b J g o r;by_cases A:n.1=4
 ·obtain⟨p,c0,c1,c2⟩:=Nz h A
  have K:(n.1==4)=true:=by simp[A]
  have B:bI d n b t leaf e=[(false,t,leaf,aU e n.2.1 (n.2.2.2.2.1,n.2.2.2.2.2.1,()))]:=by
   unfold bI;rw[a0c (by omega),a0c (by omega),a0c (by omega),a0e A]
  have C:bD d n leaf e=0:=by unfold bD;rw[a0e (by omega)]
  rw[B]at V⊢;rw[C,gD x,a1u,a2s];have O:=gE k z (show 0<=n.2.1/\n.2.1<(e.2.1.length:Int)from⟨p.1,by rw[y.ints];exact p.2⟩) (n.2.2.2.2.1,n.2.2.2.2.2.1,());have j:=iL u m N (by omega) c false J g (V _ a5o).e;simp only[kR]at j⊢;simp only[zR,K,ah,O,aa];have f:nb k ((d.1,d.2.1,d.2.2.1,s.1,s.2,c,()),false,t,leaf,((aU e n.2.1 (n.2.2.2.2.1,n.2.2.2.2.2.1,())).1,(aU e n.2.1 (n.2.2.2.2.1,n.2.2.2.2.2.1,())).2.1,(aU e n.2.1 (n.2.2.2.2.1,n.2.2.2.2.2.1,())).2.2.1,()),())=_:=j;rw[f,aa]
 have K:(n.1==4)=false:=by simpa using A
 have Z:bO d n.2.2.2.1=1:=by
  rcases w with h|h'|h
  ·exact(IJ (by assumption) h).2
  ·exact(IL h h').2.2
  ·exact absurd h A
 obtain⟨P,x2,x3,x4⟩:=d5 (show bO d n.2.2.2.1≠0 by omega);have D:=i8 u y (by omega) leaf P x4;rw[<-x2]at D;have a:xw k ((d.1,d.2.1,d.2.2.1,()),n.2.2.2.1,e,leaf,())=_:=D;have L:=(ce y leaf P);have E:=(iK X leaf P).1;by_cases F:n.1=1
 ·have Q:(n.1==3)=false:=by simp;omega
  have R:(n.1==1)=true:=by simp[F]
  obtain⟨p,_⟩:=IJ h F;have B:bI d n b t leaf e=[(false,t,leaf,cond (aC (aB d e leaf (dq d n.2.2.2.1))) (aU e n.2.1 (bu (aB d e leaf (dq d n.2.2.2.1)))) bq)]:=by
   unfold bI;rw[a0e F]
  have C:bD d n leaf e=bJ (aB d e leaf (dq d n.2.2.2.1)):=by
   unfold bD;rw[a0c (by omega),a0c (by omega),a0c (by omega)]
  rw[B,C,a1u,a2s];obtain⟨v,q⟩:∃v,v=aB d e leaf (dq d n.2.2.2.1):=⟨_,rfl⟩;rw[<-q]at a L E⊢;have G:v.2.2.1=aC v:=rfl;have O:=gE k z (show 0<=n.2.1/\n.2.1<(e.2.1.length:Int)from⟨p.1,by rw[y.ints];exact p.2⟩) (v.1,v.2.1,());have o0:wrap .i64 (((BitVec.ofInt 64 c|||BitVec.ofInt 64 (dl (0,0,())).2.2.2.1).toNat:Int))=c:=gD x;simp only[kR];simp only[zR,K,Q,R,ah,af,dR,aa,a,o0,O];rw[show(!(dl (0,0,())).2.2.1)=false from rfl,af];rcases a0n (aC v)with hc|hc
  ·have S:=fe o r n.2.1 L.1 (E hc)
   have j:=iL u m N (by omega) (dg c (bJ v)) false J g S;simp only[kR]at j;rw[G,eS hc,cT hc];have f:nb k ((d.1,d.2.1,d.2.2.1,s.1,s.2,wrap .i64 (((BitVec.ofInt 64 c|||BitVec.ofInt 64 v.2.2.2.1).toNat:Int)),()),false,t,leaf,((aU e n.2.1 (v.1,v.2.1,())).1,(aU e n.2.1 (v.1,v.2.1,())).2.1,(aU e n.2.1 (v.1,v.2.1,())).2.2.1,()),())=_:=j;rw[f,aa];rfl
  ·rw[G,gr hc,cF hc]
   unfold bK;rw[cF rfl,bW rfl];rfl
 ·have M:n.1=3:=by omega
  have Q:(n.1==3)=true:=by simp[M]
  have R:(n.1==1)=false:=by simpa using F
  obtain⟨p,Ql,_⟩:=IL h M;obtain⟨i1,i2,i3,i4⟩:=d5 (show bO d n.2.2.1≠0 by omega);have H:=i8 u y (by omega) leaf i1 i4;rw[<-i2]at H;have l:xw k ((d.1,d.2.1,d.2.2.1,()),n.2.2.1,e,leaf,())=_:=H;have B:bI d n b t leaf e=[(false,t,leaf,cond (aC (aB d e leaf (dq d n.2.2.1))&& aC (aB d e leaf (dq d n.2.2.2.1))) (rA d e n.2.1 (bu (aB d e leaf (dq d n.2.2.1))) (bu (aB d e leaf (dq d n.2.2.2.1)))) bq)]:=by
   unfold bI;rw[a0c F,a0c (by omega),a0e M]
  have C:bD d n leaf e=cond (aC (aB d e leaf (dq d n.2.2.1)))
   (cond (aC (aB d e leaf (dq d n.2.2.2.1))) (dg (dg (bJ (aB d e leaf (dq d n.2.2.1))) (bJ (aB d e leaf (dq d n.2.2.2.1)))) (oH d n.2.1 (bu (aB d e leaf (dq d n.2.2.1))))) (dg (bJ (aB d e leaf (dq d n.2.2.1))) (bJ (aB d e leaf (dq d n.2.2.2.1)))))
   (bJ (aB d e leaf (dq d n.2.2.1))):=by
   unfold bD;rw[a0c (by omega),a0e M]
  rw[B,C,a1u,a2s];obtain⟨v,q⟩:∃v,v=aB d e leaf (dq d n.2.2.2.1):=⟨_,rfl⟩;obtain⟨i,T⟩:∃i,i=aB d e leaf (dq d n.2.2.1):=⟨_,rfl⟩;rw[<-q]at a L E⊢;rw[<-T]at l⊢;have G:v.2.2.1=aC v:=rfl;have W:i.2.2.1=aC i:=rfl;simp only[kR];simp only[zR,K,Q,R,ah,af,dR,aa,a,l];rcases a0n (aC i)with hci|hci
  ·rw[W,eS hci,cT hci]
   rcases a0n (aC v)with hc|hc
   ·have U:=Ft k m o r p (bu i) (E hc)
    have I:Ez k ((d.1,d.2.1,d.2.2.1,()),e,n.2.1,(i.1,i.2.1,()),(v.1,v.2.1,()),())=_:=U;have S:=Bv o r (v:=n.2.1) (place:=bu i) L.1 (E hc);have j:=iL u m N (by omega) (dg (dg (dg c (bJ i)) (bJ v)) (oH d n.2.1 (bu i))) false J g S;rw[G,eS hc,cT hc,cT (show(aC i&& aC v)=true by rw[hci,hc];rfl),I,aa];simp only[kR]at j;have f:nb k ((d.1,d.2.1,d.2.2.1,s.1,s.2,wrap .i64 (((BitVec.ofInt 64 (wrap .i64 (((BitVec.ofInt 64 (wrap .i64 (((BitVec.ofInt 64 c|||BitVec.ofInt 64 i.2.2.2.1).toNat:Int)))|||BitVec.ofInt 64 v.2.2.2.1).toNat:Int)))|||BitVec.ofInt 64 (oH d n.2.1 (bu i))).toNat:Int)),()),false,t,leaf,((rA d e n.2.1 (bu i) (bu v)).1,(rA d e n.2.1 (bu i) (bu v)).2.1,(rA d e n.2.1 (bu i) (bu v)).2.2.1,()),())=_:=j;rw[f,aa,<-cY,<-cY];rfl
   ·rw[G,gr hc,cF hc,cF (show(aC i&& aC v)=false by rw[hci,hc];rfl),<-cY]
    rfl
  ·rw[W,gr hci,cF hci,cF (show(aC i&& aC v)=false by rw[hci];rfl)]
   rfl
def NF {d:ar} {e:aK} (f:e.1=true) (v:Int) (m:∀x∈e.2.1,bt x=true) (a b:bo):cO (aU e v a) (aU e v b)=aU e v (eY a b):=by
 have c:∀x:bo,eY x x=x:=λx=>by unfold eY;simp
 have h:(aU e v a).1=true:=f;have j:(aU e v b).1=true:=f;unfold cO;rw[cT h,cT j];have g:∀(l:List bo),fL l l=l:=by
  intro l;unfold fL
  induction l with
  |nil=>rfl
  |cons x l ih=>rw[a3q,ih,c]
 have k:∀(l:List bo) (i:Nat),fL (l.set i a) (l.set i b)=l.set i (eY a b):=by
  intro l
  induction l with
  |nil=>intro i;rfl
  |cons x l ih=>
   intro i
   cases i with
   |zero=>simp only[a6i,fL,a3q];congr 1;exact g l
   |succ i=>
    have:=ih i;simp only[fL]at this;simp only[a7c,fL,a3q,this,c]
 simp only[aU];rw[k,g,f]
def NG {d:ar} {n:aV} {e:aK} (b:aT d e) (a:e.1=true):uB n e=cond ((ep n e).2.1||(eP n e).2.1) (aU e n.2.1 (cond (ep n e).2.1 (cond (eP n e).2.1 (eY (ep n e).1 (eP n e).1) (ep n e).1) (eP n e).1)) bq:=by
 obtain⟨g,c,h⟩:=ba b a;unfold uB;rcases a0n (ep n e).2.1 with h1|h1<;>rcases a0n (eP n e).2.1 with h2|h2
 ·rw[h1,h2]
  exact NF (d:=d) a _ c _ _
 ·rw[h1,h2]
  have f:(aU e n.2.1 (ep n e).1).1=true:=a;simp only[a0z,a1q,a7f];unfold cO;rw[cT f];rfl
 ·rw[h1,h2]
  rfl
 ·rw[h1,h2]
  rfl
def Lw {k:Nat} (I:4194304<k) {d:ar} (J:aN d=true) {n:aV} (h:bm d n=true) (q:n.1=13) (c:Int) (t:List bM) {leaf:Int} (y:dM d leaf) {e:aK} (B:aT d e) (C:e.1=true) {s:List az×List az} (Z:gH d s) (hn:s.1.length+s.2.length<=80000) {v:Int} (K:ay v):zS k (kR d s v,n,c,t,leaf,e,())=some ((),(kR d ((bI d n c t leaf e).foldl (bK d) s) (dg v (bD d n leaf e)),(),(),(),(),(),())):=by
 obtain⟨⟨v0,v1⟩,b0,b1,b2,b3⟩:=ql h q;obtain⟨hE,hi,hr⟩:=ba B C;have L:=(bx J B).1;have em:bI d n c t leaf e=iq n c t leaf e:=by
  unfold bI;rw[a0c (by omega),a0c (by omega),a0c (by omega),a0c (by omega),a0e q]
 have la:bD d n leaf e=0:=by unfold bD;rw[a0e (by omega)]
 have l:=qm h q c (t:=t) y B C;rw[em,la,gD K];have V:n.2.1.toNat<e.2.1.length:=by rw[hE.ints];omega
 have w:e.2.1[n.2.1.toNat]?=some (e.2.1.getD n.2.1.toNat dA):=by rw[aZ V];exact a0a V
 obtain⟨f,p⟩:∃o,o=e.2.1.getD n.2.1.toNat dA:=⟨_,rfl⟩;have D:0<=n.2.1/\n.2.1<(e.2.1.length:Int):=by omega
 have x:∀a,Cz k ((e.1,e.2.1,e.2.2.1,()),n.2.1,a,())=some ((aU e n.2.1 a,()),((),(),(),())):=λa=>gE k L D a
 obtain⟨m,hm⟩:∃m:Nat,(m:Int)=n.2.2.2.2.2.1-n.2.2.2.2.1+1:=⟨(n.2.2.2.2.2.1-n.2.2.2.2.1+1).toNat,by omega⟩;have M:(n.2.2.2.2.2.1-n.2.2.2.2.1+1).toNat=m:=by omega
 unfold iq at l⊢;rw[M]at l⊢;rw[a3g,a1u,a2s];have W:∀i,i<=m->gH d (((List.range i).map (di n c t leaf e)).foldl (bK d) s)/\(((List.range i).map (di n c t leaf e)).foldl (bK d) s).1.length+(((List.range i).map (di n c t leaf e)).foldl (bK d) s).2.length<=80000+i:=by
  intro i N;refine⟨io Z λa ha=> ?_,?_⟩
  ·obtain⟨j,hj,rfl⟩:=a4o.1 ha
   exact l _ (a0l.2 (Or.inl (a4o.2 ⟨j,a2h.2 (by have:=a2h.1 hj;omega),rfl⟩)))
  ·have:=kK d ((List.range i).map (di n c t leaf e)) s
   simp only[a3a,a5v]at this;omega
 unfold kR;simp only[zS,a0b v0,ah,w,aa];rw[<-p]at w⊢;have A:n.2.2.2.2.1=n.2.2.2.2.1+((0:Nat):Int):=by omega
 refine Eq.trans (?_:_=aG (zS.l0 k) k ((λi:Nat=>(kR d (((List.range i).map (di n c t leaf e)).foldl (bK d) s) v,c,t,leaf,n,e,f,n.2.2.2.2.1+(i:Int),())) 0)) (aR (b:=zS.l0 k) (λi:Nat=>(kR d (((List.range i).map (di n c t leaf e)).foldl (bK d) s) v,c,t,leaf,n,e,f,n.2.2.2.2.1+(i:Int),())) m (λG i N=> ?_) (λG=> ?_) (by omega))
 ·simp only[kR]
  rw[<-A];rfl
 ·obtain⟨O,E⟩:=W i (by omega)
  have u:=pH I h q c t (i:=i) (by omega);have r:tU k ((n.1,n.2.1,n.2.2.1,n.2.2.2.1,n.2.2.2.2.1,n.2.2.2.2.2.1,()),c,t,false,n.2.2.2.2.1+(i:Int),())=_:=u;rw[yV];have F:di n c t leaf e i=(false,kX t c (i:Int),leaf,cond (eG f (n.2.2.2.2.1+(i:Int))) (aU e n.2.1 (n.2.2.2.2.1+(i:Int),n.2.2.2.2.1+(i:Int),())) bq):=by unfold di;rw[<-p]
  rw[F];have X:wrap .i64 (n.2.2.2.2.1+(i:Int)+1)=n.2.2.2.2.1+((i+1:Nat):Int):=by rw[am (by omega) (by omega)];omega
  have hiv:J3 k ((f.1,f.2.1,()),n.2.2.2.2.1+(i:Int),())=some ((eG f (n.2.2.2.2.1+(i:Int)),()),((),(),())):=mI k f _;have eg:aT d (aU e n.2.1 (n.2.2.2.2.1+(i:Int),n.2.2.2.2.1+(i:Int),())):=fe B C _ ⟨by unfold ay;simp only;omega,by unfold ay;simp only;omega⟩ (a0b (a5a _));have g:=iL I J O (by omega) v false (jU t c (i:Int)) y eg;obtain⟨S,P⟩:∃S,S=((List.range i).map (di n c t leaf e)).foldl (bK d) s:=⟨_,rfl⟩;rw[<-P]at g⊢;rcases a0n (eG f (n.2.2.2.2.1+(i:Int)))with hc|hc
  ·rw[cT hc]
   obtain⟨Y,Q⟩:∃Y,Y=bK d S (false,kX t c (i:Int),leaf,aU e n.2.1 (n.2.2.2.2.1+(i:Int),n.2.2.2.2.1+(i:Int),())):=⟨_,rfl⟩;rw[<-Q]at g⊢;simp only[kR]at g⊢;simp only[zS.l0];rw[a0b (show n.2.2.2.2.1+(i:Int)<=n.2.2.2.2.2.1 by omega),ah,X];simp only[hiv,aa,r,x];rw[hc,ah];have R:nb k ((d.1,d.2.1,d.2.2.1,S.1,S.2,v,()),false,kX t c (i:Int),leaf,((aU e n.2.1 (n.2.2.2.2.1+(i:Int),n.2.2.2.2.1+(i:Int),())).1,(aU e n.2.1 (n.2.2.2.2.1+(i:Int),n.2.2.2.2.1+(i:Int),())).2.1,(aU e n.2.1 (n.2.2.2.2.1+(i:Int),n.2.2.2.2.1+(i:Int),())).2.2.1,()),())=_:=g;rw[R,aa]
  ·rw[cF hc]
   unfold bK;rw[cF rfl,bW rfl];simp only[kR];simp only[zS.l0];rw[a0b (show n.2.2.2.2.1+(i:Int)<=n.2.2.2.2.2.1 by omega),ah,X];simp only[hiv,aa];rw[hc,af]
 ·obtain⟨H,E⟩:=W m (a1l _)
  have T:=sW h q B C;have U:=NG (n:=n) B C;have w1:wrap .i64 (n.2.2.2.2.1-1)=n.2.2.2.2.1-1:=am (by omega) (by omega);have w2:wrap .i64 (n.2.2.2.2.2.1+1)=n.2.2.2.2.2.1+1:=am (by omega) (by omega);have u:=pH I h q c t (i:=m) (by omega);have r:tU k ((n.1,n.2.1,n.2.2.1,n.2.2.2.1,n.2.2.2.2.1,n.2.2.2.2.2.1,()),c,t,false,n.2.2.2.2.2.1+1,())=some ((kX t c (n.2.2.2.2.2.1-n.2.2.2.2.1+1),()),((),(),(),(),(),())):=by
   have e1:n.2.2.2.2.1+(m:Int)=n.2.2.2.2.2.1+1:=by omega
   rw[e1,hm]at u;exact u
  have hB:J9 k ((f.1,f.2.1,()),((-9223372036854775808:Int),n.2.2.2.2.1-1,()),())=some (ep n e,((),(),())):=by unfold ep;rw[<-p];exact li k f _
  have hA:J9 k ((f.1,f.2.1,()),(n.2.2.2.2.2.1+1,(9223372036854775807:Int),()),())=some (eP n e,((),(),())):=by unfold eP;rw[<-p];exact li k f _
  obtain⟨S,P⟩:∃S,S=((List.range m).map (di n c t leaf e)).foldl (bK d) s:=⟨_,rfl⟩;rw[<-P]at H E⊢;have g:=iL I J H (by omega) v false (jU t c (n.2.2.2.2.2.1-n.2.2.2.2.1+1)) y T;rw[U]at g⊢;simp only[kR]at g⊢;simp only[zS.l0];rw[a0i (show¬n.2.2.2.2.1+(m:Int)<=n.2.2.2.2.2.1 by omega),af,w1,w2];simp only[r,aa,hB,hA,oi,x];have lv:∀a,(aU e n.2.1 a).1=true:=λa=>C
  rcases a0n (ep n e).2.1 with h1|h1<;>rcases a0n (eP n e).2.1 with h2|h2
  ·rw[h1,h2]at g⊢
   simp only[Bool.or_self,a0z,ah,af,a0j,a0d]at g⊢;refine(a1v (λz=>bd k z _) g).trans ?_
   rw[aa]
  ·rw[h1,h2]at g⊢
   simp only[a7f,a0z,a1q,ah,af,a0j,a0d]at g⊢;refine(a1v (λz=>bd k z _) g).trans ?_
   rw[aa]
  ·rw[h1,h2]at g⊢
   simp only[a5i,a0z,a1q,ah,af,a0v,a0d]at g⊢;refine(a1v (λz=>bd k z _) g).trans ?_
   rw[aa]
  ·rw[h1,h2]at g⊢
   simp only[a5i,a0z,a1q,ah,af,a0v,a0d]at g⊢;unfold bK;rw[cF rfl,bW rfl]
def NH {k:Nat} (p:4194304<k) {d:ar} (q:aN d=true) {n:aV} (h:bm d n=true) (V:n.1=2\/n.1=5\/n.1=6\/n.1=9\/n.1=10\/n.1=11\/n.1=12) (b:Int) {t:List bM} (y:bf t=true) {leaf:Int} (i:dM d leaf) {e:aK} (I:aT d e) (W:e.1=true) {s:List az×List az} (J:gH d s) (hn:s.1.length+s.2.length<=80000) (A:Int):FL k (kR d s A,n,b,t,leaf,e,())=some ((),(kR d ((bI d n b t leaf e).foldl (bK d) s) (dg A (bD d n leaf e)),(),(),(),(),(),())):=by
 have hx:bO d n.2.2.2.1=2:=by
  rcases V with H|h'
  ·exact(IK h H).2
  ·exact Bx h (by omega)
 obtain⟨F,x2,x3,x4⟩:=d5 (show bO d n.2.2.2.1≠0 by omega);have K:(dq d n.2.2.2.1).kind=2:=by rw[<-x3];exact hx
 obtain⟨hE,hi,hr⟩:=ba I W;have hR:=kN I W;have Qn:=(dZ q).2.1;have hg:=λj=>K7 p q leaf F K x4 j I W
 rw[<-x2]at hg;have L:∀j,EB k ((d.1,d.2.1,d.2.2.1,()),n.2.2.2.1,j,e,leaf,())=_:=hg;have M:=i8 p hE (by omega) leaf F x4;rw[<-x2]at M;have B:xw k ((d.1,d.2.1,d.2.2.1,()),n.2.2.2.1,e,leaf,())=_:=M;have G:=dF leaf F true I;have X:=dF leaf F false I;obtain⟨o,l⟩:∃g,g=c8 d leaf (dq d n.2.2.2.1) true e:=⟨_,rfl⟩;obtain⟨R,r⟩:∃g,g=c8 d leaf (dq d n.2.2.2.1) false e:=⟨_,rfl⟩;have u:=L true;have w:=L false;have C:=iK hR leaf F;have N:=(ce hE leaf F).2;obtain⟨v,c⟩:∃v,v=aB d e leaf (dq d n.2.2.2.1):=⟨_,rfl⟩;rw[<-l,<-c]at u;rw[<-r,<-c]at w;rw[<-c]at B C N;rw[<-l]at G;rw[<-r]at X;by_cases H:n.1=2
 ·have T:(n.1==2)=true:=by simp[H]
  obtain⟨Y,_⟩:=IK h H;obtain⟨l1,l2⟩:=sU q Y i;have O:bI d n b t leaf e=[(false,t,kL leaf n.2.1,o),(false,t,mU leaf n.2.1,R)]:=by
   unfold bI;rw[a0c (by omega),a0e H,<-l,<-r]
  have P:bD d n leaf e=bJ v:=by
   unfold bD;rw[a0c (by omega),a0c (by omega),a0c (by omega),<-c]
  have wu:wrap .u64 n.2.1=n.2.1:=iF Y.1 (by have:=(dZ q).2.1;omega);rw[O,P,a1u,a1u,a2s];have f:=iL p q J (by omega) (dg A (bJ v)) false y l1 G;have Z:=sS J (a:=(false,t,kL leaf n.2.1,o)) ⟨y,l1,G⟩;have Ql:=yQ d s (false,t,kL leaf n.2.1,o);have x:=iL p q Z (by omega) (dg A (bJ v)) false y l2 X;obtain⟨U,m⟩:∃S,S=bK d s (false,t,kL leaf n.2.1,o):=⟨_,rfl⟩;rw[<-m]at f x⊢;obtain⟨S2,D⟩:∃S,S=bK d U (false,t,mU leaf n.2.1,R):=⟨_,rfl⟩;rw[<-D]at x⊢;simp only[kR]at f x⊢;simp only[FL,u,w,aa,T,ah,wu,a0b Y.1];refine(a1v (λz=>bd k z _) f).trans ?_
  rw[aa];refine(a1v (λz=>bd k z _) x).trans ?_
  rw[aa]
 have T:(n.1==2)=false:=by simpa using H
 by_cases Q:n.1=11\/n.1=12
 ·have O:bI d n b t leaf e=[(false,t,leaf,o)]:=by
   unfold bI;rw[a0c (by omega),a0c (by omega),a0c (by omega),a0c (by omega),a0c (by omega),a0c (by omega),a0e (by omega),<-l]
  have P:bD d n leaf e=if n.1=11 then cond (aC v&& eG (bu v) 0) (dg (bJ v) 8) (bJ v)else bJ v:=by
   unfold bD;rw[a0c (by omega),a0c (by omega),<-c]
  rw[O,P,a1u,a2s];have E:(br k (n.1==11) (some (true,())) (some (n.1==12,())):Option (Bool×Unit))=some (true,()):=by
   rcases Q with h|h<;>rw[h]<;>simp
  have hz:aC v=true->(v.1==0)=eG (bu v) 0:=by
   intro hlv;obtain⟨t1,t2⟩:=C.2 K hlv;have t3:v.1<=v.2.1:=a0x (C.1 hlv);unfold eG bu at*;simp only at t1 t2;rw[a4g];simp only[a2w,a0u];omega
  have hj:(br k (n.1==11) (br k v.2.2.1 (some (v.1==0,())) (some (false,()))) (some (false,())):Option (Bool×Unit))=some ((n.1==11)&& (aC v&& eG (bu v) 0),()):=by
   have ea:v.2.2.1=aC v:=rfl;rw[ea];rcases a0n (aC v)with hlv|hlv
   ·rw[hz hlv,hlv]
    cases (n.1==11)<;>simp
   ·rw[hlv]
    cases (n.1==11)<;>simp
  have f:=λQm=>iL p q J (by omega) Qm false y i G
  obtain⟨U,m⟩:∃S,S=bK d s (false,t,leaf,o):=⟨_,rfl⟩;rw[<-m]at f⊢;simp only[kR]at f⊢;simp only[FL,u,w,aa,T,af,E,a0d,ah,B,hj];rcases a0n ((n.1==11)&& (aC v&& eG (bu v) 0))with hc|hc
  ·rw[hc,ah]
   simp only[a0f,a2w]at hc;rw[a0e hc.1,cT (by rw[hc.2.1,hc.2.2];rfl),<-cY];refine(a1v (λz=>bd k z _) (f (dg (dg A (bJ v)) 8))).trans ?_
   rw[aa]
  ·rw[hc,af]
   have:(if n.1=11 then cond (aC v&& eG (bu v) 0) (dg (bJ v) 8) (bJ v)else bJ v)=bJ v:=by
    by_cases h1:n.1=11
    ·rw[a0e h1]
     have hb:(n.1==11)=true:=by simp[h1]
     rw[hb,a1i]at hc;rw[cF hc]
    ·rw[a0c h1]
   rw[this];refine(a1v (λz=>bd k z _) (f (dg A (bJ v)))).trans ?_
   rw[aa]
 ·have O:bI d n b t leaf e=[(true,gO n b t,leaf,o),(false,jD n b t,leaf,R)]:=by
   unfold bI;rw[a0c (by omega),a0c (by omega),a0c (by omega),a0c (by omega),a0c (by omega),a0c (by omega),a0c Q,a0c (by omega),<-l,<-r]
  have P:bD d n leaf e=bJ v:=by
   unfold bD;rw[a0c (by omega),a0c (by omega),a0c (by omega),<-c]
  rw[O,P,a1u,a1u,a2s];have E:(br k (n.1==11) (some (true,())) (some (n.1==12,())):Option (Bool×Unit))=some (false,()):=by
   have e1:(n.1==11)=false:=by simp;omega
   have e2:(n.1==12)=false:=by simp;omega
   rw[e1,e2,af]
  have ty:=Fw p b y (by omega) (by omega) 0 (n:=n);have tn:=yZ p b t (by omega) 0 (n:=n);rw[a0c (by omega)]at tn;have f:=iL p q J (by omega) (dg A (bJ v)) true (pe n b y) i G;have Z:=sS J (a:=(true,gO n b t,leaf,o)) ⟨pe n b y,i,G⟩;have Ql:=yQ d s (true,gO n b t,leaf,o);have x:=iL p q Z (by omega) (dg A (bJ v)) false (rC n b y) i X;obtain⟨U,m⟩:∃S,S=bK d s (true,gO n b t,leaf,o):=⟨_,rfl⟩;rw[<-m]at f x⊢;obtain⟨S2,D⟩:∃S,S=bK d U (false,jD n b t,leaf,R):=⟨_,rfl⟩;rw[<-D]at x⊢;simp only[kR]at f x⊢;simp only[FL,u,w,aa,T,af,E,a0d,ty,tn];refine(a1v (λz=>bd k z _) f).trans ?_
  rw[aa];refine(a1v (λz=>bd k z _) x).trans ?_
  rw[aa]
def NI {k:Nat} (B:4194304<k) {d:ar} (F:aN d=true) {n:aV} (h:bm d n=true) (b:Int) {t:List bM} (J:bf t=true) {leaf:Int} (q:dM d leaf) {e:aK} (G:aT d e) (K:e.1=true) {s:List az×List az} (H:gH d s) (L:s.1.length+s.2.length<=80000) {r:Int} (v:ay r):se k (kR d s r,n,b,t,leaf,e,())=some ((),(kR d ((bI d n b t leaf e).foldl (bK d) s) (dg r (bD d n leaf e)),(),(),(),(),(),())):=by
 have P:=pd h;have i:n.1=1\/n.1=3\/n.1=4->_:=λy=>OP B F h y b J q G K H L v
 have l:n.1=2\/n.1=5\/n.1=6\/n.1=9\/n.1=10\/n.1=11\/n.1=12->_:=λy=>NH B F h y b J q G K H L r
 have m:n.1=13->_:=λy=>Lw B F h y b t q G K H L v
 have o:n.1=7\/n.1=8\/n.1=14->∀C,C=(if n.1=14 then []else jD n b t)->nb k (kR d s r,false,C,leaf,e,())=some ((),(kR d ((bI d n b t leaf e).foldl (bK d) s) (dg r (bD d n leaf e)),(),(),(),(),())):=by
  intro y C w;have D:n.1≠14->jD n b t=t:=λ_=>by unfold jD;rw[a0c (by omega)]
  have Q:bI d n b t leaf e=[(false,C,leaf,e)]:=by
   unfold bI;rw[a0c (by omega),a0c (by omega),a0c (by omega),a0c (by omega),a0c (by omega)];by_cases f:n.1=14
   ·rw[a0e f,w,a0e f]
   ·rw[a0c f,a0c (by omega),a0e (by omega),w,a0c f,D f]
  have R:bD d n leaf e=0:=by unfold bD;rw[a0e (by omega)]
  have M:bf C=true:=by
   rw[w];by_cases f:n.1=14
   ·rw[a0e f];rfl
   ·rw[a0c f];exact rC n b J
  rw[Q,R,gD v,a1u,a2s];exact iL B F H (by omega) r false M q G
 have N:=λ(p:n.1≠13)=>yZ B b t p 0 (n:=n)
 obtain⟨S,T⟩:∃S,S=(bI d n b t leaf e).foldl (bK d) s:=⟨_,rfl⟩;obtain⟨A,U⟩:∃A,A=dg r (bD d n leaf e):=⟨_,rfl⟩;rw[<-T,<-U]at i l m o⊢;have a:∀c:Int,n.1≠c->(n.1==c)=false:=λc O=>by simpa using O
 have j:∀c:Int,n.1=c->(n.1==c)=true:=λc O=>by simp[O]
 by_cases u:n.1=1
 ·have g:=i (by omega)
  simp only[kR]at g⊢;simp only[se,j 1 u,ah,g,aa]
 by_cases x:n.1=3
 ·have g:=i (by omega)
  simp only[kR]at g⊢;simp only[se,a 1 u,j 3 x,ah,af,g,aa]
 by_cases z:n.1=4
 ·have g:=i (by omega)
  simp only[kR]at g⊢;simp only[se,a 1 u,a 3 x,j 4 z,ah,af,g,aa]
 by_cases E:n.1=7
 ·have g:=o (by omega) _ rfl
  simp only[kR]at g⊢;simp only[se,a 1 u,a 3 x,a 4 z,j 7 E,ah,af,N (by omega),g,aa]
 by_cases I:n.1=8
 ·have g:=o (by omega) _ rfl
  simp only[kR]at g⊢;simp only[se,a 1 u,a 3 x,a 4 z,a 7 E,j 8 I,ah,af,N (by omega),g,aa]
 by_cases f:n.1=14
 ·have g:=o (by omega) _ rfl
  simp only[kR]at g⊢;simp only[se,a 1 u,a 3 x,a 4 z,a 7 E,a 8 I,j 14 f,ah,af,N (by omega),g,aa]
 by_cases p:n.1=13
 ·have g:=m p
  simp only[kR]at g⊢;simp only[se,a 1 u,a 3 x,a 4 z,a 7 E,a 8 I,a 14 f,j 13 p,ah,af,g,aa]
 ·have g:=l (by omega)
  simp only[kR]at g⊢;simp only[se,a 1 u,a 3 x,a 4 z,a 7 E,a 8 I,a 14 f,a 13 p,af,g,aa]
def za {k:Nat} (N:4194304<k) (p:dw) (C:aN (aw p)=true) {n:aV} (h:bm (aw p) n=true) {d:Nat} (D:p.2.2.2.1[d]?=some n) (g:Int) {l:List az} (O:∀q∈l,im (aw p) q) (X:l.length<=1000) {c:Nat} (v:c<l.length) {s:List az×List az} (P:gH (aw p) s) (Q:s.1.length+s.2.length<=70000) {x:Int} (E:ay x) (f:sX) (G0):aG (AY.l2 k G0) k (g,(d:Int),l,(p.1,p.2.1,p.2.2.1,p.2.2.2.1,()),(f.1,f.2.1,f.2.2.1,()),kR (aw p) s x,(c:Int),0,())=G0 (g,(d:Int),l,(p.1,p.2.1,p.2.2.1,p.2.2.2.1,()),(f.1,f.2.1,f.2.2.1,()),kR (aw p) ((kP (aw p) n (d:Int) l[c]).foldl (bK (aw p)) s) (hU (aw p) n x l[c]),((c+1:Nat):Int),()):=by
 have y:=O _ (a0h v);have Y:=fV C y.m;have o:l[c]?=some l[c]:=a0a v;refine aR (b:=AY.l2 k G0) (λi=>(g,(d:Int),l,(p.1,p.2.1,p.2.2.1,p.2.2.2.1,()),(f.1,f.2.1,f.2.2.1,()),kR (aw p) (((List.range i).flatMap (dy (aw p) n (d:Int) l[c].1 l[c].2.1)).foldl (bK (aw p)) s) ((List.range i).foldl (λa j=>dg a (kO (aw p) n l[c].2.1 j)) x),(c:Int),(i:Int),())) l[c].2.1.length (λG i B=> ?_) (λG=> ?_) (by omega)
 ·obtain⟨R,Z⟩:=jo C h (d:Int) y (m:=i) (by omega)
  have L:=io P R;have T:=kK (aw p) ((List.range i).flatMap (dy (aw p) n (d:Int) l[c].1 l[c].2.1)) s;have r:=lq (kO (aw p) n l[c].2.1) (List.range i) E;have z:l[c].2.1.getD i bq=l[c].2.1[i]:=aZ B _;have F:=y.m.e _ (a0h B);have H:dM (aw p) (i:Int):=⟨by omega,by
   have:=y.m.n;have U:((i:Nat):Int)<((2^(aw p).2.1.length:Nat):Int):=by omega
   simpa using U⟩
  rw[yW (α:=Nat),yX,a3g];obtain⟨S,V⟩:∃S,S=((List.range i).flatMap (dy (aw p) n (d:Int) l[c].1 l[c].2.1)).foldl (bK (aw p)) s:=⟨_,rfl⟩;obtain⟨A,W⟩:∃A,A=(List.range i).foldl (λa j=>dg a (kO (aw p) n l[c].2.1 j)) x:=⟨_,rfl⟩;rw[<-V]at L T⊢;rw[<-W]at r⊢;have w:=au (i:=i) (by omega);have I:dy (aw p) n (d:Int) l[c].1 l[c].2.1 i=cond l[c].2.1[i].1 (bI (aw p) n (d:Int) l[c].1 (i:Int) l[c].2.1[i]) []:=by unfold dy;rw[z]
  have J:kO (aw p) n l[c].2.1 i=cond l[c].2.1[i].1 (bD (aw p) n (i:Int) l[c].2.1[i]) 0:=by unfold kO;rw[z]
  rw[I,J];rcases a0n l[c].2.1[i].1 with hc|hc
  ·have u:=NI N C h (d:Int) y.t H F hc L (by omega) r
   rw[cT hc,cT hc];obtain⟨M,K⟩:∃M,M=(bI (aw p) n (d:Int) l[c].1 (i:Int) l[c].2.1[i]).foldl (bK (aw p)) S:=⟨_,rfl⟩;rw[<-K]at u⊢;simp only[kR]at u⊢;simp only[AY.l2];rw[a0b (show 0<=(c:Int) by omega)];simp only[ah,a0g,o,aa];rw[a0b (show(i:Int)<(l[c].2.1.length:Int) by omega),a0b (show(0:Int)<=(i:Int) by omega),a0b (show(0:Int)<=(d:Int) by omega)];simp only[ah,a0a B,aa,D];rw[w,hc,ah,u,aa]
  ·rw[cF hc,cF hc,gD r,a2s]
   simp only[kR];simp only[AY.l2];rw[a0b (show 0<=(c:Int) by omega)];simp only[ah,a0g,o,aa];rw[a0b (show(i:Int)<(l[c].2.1.length:Int) by omega),a0b (show(0:Int)<=(i:Int) by omega)];simp only[ah,a0a B,aa];rw[w,hc,af]
 ·simp only[kR]
  simp only[AY.l2];rw[a0b (show 0<=(c:Int) by omega)];simp only[ah,a0g,o,aa];rw[a0i (show¬(l[c].2.1.length:Int)<(l[c].2.1.length:Int) by omega),af,au (i:=c) (by omega)];rfl
def Fx {k:Nat} (F:4194304<k) (p:dw) (B:aN (aw p)=true) {n:aV} (h:bm (aw p) n=true) {a:Nat} (t:p.2.2.2.1[a]?=some n) (H:a<=1000) (c:Int) {l:List az} (u:∀q∈l,im (aw p) q) (I:l.length<=1000):AY k (p,c,(a:Int),l,())=some ((l6 (aw p) n (a:Int) c l,()),((),(),(),(),())):=by
 simp only[AY];have e:∀G,AY.l0 k G (c,(a:Int),l,(p.1,p.2.1,p.2.2.1,p.2.2.2.1,()),([],0,false,()),kR (aw p) (kQ (aw p) n (a:Int) l) (qn (aw p) n l),(l.length:Int),())=some ((l6 (aw p) n (a:Int) c l,()),((),(),(),(),())):=by
  intro G;have g:l6 (aw p) n (a:Int) c l=cond (decide ((kQ (aw p) n (a:Int) l).1.length>100)||decide ((kQ (aw p) n (a:Int) l).2.length>100)) ([],0,true,()) (pf (a:Int) c (kQ (aw p) n (a:Int) l),qn (aw p) n l,false,()):=rfl;obtain⟨S,m⟩:∃S,S=kQ (aw p) n (a:Int) l:=⟨_,rfl⟩;obtain⟨A,o⟩:∃A,A=qn (aw p) n l:=⟨_,rfl⟩;rw[<-m,<-o]at g;rw[<-m,<-o,g];have w1:wrap .i64 ((a:Int)+1)=(a:Int)+1:=am (by omega) (by omega);simp only[kR];simp only[AY.l0];rw[a0i (show¬(l.length:Int)<(l.length:Int) by omega),af,P3,P3,w1];have v:(br k (decide (S.1.length>100)) (some (true,())) (some (decide (S.2.length>100),())):Option (Bool×Unit))=some (decide (S.1.length>100)||decide (S.2.length>100),()):=by
   cases decide (S.1.length>100)<;>simp
  rw[v,a0d]
  cases (decide (S.1.length>100)||decide (S.2.length>100))
  ·rw[af,a1q]
   have C:∀x:gI,([x]:List gI).length*32<=ai:=by intro x;simp only[a0o,a0q,ai];omega
   have J:∀x y:gI,(([x]:List gI).length+([y]:List gI).length)*32<=ai:=by intro x y;simp only[a0o,a0q,ai];omega
   unfold pf;by_cases D:S.1.length>0
   ·rw[a0b (show((S.1.length:Nat):Int)>0 by omega),ah,a0b (C _),ah,a0e D]
    by_cases j:S.2.length>0
    ·rw[a0b (show((S.2.length:Nat):Int)>0 by omega),ah,a0b (J _ _),ah,a0e j]
    ·rw[a0i (show¬((S.2.length:Nat):Int)>0 by omega),af,a0c j,a2b]
   ·rw[a0i (show¬((S.1.length:Nat):Int)>0 by omega),af,a0c D]
    by_cases j:S.2.length>0
    ·rw[a0b (show((S.2.length:Nat):Int)>0 by omega),ah,a0b (C _),ah,a0e j,a2m]
    ·rw[a0i (show¬((S.2.length:Nat):Int)>0 by omega),af,a0c j,a2b]
  ·rw[ah,a0z]
 refine Eq.trans ?_ (Eq.trans (aR (b:=AY.l0 k) (λi=>(c,(a:Int),l,(p.1,p.2.1,p.2.2.1,p.2.2.2.1,()),([],0,false,()),kR (aw p) ((ff (aw p) n (a:Int) (l.take i)).foldl (bK (aw p)) ([],[])) ((l.take i).foldl (hU (aw p) n) 0),(i:Int),())) l.length (r:=some ((l6 (aw p) n (a:Int) c l,()),((),(),(),(),()))) (λG i s=> ?_) (λG=> ?_) (f:=k) (by omega)) rfl)
 ·rfl
 ·have K:=u _ (a0h s)
  obtain⟨L,M⟩:=jq B h (a:Int) (l:=l.take i) (λq N=>u q (a3i N));have O:=io (sY (aw p)) L;have P:=kK (aw p) (ff (aw p) n (a:Int) (l.take i)) ([],[]);have w:=oI (aw p) n (l.take i) bC;rw[a1m]at M;simp only[a0q]at P;have d:=λQ=>za F p B h t c u I s O (by omega) w ([],0,false,()) Q
  have R:(ff (aw p) n (a:Int) (l.take (i+1)))=ff (aw p) n (a:Int) (l.take i)++kP (aw p) n (a:Int) l[i]:=yY _ s;have T:(l.take (i+1)).foldl (hU (aw p) n) 0=hU (aw p) n ((l.take i).foldl (hU (aw p) n) 0) l[i]:=eO _ _ _ s;rw[R,T,a3g];obtain⟨S,m⟩:∃S,S=(ff (aw p) n (a:Int) (l.take i)).foldl (bK (aw p)) ([],[]):=⟨_,rfl⟩;obtain⟨A,o⟩:∃A,A=(l.take i).foldl (hU (aw p) n) 0:=⟨_,rfl⟩;rw[<-m,<-o]at d⊢;obtain⟨E,z⟩:∃E,E=(kP (aw p) n (a:Int) l[i]).foldl (bK (aw p)) S:=⟨_,rfl⟩;rw[<-z]at d⊢;simp only[kR]at d⊢;simp only[AY.l0];rw[a0b (show(i:Int)<(l.length:Int) by omega),ah];exact d G
 ·rw[a1f]
  exact e G
def oJ (op:List Int):Int:=op.getLastD 0
def l7 (op:List C9):C9:=op.getLastD (0,0,())
def lF (l:List aV):List Int->List Int->Nat->List Int->List Int
 |out,_,_,[]=>out
 |out,op,i,kd::r=>
  if ek kd=true then lF l (out++[((i+1:Nat):Int)]) (op++[(i:Int)]) (i+1) r
  else if kd=7 then lF l ((out++[((i+1:Nat):Int)]).set (oJ op).toNat ((i+1:Nat):Int)) (op.dropLast++[(i:Int)]) (i+1) r
  else if kd=8 then
   (if eZ (c9 l (oJ op))=true then lF l ((((out++[((i+1:Nat):Int)]).set (oJ op).toNat (i:Int)).set (oJ op).toNat ((i+1:Nat):Int)).set i (oJ op)) op.dropLast (i+1) r
   else lF l ((out++[((i+1:Nat):Int)]).set (oJ op).toNat (i:Int)) op.dropLast (i+1) r)
  else lF l (out++[((i+1:Nat):Int)]) op (i+1) r
def qo (l:List aV):List Int->List C9->Nat->List Int->List Int
 |out,_,_,[]=>out
 |out,op,i,kd::r=>
  if ek kd=true then qo l (out.set i ((i+1:Nat):Int)) (op++[((i:Int),(-1),())]) (i+1) r
  else if kd=7 then qo l (out.set i ((i+1:Nat):Int)) (op.dropLast++[((l7 op).1,(i:Int),())]) (i+1) r
  else if kd=8 then
   (if eZ (c9 l (l7 op).1)=true then qo l ((((out.set i ((i+1:Nat):Int)).set (l7 op).1.toNat (i:Int)).set (l7 op).1.toNat ((i+1:Nat):Int)).set i (l7 op).1) op.dropLast (i+1) r
   else if(l7 op).2.1>=0 then qo l ((((out.set i ((i+1:Nat):Int)).set (l7 op).1.toNat (i:Int)).set (l7 op).1.toNat (wrap .i64 ((l7 op).2.1+1))).set (l7 op).2.1.toNat (i:Int)) op.dropLast (i+1) r
   else qo l ((out.set i ((i+1:Nat):Int)).set (l7 op).1.toNat (i:Int)) op.dropLast (i+1) r)
  else qo l (out.set i ((i+1:Nat):Int)) op (i+1) r
def sZ (a:List Int) (t:Int):oJ (a++[t])=t:=by simp[oJ]
def By (a:List C9) (t:C9):l7 (a++[t])=t:=by simp[l7]
def Fy (f:C9):Int:=if f.2.1>=0 then f.2.1 else f.1
structure Fr (l:List aV) (i:Nat) (op:List C9):Prop where
 lo:∀f∈op,0<=f.1/\f.1<(i:Int)/\f.2.1<(i:Int)
 el:∀f∈op,f.2.1>=0->f.1<f.2.1/\eZ (c9 l f.1)=false/\c9 l f.2.1=7
 up:op.Pairwise λx y=>x.1<y.1
def Qd (i:Nat) (op:List C9) (a b:List Int):Prop:=∀j:Nat,j<i->(∃f∈op,f.1=(j:Int)/\f.2.1>=0/\a.getD j 0=f.2.1+1)\/((∀f∈op,f.1=(j:Int)->f.2.1<0)/\a.getD j 0=b.getD j 0)
def eJ (l:List Int) (i j:Nat) (x:Int) (a:i<l.length):(l.set i x).getD j 0=if i=j then x else l.getD j 0:=by
 simp only[List.getD,List.getElem?_set];by_cases h:i=j
 ·subst h;simp[a]
 ·simp[h]
def NJ (l:List Int) (j:Nat) (x:Int):(l++[x]).getD j 0=if j<l.length then l.getD j 0 else if j=l.length then x else 0:=by
 simp only[List.getD];by_cases h:j<l.length
 ·rw[a1k h];simp[h]
 ·by_cases a:j=l.length
  ·subst a;simp
  ·rw[a0c h,a0c a,a1g (by simp;omega)];rfl
def PA (l:List aV) (hl:l.length<=30):∀(n i:Nat) (a b:List Int) (op:List C9),i+n=l.length->a.length=i->b.length=l.length->Fr l i op->Qd i op a b->kH (d4 ((op.map (bU l)).reverse) ((l.drop i).map (·.1)))=true->lF l a (op.map Fy) i ((l.drop i).map (·.1))=qo l b op i ((l.drop i).map (·.1)):=by
 intro n
 induction n with
 |zero=>
  intro i a b op hi ha hb u H o;rw[a2a (by omega)]at o⊢;simp only[a4a,d4,lF,qo]at o⊢;have A:op=[]:=by
   cases hr:((op.map (bU l)).reverse)with
   |nil=>simpa using hr
   |cons x r=>rw[hr]at o;cases o
  subst A;refine a7y (by omega) λj d m=> ?_
  rcases H j (by omega)with⟨f,hf,_⟩|⟨_,e⟩
  ·cases hf
  ·simpa [List.getD,a0a d,a0a m]using e
 |succ n ih=>
  intro i a b op hi ha hb u H o;have P:i<l.length:=by omega
  have ki:c9 l (i:Int)=l[i].1:=by rw[fH l (by omega) (by simpa using P)];simp
  rw[a1a P,a2i]at o⊢;simp only[d4,a2l]at o
  cases hst:fu ((op.map (bU l)).reverse) l[i].1 with
  |none=>rw[hst]at o;cases o
  |some st=>
  rw[hst,a0d]at o;have q:∀j,(a++[((i+1:Nat):Int)]).getD j 0=if j<i then a.getD j 0 else if j=i then((i+1:Nat):Int)else 0:=λj=>by rw[NJ,ha]
  have v:∀j,(b.set i ((i+1:Nat):Int)).getD j 0=if i=j then((i+1:Nat):Int)else b.getD j 0:=λj=>eJ b i j _ (by omega)
  simp only[lF,qo]
  cases A:ek l[i].1 with
  |true=>
   simp only[a2c];have N:op.map Fy++[(i:Int)]=(op++[((i:Int),(-1),())]).map Fy:=by simp[Fy]
   rw[N];refine ih (i+1) _ _ _ (by omega) (by simp;omega) (by simp;omega) ⟨λf hf=> ?_,λf hf h=> ?_,?_⟩ (λj z=> ?_) ?_
   ·rcases a0l.1 hf with hf|hf
    ·have:=u.lo f hf;omega
    ·simp at hf;subst hf;simp;omega
   ·rcases a0l.1 hf with hf|hf
    ·exact u.el f hf h
    ·simp at hf;subst hf;simp at h
   ·refine a4l.2 ⟨u.up,by simp,λx U y Q=> ?_⟩
    simp at Q;subst Q;have:=u.lo x U;simp;omega
   ·by_cases c:j<i
    ·rcases H j c with⟨f,hf,d,m,I⟩|⟨d,m⟩
     ·exact .inl ⟨f,List.mem_append_left _ hf,d,m,by rw[q,a0e c,I]⟩
     ·refine .inr ⟨λf hf h=> ?_,by rw[q,v,a0e c,a0c (by omega),m]⟩
      rcases a0l.1 hf with hf|hf
      ·exact d f hf h
      ·simp at hf;subst hf;simp
    ·have:j=i:=by omega
     subst this;refine .inr ⟨λf hf h=> ?_,by rw[q,v,a0c (by omega),a0e rfl,a0e rfl]⟩;rcases a0l.1 hf with hf|hf
     ·have:=u.lo f hf;omega
     ·simp at hf;subst hf;simp
   ·have V:((op++[((i:Int),(-1),())]).map (bU l)).reverse=l[i].1::(op.map (bU l)).reverse:=by
     have:bU l ((i:Int),(-1),())=l[i].1:=by unfold bU;rw[a0c (show¬((-1:Int)>=0) by omega),ki]
     simp[this]
    have E:fu ((op.map (bU l)).reverse) l[i].1=some (l[i].1::(op.map (bU l)).reverse):=by unfold fu;rw[a0e A]
    rw[hst]at E;rw[V,<-a1h E];exact o
  |false=>
   simp only[a0r,a1y];rcases a4h op with hn|⟨ini,t,hc⟩
   ·subst hn
    by_cases F:l[i].1=7
    ·rw[F]at hst;simp[lX]at hst
    ·by_cases K:l[i].1=8
     ·rw[K]at hst;simp[lY]at hst
     ·simp only[a0c F,a0c K]
      have E:fu ((([]:List C9).map (bU l)).reverse) l[i].1=some ((([]:List C9).map (bU l)).reverse):=by
       unfold fu;rw[A];simp only[a0r,a1y,a0c F,a0c K]
      rw[hst]at E;rw[a1h E]at o;refine ih (i+1) _ _ [] (by omega) (by simp;omega) (by simp;omega) ⟨by simp,by simp,by simp⟩ (λj z=> ?_) o;refine .inr ⟨by simp,?_⟩;by_cases c:j<i
      ·rcases H j c with⟨f,hf,_⟩|⟨_,e⟩
       ·cases hf
       ·rw[q,v,a0e c,a0c (by omega),e]
      ·rw[q,v,a0c c,a0e (by omega),a0e (by omega)]
   ·rw[a3u]at hc
    subst hc;obtain⟨Ql,W,Qm⟩:=u.lo t (by simp);have B:=a4l.1 u.up;have g:∀f∈ini,f.1<t.1:=λf hf=>B.2.2 f hf t (by simp)
    have k:Fr l (i+1) ini:=⟨λf hf=>by have:=u.lo f (by simp[hf]);omega,λf hf h=>u.el f (by simp[hf]) h,B.1⟩;have ml:(ini++[t]).map Fy=ini.map Fy++[Fy t]:=by simp
    have em:(((ini++[t]).map (bU l)).reverse)=bU l t::(ini.map (bU l)).reverse:=by simp
    rw[ml,sZ,By,a5w,a5w];rw[em]at hst;by_cases F:l[i].1=7
    ·simp only[a0e F]
     rw[F]at hst;by_cases w:bU l t=5\/bU l t=6
     ·rw[oz w]at hst
      have L:¬t.2.1>=0:=by
       intro h;unfold bU at w;rw[a0e h]at w;omega
      have X:c9 l t.1=5\/c9 l t.1=6:=by unfold bU at w;rwa [a0c L]at w
      have R:eZ (c9 l t.1)=false:=by rcases X with h|h<;>rw[h]<;>rfl
      have N:Fy t=t.1:=by unfold Fy;rw[a0c L]
      have V:ini.map Fy++[(i:Int)]=(ini++[(t.1,(i:Int),())]).map Fy:=by simp[Fy]
      rw[N,V];refine ih (i+1) _ _ _ (by omega) (by simp;omega) (by simp;omega) ⟨λf hf=> ?_,λf hf h=> ?_,?_⟩ (λj z=> ?_) ?_
      ·rcases a0l.1 hf with hf|hf
       ·exact k.lo f hf
       ·simp at hf;subst hf;simp;omega
      ·rcases a0l.1 hf with hf|hf
       ·exact k.el f hf h
       ·simp at hf;subst hf;exact⟨W,R,by rw[<-F];exact ki⟩
      ·refine a4l.2 ⟨B.1,by simp,λx U y Q=> ?_⟩
       simp at Q;subst Q;exact g x U
      ·have s:((a++[((i+1:Nat):Int)]).set t.1.toNat ((i+1:Nat):Int)).getD j 0=if t.1.toNat=j then((i+1:Nat):Int)else(a++[((i+1:Nat):Int)]).getD j 0:=eJ _ _ _ _ (by simp;omega)
       by_cases J:t.1.toNat=j
       ·refine .inl ⟨(t.1,(i:Int),()),by simp,by simp;omega,by simp,?_⟩
        rw[s,a0e J];simp
       ·by_cases c:j<i
        ·rcases H j c with⟨f,hf,d,m,I⟩|⟨d,m⟩
         ·rcases a0l.1 hf with hf|hf
          ·exact .inl ⟨f,List.mem_append_left _ hf,d,m,by rw[s,a0c J,q,a0e c,I]⟩
          ·simp at hf;subst hf;omega
         ·refine .inr ⟨λf hf h=> ?_,by rw[s,a0c J,q,v,a0e c,a0c (by omega),m]⟩
          rcases a0l.1 hf with hf|hf
          ·exact d f (by simp[hf]) h
          ·simp at hf;subst hf;simp at h;omega
        ·have:j=i:=by omega
         subst this;refine .inr ⟨λf hf h=> ?_,by rw[s,a0c J,q,v,a0c (by omega),a0e rfl,a0e rfl]⟩;rcases a0l.1 hf with hf|hf
         ·have:=k.lo f hf;have:=g f hf;omega
         ·simp at hf;subst hf;simp at h;omega
      ·have k7:bU l (t.1,(i:Int),())=7:=by unfold bU;rw[a0e (by simp)]
       have E:((ini++[(t.1,(i:Int),())]).map (bU l)).reverse=7::(ini.map (bU l)).reverse:=by simp[k7]
       rw[E,a1h hst];exact o
     ·rw[oA w]at hst;cases hst
    ·by_cases K:l[i].1=8
     ·simp only[a0c F,a0e K]
      rw[K,oB]at hst;rw[<-a1h hst]at o;by_cases C:t.2.1>=0
      ·obtain⟨q1,q2,q3⟩:=u.el t (by simp) C
       have N:Fy t=t.2.1:=by unfold Fy;rw[a0e C]
       have e7:eZ (c9 l t.2.1)=false:=by rw[q3];rfl
       rw[N,e7,q2];simp only[a0r,a1y,a0e C];rw[am (n:=t.2.1+1) (by omega) (by omega)];refine ih (i+1) _ _ ini (by omega) (by simp;omega) (by simp;omega) k (λj z=> ?_) o;have s:((a++[((i+1:Nat):Int)]).set t.2.1.toNat (i:Int)).getD j 0=if t.2.1.toNat=j then(i:Int)else(a++[((i+1:Nat):Int)]).getD j 0:=eJ _ _ _ _ (by simp;omega)
       have G:((((b.set i ((i+1:Nat):Int)).set t.1.toNat (i:Int)).set t.1.toNat (t.2.1+1)).set t.2.1.toNat (i:Int)).getD j 0=if t.2.1.toNat=j then(i:Int)else if t.1.toNat=j then t.2.1+1 else(b.set i ((i+1:Nat):Int)).getD j 0:=by
        rw[eJ _ _ _ _ (by simp;omega),eJ _ _ _ _ (by simp;omega),eJ _ _ _ _ (by simp;omega)];by_cases h:t.1.toNat=j<;>simp[h]
       by_cases p:t.2.1.toNat=j
       ·refine .inr ⟨λf hf h=> ?_,by rw[s,G,a0e p,a0e p]⟩
        have:=g f hf;omega
       ·by_cases D:t.1.toNat=j
        ·refine .inr ⟨λf hf h=> ?_,?_⟩
         ·have:=g f hf;omega
         ·rw[s,G,a0c p,a0c p,a0e D,q,a0e (by omega)]
          rcases H j (by omega)with⟨f,hf,d,m,I⟩|⟨d,m⟩
          ·rcases a0l.1 hf with hf|hf
           ·have:=g f hf;omega
           ·simp at hf;subst hf;exact I
          ·have:=d t (by simp) (by omega);omega
        ·by_cases c:j<i
         ·rcases H j c with⟨f,hf,d,m,I⟩|⟨d,m⟩
          ·rcases a0l.1 hf with hf|hf
           ·exact .inl ⟨f,hf,d,m,by rw[s,a0c p,q,a0e c,I]⟩
           ·simp at hf;subst hf;omega
          ·exact .inr ⟨λf hf h=>d f (by simp[hf]) h,by rw[s,G,a0c p,a0c p,a0c D,q,v,a0e c,a0c (by omega),m]⟩
         ·have:j=i:=by omega
          subst this;refine .inr ⟨λf hf h=> ?_,by rw[s,G,a0c p,a0c p,a0c D,q,v,a0c (by omega),a0e rfl,a0e rfl]⟩;have:=k.lo f hf;have:=g f hf;omega
      ·have N:Fy t=t.1:=by unfold Fy;rw[a0c C]
       rw[N];have M:∀(S T:List Int),S.length=i+1->T.length=l.length->(∀j,j<i+1->(t.1.toNat=j\/j=i)->S.getD j 0=T.getD j 0)->(∀j,j<i->t.1.toNat≠j->S.getD j 0=a.getD j 0/\T.getD j 0=b.getD j 0)->lF l S (ini.map Fy) (i+1) ((l.drop (i+1)).map (·.1))=qo l T ini (i+1) ((l.drop (i+1)).map (·.1)):=by
        intro S T la lb d m;refine ih (i+1) _ _ ini (by omega) la lb k (λj z=> ?_) o;by_cases D:t.1.toNat=j\/j=i
        ·refine .inr ⟨λf hf h=> ?_,d j z D⟩
         have:=k.lo f hf;have:=g f hf;omega
        ·obtain⟨g1,g2⟩:=m j (by omega) (by omega)
         rcases H j (by omega)with⟨f,hf,Y,Z,p3⟩|⟨Y,Z⟩
         ·rcases a0l.1 hf with hf|hf
          ·exact .inl ⟨f,hf,Y,Z,by rw[g1,p3]⟩
          ·simp at hf;subst hf;omega
         ·exact .inr ⟨λf hf h=>Y f (by simp[hf]) h,by rw[g1,g2,Z]⟩
       cases R:eZ (c9 l t.1)with
       |true=>
        simp only[a2c];have s:∀j,((((a++[((i+1:Nat):Int)]).set t.1.toNat (i:Int)).set t.1.toNat ((i+1:Nat):Int)).set i t.1).getD j 0=if i=j then t.1 else if t.1.toNat=j then((i+1:Nat):Int)else(a++[((i+1:Nat):Int)]).getD j 0:=λj=>by
         rw[eJ _ _ _ _ (by simp;omega),eJ _ _ _ _ (by simp;omega),eJ _ _ _ _ (by simp;omega)];by_cases h:t.1.toNat=j<;>simp[h]
        have G:∀j,((((b.set i ((i+1:Nat):Int)).set t.1.toNat (i:Int)).set t.1.toNat ((i+1:Nat):Int)).set i t.1).getD j 0=if i=j then t.1 else if t.1.toNat=j then((i+1:Nat):Int)else(b.set i ((i+1:Nat):Int)).getD j 0:=λj=>by
         rw[eJ _ _ _ _ (by simp;omega),eJ _ _ _ _ (by simp;omega),eJ _ _ _ _ (by simp;omega)];by_cases h:t.1.toNat=j<;>simp[h]
        refine M _ _ (by simp;omega) (by simp;omega) (λj z h=> ?_) (λj z h=> ?_)
        ·rw[s,G]
         by_cases d:i=j
         ·rw[a0e d,a0e d]
         ·rw[a0c d,a0c d,a0e (by omega),a0e (by omega)]
        ·have O:¬i=j:=by omega
         simp only[s,G,q,v,a0c O,a0c h,a0e z];exact⟨trivial,trivial⟩
       |false=>
        simp only[a0r,a1y,a0c C];have s:∀j,((a++[((i+1:Nat):Int)]).set t.1.toNat (i:Int)).getD j 0=if t.1.toNat=j then(i:Int)else(a++[((i+1:Nat):Int)]).getD j 0:=λj=>eJ _ _ _ _ (by simp;omega)
        have G:∀j,((b.set i ((i+1:Nat):Int)).set t.1.toNat (i:Int)).getD j 0=if t.1.toNat=j then(i:Int)else(b.set i ((i+1:Nat):Int)).getD j 0:=λj=>eJ _ _ _ _ (by simp;omega)
        refine M _ _ (by simp;omega) (by simp;omega) (λj z h=> ?_) (λj z h=> ?_)
        ·rw[s,G]
         by_cases d:t.1.toNat=j
         ·rw[a0e d,a0e d]
         ·rw[a0c d,a0c d,q,v,a0c (by omega),a0e (by omega),a0e (by omega)]
        ·have O:¬i=j:=by omega
         simp only[s,G,q,v,a0c O,a0c h,a0e z];exact⟨trivial,trivial⟩
     ·simp only[a0c F,a0c K]
      have E:fu (bU l t::(ini.map (bU l)).reverse) l[i].1=some (bU l t::(ini.map (bU l)).reverse):=by
       unfold fu;rw[A];simp only[a0r,a1y,a0c F,a0c K]
      rw[hst]at E;rw[a1h E,<-em]at o;rw[<-ml];refine ih (i+1) _ _ (ini++[t]) (by omega) (by simp;omega) (by simp;omega) ⟨λf hf=>by have:=u.lo f hf;omega,u.el,u.up⟩ (λj z=> ?_) o;by_cases c:j<i
      ·rcases H j c with⟨f,hf,d,m,I⟩|⟨d,m⟩
       ·exact .inl ⟨f,hf,d,m,by rw[q,a0e c,I]⟩
       ·exact .inr ⟨d,by rw[q,v,a0e c,a0c (by omega),m]⟩
      ·have:j=i:=by omega
       subst this;exact .inr ⟨λf hf h=>by have:=u.lo f hf;omega,by rw[q,v,a0c (by omega),a0e rfl,a0e rfl]⟩
def HW (l:List aV) (y:l.length<=30):∀(n i:Nat) (a op:List Int),i+n=l.length->a.length=i->(∀x∈a,0<=x/\x<=(l.length:Int))->(∀x∈op,0<=x/\x<(i:Int))->(lF l a op i ((l.drop i).map (·.1))).length=l.length/\∀x∈lF l a op i ((l.drop i).map (·.1)),0<=x/\x<=(l.length:Int):=by
 intro n
 induction n with
 |zero=>
  intro i a op q r f g;rw[a2a (by omega)];simp only[a4a,lF];exact⟨by omega,f⟩
 |succ n ih=>
  intro i a op q r f g;have k:i<l.length:=by omega
  rw[a1a k,a2i];simp only[lF];have b:∀x∈a++[((i+1:Nat):Int)],0<=x/\x<=(l.length:Int):=λx hx=>by
   rcases a0l.1 hx with hx|hx
   ·exact f x hx
   ·simp at hx;omega
  have st:∀(c:List Int) (j:Nat) (v:Int),(∀x∈c,0<=x/\x<=(l.length:Int))->0<=v->v<=(l.length:Int)->∀x∈c.set j v,0<=x/\x<=(l.length:Int):=λc j v s u w x hx=>by
   rcases a3r hx with hx|rfl
   ·exact s x hx
   ·exact⟨u,w⟩
  have m:∀x∈op,0<=x/\x<((i+1:Nat):Int):=λx hx=>by have:=g x hx;omega
  have d:∀x∈op.dropLast,0<=x/\x<((i+1:Nat):Int):=λx hx=>m x (List.dropLast_subset _ hx)
  have e:∀o:List Int,(∀x∈o,0<=x/\x<((i+1:Nat):Int))->∀x∈o++[(i:Int)],0<=x/\x<((i+1:Nat):Int):=λo h x hx=>by
   rcases a0l.1 hx with hx|hx
   ·exact h x hx
   ·simp at hx;omega
  have p:0<=oJ op/\oJ op<=(l.length:Int):=by
   rcases a4h op with rfl|⟨ini,t,rfl⟩
   ·simp[oJ]
   ·rw[a3u,sZ]
    have:=g t (by simp[a3u]);omega
  split
  ·exact ih (i+1) _ _ (by omega) (by simp;omega) b (e op m)
  split
  ·exact ih (i+1) _ _ (by omega) (by simp;omega) (st _ _ _ b (by omega) (by omega)) (e _ d)
  split
  ·split
   ·exact ih (i+1) _ _ (by omega) (by simp;omega) (st _ _ _ (st _ _ _ (st _ _ _ b (by omega) (by omega)) (by omega) (by omega)) p.1 p.2) d
   ·exact ih (i+1) _ _ (by omega) (by simp;omega) (st _ _ _ b (by omega) (by omega)) d
  ·exact ih (i+1) _ _ (by omega) (by simp;omega) b m
def bT (l:List aV):List Int:=lF l [] [] 0 (l.map (·.1))
def rD (l:List aV) (a:l.length<=30):(bT l).length=l.length/\∀x∈bT l,0<=x/\x<=(l.length:Int):=HW l a l.length 0 [] [] (by omega) rfl (by simp) (by simp)
def Fz (l:List aV) (a:l.length<=30) (c:lW l=true) (b:List Int) (h:b.length=l.length):qo l b [] 0 (l.map (·.1))=bT l:=(PA l a l.length 0 [] b [] (by omega) rfl h ⟨by simp,by simp,by simp⟩ (λj d=>absurd d (Nat.not_lt_zero _)) c).symm
def De (k:Nat) (l:List aV) (hl:l.length<=30):∀(n i f:Nat) (a op:List Int),i+n=l.length->n<f->a.length=i->op.length<=i->(∀x∈op,0<=x/\x<(i:Int))->kH (d4 ((op.map (c9 l)).reverse) ((l.drop i).map (·.1)))=true->∃m,aG (vn.l0 k) f (l,a,op,(i:Int),())=some ((lF l a op i ((l.drop i).map (·.1)),m,()),((),())):=by
 intro n
 induction n with
 |zero=>
  intro i f a op T U V C hx c;obtain⟨f,rfl⟩:∃g,f=g+1:=⟨f-1,by omega⟩;have D:¬((i:Int)<(l.length:Int)):=by omega
  rw[a2a (by omega)]at c⊢;have b:op=[]:=by
   simp only[a4a,d4]at c
   cases hr:((op.map (c9 l)).reverse)with
   |nil=>simpa using hr
   |cons x r=>rw[hr]at c;cases c
  subst b;rw[aF];have A:¬((([]:List Int).length:Int)>0):=by simp
  simp only[vn.l0,ak,a0c D,a0c A,a4a,lF];exact⟨_,rfl⟩
 |succ n ih=>
  intro i f a op T U V C hx c;obtain⟨f,rfl⟩:∃g,f=g+1:=⟨f-1,by omega⟩;have u:i<l.length:=by omega
  have D:((i:Int)<(l.length:Int)):=by omega
  have E:(0:Int)<=(i:Int):=by omega
  have K:(a.length+([((i+1:Nat):Int)]:List Int).length)*8<=ai:=by simp[ai];omega
  have L:(op.length+([(i:Int)]:List Int).length)*8<=ai:=by simp[ai];omega
  have M:=au (i:=i) (by omega);have N:c9 l (i:Int)=l[i].1:=by rw[fH l E (by simpa using u)];simp
  rw[a1a u,a2i]at c⊢;rw[aF];have B:∀o:List Int,(∀x∈o,0<=x/\x<(i:Int))->∀x∈o++[(i:Int)],0<=x/\x<((i+1:Nat):Int):=λo h x hx=>by
   rcases a0l.1 hx with hx|hx
   ·have:=h x hx;omega
   ·simp at hx;omega
  have j:ek l[i].1=true->∃m,aG (vn.l0 k) f (l,a++[((i+1:Nat):Int)],op++[(i:Int)],((i+1:Nat):Int),())=some ((lF l (a++[((i+1:Nat):Int)]) (op++[(i:Int)]) (i+1) ((l.drop (i+1)).map (·.1)),m,()),((),())):=by
   intro b;refine ih (i+1) f _ _ (by omega) (by omega) (by simp;omega) (by simp;omega) (B op hx) ?_
   rw[a3d,a5j];simp only[d4,fu,a0e b,a0d]at c;simpa [N]using c
  have q:ek l[i].1=false->l[i].1≠7->l[i].1≠8->∃m,aG (vn.l0 k) f (l,a++[((i+1:Nat):Int)],op,((i+1:Nat):Int),())=some ((lF l (a++[((i+1:Nat):Int)]) op (i+1) ((l.drop (i+1)).map (·.1)),m,()),((),())):=by
   intro b e s;refine ih (i+1) f _ _ (by omega) (by omega) (by simp;omega) (by omega) (λx h=>by have:=hx x h;omega) ?_
   simpa only[d4,fu,b,a0r,a1y,a0c e,a0c s,a0d]using c
  rcases a4h op with hn|⟨ini,t,hc⟩
  ·subst hn
   have A:¬((([]:List Int).length:Int)>0):=by simp
   simp only[vn.l0,ak (p:=(i:Int)<(l.length:Int)),a0e D,ak (p:=(0:Int)<=(i:Int)),a0e E,M,ak (p:=(a.length+([((i+1:Nat):Int)]:List Int).length)*8<=ai),a0e K,ak (p:=(([]:List Int).length:Int)>0),a0c A,a0g,a0a u,aa,mQ,lF]
   cases b:ek l[i].1 with
   |true=>
    simp only[ah,ak,a0e L,a2c];exact j b
   |false=>
    simp only[af,cg,a0r,a1y];by_cases e:l[i].1=7
    ·rw[e]at c;simp[d4,lX,kH]at c
    ·by_cases s:l[i].1=8
     ·rw[s]at c;simp[d4,lY,kH]at c
     ·simp only[a0c e,a0c s]
      exact q b e s
  ·rw[a3u]at hc
   subst hc;have F:=hx t (by simp);have v:t.toNat<l.length:=by omega
   have A:(((ini++[t]).length:Int)>0):=by simp only[a0m,a0o,a0q];omega
   have W:(((ini++[t]).length:Int)-1)=(ini.length:Int):=by simp
   have G:wrap .i64 (ini.length:Int)=(ini.length:Int):=am (by omega) (by simp at C;omega);have c1:0<=(ini.length:Int)/\(ini.length:Int)<((ini++[t]).length:Int):=by simp only[a0m,a0o,a0q];omega
   have c2:0<=(ini.length:Int)/\(ini.length:Int)<=((ini++[t]).length:Int):=by simp only[a0m,a0o,a0q];omega
   have X:(ini++[t])[ini.length]?=some t:=by simp
   have O:=fH l F.1 v;have P:0<=t/\t<((a++[((i+1:Nat):Int)]).length:Int):=by simp;omega
   have Q:¬t<0:=by omega
   obtain⟨y8,R⟩:∃y,(a++[((i+1:Nat):Int)])[t.toNat]?=some y:=⟨_,a0a (by simp;omega)⟩;have Y:aQ (ini++[t]) ((0:Int).toNat) (ini.length-(0:Int).toNat)=ini:=by simp[aQ]
   have S:(((ini++[t]).map (c9 l)).reverse)=l[t.toNat].1::(ini.map (c9 l)).reverse:=by simp[O]
   simp only[vn.l0,ak (p:=(i:Int)<(l.length:Int)),a0e D,ak (p:=(0:Int)<=(i:Int)),a0e E,M,ak (p:=(a.length+([((i+1:Nat):Int)]:List Int).length)*8<=ai),a0e K,ak (p:=((ini++[t]).length:Int)>0),a0e A,W,G,ak (p:=0<=(ini.length:Int)/\(ini.length:Int)<((ini++[t]).length:Int)),a0e c1,a0g,X,a0a u,aa,mQ,lF,sZ,a5w]
   cases b:ek l[i].1 with
   |true=>
    simp only[ah,ak,a0e L,a2c];exact j b
   |false=>
    simp only[af,cg,a0r,a1y];by_cases e:l[i].1=7
    ·simp only[a0e e,ak,a0c Q,a0e F.1,a0a v,aa]
     rw[S,e]at c;by_cases w:l[t.toNat].1=5\/l[t.toNat].1=6
     ·have Z:(br k (l[t.toNat].1 !=5) (some (l[t.toNat].1 !=6,())) (some (false,())):Option (Bool×Unit))=some (false,()):=by
       rcases w with h|h<;>simp[h]
      simp only[Z,a0d,af,a0e P,R,aa,a0e c1];have H:(ini++[t]).set ini.length (i:Int)=ini++[(i:Int)]:=by simp
      rw[H];refine ih (i+1) f _ _ (by omega) (by omega) (by simp;omega) (by simp at C⊢;omega) (B ini λx h=>hx x (by simp[h])) ?_
      simp only[d4,oz w,a0d]at c;simpa [N,e]using c
     ·simp[d4,oA w,kH]at c
    ·by_cases s:l[i].1=8
     ·rw[S,s]at c
      simp only[d4,oB,a0d]at c;have done:∀d:List Int,d.length=i+1->∃m,aG (vn.l0 k) f (l,d,ini,((i+1:Nat):Int),())=some ((lF l d ini (i+1) ((l.drop (i+1)).map (·.1)),m,()),((),())):=by
       intro d I;exact ih (i+1) f d ini (by omega) (by omega) I (by simp at C;omega) (λx h=>by have:=hx x (by simp[h]);omega) c
      have c5:0<=t/\t<(((a++[((i+1:Nat):Int)]).set t.toNat (i:Int)).length:Int):=by simp;omega
      obtain⟨z,ez⟩:∃y,((a++[((i+1:Nat):Int)]).set t.toNat (i:Int))[t.toNat]?=some y:=⟨_,a0a (by simp;omega)⟩;have c6:0<=(i:Int)/\(i:Int)<((((a++[((i+1:Nat):Int)]).set t.toNat (i:Int)).set t.toNat ((i+1:Nat):Int)).length:Int):=by simp;omega
      obtain⟨z2,J⟩:∃y,(((a++[((i+1:Nat):Int)]).set t.toNat (i:Int)).set t.toNat ((i+1:Nat):Int))[i]?=some y:=⟨_,a0a (by simp;omega)⟩;simp only[a0c e,a0e s,ak,a0c Q,a0e c2,a0e P,R,aa,a0e F.1,a0a v,qk,Y,a0e c5,ez,a0e c6,J,O]
      cases eZ l[t.toNat].1 with
      |true=>simp only[ah,a2c];exact done _ (by simp;omega)
      |false=>simp only[af,a0r,a1y];exact done _ (by simp;omega)
     ·simp only[a0c e,a0c s]
      exact q b e s
def Df (k:Nat) (l:List aV) (hl:l.length<=30):∀(n i f:Nat) (a:List Int) (op:List C9),i+n=l.length->n<f->a.length=l.length->op.length<=i->Fr l i op->kH (d4 ((op.map (bU l)).reverse) ((l.drop i).map (·.1)))=true->∃q,aG (zI.l0 k) f (l,a,(op,()),(l.length:Int),(i:Int),())=some ((qo l a op i ((l.drop i).map (·.1)),q,()),((),())):=by
 intro n
 induction n with
 |zero=>
  intro i f a op Z hf ho F e b;obtain⟨f,rfl⟩:∃g,f=g+1:=⟨f-1,by omega⟩;have H:¬((i:Int)<(l.length:Int)):=by omega
  rw[aF,a2a (by omega)];simp only[zI.l0,ak,a0c H,a4a,qo];exact⟨_,rfl⟩
 |succ n ih=>
  intro i f a op Z hf ho F e b;have hx:=e.lo;obtain⟨f,rfl⟩:∃g,f=g+1:=⟨f-1,by omega⟩;have w:i<l.length:=by omega
  have H:((i:Int)<(l.length:Int)):=by omega
  have W:(0:Int)<=(i:Int):=by omega
  have h4:0<=(i:Int)/\(i:Int)<(a.length:Int):=by omega
  have m2:(op.length+([((i:Int),(-1),())]:List C9).length)*16<=ai:=by simp[ai];omega
  have ew:=au (i:=i) (by omega);have X:c9 l (i:Int)=l[i].1:=by rw[fH l W (by simpa using w)];simp
  have I:bU l ((i:Int),(-1),())=l[i].1:=by
   unfold bU;rw[a0c (show¬((-1:Int)>=0) by decide),X]
  obtain⟨y1,eo⟩:∃y,a[i]?=some y:=⟨_,a0a (by omega)⟩;have G:(a.set i ((i+1:Nat):Int)).length=l.length:=by simp;omega
  have J:Fr l (i+1) op:=⟨λf hf=>by have:=e.lo f hf;omega,e.el,e.up⟩;rw[a1a w,a2i]at b⊢;rw[aF];simp only[zI.l0,Ju,ak (p:=(i:Int)<(l.length:Int)),a0e H,ak (p:=(0:Int)<=(i:Int)),a0e W,ak (p:=0<=(i:Int)/\(i:Int)<(a.length:Int)),a0e h4,ew,a0g,eo,a0a w,aa,ln,o8,qo];have hq:(br k (l[i].1==5||l[i].1==6) (some (true,())) (some (eZ l[i].1,())):Option (Bool×Unit))=some (ek l[i].1,()):=by
   rw[uw];cases (l[i].1==5||l[i].1==6)<;>simp
  simp only[hq,a0d]
  cases hop:ek l[i].1 with
  |true=>
   have s:(l[i].1 !=8)=true:=by
    by_cases h:l[i].1=8
    ·rw[h]at hop;exact absurd hop (by decide)
    ·simpa using h
   simp only[ah,ak,a0e m2,aa,a0j,af,s,a2c];refine ih (i+1) f _ _ (by omega) (by omega) G (by simp;omega) ⟨λf hf=> ?_,λf hf h=> ?_,?_⟩ ?_
   ·rcases a0l.1 hf with hf|hf
    ·have:=e.lo f hf;omega
    ·simp at hf;subst hf;simp;omega
   ·rcases a0l.1 hf with hf|hf
    ·exact e.el f hf h
    ·simp at hf;subst hf;simp at h
   ·refine a4l.2 ⟨e.up,by simp,λx z y D=> ?_⟩
    simp at D;subst D;have:=e.lo x z;simp;omega
   ·simp only[d4,fu,a0e hop,a0d]at b
    simpa [I]using b
  |false=>
   simp only[af,cg,a0r,a1y];rcases a4h op with hn|⟨ini,t,hc⟩
   ·subst hn
    have K:wrap .i64 ((([]:List C9).length:Int)-1)<0:=by rw[am (by simp) (by simp)];simp
    by_cases j:l[i].1=7
    ·rw[j]at b;simp[d4,lX,kH]at b
    ·by_cases m:l[i].1=8
     ·rw[m]at b;simp[d4,lY,kH]at b
     ·have s:(l[i].1 !=8)=true:=by simpa using m
      simp only[a0c j,a0c m,aa,a0j,af,s,ah];refine ih (i+1) f _ [] (by omega) (by omega) G (by simp) ⟨by simp,by simp,by simp⟩ ?_
      simpa only[d4,fu,hop,a0r,a1y,a0c j,a0c m,a0d]using b
   ·rw[a3u]at hc
    subst hc;obtain⟨A,L,Ql⟩:=hx t (by simp);have B:t.1.toNat<l.length:=by omega
    have o:=a4l.1 e.up;have C:∀f∈ini,f.1<t.1:=λf hf=>o.2.2 f hf t (by simp)
    have r:Fr l (i+1) ini:=⟨λf hf=>by have:=e.lo f (by simp[hf]);omega,λf hf h=>e.el f (by simp[hf]) h,o.1⟩;have el:(((ini++[t]).length:Int)-1)=(ini.length:Int):=by simp
    have M:wrap .i64 (ini.length:Int)=(ini.length:Int):=am (by omega) (by simp at F;omega);have K:¬(ini.length:Int)<0:=by omega
    have c1:0<=(ini.length:Int)/\(ini.length:Int)<((ini++[t]).length:Int):=by simp only[a0m,a0o,a0q];omega
    have c2:0<=(ini.length:Int)/\(ini.length:Int)<=((ini++[t]).length:Int):=by simp only[a0m,a0o,a0q];omega
    have eg:(ini++[t])[ini.length]?=some t:=by simp
    have N:=fH l A B;have es:aQ (ini++[t]) ((0:Int).toNat) (ini.length-(0:Int).toNat)=ini:=by simp[aQ]
    have Y:(((ini++[t]).map (bU l)).reverse)=bU l t::(ini.map (bU l)).reverse:=by simp
    simp only[el,M,a0g,eg,By,a5w];by_cases j:l[i].1=7
    ·simp only[a0e j,ak,a0c K,a0e c1,a0e A,aa,a0a B,ln]
     rw[Y,j]at b;by_cases d:bU l t=5\/bU l t=6
     ·have u:¬t.2.1>=0:=by
       intro h;unfold bU at d;rw[a0e h]at d;omega
      have E:l[t.1.toNat].1=5\/l[t.1.toNat].1=6:=by
       unfold bU at d;rw[a0c u,N]at d;exact d
      have O:(br k (!(l[t.1.toNat].1==5||l[t.1.toNat].1==6)) (some (true,())) (some (decide (t.2.1>=0),())):Option (Bool×Unit))=some (false,()):=by
       have:(l[t.1.toNat].1==5||l[t.1.toNat].1==6)=true:=by rcases E with h|h<;>simp[h]
       rw[this,a0j,af,a0i u]
      have s:(l[i].1 !=8)=true:=by rw[j];decide
      simp only[O,a0d,af,aa,a0j,s,ah];have P:(ini++[t]).set ini.length (t.1,(i:Int),())=ini++[(t.1,(i:Int),())]:=by simp
      rw[P];have k7:bU l (t.1,(i:Int),())=7:=by unfold bU;rw[a0e (show((i:Int)>=0) by omega)]
      have Q:eZ (c9 l t.1)=false:=by rw[N];rcases E with h|h<;>rw[h]<;>rfl
      refine ih (i+1) f _ _ (by omega) (by omega) G (by simp at F⊢;omega) ⟨λf hf=> ?_,λf hf h=> ?_,?_⟩ ?_
      ·rcases a0l.1 hf with hf|hf
       ·exact r.lo f hf
       ·simp at hf;subst hf;simp;omega
      ·rcases a0l.1 hf with hf|hf
       ·exact r.el f hf h
       ·simp at hf;subst hf;exact⟨L,Q,by rw[<-j];exact X⟩
      ·refine a4l.2 ⟨o.1,by simp,λx z y D=> ?_⟩
       simp at D;subst D;exact C x z
      ·simp only[d4,oz d,a0d]at b
       simpa [k7]using b
     ·simp[d4,oA d,kH]at b
    ·by_cases m:l[i].1=8
     ·rw[Y,m]at b
      simp only[d4,oB,a0d]at b;have s:(l[i].1 !=8)=false:=by rw[m];decide
      have done:∀c:List Int,c.length=l.length->∃q,aG (zI.l0 k) f (l,c,(ini,()),(l.length:Int),((i+1:Nat):Int),())=some ((qo l c ini (i+1) ((l.drop (i+1)).map (·.1)),q,()),((),())):=λc R=>ih (i+1) f c ini (by omega) (by omega) R (by simp at F;omega) r b
      simp only[a0c j,a0e m,ak,a0c K,a0e c1,a0e c2,es,aa,a0j,af,s];have c3:0<=t.1/\t.1<((a.set i ((i+1:Nat):Int)).length:Int):=by simp;omega
      obtain⟨a1,S⟩:∃y,(a.set i ((i+1:Nat):Int))[t.1.toNat]?=some y:=⟨_,a0a (by simp;omega)⟩;have c4:0<=t.1/\t.1<(((a.set i ((i+1:Nat):Int)).set t.1.toNat (i:Int)).length:Int):=by simp;omega
      obtain⟨a2,T⟩:∃y,((a.set i ((i+1:Nat):Int)).set t.1.toNat (i:Int))[t.1.toNat]?=some y:=⟨_,a0a (by simp;omega)⟩;have c5:0<=(i:Int)/\(i:Int)<((((a.set i ((i+1:Nat):Int)).set t.1.toNat (i:Int)).set t.1.toNat ((i+1:Nat):Int)).length:Int):=by simp;omega
      obtain⟨a3,U⟩:∃y,(((a.set i ((i+1:Nat):Int)).set t.1.toNat (i:Int)).set t.1.toNat ((i+1:Nat):Int))[i]?=some y:=⟨_,a0a (by simp;omega)⟩;simp only[a0e c3,S,aa,a0e A,a0a B,o8,a0e c4,T,a0e c5,U,N]
      cases eZ l[t.1.toNat].1 with
      |true=>simp only[ah,a2c];exact done _ (by simp;omega)
      |false=>
       simp only[af,a0r,a1y];by_cases v:t.2.1>=0
       ·have c6:0<=t.2.1/\t.2.1<((((a.set i ((i+1:Nat):Int)).set t.1.toNat (i:Int)).set t.1.toNat (wrap .i64 (t.2.1+1))).length:Int):=by simp;omega
        obtain⟨a4,V⟩:∃y,(((a.set i ((i+1:Nat):Int)).set t.1.toNat (i:Int)).set t.1.toNat (wrap .i64 (t.2.1+1)))[t.2.1.toNat]?=some y:=⟨_,a0a (by simp;omega)⟩;simp only[a0e v,a0e c6,V,aa];exact done _ (by simp;omega)
       ·simp only[a0c v]
        exact done _ (by simp;omega)
     ·have s:(l[i].1 !=8)=true:=by simpa using m
      simp only[a0c j,a0c m,aa,a0j,af,s,ah];refine ih (i+1) f _ (ini++[t]) (by omega) (by omega) G (by omega) J ?_
      simpa only[d4,fu,hop,a0r,a1y,a0c j,a0c m,a0d]using b
def cj {p:dw} (h:dh p=true):aN (aw p)=true/\p.2.2.2.1.length<=30/\(∀n∈p.2.2.2.1,bm (aw p) n=true)/\lW p.2.2.2.1=true:=by
 unfold dh at h;simp only[a0f,a0u,a1e]at h;exact⟨h.1,h.2.1,h.2.2.1,h.2.2.2⟩
def zb (k:Nat) (f:4194304<k) (b:k<=4611686018427387903) (p:dw) (g:mS p) (a:dh p=true):Jl k (p,())=some ((bT p.2.2.2.1,()),((),())):=by
 obtain⟨_,c,_,i⟩:=cj a;unfold Jl;obtain⟨m,e⟩:=De k p.2.2.2.1 c p.2.2.2.1.length 0 k [] [] (by omega) (by omega) rfl (a1l _) (λx h=>by simp at h) i;have j:vn k (p.2.2.2.1,())=some ((bT p.2.2.2.1,m,()),((),())):=e;have d:=lD k f b p g;rw[a]at d;simp only[d,aa,a0j,af,j]
def zc (k:Nat) (h:4194304<k) (p:dw) (b:dh p=true):Jw k (p,())=some ((bT p.2.2.2.1,()),((),())):=by
 obtain⟨_,a,_,c⟩:=cj b;unfold Jw zI;have d:0<=(p.2.2.2.1.length:Int)/\(p.2.2.2.1.length:Int)<=(p.2.2.2.1.length:Int)/\(p.2.2.2.1.length:Int)*8<=ai:=by simp[ai];omega
 obtain⟨q,e⟩:=Df k p.2.2.2.1 a p.2.2.2.1.length 0 k (List.replicate p.2.2.2.1.length (Kd.z (.int .i64))) [] (by omega) (by omega) (by simp) (a1l _) ⟨by simp,by simp,by simp⟩ c;have f:=Fz p.2.2.2.1 a c (List.replicate p.2.2.2.1.length (Kd.z (.int .i64))) (by simp);have g:aG (zI.l0 k) k (p.2.2.2.1,List.replicate p.2.2.2.1.length (Kd.z (.int .i64)),([],()),(p.2.2.2.1.length:Int),0,())=some ((bT p.2.2.2.1,q,()),((),())):=by rw[<-f];exact e
 simp only[ak,a0e d,a0g,g,aa]
def vd (l:List Int) (n:Int):List Int:=if l.length<100/\l.contains n=false then l++[n]else l
def HX (l:List Int) (t:ca):List Int:=if t.1=1 then vd (vd l t.2.1) (wrap .i64 (0-t.2.1))else l
def FA (l:List Int) (n:aV):List Int:=(n.2.2.1++n.2.2.2.1).foldl HX (vd (vd l n.2.2.2.2.1) n.2.2.2.2.2.1)
def OQ (p:dw):List Int:=p.2.2.2.1.foldl FA [0]
def s4 (p:dw):List Int:=(OQ p).mergeSort (λa b=>decide (a<=b))
structure l8 (l:List Int):Prop where
 n:l.length<=100
 d:l.Nodup
 f:∀x∈l,ay x
 z:0<l.length
def jd {l:List Int} (h:l8 l) {n:Int} (g:ay n):l8 (vd l n):=by
 unfold vd;split
 ·rename_i i
  have c:n∉l:=by
   intro j;have:=List.contains_iff_mem.2 j;rw[i.2]at this;cases this
  refine⟨by simp;omega,?_,λx hx=> ?_,by simp⟩
  ·rw[a2d]
   exact⟨h.d,by simp,λa k b m=>by rw[a1c.1 m];exactλe=>c (e▸k)⟩
  ·rcases a0l.1 hx with hx|hx
   ·exact h.f x hx
   ·rw[a1c.1 hx];exact g
 ·exact h
def Bz {l:List Int} (h:l8 l) {t:ca} (a:t.1=1->ay t.2.1):l8 (HX l t):=by
 unfold HX;split
 ·rename_i b;exact jd (jd h (a b)) (ij _)
 ·exact h
def s5 {α:Type} {f:List Int->α->List Int} (l:List α) (a:∀z,∀x∈l,l8 z->l8 (f z x)):∀z,l8 z->l8 (l.foldl f z):=by
 induction l with
 |nil=>exactλz h=>h
 |cons x l ih=>exactλz h=>ih (λz y b=>a z y (by simp[b])) _ (a z x (by simp) h)
def lr {k:Nat} (p:1000<k) {l:List Int} (q:l.length<=100) (n:Int):CC k (n,(l,()),())=some ((),((),(vd l n,()),())):=by
 obtain⟨m,d,e⟩:=eu (b:=xK.l0 k) (λi=>(l,n,(l.length:Int),(i:Int),())) l (λx=>x==n) (o:=((),(),())) (λG i g=>by
  simp only[xK.l0];rw[a0b (show(i:Int)<(l.length:Int) by omega),a0b (show(0:Int)<=(i:Int) by omega)];simp only[ah,a0g,a0a g,aa];rw[au (i:=i) (by omega),show(n==l[i])=(l[i]==n)from BEq.comm]
  cases (l[i]==n)<;>simp) (λG=>by
  simp only[xK.l0];rw[a0i (show¬(l.length:Int)<(l.length:Int) by omega),af]) (f:=k) (by omega)
 have j:Kq k (l,n,())=some ((l.contains n,()),((),(),())):=by
  unfold Kq xK;have c:aG (xK.l0 k) k (l,n,(l.length:Int),0,())=some ((m,()),((),(),())):=d;simp only[c,aa];rw[e,a7s]
 simp only[CC,j,aa,vd];by_cases a:l.length<100
 ·rw[a0b (show(l.length:Int)<100 by omega),ah,a0d]
  cases hcc:l.contains n
  ·rw[a0v,ah,a0e ⟨a,rfl⟩,a0b (by simp only[a0o,a0q,ai];omega),ah]
  ·rw[a0j,af,a0c (λh=>by cases h.2)]
 ·rw[a0i (show¬(l.length:Int)<100 by omega),af,a0d,af,a0c (λh=>a h.1)]
def BA {d:ar} {n:aV} (h:bm d n=true):n.2.2.1.length<=40/\n.2.2.2.1.length<=40/\(∀t∈n.2.2.1++n.2.2.2.1,t.1=1->ay t.2.1)/\ay n.2.2.2.2.1/\ay n.2.2.2.2.2.1:=by
 have m:=pd h;have f:∀l:List ca,bO d l≠0->l.length<=40/\∀t∈l,t.1=1->ay t.2.1:=by
  intro l i;obtain⟨x,b,e,_,o⟩:=sA i;refine⟨by rw[e,Ex.flat_len];exact o,λt ht j=>IC (b.all t (by rw[<-e];exact ht)) j⟩
 have nil:∀l:List ca,gq l=true->l.length<=40/\∀t∈l,t.1=1->ay t.2.1:=by
  intro l i;have:l=[]:=by
   unfold gq at i;simp only[a2w]at i;exact a3o.1 (by omega)
  rw[this];exact⟨by simp,λt ht=>(by cases ht)⟩
 have a:(n.2.2.1.length<=40/\∀t∈n.2.2.1,t.1=1->ay t.2.1)/\(n.2.2.2.1.length<=40/\∀t∈n.2.2.2.1,t.1=1->ay t.2.1)/\ay n.2.2.2.2.1/\ay n.2.2.2.2.2.1:=by
  unfold bm at h;have z:∀x:Int,(x==0)=true->ay x:=λx b=>by rw[a2w]at b;rw[b];exact bC
  have k:lZ n.2.2.2.2.1 n.2.2.2.2.2.1=true->ay n.2.2.2.2.1/\ay n.2.2.2.2.2.1:=λb=>by
   have:=Dc b;exact⟨by unfold ay;omega,by unfold ay;omega⟩
  have g:∀l:List ca,∀c:Int,(bO d l==c)=true->c≠0->bO d l≠0:=λl c b p=>by rw[a2w]at b;omega
  split at h
  ·simp only[a0f]at h
   exact⟨nil _ h.2.1,f _ (g _ _ h.2.2.1 (by omega)),z _ h.2.2.2.1,z _ h.2.2.2.2⟩
  split at h
  ·simp only[a0f]at h
   exact⟨nil _ h.2.1,f _ (g _ _ h.2.2.1 (by omega)),z _ h.2.2.2.1,z _ h.2.2.2.2⟩
  split at h
  ·simp only[a0f]at h
   exact⟨f _ (g _ _ h.2.1 (by omega)),f _ (g _ _ h.2.2.1 (by omega)),z _ h.2.2.2.1,z _ h.2.2.2.2⟩
  split at h
  ·simp only[a0f]at h
   exact⟨nil _ h.2.1,nil _ h.2.2.1,(k h.2.2.2).1,(k h.2.2.2).2⟩
  split at h
  ·simp only[a0f]at h
   exact⟨nil _ h.2.1,nil _ h.2.2.1,(k h.2.2.2.1).1,(k h.2.2.2.1).2⟩
  split at h
  ·simp only[a0f,a0u]at h
   exact⟨nil _ h.2.1,f _ (g _ _ h.2.2.1 (by omega)),by unfold ay;omega,z _ h.2.2.2.2⟩
  split at h
  ·simp only[a0f]at h
   exact⟨nil _ h.2.1,f _ (g _ _ h.2.2.1 (by omega)),z _ h.2.2.2.1,z _ h.2.2.2.2⟩
  split at h
  ·simp only[a0f]at h
   exact⟨nil _ h.2.1,nil _ h.2.2.1,z _ h.2.2.2.1,z _ h.2.2.2.2⟩
  ·cases h
 refine⟨a.1.1,a.2.1.1,λt ht j=> ?_,a.2.2.1,a.2.2.2⟩;rcases a0l.1 ht with ht|ht
 ·exact a.1.2 t ht j
 ·exact a.2.1.2 t ht j
def Lx {d:ar} {n:aV} (h:bm d n=true) {l:List Int} (c:l8 l):l8 (FA l n):=by
 obtain⟨_,_,e,a,b⟩:=BA h;exact s5 _ (λz t f g=>Bz g (e t f)) _ (jd (jd c a) b)
def Ly:l8 [0]:=⟨by simp,by simp,λx a=>by rw[a1c.1 a];exact bC,by simp⟩
def FB {p:dw} (a:dh p=true) (i:Nat):l8 ((p.2.2.2.1.take i).foldl FA [0]):=by
 obtain⟨e,f,b,_⟩:=cj a;exact s5 _ (λz n c d=>Lx (b n (a3i c)) d) _ Ly
def NK {p:dw} (a:dh p=true):l8 (OQ p):=by
 have:=FB a p.2.2.2.1.length;rw[a1f]at this;exact this
def HY {k:Nat} (v:1000<k) (a b:List ca) (w:a.length<=40) (x:b.length<=40):vp k ([a,b],())=some ((a++b,()),((),())):=by
 obtain⟨f,e⟩:∃f,k=f+1+1+1:=⟨k-3,by omega⟩;have l:(([a,b]:List (List ca)).length:Int)=2:=rfl;have g:([a,b]:List (List ca))[(0:Int).toNat]?=some a:=rfl;have h:([a,b]:List (List ca))[(1:Int).toNat]?=some b:=rfl;have i:wrap .i64 (0+1)=1:=am (by omega) (by omega);have j:wrap .i64 (1+1)=2:=am (by omega) (by omega);have m:wrap .i64 (0+(a.length:Int))=(a.length:Int):=by rw[am (by omega) (by omega)];omega
 have n:wrap .i64 ((a.length:Int)+(b.length:Int))=((a.length+b.length:Nat):Int):=by rw[am (by omega) (by omega)];omega
 have o:∀G,vp.l2 k G ([],[a,b],2,0,())=G (a,[a,b],2,1,()):=by
  intro G;simp only[vp.l2];rw[a0b (show(0:Int)<2 by omega),ah,a0b (show(0:Int)<=0 by omega),ah,g,aa,i,a0b (show(([]:List ca).length+a.length)*16<=ai by simp only[a0q,ai];omega),ah,a2m]
 have p:∀G,vp.l2 k G (a,[a,b],2,1,())=G (a++b,[a,b],2,2,()):=by
  intro G;simp only[vp.l2];rw[a0b (show(1:Int)<2 by omega),ah,a0b (show(0:Int)<=1 by omega),ah,h,aa,j,a0b (show(a.length+b.length)*16<=ai by simp only[ai];omega),ah]
 have q:∀G,vp.l2 k G (a++b,[a,b],2,2,())=some ((a++b,()),((),())):=by
  intro G;simp only[vp.l2];rw[a0i (show¬(2:Int)<2 by omega),af]
 have c:aG (vp.l2 k) k ([],[a,b],2,0,())=some ((a++b,()),((),())):=by
  conv=>lhs;arg 2;rw[e]
  rw[aF,o,aF,p,aF,q]
 have r:∀G,vp.l0 k G ([a,b],0,[a,b],2,0,())=G ([a,b],(a.length:Int),[a,b],2,1,()):=by
  intro G;simp only[vp.l0];rw[a0b (show(0:Int)<2 by omega),ah,a0b (show(0:Int)<=0 by omega),ah,g,aa,i,m,a0i (show¬(a.length:Int)<0 by omega),af]
 have s:∀G,vp.l0 k G ([a,b],(a.length:Int),[a,b],2,1,())=G ([a,b],((a.length+b.length:Nat):Int),[a,b],2,2,()):=by
  intro G;simp only[vp.l0];rw[a0b (show(1:Int)<2 by omega),ah,a0b (show(0:Int)<=1 by omega),ah,h,aa,j,n,a0i (show¬((a.length+b.length:Nat):Int)<0 by omega),af]
 have t:∀G,vp.l0 k G ([a,b],((a.length+b.length:Nat):Int),[a,b],2,2,())=some ((a++b,()),((),())):=by
  intro G;have u:0<=((a.length+b.length:Nat):Int)/\((a.length+b.length:Nat):Int)*((16:Nat):Int)<=140737488355328:=by omega
  simp only[vp.l0];rw[a0i (show¬(2:Int)<2 by omega),af];simp only[Lb.slices_Grow_impl_Tok_impl_Tok,qQ,a0e u,aa];exact c
 simp only[vp];have d:aG (vp.l0 k) k ([a,b],0,[a,b],2,0,())=some ((a++b,()),((),())):=by
  conv=>lhs;arg 2;rw[e]
  rw[aF,r,aF,s,aF,t]
 exact d
def Dg {k:Nat} (d:1000<k) {p:dw} (a:dh p=true):FO k (p,())=some ((s4 p,()),((),())):=by
 obtain⟨L,M,m,_⟩:=cj a;simp only[FO];refine Eq.trans (aR (b:=FO.l0 k) (λi=>((),(((p.2.2.2.1.take i).foldl FA [0],()),()),p.2.2.2.1,(p.2.2.2.1.length:Int),(i:Int),())) p.2.2.2.1.length (r:=some ((s4 p,()),((),()))) (λG i o=> ?_) (λG=> ?_) (by omega)) rfl
 ·have C:=m _ (a0h o)
  obtain⟨c,D,A,q,s⟩:=BA C;have u:=FB a i;rw[eO FA [0] p.2.2.2.1 o];obtain⟨z,v⟩:∃z,z=(p.2.2.2.1.take i).foldl FA [0]:=⟨_,rfl⟩;rw[<-v]at u⊢;have B:=jd u q;have E:=jd B s;simp only[FO.l0];rw[a0b (show(i:Int)<(p.2.2.2.1.length:Int) by omega),a0b (show(0:Int)<=(i:Int) by omega)];simp only[ah,a0g,a0a o,aa,lr d u.n,lr d B.n,HY d _ _ c D];refine Eq.trans (aR (b:=FO.l2 k G) (λj=>((),((((p.2.2.2.1[i].2.2.1++p.2.2.2.1[i].2.2.2.1).take j).foldl HX (vd (vd z p.2.2.2.1[i].2.2.2.2.1) p.2.2.2.1[i].2.2.2.2.2.1),()),()),p.2.2.2.1,(p.2.2.2.1.length:Int),(i:Int),p.2.2.2.1[i].2.2.1++p.2.2.2.1[i].2.2.2.1,((p.2.2.2.1[i].2.2.1++p.2.2.2.1[i].2.2.2.1).length:Int),(j:Int),())) (p.2.2.2.1[i].2.2.1++p.2.2.2.1[i].2.2.2.1).length (r:=G ((),((FA z p.2.2.2.1[i],()),()),p.2.2.2.1,(p.2.2.2.1.length:Int),((i+1:Nat):Int),())) (λF j l=> ?_) (λF=> ?_) (by rw[a0m];omega)) rfl
  ·have w:=s5 ((p.2.2.2.1[i].2.2.1++p.2.2.2.1[i].2.2.2.1).take j) (λz t H v=>Bz v (A t (a3i H))) _ E
   rw[eO HX _ _ l];obtain⟨y,I⟩:∃y,y=((p.2.2.2.1[i].2.2.1++p.2.2.2.1[i].2.2.2.1).take j).foldl HX (vd (vd z p.2.2.2.1[i].2.2.2.2.1) p.2.2.2.1[i].2.2.2.2.2.1):=⟨_,rfl⟩;rw[<-I]at w⊢;have J:j<80:=by rw[a0m]at l;omega
   have e:=A _ (a0h l);obtain⟨t,f⟩:∃t,t=(p.2.2.2.1[i].2.2.1++p.2.2.2.1[i].2.2.2.1)[j]:=⟨_,rfl⟩;have h:(p.2.2.2.1[i].2.2.1++p.2.2.2.1[i].2.2.2.1)[j]?=some t:=by rw[f];exact a0a l
   rw[<-f]at e⊢;simp only[FO.l2];rw[a0b (show(j:Int)<((p.2.2.2.1[i].2.2.1++p.2.2.2.1[i].2.2.2.1).length:Int) by omega),a0b (show 0<=(j:Int)/\(j:Int)<((p.2.2.2.1[i].2.2.1++p.2.2.2.1[i].2.2.2.1).length:Int) by omega)];simp only[ah,a0g,h,aa];rw[au (i:=j) (by omega),cg];unfold HX;by_cases c:t.1=1
   ·rw[a0e c,a0e c,lr d w.n,aa,lr d (jd w (e c)).n,aa]
   ·rw[a0c c,a0c c]
  ·simp only[FO.l2]
   rw[a0i (by omega),af,a1f,au (i:=i) (by omega)];rfl
 ·have g:=NK a
  simp only[FO.l0];rw[a0i (show¬(p.2.2.2.1.length:Int)<(p.2.2.2.1.length:Int) by omega),af,a1f];have K:Lb.slices_Sort_int64_int64 k (OQ p,())=some ((),(s4 p,())):=by
   show tR k _=_;unfold tR;rw[a0e ⟨g.z,by have:=g.n;show(OQ p).length<_;omega⟩];rfl
  have x:Lb.slices_Sort_int64_int64 k (p.2.2.2.1.foldl FA [0],())=some ((),(s4 p,())):=K;rw[x,aa]
def HZ {d:ar} {l:List az} (h:dm d l=true):l.length<=100/\(∀p∈l,bf p.1=true/\fG d p.2.1=true/\fU p.2.1=true)/\l.Pairwise λp q=>cy p.1 q.1<0:=by
 unfold dm at h;simp only[a0f,a0u]at h;refine⟨h.1,λp a=> ?_,(Fi l none h.2.2).2⟩;have:=a1e.1 h.2.1 p a;simpa only[gF,a0f]using this
def H0 {d:ar} {t:List aK} (h:fG d t=true):(t.length:Int)=2^d.2.1.length/\∀e∈t,fZ d e=true:=by
 unfold fG at h;simp only[a0f,a0u]at h;exact⟨h.1,a1e.1 h.2⟩
end Go.Pev.F
namespace Go.Pev.F.Cp
def szStringS_is (k:Nat) (v:1048576<k) (a:(List (List UInt8))) (l:Kd.WF (.sl false .str) a) (left:Int) (m:0<=left) (q:left<=1048576):∃r:Int,uU k (a,left,())=some ((r,()),((),(),()))/\(0<=r->r<=left/\Kd.Small (.sl false .str) a):=by
 obtain⟨d,w1⟩:=l;have d:a.length<=140737488351232:=d;unfold uU;simp only[ak];rw[am (n:=left-(a.length:Int)) (by omega) (by omega)];by_cases g:left-(a.length:Int)<0
 ·rw[a0e g];exact⟨-1,rfl,λh=>by omega⟩
 rw[a0c g];obtain⟨r,e,p⟩:=o9 (b:=uU.l0 k) (λi left=>(a,left,(i:Int),())) a (Kd.Small .str) (o:=((),(),())) (λG i j left m q=>by
  have c:((i:Int)<(a.length:Int)):=by omega
  have s:(0:Int)<=(i:Int):=by omega
  have w:a[i].length<=140737488351232:=w1 _ (a0h j);refine⟨left-(a[i].length:Int),?_,λh=>⟨by omega,by show a[i].length<=1048576;omega⟩⟩;simp only[uU.l0,ak,a0e c,a0e s,a0g,a0a j,aa];rw[am (n:=left-(a[i].length:Int)) (by omega) (by omega),au (by omega)]) (λG left=>by
  have c:¬((a.length:Int)<(a.length:Int)):=by omega
  simp only[uU.l0,ak,a0c c]) (f:=k) (by omega) (left-(a.length:Int)) (by omega) (by omega)
 refine⟨r,e,λt=> ?_⟩;obtain⟨x,u⟩:=p t;exact⟨by omega,by show a.length<=1048576;omega,u⟩
def szArr_is (k:Nat) (g:1048576<k) (a:gV) (c:Kd.WF nk a) (left:Int) (i:0<=left) (j:left<=1048576):∃r:Int,Ka k (a,left,())=some ((r,()),((),(),()))/\(0<=r->r<=left/\Kd.Small nk a):=by
 obtain⟨d,w1,_⟩:=c;unfold Ka;simp only[ak];have l:a.1.length<=140737488351232:=d;obtain⟨b,e⟩:∃z:Int,z=left-(a.1.length:Int):=⟨_,rfl⟩;rw[<-e,am (n:=b) (by omega) (by omega)];by_cases c1:b<0
 ·rw[a0e c1];exact⟨-1,rfl,λh=>by omega⟩
 rw[a0c c1];have f:a.1.length<=1048576:=by omega
 exact⟨b,rfl,λh=>⟨by omega,⟨f,trivial,trivial⟩⟩⟩
def szArrS_is (k:Nat) (q:1048576<k) (a:(List gV)) (s:Kd.WF nj a) (left:Int) (d:0<=left) (g:left<=1048576):∃r:Int,xx k (a,left,())=some ((r,()),((),(),()))/\(0<=r->r<=left/\Kd.Small nj a):=by
 obtain⟨j,w1⟩:=s;have j:a.length<=140737488351232:=j;unfold xx;simp only[ak];rw[am (n:=left-(a.length:Int)) (by omega) (by omega)];by_cases l:left-(a.length:Int)<0
 ·rw[a0e l];exact⟨-1,rfl,λh=>by omega⟩
 rw[a0c l];obtain⟨r,e,p⟩:=o9 (b:=xx.l0 k) (λi left=>(a,left,(i:Int),())) a (Kd.Small nk) (o:=((),(),())) (λG i m left d g=>by
  have c:((i:Int)<(a.length:Int)):=by omega
  have t:(0:Int)<=(i:Int):=by omega
  obtain⟨u,v,w⟩:=szArr_is k q a[i] (w1 _ (a0h m)) left d g;refine⟨u,?_,w⟩;simp only[xx.l0,ak,a0e c,a0e t,a0g,a0a m,aa,v];rw[au (by omega)]) (λG left=>by
  have c:¬((a.length:Int)<(a.length:Int)):=by omega
  simp only[xx.l0,ak,a0c c]) (f:=k) (by omega) (left-(a.length:Int)) (by omega) (by omega)
 refine⟨r,e,λx=> ?_⟩;obtain⟨z,y⟩:=p x;exact⟨by omega,by show a.length<=1048576;omega,y⟩
def szDecl_is (k:Nat) (b:1048576<k) (a:iN) (g:Kd.WF (.cons (.sl false .str) (.cons (.sl false .str) (.cons nj .nil))) a) (left:Int) (v:0<=left) (w:left<=1048576):∃r:Int,Kb k (a,left,())=some ((r,()),((),(),()))/\(0<=r->r<=left/\Kd.Small (.cons (.sl false .str) (.cons (.sl false .str) (.cons nj .nil))) a):=by
 obtain⟨i,w1,j,_⟩:=g;unfold Kb;simp only[ak];obtain⟨c,l,m⟩:=szStringS_is k b a.1 i left (by omega) (by omega);simp only[l,aa];by_cases c1:c<0
 ·rw[a0e c1];exact⟨-1,rfl,λh=>by omega⟩
 rw[a0c c1];obtain⟨x,n⟩:=m (by omega);obtain⟨d,o,p⟩:=szStringS_is k b a.2.1 w1 c (by omega) (by omega);simp only[o,aa];by_cases c2:d<0
 ·rw[a0e c2];exact⟨-1,rfl,λh=>by omega⟩
 rw[a0c c2];obtain⟨y,q⟩:=p (by omega);obtain⟨e,s,t⟩:=szArrS_is k b a.2.2.1 j d (by omega) (by omega);simp only[s,aa];by_cases f:e<0
 ·rw[a0e f];exact⟨-1,rfl,λh=>by omega⟩
 rw[a0c f];obtain⟨z,u⟩:=t (by omega);exact⟨e,rfl,λh=>⟨by omega,⟨n,q,u,trivial⟩⟩⟩
def szTokS_is (k:Nat) (e:1048576<k) (a:cn) (d:Kd.WF cK a) (left:Int) (f:0<=left) (g:left<=1048576):∃r:Int,Hc k (a,left,())=some ((r,()),((),(),()))/\(0<=r->r<=left/\Kd.Small cK a):=by
 obtain⟨b,w1⟩:=d;have b:a.length<=140737488351232:=b;unfold Hc;simp only[ak];rw[am (n:=left-(a.length:Int)) (by omega) (by omega)];by_cases c:left-(a.length:Int)<0
 ·rw[a0e c];exact⟨-1,rfl,λh=>by omega⟩
 rw[a0c c];exact⟨_,rfl,λh=>⟨by omega,by show a.length<=1048576;omega,λx i=>⟨trivial,trivial,trivial⟩⟩⟩
def szLine_is (k:Nat) (b:1048576<k) (a:df) (e:Kd.WF eF a) (left:Int) (p:0<=left) (q:left<=1048576):∃r:Int,Kc k (a,left,())=some ((r,()),((),(),()))/\(0<=r->r<=left/\Kd.Small eF a):=by
 obtain⟨s,w1,f,g,t,u,_⟩:=e;unfold Kc;simp only[ak];obtain⟨c,i,j⟩:=szTokS_is k b a.2.2.1 f left (by omega) (by omega);simp only[i,aa];by_cases c1:c<0
 ·rw[a0e c1];exact⟨-1,rfl,λh=>by omega⟩
 rw[a0c c1];obtain⟨v,l⟩:=j (by omega);obtain⟨d,m,n⟩:=szTokS_is k b a.2.2.2.1 g c (by omega) (by omega);simp only[m,aa];by_cases c2:d<0
 ·rw[a0e c2];exact⟨-1,rfl,λh=>by omega⟩
 rw[a0c c2];obtain⟨w,o⟩:=n (by omega);exact⟨d,rfl,λh=>⟨by omega,⟨trivial,trivial,l,o,trivial,trivial,trivial⟩⟩⟩
def szLineS_is (k:Nat) (q:1048576<k) (a:(List df)) (s:Kd.WF (.sl false eF) a) (left:Int) (d:0<=left) (g:left<=1048576):∃r:Int,xy k (a,left,())=some ((r,()),((),(),()))/\(0<=r->r<=left/\Kd.Small (.sl false eF) a):=by
 obtain⟨j,w1⟩:=s;have j:a.length<=140737488351232:=j;unfold xy;simp only[ak];rw[am (n:=left-(a.length:Int)) (by omega) (by omega)];by_cases l:left-(a.length:Int)<0
 ·rw[a0e l];exact⟨-1,rfl,λh=>by omega⟩
 rw[a0c l];obtain⟨r,e,p⟩:=o9 (b:=xy.l0 k) (λi left=>(a,left,(i:Int),())) a (Kd.Small eF) (o:=((),(),())) (λG i m left d g=>by
  have c:((i:Int)<(a.length:Int)):=by omega
  have t:(0:Int)<=(i:Int):=by omega
  obtain⟨u,v,w⟩:=szLine_is k q a[i] (w1 _ (a0h m)) left d g;refine⟨u,?_,w⟩;simp only[xy.l0,ak,a0e c,a0e t,a0g,a0a m,aa,v];rw[au (by omega)]) (λG left=>by
  have c:¬((a.length:Int)<(a.length:Int)):=by omega
  simp only[xy.l0,ak,a0c c]) (f:=k) (by omega) (left-(a.length:Int)) (by omega) (by omega)
 refine⟨r,e,λx=> ?_⟩;obtain⟨z,y⟩:=p x;exact⟨by omega,by show a.length<=1048576;omega,y⟩
def szProg_is (k:Nat) (b:1048576<k) (a:fz) (e:Kd.WF (.cons (.sl false .str) (.cons (.sl false .str) (.cons nj (.cons (.sl false eF) .nil)))) a) (left:Int) (u:0<=left) (v:left<=1048576):∃r:Int,Ke k (a,left,())=some ((r,()),((),(),()))/\(0<=r->r<=left/\Kd.Small (.cons (.sl false .str) (.cons (.sl false .str) (.cons nj (.cons (.sl false eF) .nil)))) a):=by
 obtain⟨f,w1,g,i,_⟩:=e;unfold Ke;simp only[ak];obtain⟨c,j,l⟩:=szDecl_is k b (a.1,a.2.1,a.2.2.1,()) ⟨f,w1,g,trivial⟩ left (by omega) (by omega);simp only[j,aa];by_cases c1:c<0
 ·rw[a0e c1];exact⟨-1,rfl,λh=>by omega⟩
 rw[a0c c1];obtain⟨w,m⟩:=l (by omega);obtain⟨n,o,p,_⟩:=m;obtain⟨d,q,s⟩:=szLineS_is k b a.2.2.2.1 i c (by omega) (by omega);simp only[q,aa];by_cases c2:d<0
 ·rw[a0e c2];exact⟨-1,rfl,λh=>by omega⟩
 rw[a0c c2];obtain⟨x,t⟩:=s (by omega);exact⟨d,rfl,λh=>⟨by omega,⟨n,o,p,t,trivial⟩⟩⟩
def szEntryS_is (k:Nat) (e:1048576<k) (a:cn) (d:Kd.WF cK a) (left:Int) (f:0<=left) (g:left<=1048576):∃r:Int,Kf k (a,left,())=some ((r,()),((),(),()))/\(0<=r->r<=left/\Kd.Small cK a):=by
 obtain⟨b,w1⟩:=d;have b:a.length<=140737488351232:=b;unfold Kf;simp only[ak];rw[am (n:=left-(a.length:Int)) (by omega) (by omega)];by_cases c:left-(a.length:Int)<0
 ·rw[a0e c];exact⟨-1,rfl,λh=>by omega⟩
 rw[a0c c];exact⟨_,rfl,λh=>⟨by omega,by show a.length<=1048576;omega,λx i=>⟨trivial,trivial,trivial⟩⟩⟩
def szIntervalS_is (k:Nat) (e:1048576<k) (a:cn) (d:Kd.WF cK a) (left:Int) (f:0<=left) (g:left<=1048576):∃r:Int,Hd k (a,left,())=some ((r,()),((),(),()))/\(0<=r->r<=left/\Kd.Small cK a):=by
 obtain⟨b,w1⟩:=d;have b:a.length<=140737488351232:=b;unfold Hd;simp only[ak];rw[am (n:=left-(a.length:Int)) (by omega) (by omega)];by_cases c:left-(a.length:Int)<0
 ·rw[a0e c];exact⟨-1,rfl,λh=>by omega⟩
 rw[a0c c];exact⟨_,rfl,λh=>⟨by omega,by show a.length<=1048576;omega,λx i=>⟨trivial,trivial,trivial⟩⟩⟩
def szEnv_is (k:Nat) (b:1048576<k) (a:aS) (e:Kd.WF ci a) (left:Int) (o:0<=left) (p:left<=1048576):∃r:Int,Kg k (a,left,())=some ((r,()),((),(),()))/\(0<=r->r<=left/\Kd.Small ci a):=by
 obtain⟨q,w1,f,_⟩:=e;unfold Kg;simp only[ak];obtain⟨c,g,i⟩:=szIntervalS_is k b a.2.1 w1 left (by omega) (by omega);simp only[g,aa];by_cases c1:c<0
 ·rw[a0e c1];exact⟨-1,rfl,λh=>by omega⟩
 rw[a0c c1];obtain⟨s,j⟩:=i (by omega);obtain⟨d,l,m⟩:=szIntervalS_is k b a.2.2.1 f c (by omega) (by omega);simp only[l,aa];by_cases c2:d<0
 ·rw[a0e c2];exact⟨-1,rfl,λh=>by omega⟩
 rw[a0c c2];obtain⟨t,n⟩:=m (by omega);exact⟨d,rfl,λh=>⟨by omega,⟨trivial,j,n,trivial⟩⟩⟩
def szEnvS_is (k:Nat) (q:1048576<k) (a:(List aS)) (s:Kd.WF (.sl false ci) a) (left:Int) (d:0<=left) (g:left<=1048576):∃r:Int,xz k (a,left,())=some ((r,()),((),(),()))/\(0<=r->r<=left/\Kd.Small (.sl false ci) a):=by
 obtain⟨j,w1⟩:=s;have j:a.length<=140737488351232:=j;unfold xz;simp only[ak];rw[am (n:=left-(a.length:Int)) (by omega) (by omega)];by_cases l:left-(a.length:Int)<0
 ·rw[a0e l];exact⟨-1,rfl,λh=>by omega⟩
 rw[a0c l];obtain⟨r,e,p⟩:=o9 (b:=xz.l0 k) (λi left=>(a,left,(i:Int),())) a (Kd.Small ci) (o:=((),(),())) (λG i m left d g=>by
  have c:((i:Int)<(a.length:Int)):=by omega
  have t:(0:Int)<=(i:Int):=by omega
  obtain⟨u,v,w⟩:=szEnv_is k q a[i] (w1 _ (a0h m)) left d g;refine⟨u,?_,w⟩;simp only[xz.l0,ak,a0e c,a0e t,a0g,a0a m,aa,v];rw[au (by omega)]) (λG left=>by
  have c:¬((a.length:Int)<(a.length:Int)):=by omega
  simp only[xz.l0,ak,a0c c]) (f:=k) (by omega) (left-(a.length:Int)) (by omega) (by omega)
 refine⟨r,e,λx=> ?_⟩;obtain⟨z,y⟩:=p x;exact⟨by omega,by show a.length<=1048576;omega,y⟩
def szPart_is (k:Nat) (b:1048576<k) (a:cf) (e:Kd.WF fy a) (left:Int) (o:0<=left) (p:left<=1048576):∃r:Int,Kh k (a,left,())=some ((r,()),((),(),()))/\(0<=r->r<=left/\Kd.Small fy a):=by
 obtain⟨f,w1,_⟩:=e;unfold Kh;simp only[ak];obtain⟨c,g,i⟩:=szEntryS_is k b a.1 f left (by omega) (by omega);simp only[g,aa];by_cases c1:c<0
 ·rw[a0e c1];exact⟨-1,rfl,λh=>by omega⟩
 rw[a0c c1];obtain⟨q,j⟩:=i (by omega);obtain⟨d,l,m⟩:=szEnvS_is k b a.2.1 w1 c (by omega) (by omega);simp only[l,aa];by_cases c2:d<0
 ·rw[a0e c2];exact⟨-1,rfl,λh=>by omega⟩
 rw[a0c c2];obtain⟨s,n⟩:=m (by omega);exact⟨d,rfl,λh=>⟨by omega,⟨j,n,trivial⟩⟩⟩
def szPartS_is (k:Nat) (q:1048576<k) (a:(List cf)) (s:Kd.WF (.sl false fy) a) (left:Int) (d:0<=left) (g:left<=1048576):∃r:Int,xA k (a,left,())=some ((r,()),((),(),()))/\(0<=r->r<=left/\Kd.Small (.sl false fy) a):=by
 obtain⟨j,w1⟩:=s;have j:a.length<=140737488351232:=j;unfold xA;simp only[ak];rw[am (n:=left-(a.length:Int)) (by omega) (by omega)];by_cases l:left-(a.length:Int)<0
 ·rw[a0e l];exact⟨-1,rfl,λh=>by omega⟩
 rw[a0c l];obtain⟨r,e,p⟩:=o9 (b:=xA.l0 k) (λi left=>(a,left,(i:Int),())) a (Kd.Small fy) (o:=((),(),())) (λG i m left d g=>by
  have c:((i:Int)<(a.length:Int)):=by omega
  have t:(0:Int)<=(i:Int):=by omega
  obtain⟨u,v,w⟩:=szPart_is k q a[i] (w1 _ (a0h m)) left d g;refine⟨u,?_,w⟩;simp only[xA.l0,ak,a0e c,a0e t,a0g,a0a m,aa,v];rw[au (by omega)]) (λG left=>by
  have c:¬((a.length:Int)<(a.length:Int)):=by omega
  simp only[xA.l0,ak,a0c c]) (f:=k) (by omega) (left-(a.length:Int)) (by omega) (by omega)
 refine⟨r,e,λx=> ?_⟩;obtain⟨z,y⟩:=p x;exact⟨by omega,by show a.length<=1048576;omega,y⟩
def szRow_is (k:Nat) (c:1048576<k) (a:((List cf)×Unit)) (d:Kd.WF fJ a) (left:Int) (j:0<=left) (l:left<=1048576):∃r:Int,Ki k (a,left,())=some ((r,()),((),(),()))/\(0<=r->r<=left/\Kd.Small fJ a):=by
 obtain⟨e,_⟩:=d;unfold Ki;simp only[ak];obtain⟨b,f,g⟩:=szPartS_is k c a.1 e left (by omega) (by omega);simp only[f,aa];by_cases c1:b<0
 ·rw[a0e c1];exact⟨-1,rfl,λh=>by omega⟩
 rw[a0c c1];obtain⟨m,i⟩:=g (by omega);exact⟨b,rfl,λh=>⟨by omega,⟨i,trivial⟩⟩⟩
def szRowS_is (k:Nat) (q:1048576<k) (a:iQ) (s:Kd.WF (.sl false fJ) a) (left:Int) (d:0<=left) (g:left<=1048576):∃r:Int,xB k (a,left,())=some ((r,()),((),(),()))/\(0<=r->r<=left/\Kd.Small (.sl false fJ) a):=by
 obtain⟨j,w1⟩:=s;have j:a.length<=140737488351232:=j;unfold xB;simp only[ak];rw[am (n:=left-(a.length:Int)) (by omega) (by omega)];by_cases l:left-(a.length:Int)<0
 ·rw[a0e l];exact⟨-1,rfl,λh=>by omega⟩
 rw[a0c l];obtain⟨r,e,p⟩:=o9 (b:=xB.l0 k) (λi left=>(a,left,(i:Int),())) a (Kd.Small fJ) (o:=((),(),())) (λG i m left d g=>by
  have c:((i:Int)<(a.length:Int)):=by omega
  have t:(0:Int)<=(i:Int):=by omega
  obtain⟨u,v,w⟩:=szRow_is k q a[i] (w1 _ (a0h m)) left d g;refine⟨u,?_,w⟩;simp only[xB.l0,ak,a0e c,a0e t,a0g,a0a m,aa,v];rw[au (by omega)]) (λG left=>by
  have c:¬((a.length:Int)<(a.length:Int)):=by omega
  simp only[xB.l0,ak,a0c c]) (f:=k) (by omega) (left-(a.length:Int)) (by omega) (by omega)
 refine⟨r,e,λx=> ?_⟩;obtain⟨z,y⟩:=p x;exact⟨by omega,by show a.length<=1048576;omega,y⟩
def toStringS_is (k:Nat) (n:1048576<k) (a:(List (List UInt8))) (h:Kd.Small (.sl false .str) a):uV k (a,())=some ((a,()),((),())):=by
 obtain⟨e,o⟩:=h;have e:a.length<=1048576:=e;unfold uV;have f:0<=(a.length:Int)/\(a.length:Int)<=(a.length:Int)/\(a.length:Int)*16<=ai:=by simp[ai];omega
 simp only[ak,a0e f,a0g]
 generalize p:(Kd.z .str:(List UInt8))=z
 exact jT (b:=uV.l0 k) (λi c=>(a,c,(i:Int),())) a z (λG i g c q j=>by
  have d:((i:Int)<(a.length:Int)):=by omega
  have l:(0:Int)<=(i:Int):=by omega
  have m:0<=(i:Int)/\(i:Int)<(c.length:Int):=by omega
  simp only[uV.l0,ak,a0e d,a0e l,a0e m,a0g,a0a g,j,aa];rw[au (by omega)]
  try rfl) (λG c=>by
  have d:¬((a.length:Int)<(a.length:Int)):=by omega
  simp only[uV.l0,ak,a0c d]) (by omega)
def toArr_is (k:Nat) (b:1048576<k) (a:gV) (h:Kd.Small nk a):MR k (a,())=some ((a,()),((),())):=by
 rfl
def toArrS_is (k:Nat) (g:1048576<k) (a:(List gV)) (h:Kd.Small nj a):xC k (a,())=some ((a,()),((),())):=by
 obtain⟨e,j⟩:=h;have e:a.length<=1048576:=e;unfold xC;have l:0<=(a.length:Int)/\(a.length:Int)<=(a.length:Int)/\(a.length:Int)*24<=ai:=by simp[ai];omega
 simp only[ak,a0e l,a0g]
 generalize p:(Kd.z nk:gV)=z
 exact jT (b:=xC.l0 k) (λi c=>(a,c,(i:Int),())) a z (λG i f c q m=>by
  have d:((i:Int)<(a.length:Int)):=by omega
  have n:(0:Int)<=(i:Int):=by omega
  have o:0<=(i:Int)/\(i:Int)<(c.length:Int):=by omega
  simp only[xC.l0,ak,a0e d,a0e n,a0e o,a0g,a0a f,m,aa,toArr_is k g a[i] (j _ (a0h f))];rw[au (by omega)]
  try rfl) (λG c=>by
  have d:¬((a.length:Int)<(a.length:Int)):=by omega
  simp only[xC.l0,ak,a0c d]) (by omega)
def toDecl_is (k:Nat) (b:1048576<k) (a:iN) (h:Kd.Small (.cons (.sl false .str) (.cons (.sl false .str) (.cons nj .nil))) a):Kj k (a,())=some ((a,()),((),())):=by
 obtain⟨c,d,e,_⟩:=h;unfold Kj;simp only[toStringS_is k b a.1 c,toStringS_is k b a.2.1 d,toArrS_is k b a.2.2.1 e,aa]
def toTok_is (k:Nat) (b:1048576<k) (a:(Int×Int×Unit)) (h:Kd.Small cZ a):MS k (a,())=some ((a,()),((),())):=by
 rfl
def toTokS_is (k:Nat) (g:1048576<k) (a:cn) (h:Kd.Small cK a):uW k (a,())=some ((a,()),((),())):=by
 obtain⟨e,j⟩:=h;have e:a.length<=1048576:=e;unfold uW;have l:0<=(a.length:Int)/\(a.length:Int)<=(a.length:Int)/\(a.length:Int)*16<=ai:=by simp[ai];omega
 simp only[ak,a0e l,a0g]
 generalize p:(Kd.z cZ:(Int×Int×Unit))=z
 exact jT (b:=uW.l0 k) (λi c=>(a,c,(i:Int),())) a z (λG i f c q m=>by
  have d:((i:Int)<(a.length:Int)):=by omega
  have n:(0:Int)<=(i:Int):=by omega
  have o:0<=(i:Int)/\(i:Int)<(c.length:Int):=by omega
  simp only[uW.l0,ak,a0e d,a0e n,a0e o,a0g,a0a f,m,aa,toTok_is k g a[i] (j _ (a0h f))];rw[au (by omega)]
  try rfl) (λG c=>by
  have d:¬((a.length:Int)<(a.length:Int)):=by omega
  simp only[uW.l0,ak,a0c d]) (by omega)
def toLine_is (k:Nat) (b:1048576<k) (a:df) (h:Kd.Small eF a):Kk k (a,())=some ((a,()),((),())):=by
 obtain⟨e,f,c,d,g,i,_⟩:=h;unfold Kk;simp only[toTokS_is k b a.2.2.1 c,toTokS_is k b a.2.2.2.1 d,aa]
def toLineS_is (k:Nat) (g:1048576<k) (a:(List df)) (h:Kd.Small (.sl false eF) a):xD k (a,())=some ((a,()),((),())):=by
 obtain⟨e,j⟩:=h;have e:a.length<=1048576:=e;unfold xD;have l:0<=(a.length:Int)/\(a.length:Int)<=(a.length:Int)/\(a.length:Int)*80<=ai:=by simp[ai];omega
 simp only[ak,a0e l,a0g]
 generalize p:(Sh.z GC:df)=z
 exact jT (b:=xD.l0 k) (λi c=>(a,c,(i:Int),())) a z (λG i f c q m=>by
  have d:((i:Int)<(a.length:Int)):=by omega
  have n:(0:Int)<=(i:Int):=by omega
  have o:0<=(i:Int)/\(i:Int)<(c.length:Int):=by omega
  simp only[xD.l0,ak,a0e d,a0e n,a0e o,a0g,a0a f,m,aa,toLine_is k g a[i] (j _ (a0h f))];rw[au (by omega)]
  try rfl) (λG c=>by
  have d:¬((a.length:Int)<(a.length:Int)):=by omega
  simp only[xD.l0,ak,a0c d]) (by omega)
def toProg_is (k:Nat) (b:1048576<k) (a:fz) (h:Kd.Small (.cons (.sl false .str) (.cons (.sl false .str) (.cons nj (.cons (.sl false eF) .nil)))) a):ED k (a,())=some ((a,()),((),())):=by
 obtain⟨c,d,e,f,_⟩:=h;unfold ED;simp only[toDecl_is k b (a.1,a.2.1,a.2.2.1,()) ⟨c,d,e,trivial⟩,toLineS_is k b a.2.2.2.1 f,aa]
def toEntry_is (k:Nat) (b:1048576<k) (a:(Int×Int×Unit)) (h:Kd.Small cZ a):MT k (a,())=some ((a,()),((),())):=by
 rfl
def toEntryS_is (k:Nat) (g:1048576<k) (a:cn) (h:Kd.Small cK a):xE k (a,())=some ((a,()),((),())):=by
 obtain⟨e,j⟩:=h;have e:a.length<=1048576:=e;unfold xE;have l:0<=(a.length:Int)/\(a.length:Int)<=(a.length:Int)/\(a.length:Int)*16<=ai:=by simp[ai];omega
 simp only[ak,a0e l,a0g]
 generalize p:(Kd.z cZ:(Int×Int×Unit))=z
 exact jT (b:=xE.l0 k) (λi c=>(a,c,(i:Int),())) a z (λG i f c q m=>by
  have d:((i:Int)<(a.length:Int)):=by omega
  have n:(0:Int)<=(i:Int):=by omega
  have o:0<=(i:Int)/\(i:Int)<(c.length:Int):=by omega
  simp only[xE.l0,ak,a0e d,a0e n,a0e o,a0g,a0a f,m,aa,toEntry_is k g a[i] (j _ (a0h f))];rw[au (by omega)]
  try rfl) (λG c=>by
  have d:¬((a.length:Int)<(a.length:Int)):=by omega
  simp only[xE.l0,ak,a0c d]) (by omega)
def toInterval_is (k:Nat) (b:1048576<k) (a:(Int×Int×Unit)) (h:Kd.Small cZ a):MU k (a,())=some ((a,()),((),())):=by
 rfl
def toIntervalS_is (k:Nat) (g:1048576<k) (a:cn) (h:Kd.Small cK a):uX k (a,())=some ((a,()),((),())):=by
 obtain⟨e,j⟩:=h;have e:a.length<=1048576:=e;unfold uX;have l:0<=(a.length:Int)/\(a.length:Int)<=(a.length:Int)/\(a.length:Int)*16<=ai:=by simp[ai];omega
 simp only[ak,a0e l,a0g]
 generalize p:(Kd.z cZ:(Int×Int×Unit))=z
 exact jT (b:=uX.l0 k) (λi c=>(a,c,(i:Int),())) a z (λG i f c q m=>by
  have d:((i:Int)<(a.length:Int)):=by omega
  have n:(0:Int)<=(i:Int):=by omega
  have o:0<=(i:Int)/\(i:Int)<(c.length:Int):=by omega
  simp only[uX.l0,ak,a0e d,a0e n,a0e o,a0g,a0a f,m,aa,toInterval_is k g a[i] (j _ (a0h f))];rw[au (by omega)]
  try rfl) (λG c=>by
  have d:¬((a.length:Int)<(a.length:Int)):=by omega
  simp only[uX.l0,ak,a0c d]) (by omega)
def toEnv_is (k:Nat) (b:1048576<k) (a:aS) (h:Kd.Small ci a):Kl k (a,())=some ((a,()),((),())):=by
 obtain⟨e,c,d,_⟩:=h;unfold Kl;simp only[toIntervalS_is k b a.2.1 c,toIntervalS_is k b a.2.2.1 d,aa]
def toEnvS_is (k:Nat) (g:1048576<k) (a:(List aS)) (h:Kd.Small (.sl false ci) a):xF k (a,())=some ((a,()),((),())):=by
 obtain⟨e,j⟩:=h;have e:a.length<=1048576:=e;unfold xF;have l:0<=(a.length:Int)/\(a.length:Int)<=(a.length:Int)/\(a.length:Int)*56<=ai:=by simp[ai];omega
 simp only[ak,a0e l,a0g]
 generalize p:(Kd.z ci:aS)=z
 exact jT (b:=xF.l0 k) (λi c=>(a,c,(i:Int),())) a z (λG i f c q m=>by
  have d:((i:Int)<(a.length:Int)):=by omega
  have n:(0:Int)<=(i:Int):=by omega
  have o:0<=(i:Int)/\(i:Int)<(c.length:Int):=by omega
  simp only[xF.l0,ak,a0e d,a0e n,a0e o,a0g,a0a f,m,aa,toEnv_is k g a[i] (j _ (a0h f))];rw[au (by omega)]
  try rfl) (λG c=>by
  have d:¬((a.length:Int)<(a.length:Int)):=by omega
  simp only[xF.l0,ak,a0c d]) (by omega)
def toPart_is (k:Nat) (b:1048576<k) (a:cf) (h:Kd.Small fy a):Km k (a,())=some ((a,()),((),())):=by
 obtain⟨c,d,_⟩:=h;unfold Km;simp only[toEntryS_is k b a.1 c,toEnvS_is k b a.2.1 d,aa]
def toPartS_is (k:Nat) (g:1048576<k) (a:(List cf)) (h:Kd.Small (.sl false fy) a):xG k (a,())=some ((a,()),((),())):=by
 obtain⟨e,j⟩:=h;have e:a.length<=1048576:=e;unfold xG;have l:0<=(a.length:Int)/\(a.length:Int)<=(a.length:Int)/\(a.length:Int)*48<=ai:=by simp[ai];omega
 simp only[ak,a0e l,a0g]
 generalize p:(Kd.z fy:cf)=z
 exact jT (b:=xG.l0 k) (λi c=>(a,c,(i:Int),())) a z (λG i f c q m=>by
  have d:((i:Int)<(a.length:Int)):=by omega
  have n:(0:Int)<=(i:Int):=by omega
  have o:0<=(i:Int)/\(i:Int)<(c.length:Int):=by omega
  simp only[xG.l0,ak,a0e d,a0e n,a0e o,a0g,a0a f,m,aa,toPart_is k g a[i] (j _ (a0h f))];rw[au (by omega)]
  try rfl) (λG c=>by
  have d:¬((a.length:Int)<(a.length:Int)):=by omega
  simp only[xG.l0,ak,a0c d]) (by omega)
def toRow_is (k:Nat) (b:1048576<k) (a:((List cf)×Unit)) (h:Kd.Small fJ a):Kn k (a,())=some ((a,()),((),())):=by
 obtain⟨c,_⟩:=h;unfold Kn;simp only[toPartS_is k b a.1 c,aa]
def toRowS_is (k:Nat) (g:1048576<k) (a:iQ) (h:Kd.Small (.sl false fJ) a):sf k (a,())=some ((a,()),((),())):=by
 obtain⟨e,j⟩:=h;have e:a.length<=1048576:=e;unfold sf;have l:0<=(a.length:Int)/\(a.length:Int)<=(a.length:Int)/\(a.length:Int)*24<=ai:=by simp[ai];omega
 simp only[ak,a0e l,a0g]
 generalize p:(Kd.z fJ:((List cf)×Unit))=z
 exact jT (b:=sf.l0 k) (λi c=>(a,c,(i:Int),())) a z (λG i f c q m=>by
  have d:((i:Int)<(a.length:Int)):=by omega
  have n:(0:Int)<=(i:Int):=by omega
  have o:0<=(i:Int)/\(i:Int)<(c.length:Int):=by omega
  simp only[sf.l0,ak,a0e d,a0e n,a0e o,a0g,a0a f,m,aa,toRow_is k g a[i] (j _ (a0h f))];rw[au (by omega)]
  try rfl) (λG c=>by
  have d:¬((a.length:Int)<(a.length:Int)):=by omega
  simp only[sf.l0,ak,a0c d]) (by omega)
def eqStringS_is (k:Nat) (j:1048576<k) (a:(List (List UInt8))) (h:Kd.Small (.sl false .str) a):u2 k (a,a,())=some ((true,()),((),(),())):=by
 obtain⟨d,l⟩:=h;have d:a.length<=1048576:=d;unfold u2;have e:((a.length:Int) !=(a.length:Int))=false:=by simp
 simp only[e,af];exact aR (b:=u2.l0 k) (λi=>(a,a,(i:Int),())) a.length (λG i f=>by
  have c:((i:Int)<(a.length:Int)):=by omega
  have g:(0:Int)<=(i:Int):=by omega
  simp only[u2.l0,ak,a0e c,a0e g,a0g,a0a f,aa,a1x,a5b,a0j,af];rw[au (by omega)]) (λG=>by
  have c:¬((a.length:Int)<(a.length:Int)):=by omega
  simp only[u2.l0,ak,a0c c]) (by omega)
def eqArr_is (k:Nat) (b:1048576<k) (a:gV) (h:Kd.Small nk a):Ku k (a,a,())=some ((true,()),((),(),())):=by
 obtain⟨c,d,_⟩:=h;unfold Ku;simp only[aa,a1x,a5b,a0j,af]
def eqArrS_is (k:Nat) (f:1048576<k) (a:(List gV)) (h:Kd.Small nj a):xM k (a,a,())=some ((true,()),((),(),())):=by
 obtain⟨d,g⟩:=h;have d:a.length<=1048576:=d;unfold xM;have j:((a.length:Int) !=(a.length:Int))=false:=by simp
 simp only[j,af];exact aR (b:=xM.l0 k) (λi=>(a,a,(i:Int),())) a.length (λG i e=>by
  have c:((i:Int)<(a.length:Int)):=by omega
  have l:(0:Int)<=(i:Int):=by omega
  simp only[xM.l0,ak,a0e c,a0e l,a0g,a0a e,aa,a1x,a5b,a0j,af,eqArr_is k f a[i] (g _ (a0h e))];rw[au (by omega)]) (λG=>by
  have c:¬((a.length:Int)<(a.length:Int)):=by omega
  simp only[xM.l0,ak,a0c c]) (by omega)
def eqDecl_is (k:Nat) (b:1048576<k) (a:iN) (h:Kd.Small (.cons (.sl false .str) (.cons (.sl false .str) (.cons nj .nil))) a):Kv k (a,a,())=some ((true,()),((),(),())):=by
 obtain⟨c,d,e,_⟩:=h;unfold Kv;simp only[eqStringS_is k b a.1 c,eqStringS_is k b a.2.1 d,eqArrS_is k b a.2.2.1 e,aa,a1x,a5b,a0j,af]
def eqTok_is (k:Nat) (b:1048576<k) (a:(Int×Int×Unit)) (h:Kd.Small cZ a):Kw k (a,a,())=some ((true,()),((),(),())):=by
 obtain⟨c,d,_⟩:=h;unfold Kw;simp only[aa,a1x,a5b,a0j,af]
def eqTokS_is (k:Nat) (f:1048576<k) (a:cn) (h:Kd.Small cK a):u5 k (a,a,())=some ((true,()),((),(),())):=by
 obtain⟨d,g⟩:=h;have d:a.length<=1048576:=d;unfold u5;have j:((a.length:Int) !=(a.length:Int))=false:=by simp
 simp only[j,af];exact aR (b:=u5.l0 k) (λi=>(a,a,(i:Int),())) a.length (λG i e=>by
  have c:((i:Int)<(a.length:Int)):=by omega
  have l:(0:Int)<=(i:Int):=by omega
  simp only[u5.l0,ak,a0e c,a0e l,a0g,a0a e,aa,a1x,a5b,a0j,af,eqTok_is k f a[i] (g _ (a0h e))];rw[au (by omega)]) (λG=>by
  have c:¬((a.length:Int)<(a.length:Int)):=by omega
  simp only[u5.l0,ak,a0c c]) (by omega)
def eqLine_is (k:Nat) (b:1048576<k) (a:df) (h:Kd.Small eF a):Ky k (a,a,())=some ((true,()),((),(),())):=by
 obtain⟨e,f,c,d,g,i,_⟩:=h;unfold Ky;simp only[eqTokS_is k b a.2.2.1 c,eqTokS_is k b a.2.2.2.1 d,aa,a1x,a5b,a0j,af]
def eqLineS_is (k:Nat) (f:1048576<k) (a:(List df)) (h:Kd.Small (.sl false eF) a):xN k (a,a,())=some ((true,()),((),(),())):=by
 obtain⟨d,g⟩:=h;have d:a.length<=1048576:=d;unfold xN;have j:((a.length:Int) !=(a.length:Int))=false:=by simp
 simp only[j,af];exact aR (b:=xN.l0 k) (λi=>(a,a,(i:Int),())) a.length (λG i e=>by
  have c:((i:Int)<(a.length:Int)):=by omega
  have l:(0:Int)<=(i:Int):=by omega
  simp only[xN.l0,ak,a0e c,a0e l,a0g,a0a e,aa,a1x,a5b,a0j,af,eqLine_is k f a[i] (g _ (a0h e))];rw[au (by omega)]) (λG=>by
  have c:¬((a.length:Int)<(a.length:Int)):=by omega
  simp only[xN.l0,ak,a0c c]) (by omega)
def eqProg_is (k:Nat) (b:1048576<k) (a:fz) (h:Kd.Small (.cons (.sl false .str) (.cons (.sl false .str) (.cons nj (.cons (.sl false eF) .nil)))) a):He k (a,a,())=some ((true,()),((),(),())):=by
 obtain⟨c,d,e,f,_⟩:=h;unfold He;simp only[eqDecl_is k b (a.1,a.2.1,a.2.2.1,()) ⟨c,d,e,trivial⟩,eqLineS_is k b a.2.2.2.1 f,aa,a1x,a5b,a0j,af]
def eqEntry_is (k:Nat) (b:1048576<k) (a:(Int×Int×Unit)) (h:Kd.Small cZ a):Kz k (a,a,())=some ((true,()),((),(),())):=by
 obtain⟨c,d,_⟩:=h;unfold Kz;simp only[aa,a1x,a5b,a0j,af]
def eqEntryS_is (k:Nat) (f:1048576<k) (a:cn) (h:Kd.Small cK a):xO k (a,a,())=some ((true,()),((),(),())):=by
 obtain⟨d,g⟩:=h;have d:a.length<=1048576:=d;unfold xO;have j:((a.length:Int) !=(a.length:Int))=false:=by simp
 simp only[j,af];exact aR (b:=xO.l0 k) (λi=>(a,a,(i:Int),())) a.length (λG i e=>by
  have c:((i:Int)<(a.length:Int)):=by omega
  have l:(0:Int)<=(i:Int):=by omega
  simp only[xO.l0,ak,a0e c,a0e l,a0g,a0a e,aa,a1x,a5b,a0j,af,eqEntry_is k f a[i] (g _ (a0h e))];rw[au (by omega)]) (λG=>by
  have c:¬((a.length:Int)<(a.length:Int)):=by omega
  simp only[xO.l0,ak,a0c c]) (by omega)
def eqInterval_is (k:Nat) (b:1048576<k) (a:(Int×Int×Unit)) (h:Kd.Small cZ a):KA k (a,a,())=some ((true,()),((),(),())):=by
 obtain⟨c,d,_⟩:=h;unfold KA;simp only[aa,a1x,a5b,a0j,af]
def eqIntervalS_is (k:Nat) (f:1048576<k) (a:cn) (h:Kd.Small cK a):u6 k (a,a,())=some ((true,()),((),(),())):=by
 obtain⟨d,g⟩:=h;have d:a.length<=1048576:=d;unfold u6;have j:((a.length:Int) !=(a.length:Int))=false:=by simp
 simp only[j,af];exact aR (b:=u6.l0 k) (λi=>(a,a,(i:Int),())) a.length (λG i e=>by
  have c:((i:Int)<(a.length:Int)):=by omega
  have l:(0:Int)<=(i:Int):=by omega
  simp only[u6.l0,ak,a0e c,a0e l,a0g,a0a e,aa,a1x,a5b,a0j,af,eqInterval_is k f a[i] (g _ (a0h e))];rw[au (by omega)]) (λG=>by
  have c:¬((a.length:Int)<(a.length:Int)):=by omega
  simp only[u6.l0,ak,a0c c]) (by omega)
def eqEnv_is (k:Nat) (b:1048576<k) (a:aS) (h:Kd.Small ci a):KB k (a,a,())=some ((true,()),((),(),())):=by
 obtain⟨e,c,d,_⟩:=h;unfold KB;simp only[eqIntervalS_is k b a.2.1 c,eqIntervalS_is k b a.2.2.1 d,aa,a1x,a5b,a0j,af]
def eqEnvS_is (k:Nat) (f:1048576<k) (a:(List aS)) (h:Kd.Small (.sl false ci) a):xP k (a,a,())=some ((true,()),((),(),())):=by
 obtain⟨d,g⟩:=h;have d:a.length<=1048576:=d;unfold xP;have j:((a.length:Int) !=(a.length:Int))=false:=by simp
 simp only[j,af];exact aR (b:=xP.l0 k) (λi=>(a,a,(i:Int),())) a.length (λG i e=>by
  have c:((i:Int)<(a.length:Int)):=by omega
  have l:(0:Int)<=(i:Int):=by omega
  simp only[xP.l0,ak,a0e c,a0e l,a0g,a0a e,aa,a1x,a5b,a0j,af,eqEnv_is k f a[i] (g _ (a0h e))];rw[au (by omega)]) (λG=>by
  have c:¬((a.length:Int)<(a.length:Int)):=by omega
  simp only[xP.l0,ak,a0c c]) (by omega)
def eqPart_is (k:Nat) (b:1048576<k) (a:cf) (h:Kd.Small fy a):KC k (a,a,())=some ((true,()),((),(),())):=by
 obtain⟨c,d,_⟩:=h;unfold KC;simp only[eqEntryS_is k b a.1 c,eqEnvS_is k b a.2.1 d,aa,a1x,a5b,a0j,af]
def eqPartS_is (k:Nat) (f:1048576<k) (a:(List cf)) (h:Kd.Small (.sl false fy) a):xQ k (a,a,())=some ((true,()),((),(),())):=by
 obtain⟨d,g⟩:=h;have d:a.length<=1048576:=d;unfold xQ;have j:((a.length:Int) !=(a.length:Int))=false:=by simp
 simp only[j,af];exact aR (b:=xQ.l0 k) (λi=>(a,a,(i:Int),())) a.length (λG i e=>by
  have c:((i:Int)<(a.length:Int)):=by omega
  have l:(0:Int)<=(i:Int):=by omega
  simp only[xQ.l0,ak,a0e c,a0e l,a0g,a0a e,aa,a1x,a5b,a0j,af,eqPart_is k f a[i] (g _ (a0h e))];rw[au (by omega)]) (λG=>by
  have c:¬((a.length:Int)<(a.length:Int)):=by omega
  simp only[xQ.l0,ak,a0c c]) (by omega)
def eqRow_is (k:Nat) (b:1048576<k) (a:((List cf)×Unit)) (h:Kd.Small fJ a):KD k (a,a,())=some ((true,()),((),(),())):=by
 obtain⟨c,_⟩:=h;unfold KD;simp only[eqPartS_is k b a.1 c,aa,a1x,a5b,a0j,af]
def eqRowS_is (k:Nat) (f:1048576<k) (a:iQ) (h:Kd.Small (.sl false fJ) a):xR k (a,a,())=some ((true,()),((),(),())):=by
 obtain⟨d,g⟩:=h;have d:a.length<=1048576:=d;unfold xR;have j:((a.length:Int) !=(a.length:Int))=false:=by simp
 simp only[j,af];exact aR (b:=xR.l0 k) (λi=>(a,a,(i:Int),())) a.length (λG i e=>by
  have c:((i:Int)<(a.length:Int)):=by omega
  have l:(0:Int)<=(i:Int):=by omega
  simp only[xR.l0,ak,a0e c,a0e l,a0g,a0a e,aa,a1x,a5b,a0j,af,eqRow_is k f a[i] (g _ (a0h e))];rw[au (by omega)]) (λG=>by
  have c:¬((a.length:Int)<(a.length:Int)):=by omega
  simp only[xR.l0,ak,a0c c]) (by omega)
end Go.Pev.F.Cp
section
namespace Go.Pev.F
abbrev H1:=List az×Unit
abbrev PW:Kd:= .cons (.sl false HO) .nil
def PB (e:aK):Prop:=(∀x∈e.2.1,bc x)/\∀x∈e.2.2.1,bc x
def NL (l:List az):Prop:=∀p∈l,∀e∈p.2.1,PB e
def FC {l:List bo} (h:xV l=true):∀x∈l,bt x=true:=by
 unfold xV at h;simp only[a2p,a7q,a3z,Bool.not_eq_false']at h;intro x a;simpa using h x a
def NM {d:ar} {e:aK} (h:fZ d e=true) (f:PB e):aT d e:=by
 unfold fZ at h;rcases a0n e.1 with hl|hl
 ·rw[cT hl]at h
  simp only[a0f,a2w]at h;exact Or.inl ⟨hl,⟨by omega,by omega,f.1,f.2⟩,FC h.2.2.1,FC h.2.2.2⟩
 ·rw[cF hl]at h
  simp only[a0f,a2w]at h;have g:e.2.1=[]:=a3o.1 (by omega);have i:e.2.2.1=[]:=a3o.1 (by omega);refine Or.inr ?_
  obtain⟨a,b,c,⟨⟩⟩:=e;simp only at hl g i;rw[hl,g,i];rfl
def zd {d:ar} {l:List az} (h:dm d l=true) (c:NL l):dx d l/\l.length<=100:=by
 obtain⟨f,g,i⟩:=HZ h;refine⟨⟨λp a=> ?_,i⟩,f⟩;obtain⟨a1,j,n⟩:=g p a;obtain⟨k,m⟩:=H0 j;refine⟨a1,?_,λe b=>NM (m e b) (c p a e b)⟩;have:((p.2.1.length:Nat):Int)=((2^d.2.1.length:Nat):Int):=by rw[k];simp
 omega
structure Qe (p:dw) (rows:List (List az)):Prop where
 n:rows.length=p.2.2.2.1.length+1
 g:∀l∈rows,dx (aw p) l/\l.length<=100
def H2 {k:Nat} (e:4194304<k) (c:k<=4611686018427387903) (p:dw) (l:mS p) (a:List H1) (w:a.length<=1048576) (m:∀r∈a,gp r.1):Kp k (p,a,())=some ((dh p&& (decide (a.length=p.2.2.2.1.length+1)&& a.all λr=>dm (aw p) r.1),()),((),(),())):=by
 simp only[Kp,Ah k e c p l,aa]
 cases hok:dh p
 ·simp
 ·obtain⟨q,s,_,_⟩:=cj hok
  rw[ah,am (by omega) (by omega),cg,a1i];by_cases g:a.length=p.2.2.2.1.length+1
  ·rw[a0e (by omega),a0b g,a1i]
   obtain⟨n,t,u⟩:=eu (b:=xJ.l0 k) (λi=>(a,((((p.1,p.2.1,p.2.2.1,p.2.2.2.1,()),()),()),()),(a.length:Int),(i:Int),())) a (λr=> !dm (aw p) r.1) (o:=((),((((p.1,p.2.1,p.2.2.1,p.2.2.2.1,()),()),()),()),())) (λG i h=>by
    have v:=a0h h;have j:JI k ((p.1,p.2.1,p.2.2.1,()),a[i].1,())=some ((dm (aw p) a[i].1,()),((),(),())):=Fh k e (aw p) (dZ q).2.1 _ (m _ v);simp only[xJ.l0,MW,MV,j,aa];rw[a0b (show(i:Int)<(a.length:Int) by omega),a0b (show(0:Int)<=(i:Int) by omega)];simp only[ah,a0g,a0a h,aa,j];rw[au (i:=i) (by omega)]
    cases dm (aw p) a[i].1<;>simp) (λG=>by
    simp only[xJ.l0];rw[a0i (show¬(a.length:Int)<(a.length:Int) by omega),af]) (f:=k) (by omega)
   unfold MX xJ;have d:aG (xJ.l0 k) k (a,((((p.1,p.2.1,p.2.2.1,p.2.2.2.1,()),()),()),()),(a.length:Int),0,())=some ((n,()),((),((((p.1,p.2.1,p.2.2.1,p.2.2.2.1,()),()),()),()),())):=t;simp only[d,aa,u,iG,a7h]
  ·rw[a0c (by omega),a0i g,a3n]
def H3 {k:Nat} (j:4194304<k) (c:k<=4611686018427387903) (p:dw) (l:mS p) (a:List H1) (w:a.length<=1048576) (n:∀r∈a,gp r.1):∃o,uY k (p,a,())=some ((o,dh p&& (decide (a.length=p.2.2.2.1.length+1)&& a.all λr=>dm (aw p) r.1),()),((),(),()))/\((dh p&& (decide (a.length=p.2.2.2.1.length+1)&& a.all λr=>dm (aw p) r.1))=true->o=a.map (·.1)):=by
 simp only[uY,lD k j c p l,aa]
 cases hok:dh p
 ·exact⟨[],by simp,λh=>by cases h⟩
 ·obtain⟨q,s,_,_⟩:=cj hok
  rw[a0j,af,am (by omega) (by omega),a0d,a1i];by_cases m:a.length=p.2.2.2.1.length+1
  ·have e:((a.length:Int) !=(p.2.2.2.1.length:Int)+1)=false:=by simp;omega
   rw[e,af,a0b m,a1i];have h:=oC (b:=uY.l0 k) (λi=>(a,(p.1,p.2.1,p.2.2.1,p.2.2.2.1,()),(a.take i).map (·.1),(i:Int),())) a (λr=>dm (aw p) r.1) (rf:=some (([],false,()),((),(),()))) (r:=some ((a.map (·.1),true,()),((),(),()))) (λG i g=>by
    have t:=a0h g;have u:uR k ((p.1,p.2.1,p.2.2.1,()),a[i].1,())=some ((dm (aw p) a[i].1,()),((),(),())):=yA k j (aw p) l.d q _ (n _ t);simp only[uY.l0];rw[a0b (show(i:Int)<(a.length:Int) by omega),a0b (show(0:Int)<=(i:Int) by omega)];simp only[ah,a0g,a0a g,aa,u];rw[au (i:=i) (by omega),a0b (by simp only[a3a,a1m,a0o,a0q,ai];omega),ah,a2e g,a3d];exact yM k _ _ _) (λG=>by
    simp only[uY.l0];rw[a0i (show¬(a.length:Int)<(a.length:Int) by omega),af,a1f]) (f:=k) (by omega)
   have v:aG (uY.l0 k) k (a,(p.1,p.2.1,p.2.2.1,p.2.2.2.1,()),[],0,())=_:=h;rw[v]
   cases a.all λr=>dm (aw p) r.1
   ·exact⟨[],rfl,λh=>by cases h⟩
   ·exact⟨_,rfl,λ_=>rfl⟩
  ·have e:((a.length:Int) !=(p.2.2.2.1.length:Int)+1)=true:=by simp;omega
   rw[e,ah,a0i m,a3n];exact⟨[],rfl,λh=>by cases h⟩
def Dh (d:ar):aK:=(true,List.replicate d.1.length dA,List.replicate d.2.2.1.length dA,())
def je (d:ar):List az:=[([],kJ d 0 (Dh d),())]
def FD (d:ar):aT d (Dh d):=by
 refine Or.inl ⟨rfl,⟨by simp[Dh],by simp[Dh],λx a=> ?_,λx a=> ?_⟩,λx a=> ?_,λx a=> ?_⟩
 ·rw[a4j a];exact cx
 ·rw[a4j a];exact cx
 ·rw[a4j a];rfl
 ·rw[a4j a];rfl
def uC (d:ar):dx d (je d):=⟨λx a=>by rw[a1c.1 a];exact⟨rfl,lp (FD d)⟩,List.pairwise_singleton _ _⟩
def pI {k:Nat} (d:ar) (b:aN d=true):zV k (d,())=some ((je d,()),((),())):=by
 obtain⟨i,c,j⟩:=dZ b;obtain⟨e,f,g,h⟩:=Dd b;have a:0<2^d.2.1.length:=Nat.two_pow_pos _;simp only[zV];rw[a0b (show 0<=(d.1.length:Int)/\(d.1.length:Int)<=(d.1.length:Int)/\(d.1.length:Int)*16<=ai by unfold ai;omega),ah,a0b (show 0<=(d.2.2.1.length:Int)/\(d.2.2.1.length:Int)<=(d.2.2.1.length:Int)/\(d.2.2.1.length:Int)*16<=ai by unfold ai;omega),ah,sP k d c,aa,a0b ⟨e,f,g⟩,ah];simp only[h];rw[a0b (by rw[a1p];omega),ah,a0a (by rw[a1p];exact a),aa];rfl
def An {k:Nat} (f:4194304<k) (c:k<=4611686018427387903) (p:dw) (g:mS p) (b:dh p=true):Ko k (p,())=some ((je (aw p),()),((),())):=by
 obtain⟨e,_,_,_⟩:=cj b;obtain⟨h,i,j⟩:=dZ e;obtain⟨l,m,n,o⟩:=Dd e;have d:0<2^(aw p).2.1.length:=Nat.two_pow_pos _;have q:p.1.length<=5:=h;have r:p.2.2.1.length<=2:=j;have a:zP k ((p.1,p.2.1,p.2.2.1,()),())=some ((List.replicate (2^(aw p).2.1.length) bq,()),((),())):=by
  have s:zO k ((p.1,p.2.1,p.2.2.1,()),())=some (((2:Int)^(aw p).2.1.length,()),((),())):=sO k (aw p) i;simp only[zP,s,aa];rw[a0b ⟨l,m,n⟩,ah,o];rfl
 simp only[Ko,lD k f c p g,b,aa,a0j,af,a];rw[a0b (show 0<=(p.1.length:Int)/\(p.1.length:Int)<=(p.1.length:Int)/\(p.1.length:Int)*16<=ai by unfold ai;omega),ah,a0b (show 0<=(p.2.2.1.length:Int)/\(p.2.2.1.length:Int)<=(p.2.2.1.length:Int)/\(p.2.2.1.length:Int)*16<=ai by unfold ai;omega),ah,a0b (by rw[a1p];omega),ah,a0a (by rw[a1p];exact d),aa];rfl
abbrev Qf:=eQ×eQ×List pm×List aV×List Int×List Int×List (List az)×Bool×Unit
def IM (p:dw) (a:List (List az)) (b:Bool):Qf:=(p.1,p.2.1,p.2.2.1,p.2.2.2.1,bT p.2.2.2.1,s4 p,a,b,())
def Lz (d:ar) (n:aV) (a b:Int):l6 d n a b []=([],0,false,()):=rfl
def d6 (p:dw) (a:List (List az)) (i:Nat):sX:=l6 (aw p) (p.2.2.2.1.getD i (0,0,[],[],0,0,())) (i:Int) ((bT p.2.2.2.1).getD i 0) (a.getD i [])
def jJ (f:sX):Bool:=f.2.2.1
def Di {p:dw} (b:dh p=true) {i:Nat} (c:i<p.2.2.2.1.length):(bT p.2.2.2.1)[i]?=some ((bT p.2.2.2.1).getD i 0)/\0<=(bT p.2.2.2.1).getD i 0/\(bT p.2.2.2.1).getD i 0<=(p.2.2.2.1.length:Int):=by
 obtain⟨g,d,_,_⟩:=cj b;obtain⟨e,f⟩:=rD p.2.2.2.1 d;have a:i<(bT p.2.2.2.1).length:=by rw[e];exact c
 refine⟨by rw[aZ a];exact a0a a,?_⟩;rw[aZ a];exact f _ (a0h a)
def H4 {k:Nat} (t:4194304<k) {p:dw} (d:dh p=true) {a:List (List az)} (w:a.length=p.2.2.2.1.length+1) {i:Nat} (f:i<p.2.2.2.1.length) (n:∀q∈a.getD i [],im (aw p) q) (o:(a.getD i []).length<=1000) (b:Bool):Kt k (IM p a b,(i:Int),())=some ((d6 p a i,()),(IM p a (b||jJ (d6 p a i)),(),())):=by
 obtain⟨u,r,g,_⟩:=cj d;have e:i<a.length:=by omega
 have c:a[i]?=some (a.getD i []):=by rw[aZ e];exact a0a e
 obtain⟨l,s⟩:∃l,l=a.getD i []:=⟨_,rfl⟩;have h:p.2.2.2.1.getD i (0,0,[],[],0,0,())=p.2.2.2.1[i]:=aZ f _;have j:d6 p a i=l6 (aw p) p.2.2.2.1[i] (i:Int) ((bT p.2.2.2.1).getD i 0) l:=by unfold d6;rw[h,<-s]
 rw[<-s]at c n o;have m:qY k ((p.1,p.2.1,p.2.2.1,p.2.2.2.1,()),bT p.2.2.2.1,(i:Int),l,())=some ((l6 (aw p) p.2.2.2.1[i] (i:Int) ((bT p.2.2.2.1).getD i 0) l,()),((),(),(),(),())):=Lv t p u (g _ (a0h f)) (a0a f) (by omega) _ (Di d f).1 n o
 rw[j];simp only[IM];simp only[Kt];rw[a0b (show 0<=(i:Int)/\(i:Int)<(a.length:Int) by omega)];simp only[ah,a0g,c,aa];rw[cg];by_cases v:l.length=0
 ·have:l=[]:=a3o.1 v
  rw[a0e (by omega),this,Lz];simp[jJ]
 ·rw[a0c (by omega),m,aa]
  cases b
  ·simp only[af,a5i]
   rfl
  ·simp only[ah,a7f]
def Dj {k:Nat} (c:4194304<k) {p:dw} (a:dh p=true):Kr k (p,())=some ((IM p ((List.replicate (p.2.2.2.1.length+1) []).set 0 (je (aw p))) false,()),((),())):=by
 obtain⟨d,b,e,_⟩:=cj a;have w:wrap .i64 ((p.2.2.2.1.length:Int)+1)=((p.2.2.2.1.length+1:Nat):Int):=by rw[am (by omega) (by omega)];omega
 have f:zV k ((p.1,p.2.1,p.2.2.1,()),())=some ((je (aw p),()),((),())):=pI (aw p) d;simp only[Kr,zc k c p a,Dg (show 1000<k by omega) a,aa,w,a0g];rw[a0b (show 0<=((p.2.2.2.1.length+1:Nat):Int)/\((p.2.2.2.1.length+1:Nat):Int)<=((p.2.2.2.1.length+1:Nat):Int)/\((p.2.2.2.1.length+1:Nat):Int)*24<=ai by unfold ai;omega),ah,f,aa,a0b (by rw[a1p];omega),ah,a0a (by rw[a1p];show 0<_;omega),aa];rfl
def FE {k:Nat} (n:4194304<k) {p:dw} (e:dh p=true) {a:List H1} (o:a.length=p.2.2.2.1.length+1):xL k (p,a,())=some ((IM p (a.map (·.1)) false,()),((),(),())):=by
 obtain⟨t,j,q,_⟩:=cj e;have d:=Dj n e;obtain⟨R,l⟩:∃R,R=((List.replicate (p.2.2.2.1.length+1) ([]:List az)).set 0 (je (aw p))):=⟨_,rfl⟩;rw[<-l]at d;have s:R.length=a.length:=by rw[l];simp[o]
 simp only[IM]at d⊢;simp only[xL,d,aa];refine Eq.trans (aR (b:=xL.l0 k) (λi=>((p.1,p.2.1,p.2.2.1,p.2.2.2.1,bT p.2.2.2.1,s4 p,(a.take i).map (·.1)++R.drop i,false,()),a,(a.length:Int),(i:Int),())) a.length (r:=some ((IM p (a.map (·.1)) false,()),((),(),()))) (λG i m=> ?_) (λG=> ?_) (by omega)) rfl
 ·have c:((a.take i).map (·.1)).length=i:=by rw[a3a,a1m];omega
  have f:i<R.length:=by omega
  have g:((a.take i).map (·.1)++R.drop i)[i]?=some R[i]:=by
   rw[a0w (by omega),c,a7e,a2v,a4d];exact a0a f
  have h:((a.take i).map (·.1)++R.drop i).set i a[i].1=(a.take (i+1)).map (·.1)++R.drop (i+1):=by
   rw[a8j _ _ (by omega),c,a7e,a1a f,a6i,a2e m,a3d,a1r];rfl
  simp only[xL.l0];rw[a0b (show(i:Int)<(a.length:Int) by omega),a0b (show(0:Int)<=(i:Int) by omega)];simp only[ah,a0g,a0a m,aa,g,h];rw[a0b (show 0<=(i:Int)/\(i:Int)<(((a.take i).map (·.1)++R.drop i).length:Int) by rw[a0m,c,a2u];omega),ah,au (i:=i) (by omega)]
 ·simp only[xL.l0]
  rw[a0i (show¬(a.length:Int)<(a.length:Int) by omega),af,a1f,a2a (by omega),a2b];rfl
def pg (a:List (List az)) (e:gI):Bool:=Fp e.2.1 (a.getD e.1.toNat [])
def iM (p:dw) (a:List (List az)) (i:Nat):Bool:=(d6 p a i).1.all (pg a)
def FF (p:dw) (a:List (List az)):Bool:=Fp (je (aw p)) (a.getD 0 [])&& (List.range p.2.2.2.1.length).all λi=>iM p a i&& !jJ (d6 p a i)
structure PX (p:dw) (f:sX):Prop where
 n:f.1.length<=2
 e:∀e∈f.1,dx (aw p) e.2.1/\e.2.1.length<=100/\0<=e.1/\e.1<=(p.2.2.2.1.length:Int)
def uD {p:dw} (d:dh p=true) {c:List (List az)} {i:Nat} (g:i<p.2.2.2.1.length) (m:∀q∈c.getD i [],im (aw p) q):PX p (d6 p c i):=by
 obtain⟨n,l,h,_⟩:=cj d;have j:p.2.2.2.1.getD i (0,0,[],[],0,0,())=p.2.2.2.1[i]:=aZ g _;have k:=HV n (h _ (a0h g)) (i:Int) m;have f:=Di d g;unfold d6 l6;rw[j];obtain⟨S,o⟩:∃S,S=kQ (aw p) p.2.2.2.1[i] (i:Int) (c.getD i []):=⟨_,rfl⟩;rw[<-o]at k⊢;rcases a0n (decide (S.1.length>100)||decide (S.2.length>100))with hc|hc
 ·rw[cT hc];exact⟨a4q _,λe he=>by cases he⟩
 ·rw[cF hc]
  simp only[Bool.or_eq_false_iff,a7t]at hc;unfold pf;refine⟨by rw[a0m];split<;>split<;>simp,λe he=> ?_⟩;simp only at he;rcases a0l.1 he with he|he
  ·split at he
   ·rw[a1c.1 he];exact⟨k.a,by simp only;omega,by simp only;omega,by simp only;omega⟩
   ·cases he
  ·split at he
   ·rw[a1c.1 he];exact⟨k.b,by simp only;omega,f.2.1,f.2.2⟩
   ·cases he
def BB {A R:Type} {b:(A->Option R)->A->Option R} (st:Nat->A) (m:Nat) (q:Nat->Bool) {rf r:Option R} (h:∀G i,i<m->b G (st i)=if q i=true then G (st (i+1))else rf) (a:∀G,b G (st m)=r) {f:Nat} (c:m<f):aG b f (st 0)=if(List.range m).all q=true then r else rf:=by
 have d:=qc (b:=b) st m (λz=> !q z) (rf:=rf) (r:=r) (λG i e=>by
  rw[h G i e]
  cases q i<;>simp) a c
 rw[d,iG (List.range m) q]
 cases (List.range m).all q<;>simp
def ph (a:List H1) {i:Nat} (b:i<a.length):(a.map (·.1)).getD i []=a[i].1:=by
 rw[aZ (by rw[a3a];exact b)];simp
def s6 {k:Nat} (v:4194304<k) (C:k<=4611686018427387903) (p:dw) (S:mS p) (a:List H1) (T:a.length<=1048576) (U:∀r∈a,gp r.1) (V:∀r∈a,NL r.1):EF k (p,a,())=some (((dh p&& (decide (a.length=p.2.2.2.1.length+1)&& a.all λr=>dm (aw p) r.1))&& FF p (a.map (·.1)),()),((),(),())):=by
 simp only[EF,H2 v C p S a T U,aa];rcases a0n (dh p&& (decide (a.length=p.2.2.2.1.length+1)&& a.all λr=>dm (aw p) r.1))with hc|hc
 ·rw[hc,a0j,af,a1i]
  simp only[a0f,a0u,a1e]at hc;obtain⟨l,q,w⟩:=hc;obtain⟨D,N,W,_⟩:=cj l;have s:∀r∈a,dx (aw p) r.1/\r.1.length<=100:=λr x=>zd (w r x) (V r x)
  have E:0<a.length:=by omega
  have H:zV k ((p.1,p.2.1,p.2.2.1,()),())=some ((je (aw p),()),((),())):=pI (aw p) D;have I:=s _ (a0h E);have J:=uz v D (uC (aw p)).p I.1 (by simp[je]) (by omega);have K:=FE v l q;rw[H,aa,a0b (show(0:Int)<=0 by omega),ah,a0a (show(0:Int).toNat<a.length from E),aa];have y:u1 k (je (aw p),a[(0:Int).toNat].1,())=_:=J;simp only[y,aa];have X:(a.map (·.1)).getD 0 []=a[0].1:=ph a E;unfold FF;rw[X];rcases a0n (Fp (je (aw p)) a[0].1)with h1|h1
  ·rw[eS h1,h1,a1i,K,aa]
   have d:∀i,i<a.length->dx (aw p) ((a.map (·.1)).getD i [])/\((a.map (·.1)).getD i []).length<=100:=λi c=>by
    rw[ph a c];exact s _ (a0h c)
   obtain⟨R,L⟩:∃R,R=a.map (·.1):=⟨_,rfl⟩;have M:R.length=p.2.2.2.1.length+1:=by rw[L,a3a];exact q
   have z:∀i (c:i<a.length),R.getD i []=a[i].1:=λi c=>by rw[L];exact ph a c
   rw[<-L]at d⊢;have m:=BB (b:=EF.l0 k) (λi=>(a,IM p R ((List.range i).any λj=>jJ (d6 p R j)),(p.2.2.2.1.length:Int),(i:Int),())) p.2.2.2.1.length (iM p R) (rf:=some ((false,()),((),(),()))) (r:=some ((!(List.range p.2.2.2.1.length).any λj=>jJ (d6 p R j),()),((),(),()))) (λG i c=>by
    have O:=d i (by omega);have g:=H4 v l M c O.1.p (by omega) ((List.range i).any λj=>jJ (d6 p R j));have B:=uD l c O.1.p;have t:((List.range i).any (λj=>jJ (d6 p R j))||jJ (d6 p R i))=(List.range (i+1)).any λj=>jJ (d6 p R j):=by rw[a6y,a8k];simp
    rw[t]at g;unfold iM;obtain⟨F,Y⟩:∃F,F=d6 p R i:=⟨_,rfl⟩;rw[<-Y]at g B⊢;obtain⟨u,Z⟩:∃u,u=(List.range (i+1)).any λj=>jJ (d6 p R j):=⟨_,rfl⟩
    rw[<-Z]at g⊢;have A:=oC (b:=EF.l2 k G) (λj=>(a,IM p R u,(p.2.2.2.1.length:Int),(i:Int),F.1,(F.1.length:Int),(j:Int),())) F.1 (pg R) (rf:=some ((false,()),((),(),()))) (r:=G (a,IM p R u,(p.2.2.2.1.length:Int),((i+1:Nat):Int),())) (λG2 j P=>by
     obtain⟨e1,e2,e3,e4⟩:=B.e _ (a0h P);have o:F.1[j].1.toNat<a.length:=by omega
     have Q:=d F.1[j].1.toNat o;rw[z _ o]at Q;have hl:=uz v D e1.p Q.1 (by omega) (by omega);unfold pg;rw[z _ o];simp only[IM];simp only[EF.l2];rw[a0b (show(j:Int)<(F.1.length:Int) by omega),a0b (show 0<=(j:Int)/\(j:Int)<(F.1.length:Int) by omega)];simp only[ah,a0g,a0a P,aa,a0b e3,a0a o,hl];rw[au (i:=j) (by have:=B.n;omega)];exact yM k _ _ _) (λG2=>by
     simp only[IM];simp only[EF.l2];rw[a0i (show¬(F.1.length:Int)<(F.1.length:Int) by omega),af,au (i:=i) (by omega)]) (f:=k) (by have:=B.n;omega)
    simp only[IM]at g A⊢;simp only[EF.l0];rw[a0b (show(i:Int)<(p.2.2.2.1.length:Int) by omega),ah,g,aa];exact A) (λG=>by
    simp only[IM];simp only[EF.l0];rw[a0i (show¬(p.2.2.2.1.length:Int)<(p.2.2.2.1.length:Int) by omega),af]) (f:=k) (by omega)
   refine Eq.trans m ?_
   rw[kG];have:cond ((List.range p.2.2.2.1.length).all (iM p R)) (!(List.range p.2.2.2.1.length).any λj=>jJ (d6 p R j)) false=(List.range p.2.2.2.1.length).all λi=>iM p R i&& !jJ (d6 p R i):=by
    rw[a4g]
    cases hA:(List.range p.2.2.2.1.length).all (iM p R)
    ·simp only[a1q,a0r,false_iff]
     intro h;rw[List.all_eq_false]at hA;obtain⟨i,c,hx⟩:=hA;have:=a1e.1 h i c;simp only[a0f]at this;exact hx this.1
    ·simp only[a0z,a2p,a7q,a1e,a0f]
     rw[a1e]at hA;constructor
     ·exactλh i c=>⟨hA i c,by simpa using h i c⟩
     ·exactλh i c=>by simpa using(h i c).2
   rw[this]
  ·rw[gr h1,h1,a3n]
 ·rw[hc,a0v,ah,a3n]
def s7 {k:Nat} (q:4194304<k) (m:k<=4611686018427387903) (p:dw) (z:mS p) (a:List H1) (O:a.length<=1048576) (P:∀r∈a,gp r.1) (Q:∀r∈a,NL r.1):EE k (p,a,())=some (((dh p&& (decide (a.length=p.2.2.2.1.length+1)&& a.all λr=>dm (aw p) r.1))&& FF p (a.map (·.1)),()),((),(),())):=by
 obtain⟨o,A,B⟩:=H3 q m p z a O P;simp only[EE,A,aa];rcases a0n (dh p&& (decide (a.length=p.2.2.2.1.length+1)&& a.all λr=>dm (aw p) r.1))with hc|hc
 ·have C:=B hc
  rw[hc,a0j,af,a1i,C];simp only[a0f,a0u,a1e]at hc;obtain⟨d,s,t⟩:=hc;obtain⟨D,u,E,_⟩:=cj d;have v:∀r∈a,dx (aw p) r.1/\r.1.length<=100:=λr w=>zd (t r w) (Q r w)
  have c:∀i,i<a.length->dx (aw p) ((a.map (·.1)).getD i [])/\((a.map (·.1)).getD i []).length<=100:=λi g=>by
   rw[ph a g];exact v _ (a0h g)
  obtain⟨R,L⟩:∃R,R=a.map (·.1):=⟨_,rfl⟩;have S:R.length=p.2.2.2.1.length+1:=by rw[L,a3a];exact s
  rw[<-L]at c⊢;have h:∀i,i<R.length->R[i]?=some (R.getD i []):=λi g=>by rw[aZ g];exact a0a g
  have T:=c 0 (by omega);have H:=uA q D (uC (aw p)).p T.1 (by simp[je]) (by omega);rw[An q m p z d,aa,a0b (show 0<=(0:Int)/\(0:Int)<(R.length:Int) by omega),ah,a3h,h 0 (by omega),aa,H,aa];unfold FF;rcases a0n (Fp (je (aw p)) (R.getD 0 []))with h1|h1
  ·rw[eS h1,h1,a1i,zb k q m p z d,aa]
   have U:=(rD p.2.2.2.1 u).1;have l:=BB (b:=EE.l0 k) (λi=>((p.1,p.2.1,p.2.2.1,p.2.2.2.1,()),R,bT p.2.2.2.1,(i:Int),())) p.2.2.2.1.length (λi=>iM p R i&& !jJ (d6 p R i)) (rf:=some ((false,()),((),(),()))) (r:=some ((true,()),((),(),()))) (λG i g=>by
    have M:=c i (by omega);have I:p.2.2.2.1.getD i (0,0,[],[],0,0,())=p.2.2.2.1[i]:=aZ g _;have x:AY k ((p.1,p.2.1,p.2.2.1,p.2.2.2.1,()),(bT p.2.2.2.1).getD i 0,(i:Int),R.getD i [],())=some ((d6 p R i,()),((),(),(),(),())):=by
     unfold d6;rw[I];exact Fx q p D (E _ (a0h g)) (a0a g) (by omega) _ M.1.p (by omega)
    have y:=uD d g M.1.p;unfold iM;obtain⟨F,V⟩:∃F,F=d6 p R i:=⟨_,rfl⟩;rw[<-V]at x y⊢;have J:=oC (b:=EE.l2 k G) (λj=>((p.1,p.2.1,p.2.2.1,p.2.2.2.1,()),R,bT p.2.2.2.1,(i:Int),(F.1,F.2.1,F.2.2.1,()),(j:Int),())) F.1 (pg R) (rf:=some ((false,()),((),(),()))) (r:=br k (jJ F) (some ((false,()),((),(),()))) (G ((p.1,p.2.1,p.2.2.1,p.2.2.2.1,()),R,bT p.2.2.2.1,((i+1:Nat):Int),()))) (λW j N=>by
     obtain⟨X,e2,e3,e4⟩:=y.e _ (a0h N);have K:F.1[j].1.toNat<R.length:=by omega
     have Y:=c F.1[j].1.toNat (by omega);have Z:=uA q D X.p Y.1 (by omega) (by omega);unfold pg;simp only[EE.l2];rw[a0b (show(j:Int)<(F.1.length:Int) by omega),a0b (show 0<=(j:Int)/\(j:Int)<(F.1.length:Int) by omega)];simp only[ah,a0g,a0a N,aa];rw[a0b (show 0<=F.1[j].1/\F.1[j].1<(R.length:Int) by omega),ah,h _ K,aa,Z,aa,au (i:=j) (by have:=y.n;omega)];exact yM k _ _ _) (λW=>by
     simp only[EE.l2];rw[a0i (show¬(F.1.length:Int)<(F.1.length:Int) by omega),af,au (i:=i) (by omega)];rfl) (f:=k) (by have:=y.n;omega)
    simp only[EE.l0];rw[a0b (show(i:Int)<(p.2.2.2.1.length:Int) by omega),ah,a0b (show 0<=(i:Int)/\(i:Int)<((bT p.2.2.2.1).length:Int) by omega),ah,a0g,(Di d g).1,aa,a0b (show 0<=(i:Int)/\(i:Int)<(R.length:Int) by omega),ah,h i (by omega),aa,x,aa];refine Eq.trans J ?_
    cases F.1.all (pg R)
    ·simp
    ·simp only[a2c,a1i]
     cases jJ F<;>simp) (λG=>by
    simp only[EE.l0];rw[a0i (show¬(p.2.2.2.1.length:Int)<(p.2.2.2.1.length:Int) by omega),af]) (f:=k) (by omega)
   refine Eq.trans l ?_
   rw[kG]
   cases (List.range p.2.2.2.1.length).all λi=>iM p R i&& !jJ (d6 p R i)<;>rfl
  ·rw[gr h1,h1,a3n]
 ·rw[hc,a0v,ah,a3n]
def OR {e:aK} (h:M2.WF e):PB e:=by
 obtain⟨_,b,c,_⟩:=h;exact⟨λx a=>⟨(b.2 x a).1,(b.2 x a).2.1⟩,λx a=>⟨(c.2 x a).1,(c.2 x a).2.1⟩⟩
def OS {l:List az} (h:(Kd.sl false HO).WF l):NL l:=λp a e b=>OR (((h.2 p a).2.1).2 e b)
def nr (x:dw×List H1×Unit) (n:PL [Nu,.sl false PW] x):∃k o,KE k x=some ((true,()),o):=by
 obtain⟨p,a,⟨⟩⟩:=x;obtain⟨w1,h,_⟩:=n;refine⟨8388608,((),(),()),?_⟩;unfold KE;obtain⟨i,q,s⟩:=Cp.szProg_is 8388608 (by omega) p w1 1048576 (by omega) (by omega);simp only[q,aa,ak];by_cases j:i<0
 ·rw[a0e j]
 rw[a0c j];obtain⟨C,e⟩:=s (by omega);obtain⟨t,u,v⟩:=Cp.szRowS_is 8388608 (by omega) a h i (by omega) (by omega);simp only[u,aa];by_cases l:t<0
 ·rw[a0e l]
 rw[a0c l];obtain⟨D,d⟩:=v (by omega);have b:∀r∈a,gp r.1:=λr b=>Fk (d.2 r b).1
 have m:∀r∈a,NL r.1:=λr b=>OS (h.2 r b).1
 simp only[Cp.toProg_is 8388608 (by omega) p e,Cp.toRowS_is 8388608 (by omega) a d,aa];have w:=s7 (k:=8388608) (by omega) (by omega) p (yE e) a d.1 b m;have y:=s6 (k:=8388608) (by omega) (by omega) p (yE e) a d.1 b m;have f:EE 8388608 ((p.1,p.2.1,p.2.2.1,p.2.2.2.1,()),a,())=_:=w;have g:EF 8388608 ((p.1,p.2.1,p.2.2.1,p.2.2.2.1,()),a,())=_:=y;have z:He 8388608 ((p.1,p.2.1,p.2.2.1,p.2.2.2.1,()),(p.1,p.2.1,p.2.2.1,p.2.2.2.1,()),())=some ((true,()),((),(),())):=Cp.eqProg_is 8388608 (by omega) p e;have A:=Cp.eqRowS_is 8388608 (by omega) a d;simp only[f,g,aa];obtain⟨c,B⟩:∃c,c=((dh p&& (decide (a.length=p.2.2.2.1.length+1)&& a.all λr=>dm (aw p) r.1))&& FF p (a.map (·.1))):=⟨_,rfl⟩;rw[<-B,a5b,a0j,af];simp only[z,A,aa,a0j,af]
